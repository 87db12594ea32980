/- A part of the proof: what the functions of the program compute, shown over the model. -/
import Derived.KernelRfl
import Derived.Test.YtmdlefagpcmllaaGreatDoorPart5
set_option linter.unusedSectionVars false
set_option linter.unusedVariables false
set_option linter.unusedSimpArgs false
namespace Go.Proofs.YtmdlefagpcmllaaGreatDoor.Rx
open Go Pad Rex
section
set_option maxRecDepth 10000
noncomputable def shoX (G:bu_) (v40:List Int×Unit):Option (List ae_×(Int×Unit)) :=
 ((at? v40.1 0).bind fun v41 =>
 ((at? v40.1 0).bind fun v42 =>
 (cond (decide (v42<0))
 (some ([],(50,())))
 ((af_ (ρ:=(((List ae_)×Unit)×Unit)) (fun (v43:(Int×(((List ae_)×Unit)×Unit))) =>
 ((at? v40.1 v43.1).bind fun v44 =>
 ((at? v40.1 v43.1).bind fun v45 =>
 (cond (decide (0<v45))
 ((((at? G.2 v43.1).bind fun v46 =>
 ((af_ (ρ:=(((List Int)×(Unit×(((List ae_)×Unit)×Unit)))⊕((List Int)×(((List ae_)×Unit)×Unit)))) (fun (v47:(Int×((List Int)×(Unit×(((List ae_)×Unit)×Unit))))) =>
 (cond (decide (v47.1<(v46.length:Int)))
 ((at? v46 v47.1).bind fun v48 =>
 ((at? v40.1 v48.2).bind fun v49 =>
 ((at? v40.1 v48.2).bind fun v50 =>
 ((at? v40.1 v43.1).bind fun v51 =>
 ((at? v40.1 v43.1).bind fun v52 =>
 (cond (v50==(w64 (v52 - 1)))
 ((at? v40.1 v43.1).bind fun v53 =>
 ((at? v40.1 v43.1).bind fun v54 =>
 (cond (decide (0<v54))
 ((push? (α:=ae_) v47.2.2.2.1.1 [v48.1]).bind fun v55 =>
 ((at? v47.2.1 0).bind fun v56 =>
 (some (Sum.inr (Sum.inr ((v47.2.1.set (0:Int).toNat v48.2),((v55,()),())))))))
 (some (Sum.inl ((w64 (v47.1+1)),(v47.2.1,((),((v47.2.2.2.1.1,()),())))))))))
 (some (Sum.inl ((w64 (v47.1+1)),(v47.2.1,((),((v47.2.2.2.1.1,()),()))))))))))))
 (some (Sum.inr (Sum.inl (v47.2.1,((),((v47.2.2.2.1.1,()),())))))))) (0,([v43.1],((),((v43.2.1.1,()),()))))).bind fun v57 =>
 (ca_ v57 (fun v58=>(some (v58.1,((v58.2.2.1.1,()),()))))
 (fun v59=>(some v59)))))).bind fun v60 =>
 ((at? v60.1 0).bind fun v61 =>
 (some (Sum.inl (v61,((v60.2.1.1,()),()))))))
 (some (Sum.inr ((v43.2.1.1,()),()))))))) (0,(([],()),()))).bind fun v62 =>
 (some (v62.1.1,(0,())))))))
theorem solve_eq:fy_=fun a0=>(fj_ a0).bind fun v0=>cond (v0.2.1 != 0) (cond (v0.2.1 != 0) (some ([],(v0.2.1,()))) none) (meaK a0 v0.1 fun v40=>shoX v0.1 v40):=by
  kernel_rfl
def shp (es:List (List ah_)) (D:List Int):Nat→Int→List ae_
  | 0,_=>[]
  | k+1,i=>match ((at? es i).getD []).find? (fun x=>gi D x.2==(k:Int)) with
    | none=>[]
    | some x=>x.1::shp es D k x.2
theorem ye_ {α ρ:Type} {q:α→Bool} {f:α→ρ}:∀ (m:List α) (k:Nat),gh_ (fun _ y=>cond (q y) (some (f y)) none) k m=(m.find? q).map f
  | [],_=>rfl
  | x::m,k=>by
    unfold gh_
    cases hq:q x with
    | true=>rw [List.find?_cons_of_pos hq]; rfl
    | false =>
      rw [List.find?_cons_of_neg (by rw [hq]; decide)]
      exact ye_ m (k+1)
theorem sv_ {σ ρ υ:Type} {body:σ→Option (σ⊕ρ)} {s:σ} {r:ρ} {K:ρ→Option υ} {x:Option υ} (h:af_ body s=some r) (hk:K r=x):(af_ body s).bind K=x:=by
  rw [h,a0_,hk]
theorem loop_path {σ ρ:Type} (F:Int→List ae_→σ) (G:List ae_→ρ) {es:List (List ah_)} {fin:Nat→Bool} {D:List Int} (hL:LC es fin D) (hD:D.length≤3000) (hxx:∀ l ∈ es,∀ x ∈ l,0≤x.2∧x.2<(D.length:Int)) {body:σ→Option (σ⊕ρ)}
    (hz:∀ i acc,at? D i=some 0→body (F i acc)=some (.inr (G acc)))
    (hs:∀ (i:Int) (k:Nat) acc row x,at? D i=some ((k+1:Nat):Int)→k≤1000000→acc.length≤1000000→at? es i=some row→row.find? (fun x=>gi D x.2==(k:Int))=some x→body (F i acc)=some (.inl (F x.2 (acc++[x.1])))) :
    ∀ (k:Nat) (i:Int) (acc:List ae_),at? D i=some (k:Int)→acc.length+k≤1000000→af_ body (F i acc)=some (G (acc++shp es D k i))
  | 0,i,acc,h,_=>by
    unfold shp
    rw [e6_]
    exact bs_ (hz i acc h)
  | k+1,i,acc,h,hk=>by
    obtain ⟨n,rfl,hn⟩:=tz_ h
    obtain ⟨l,x,hl,hx,hat⟩:=hL.dn n k hn
    have hatl:at? es (n:Int)=some l:=ag_ hl
    cases hf:l.find? (fun x=>gi D x.2==(k:Int)) with
    | none =>
      have:=List.find?_eq_none.1 hf x hx
      rw [ng_ hat] at this
      simp at this
    | some y =>
      have hy:gi D y.2=(k:Int):=by
        have:=List.find?_some hf
        exact g3_.1 this
      obtain ⟨y0,y1⟩:=hxx l (az_ hl) y (List.mem_of_find?_eq_some hf)
      have haty:at? D y.2=some (k:Int):=by rw [pq_ y0 y1,hy]
      have:=loop_path F G hL hD hxx hz hs k y.2 (acc++[y.1]) haty (by rw [a9_,d5_]; omega)
      refine bt_ (hs (n:Int) k acc l y h (by omega) (by omega) hatl hf) ?_
      have e:shp es D (k+1) (n:Int)=y.1::shp es D k y.2:=by
        rw [shp,hatl,e9_,hf]
      rw [this,e,b1_]
      rfl
theorem shoX_eq {ps:List aa_} {es:List (List ah_)} {fin:Nat→Bool} {D:List Int} (hL:LC es fin D) (hD:D.length≤3000) (h1:1≤D.length) (hb:∀ (i:Nat) (v:Int),D[i]?=some v→v≤(D.length:Int)) (hes:es.length=D.length) (hel:∀ l ∈ es,l.length≤480) (hxx:∀ l ∈ es,∀ x ∈ l,0≤x.2∧x.2<(D.length:Int)) :
    shoX (ps,es) (D,())=some (cond (decide (gi D 0<0)) ([],(50,())) (shp es D (gi D 0).toNat 0,(0,()))):=by
  unfold shoX
  have h0:at? D 0=some (gi D 0):=pq_ (by omega) (by omega)
  simp only [h0,a0_]
  cases hc:decide (gi D 0<0) with
  | true=>rfl
  | false =>
  have hc:=b4_ hc
  have hle:gi D 0≤(D.length:Int):=by
    obtain ⟨i,_,hi⟩:=tz_ h0
    exact hb i _ hi
  simp only [a2_]
  refine sv_ (r:=((shp es D (gi D 0).toNat 0,()),())) ?_ rfl
  refine loop_path (F:=fun i acc=>(i,((acc,()),()))) (G:=fun acc=>((acc,()),())) hL hD hxx (fun i acc h => ?_) (fun i k acc row x h hk ha hrow hf => ?_) (gi D 0).toNat 0 [] (by rw [h0]; congr 1; omega) (by show 0+_≤_; omega)
  · simp only [h,a0_]
    rfl
  · have hrl:row.length≤480:=by
      obtain ⟨j,_,hj⟩:=tz_ hrow
      exact hel row (az_ hj)
    simp only [h,a0_,show decide ((0:Int)<((k+1:Nat):Int))=true from c0_ (by omega),a4_,hrow]
    refine e3_ (congrArg (fun o=>Option.bind o _) (bl_ row (fun _ y=>cond (gi D y.2==(k:Int)) (some (Sum.inr ([y.2],((acc++[y.1],()),())):((List Int)×(Unit×(((List ae_)×Unit)×Unit)))⊕((List Int)×(((List ae_)×Unit)×Unit)))) none) (fun j=>((j:Int),([i],((),((acc,()),()))))) (r0:=Sum.inl ([i],((),((acc,()),())))) (x:=some ([x.2],((acc++[x.1],()),()))) (fun j y hy => ?_) ?_ ?_)) ?_
    · obtain ⟨jr,_,hj⟩:=tz_ hrow
      obtain ⟨y0,y1⟩:=hxx row (az_ hj) y (az_ hy)
      have hjl:=am_ hy
      simp only [dlt hjl,a4_,ag_ hy,pq_ y0 y1,a0_,gj_ (n:=((k+1:Nat):Int) - 1) (by omega) (by omega),show ((k+1:Nat):Int) - 1=(k:Int) by omega,gj_ (n:=(k:Int)) (by omega) (by omega),ba_ (show Sm j by show _≤1000000000; omega),cg_ (show Sm acc.length by show _≤1000000000; omega)]
      cases gi D y.2==(k:Int) <;> rfl
    · simp only [dnl,a2_]
    · rw [ye_,hf]
      rfl
    · rfl
theorem inn_len (g:ac_) (p:aa_):∀ (ms:List ae_) (e e':List ah_) (ps ps':List aa_),inn g p ms e ps=some (e',ps')→ps.length≤ps'.length
  | [],e,e',ps,ps',h=>by
    unfold inn at h
    obtain ⟨_,rfl⟩:=g7_ (a6_ h)
    exact c8_ _
  | m::ms,e,e',ps,ps',h=>by
    unfold inn at h
    cases hw:wh ps ((stepP g p m).getD eP) with
    | some n =>
      simp only [hw] at h
      exact inn_len g p ms _ _ _ _ h
    | none =>
      simp only [hw] at h
      split at h
      · cases h
      · have:=inn_len g p ms _ _ _ _ h
        rw [a9_] at this
        omega
theorem out_len (g:ac_):∀ (n i:Nat) (ps ps':List aa_) (es es':List (List ah_)),out g n i ps es=some (ps',es')→ps.length≤ps'.length
  | 0,i,ps,ps',es,es',h=>by
    unfold out at h
    obtain ⟨rfl,_⟩:=g7_ (a6_ h)
    exact c8_ _
  | n+1,i,ps,ps',es,es',h=>by
    unfold out at h
    cases hp:ps[i]? with
    | none =>
      simp only [hp] at h
      obtain ⟨rfl,_⟩:=g7_ (a6_ h)
      exact c8_ _
    | some p =>
      simp only [hp] at h
      cases hin:inn g p (pmv g p) [] ps with
      | none=>simp only [hin] at h; cases h
      | some z =>
        simp only [hin] at h
        exact c4_ (inn_len g p _ _ _ _ _ hin) (out_len g n _ _ _ _ _ h)
theorem exG_pos {g:ac_} (he:(exG g).2.1=0):1≤(exG g).1.1.length:=by
  unfold exG at he ⊢
  cases hb:(ru_ g).2.1 != 0 with
  | true =>
    rw [hb] at he
    rw [n1_] at hb
    exact absurd he hb
  | false =>
  rw [hb,a2_] at he
  cases ho:out g 3001 0 [(ru_ g).1] [] with
  | none =>
    rw [ho] at he
    exact absurd (show (2:Int)=0 from he) (by decide)
  | some z=>exact out_len g _ _ _ _ _ _ ho
theorem prove_Solve {g:ac_} (hg:SmG g):∃ D,(((exG g).2.1≠0∧fy_ g=some ([],((exG g).2.1,())))∨((exG g).2.1=0∧D.length=(exG g).1.1.length∧LC (exG g).1.2 (finP g (exG g).1.1) D∧fy_ g=some (cond (decide (gi D 0<0)) ([],(50,())) (shp (exG g).1.2 D (gi D 0).toNat 0,(0,()))))):=by
  rw [solve_eq]
  simp only
  rw [prove_explore hg,a0_]
  cases hE:(exG g).2.1 != 0 with
  | true =>
    rw [n1_] at hE
    exact ⟨[],.inl ⟨hE,rfl⟩⟩
  | false =>
  have hE:(exG g).2.1=0:=by simpa using hE
  obtain ⟨h0,hG,hes⟩:=exG_ok hg hE
  obtain ⟨D,h1,hb,h2⟩:=mea_eq hg h0 hG hes
  have hpos:=exG_pos hE
  have hn:=hG.pI.n
  refine ⟨D,.inr ⟨hE,h1.1,h1.2,?_⟩⟩
  simp only [a2_]
  rw [show (exG g).1=((exG g).1.1,(exG g).1.2) from rfl,h2]
  exact shoX_eq h1.2 (by rw [h1.1]; exact hn) (by rw [h1.1]; exact hpos) (by rw [h1.1]; exact hb) (by rw [h1.1]; exact hes) hG.eL (fun l hl x hx=>by rw [h1.1]; exact (hG.eI l hl x hx).1)
def g0:ac_:=(([[104,97,108,108],[118,97,117,108,116]],([([98,111,120],(0,(2,0))),([100,111,111,114],(0,(2,0)))],([([107,101,121],(0,[(0,(1,false))]))],([(0,(1,[(1,(1,false))]))],([([111,112,101,110],(0,(0,([],([],([(0,1)],([],[]))))))),([116,117,114,110],(0,((-1),([0],([],([(1,1)],([0],[])))))))],([],(1,[(1,(1,false))]))))))),([(2,4)],([[3,1]],([([108,101,97,102],(0,(0,([],(2,(0,(1,(4,(0,([],false)))))))))),([98,97,99,107],(0,(0,([(0,(0,false))],(3,(1,(0,(0,(0,([],false)))))))))),([99,97,114,100],(1,((-1),([],(0,(0,(0,(0,(0,([],false))))))))))],1))))
end
section
set_option maxRecDepth 10000
noncomputable def dst (es:List (List ah_)) (fin:Nat→Bool) (n:Nat):List Int:=Classical.epsilon fun D=>D.length=n∧LC es fin D
section
variable {g:ac_} (hg:SmG g) (h0:cd_ g=0) {ps:List aa_} {es:List (List ah_)} (hG:GI g ps es) (hes:es.length=ps.length)
include hg h0 hG hes
end
end
section
set_option maxRecDepth 100000
def G0:bu_:=([(([0,0],([0],[0])),[true,true,false]),(([1,0],([0],[0])),[true,true,false]),(([1,0],([-2],[0])),[true,true,false]),(([1,1],([-1],[0])),[true,true,false]),(([1,1],([-1],[1])),[true,true,true]),(([1,1],([-1],[0])),[true,true,true])],
  [[((0,(4,0)),1)],[((0,(2,0)),2),((0,(4,0)),1)],[((0,(3,0)),1),((0,(4,0)),2),((0,(4,1)),3)],[((0,(1,0)),4),((0,(4,0)),3)],[((0,(1,0)),5)],[((0,(1,0)),4),((0,(4,0)),5)]])
def D0:List Int:=[3,2,1,0,0,0]
theorem exG_g0:exG g0=(G0,(0,())):=by kernel_rfl
theorem SmG_g0:SmG g0:=by
  refine ⟨⟨?_,?_,?_,?_,?_,?_,?_,?_,?_,?_,?_,?_,?_⟩,?_,?_,?_,?_,?_,?_,?_,?_,?_⟩ <;> decide
def chkD (es:List (List ah_)) (fin:Nat→Bool) (D:List Int):Bool :=
  (List.range D.length).all fun i=>match D[i]? with
    | none=>false
    | some v=>decide (-1≤v)&&((v==0)==fin i)&&match es[i]? with
      | none=>false
      | some l=>(decide (v≤0)||l.any (fun x=>at? D x.2==some (v - 1)))&&l.all fun x=>match at? D x.2 with
        | none=>true
        | some k=>decide (k<0)||(decide (0≤v)&&decide (v≤k+1))
theorem chkD_at {es:List (List ah_)} {fin:Nat→Bool} {D:List Int} (h:chkD es fin D=true) {i:Nat} {v:Int} (hv:D[i]?=some v) :
    -1≤v∧((v==0)=fin i)∧∃ l,es[i]?=some l∧(v≤0∨∃ x ∈ l,at? D x.2=some (v - 1))∧∀ x ∈ l,∀ k,at? D x.2=some k→k<0∨(0≤v∧v≤k+1):=by
  have:=e7_.1 h i (l8_.2 (am_ hv))
  simp only [hv] at this
  rw [a1_,a1_,h9_,g3_] at this
  obtain ⟨⟨h1,h2⟩,h3⟩:=this
  refine ⟨h1,h2,?_⟩
  cases hl:es[i]? with
  | none=>rw [hl] at h3; cases h3
  | some l =>
    simp only [hl] at h3
    rw [a1_,c5_,h9_,List.any_eq_true,e7_] at h3
    refine ⟨l,rfl,h3.1.imp id fun ⟨x,hx,e⟩=>⟨x,hx,g3_.1 e⟩,fun x hx k hk => ?_⟩
    have:=h3.2 x hx
    simp only [hk] at this
    rw [c5_,a1_,h9_,h9_,h9_] at this
    exact this
theorem chkD_LC {es:List (List ah_)} {fin:Nat→Bool} {D:List Int} (hes:es.length=D.length) (h:chkD es fin D=true):LC es fin D:=by
  refine ⟨fun i v hv=>(chkD_at h hv).1,fun i v hv => ?_,fun i k hk => ?_,fun i l x k hl hx hat => ?_⟩
  · rw [← (chkD_at h hv).2.1,g3_]
  · obtain ⟨_,_,l,hl,h1,_⟩:=chkD_at h hk
    rcases h1 with h1 | ⟨x,hx,e⟩
    · omega
    · refine ⟨l,x,hl,hx,?_⟩
      rw [e]
      congr 1
      omega
  · obtain ⟨v,hv⟩:=bb_ (l:=D) (i:=i) (by have:=am_ hl; omega)
    obtain ⟨_,_,l',hl',_,h2⟩:=chkD_at h hv
    rw [hl] at hl'
    obtain rfl:=a6_ hl'
    rcases h2 x hx k hat with h3 | h3
    · omega
    · exact ⟨v,hv,h3⟩
theorem chk_g0:chkD G0.2 (finP g0 G0.1) D0=true:=by kernel_rfl
theorem Solve_g0:fy_ g0=some ([(0,(4,0)),(0,(2,0)),(0,(4,1))],(0,())):=by
  obtain ⟨D,h⟩:=prove_Solve SmG_g0
  rw [exG_g0] at h
  rcases h with ⟨h,_⟩ | ⟨_,h1,h2,h3⟩
  · exact absurd rfl h
  · have hD:D=D0:=LC_uniq h2 (chkD_LC rfl chk_g0) h1
    have e:((cond (decide (gi D0 0<0)) ([],(50,())) (shp G0.2 D0 (gi D0 0).toNat 0,(0,()))):List ae_×(Int×Unit))=([(0,(4,0)),(0,(2,0)),(0,(4,1))],(0,())):=by kernel_rfl
    rw [h3,hD]
    exact congrArg some e
theorem qi_:hv_=some (true,()):=by
  unfold hv_
  refine e3_ (congrArg (fun o=>Option.bind o _) Solve_g0) ?_
  kernel_rfl
end
section
set_option maxRecDepth 10000

end
section
set_option maxRecDepth 10000

end
section
set_option maxRecDepth 10000
theorem VS_of {r:ad_} {s:aj_} (hk:ckS r s=0):VS r s:=by
  unfold ckS at hk
  cases hl:xx_ r s with
  | true=>rw [hl] at hk; exact absurd (show (28:Int)=0 from hk) (by decide)
  | false =>
  rw [hl,a2_] at hk
  obtain ⟨l1,l2,l3⟩:=lensS_ok hl
  obtain ⟨h1,hk⟩:=ec_ hk (ho_ (fun i x=>oc_ (by decide)) _ _)
  obtain ⟨h2,hk⟩:=ec_ hk (ho_ (fun i x=>oc_ (by decide)) _ _)
  obtain ⟨h3,_⟩:=ec_ hk (ho_ (fun i x=>oc_ (by decide)) _ _)
  exact ⟨l1,l2,l3,fun i n hn=>gq_ (ci_ h1 hn),fun i n hn=>gq_ (ci_ h2 hn),fun i n hn=>gq_ (ci_ h3 hn)⟩
noncomputable def pck (g:ac_) (p:aa_):Int:=cond (gz_ g.1 p.1 != 0) (gz_ g.1 p.1) (cond ((p.2.length:Int) != (g.2.2.2.1.length:Int)) 28 0)
theorem pck_VP {g:ac_} (h0:cd_ g=0) {p:aa_} (h:pck g p=0):VP g p:=by
  have ok:=cs_ h0
  unfold pck at h
  cases hs:gz_ g.1 p.1 != 0 with
  | true =>
    rw [hs] at h
    rw [n1_] at hs
    exact absurd h hs
  | false =>
  rw [hs,a2_] at h
  cases hl:(p.2.length:Int) != (g.2.2.2.1.length:Int) with
  | true=>rw [hl] at h; exact absurd (show (28:Int)=0 from h) (by decide)
  | false =>
  have hs:gz_ g.1 p.1=0:=by simpa using hs
  unfold gz_ at hs
  rw [ok.room] at hs
  rw [h3_] at hl
  exact ⟨VS_of hs,by omega⟩
theorem ps_ {g:ac_} (hg:SmG g) (h0:cd_ g=0) (p:aa_):dx_ g p=some (pck g p,()):=by
  rw [yl_ hg,h0]
  rfl
theorem play_Can_all {g:ac_} (hg:SmG g) (h0:cd_ g=0) (p:aa_):ka_ g p=some (cond (pck g p != 0) ([],(pck g p,())) (pmv g p,(0,()))):=by
  cases hk:pck g p != 0 with
  | true =>
    rw [canL_eq]
    unfold canL
    rw [ps_ hg h0,a0_]
    simp only [hk,a4_]
  | false =>
    rw [play_Can hg h0 (pck_VP h0 (by simpa using hk))]
    rfl
theorem play_Step_all {g:ac_} (hg:SmG g) (h0:cd_ g=0) (p:aa_) (m:ae_):gx_ g p m=some (cond (pck g p != 0) (eP,(pck g p,())) ((stepP g p m).elim (eP,(29,())) fun q=>(q,(0,())))):=by
  cases hk:pck g p != 0 with
  | true =>
    rw [pstX_eq]
    unfold pstX
    rw [ps_ hg h0,a0_]
    simp only [hk,a4_]
  | false =>
    rw [play_Step hg h0 (pck_VP h0 (by simpa using hk))]
    rfl
end
section
set_option maxRecDepth 10000
theorem bind_eqs {α:Type} [DecidableEq α] (a b:List α) (h:Sm a.length) (hl:a.length=b.length) {body:(Int×Unit)→Option ((Int×Unit)⊕(Unit⊕(Bool×Unit)))}
    (hb:∀ (i:Nat) x y,a[i]?=some x→b[i]?=some y→body ((i:Int),())=some (cond (decide (x=y)) (.inl (w64 ((i:Int)+1),())) (.inr (.inr (false,())))))
    (he:body ((a.length:Int),())=some (.inr (.inl ()))):((af_ body (0,())).bind fun v=>ca_ v (fun _=>some (true,())) (fun w=>some w))=some (decide (a=b),()):=by
  have gen:∀ (k i:Nat),i+k=a.length→af_ body ((i:Int),())=some (cond (decide (a.drop i=b.drop i)) (.inl ()) (.inr (false,()))):=by
    intro k
    induction k with
    | zero =>
      intro i hi
      obtain rfl:i=a.length:=by omega
      rw [k9_,hl,k9_]
      rw [hl] at he
      exact bs_ he
    | succ k ih =>
      intro i hi
      have hia:i<a.length:=by omega
      have hib:i<b.length:=by omega
      obtain ⟨x,hx⟩:=bb_ hia
      obtain ⟨y,hy⟩:=bb_ hib
      have da:a.drop i=x::a.drop (i+1):=by
        rw [h0_ hia]
        rw [a7_ hia] at hx
        rw [a6_ hx]
      have db:b.drop i=y::b.drop (i+1):=by
        rw [h0_ hib]
        rw [a7_ hib] at hy
        rw [a6_ hy]
      have h1:=hb i x y hx hy
      rw [ba_ (show Sm i by unfold Sm at h ⊢; omega)] at h1
      rw [da,db]
      by_cases hxy:x=y
      · rw [c0_ hxy] at h1
        have:decide (x::a.drop (i+1)=y::b.drop (i+1))=decide (a.drop (i+1)=b.drop (i+1)):=by
          rw [hxy,decide_eq_decide]
          exact ⟨fun e=>(l6_ e).2,fun e=>by rw [e]⟩
        rw [this]
        exact bt_ h1 (ih (i+1) (by omega))
      · rw [c1_ hxy] at h1
        rw [c1_ (fun e=>hxy (l6_ e).1)]
        exact bs_ h1
  have h0:=gen a.length 0 (by omega)
  rw [o4_,o4_] at h0
  have h0:af_ body (0,())=some (cond (decide (a=b)) (.inl ()) (.inr (false,()))):=h0
  rw [h0,a0_]
  cases decide (a=b) <;> rfl
theorem ne_dec (x y:Int):(x != y) = !(decide (x=y)):=by
  rw [ut_]
  congr 1
theorem len_ne {α:Type} [DecidableEq α] {a b:List α} (h:((a.length:Int) != (b.length:Int))=true):decide (a=b)=false:=by
  rw [n1_] at h
  exact c1_ fun e=>h (by rw [e])
theorem qo_ {a b:List Int} (h:Sm a.length):dp_ a b=some (decide (a=b),()):=by
  unfold dp_
  cases hl:(a.length:Int) != (b.length:Int) with
  | true=>rw [len_ne hl]; rfl
  | false =>
  rw [h3_] at hl
  refine bind_eqs a b h (by omega) (fun i x y hx hy => ?_) (by simp only [dnl,a2_])
  simp only [dlt (am_ hx),a4_,ag_ hx,ag_ hy,a0_,ne_dec]
  cases decide (x=y) <;> rfl
theorem xj_ {a b:List Int} (h:Sm a.length):cw_ a b=some (decide (a=b),()):=by
  unfold cw_
  cases hl:(a.length:Int) != (b.length:Int) with
  | true=>rw [len_ne hl]; rfl
  | false =>
  rw [h3_] at hl
  refine bind_eqs a b h (by omega) (fun i x y hx hy => ?_) (by simp only [dnl,a2_])
  simp only [dlt (am_ hx),a4_,ag_ hx,ag_ hy,a0_,ne_dec]
  cases decide (x=y) <;> rfl
end
section
set_option maxRecDepth 10000
section
variable {g:ac_} (hg:SmG g) (he:(exG g).2.1=0)
noncomputable def dstG (g:ac_) (act:Int):List Int:=dst (esF act (exG g).1.2) (finP g (exG g).1.1) (exG g).1.1.length
include hg he
end
end
section
set_option maxRecDepth 10000
theorem zj_ {a b:List Bool} (h:Sm a.length):dj_ a b=some (decide (a=b),()):=by
  unfold dj_
  cases hl:(a.length:Int) != (b.length:Int) with
  | true=>rw [len_ne hl]; rfl
  | false =>
  rw [h3_] at hl
  refine bind_eqs a b h (by omega) (fun i x y hx hy => ?_) (by simp only [dnl,a2_])
  simp only [dlt (am_ hx),a4_,ag_ hx,ag_ hy,a0_]
  cases x <;> cases y <;> rfl
structure SmPo (p:aa_):Prop where
  a:p.1.1.length≤30
  b:p.1.2.1.length≤30
  c:p.1.2.2.length≤30
  d:p.2.length≤30
theorem pos_dec (p q:aa_):decide (p=q)=(decide (p.1.1=q.1.1)&&(decide (p.1.2.1=q.1.2.1)&&(decide (p.1.2.2=q.1.2.2)&&decide (p.2=q.2)))):=by
  rw [← Bool.decide_and,← Bool.decide_and,← Bool.decide_and,decide_eq_decide]
  exact ⟨fun e=>by rw [e]; exact ⟨rfl,rfl,rfl,rfl⟩,fun ⟨h1,h2,h3,h4⟩=>pos_ext h1 h2 h3 h4⟩
theorem yk_ {p q:aa_} (h:SmPo p):hg_ p q=some (decide (p=q),()):=by
  have h1:=h.a
  have h2:=h.b
  have h3:=h.c
  have h4:=h.d
  unfold hg_
  rw [pos_dec,xj_ (show _≤1000000000 by omega),a0_,xj_ (show _≤1000000000 by omega),xj_ (show _≤1000000000 by omega),zj_ (show _≤1000000000 by omega)]
  cases decide (p.1.1=q.1.1) <;> cases decide (p.1.2.1=q.1.2.1) <;> cases decide (p.1.2.2=q.1.2.2) <;> cases decide (p.2=q.2) <;> rfl
theorem vj_ {p q:aj_} (h1:p.1.length≤30) (h2:p.2.1.length≤30) (h3:p.2.2.length≤30):ft_ p q=some ((decide (p.1=q.1)&&(decide (p.2.1=q.2.1)&&decide (p.2.2=q.2.2))),()):=by
  unfold ft_
  rw [qo_ (show _≤1000000000 by omega),a0_,qo_ (show _≤1000000000 by omega),qo_ (show _≤1000000000 by omega)]
  cases decide (p.1=q.1) <;> cases decide (p.2.1=q.2.1) <;> cases decide (p.2.2=q.2.2) <;> rfl
theorem lb_ {p q:aa_} (h:SmPo p):cj_ p q=some (decide (p=q),()):=by
  unfold cj_
  rw [vj_ h.a h.b h.c,a0_,pos_dec]
  have one:∀ b:Bool,cond (!b) (some (true,())) (some (((p.2.length:Int) != (q.2.length:Int)),()))=(some ((!b||(p.2.length:Int) != (q.2.length:Int)),()):Option (Bool×Unit)):=fun b=>by cases b <;> rfl
  rw [one,a0_]
  have two:=zj_ (a:=p.2) (b:=q.2) (show _≤1000000000 by have:=h.d; omega)
  unfold dj_ at two
  cases decide (p.1.1=q.1.1) with
  | false=>rfl
  | true =>
  cases decide (p.1.2.1=q.1.2.1) with
  | false=>rfl
  | true =>
  cases decide (p.1.2.2=q.1.2.2) with
  | false=>rfl
  | true=>exact two
theorem law02_Away (s:aj_):∃ b,lm_ s=some (b,())∧(b=false→s.1.length≤30∧s.2.1.length≤30∧s.2.2.length≤30):=by
  unfold lm_
  cases h1:decide (30<(s.1.length:Int)) with
  | true=>exact ⟨true,rfl,fun h=>by cases h⟩
  | false =>
  cases h2:decide (30<(s.2.1.length:Int)) with
  | true=>exact ⟨true,rfl,fun h=>by cases h⟩
  | false =>
  refine ⟨_,rfl,fun h3 => ?_⟩
  have h1:=b4_ h1
  have h2:=b4_ h2
  have h3:=b4_ h3
  omega
theorem yt_ (p:aa_):∃ b,hi_ p=some (b,())∧(b=false→SmPo p):=by
  unfold hi_
  obtain ⟨b,e,hb⟩:=law02_Away p.1
  rw [e,a0_]
  cases b with
  | true=>exact ⟨true,rfl,fun h=>by cases h⟩
  | false =>
  refine ⟨_,rfl,fun h => ?_⟩
  have h:=b4_ h
  obtain ⟨h1,h2,h3⟩:=hb rfl
  exact ⟨h1,h2,h3,by omega⟩
structure SmCe (x:dk_):Prop where
  a:x.1.1.length≤500
  b:x.1.2.length≤500
  c:x.2.length≤500
  d:∀ p ∈ x.1.1,SmPo p
  e:∀ l ∈ x.1.2,l.length≤100
noncomputable def awB (p:aa_):Bool:=((hi_ p).getD (false,())).1
theorem awB_eq (p:aa_):hi_ p=some (awB p,()):=by
  obtain ⟨b,e,_⟩:=yt_ p
  unfold awB
  rw [e]
  rfl
theorem law05_many (c:dk_):∃ b,ll_ c=some (b,())∧(b=false→SmCe c):=by
  unfold ll_
  cases h1:decide (500<(c.1.1.length:Int)) with
  | true=>exact ⟨true,rfl,fun h=>by cases h⟩
  | false =>
  cases h2:decide (500<(c.1.2.length:Int)) with
  | true=>exact ⟨true,rfl,fun h=>by cases h⟩
  | false =>
  cases h3:decide (500<(c.2.length:Int)) with
  | true=>exact ⟨true,rfl,fun h=>by cases h⟩
  | false =>
  let qe:List ah_→Bool:=fun y=>decide (100<(y.length:Int))
  let b1:=c.1.1.any awB
  let b2:=c.1.2.any qe
  refine ⟨b1||b2,?_,?_⟩
  · simp only [a2_,a0_]
    refine hq_ c.1.1 (nlt h1 (by decide)) awB (fun i y hy => ?_) ?_ ?_
    · simp only [dlt (am_ hy),a4_,ag_ hy,a0_,awB_eq]
      cases awB y <;> rfl
    · simp only [dnl,a2_]
    show ca_ (cond b1 _ _) _ _=_
    cases b1 with
    | true=>rfl
    | false =>
    refine hq_ c.1.2 (nlt h2 (by decide)) qe (fun i y hy => ?_) ?_ ?_
    · simp only [dlt (am_ hy),a4_,ag_ hy,a0_,qe]
      cases decide (100<(y.length:Int)) <;> rfl
    · simp only [dnl,a2_]
    show ca_ (cond b2 _ _) _ _=_
    cases b2 <;> rfl
  · intro hb
    simp only [b8_] at hb
    obtain ⟨g1,g2⟩:=hb
    have h1:=b4_ h1
    have h2:=b4_ h2
    have h3:=b4_ h3
    refine ⟨by omega,by omega,by omega,fun p hp => ?_,fun l hl => ?_⟩
    · obtain ⟨b,e,hb⟩:=yt_ p
      have:=fm_ g1 p hp
      unfold awB at this
      rw [e] at this
      exact hb this
    · have:=b4_ (fm_ g2 l hl)
      omega
theorem qc_ {g:ac_} (hg:SmG g) (h0:cd_ g=0) (p:aa_):du_ g p=some (pck g p,()):=by
  unfold du_ pck
  rw [qd_ hg,a0_,h0]
  simp only [show ((0:Int) != 0)=false from rfl,a2_]
  rw [nb_ hg.room,a0_]
  cases gz_ g.1 p.1 != 0 with
  | true=>rfl
  | false=>cases (p.2.length:Int) != (g.2.2.2.1.length:Int) <;> rfl
theorem ref04_Can_all {g:ac_} (hg:SmG g) (h0:cd_ g=0) (p:aa_):mt_ g p=some (cond (pck g p != 0) ([],(pck g p,())) (pmv g p,(0,()))):=by
  unfold mt_
  rw [qc_ hg h0,a0_]
  cases hk:pck g p != 0 with
  | true=>rfl
  | false =>
  rw [a2_,vi_ hg h0 (pck_VP h0 (by simpa using hk))]
  rfl
theorem xr_ {g:ac_} (hg:SmG g) (ok:OkG g) {p:aa_} (hv:VP g p):dm_ g p=some (dl_ p.1.1 g.1.2.2.2.2.2.2.2,()):=by
  have hgo:=hg.go
  have hl1:=hv.st.l1
  obtain ⟨c1,c2⟩:=tm_ hg.room.th (bn_ ok.room).go
  unfold dm_
  rw [jm_ (s:=p.1) (show Sm _ by show _≤1000000000; omega) (by show InC p.1.1.length _; rw [hl1]; exact c1)]
  rfl
noncomputable def eOk (g:ac_) (ps:List aa_) (p:aa_) (z:ah_×ae_):Bool :=
  (z.1.1.1==z.2.1&&(z.1.1.2.1==z.2.2.1&&z.1.1.2.2==z.2.2.2))&&(!decide (z.1.2<0)&&(!decide ((ps.length:Int)≤z.1.2)&&(at? ps z.1.2).elim false fun r=>decide (r=(stepP g p z.2).getD eP)))
def nrr (D:List Int) (v:Int) (z:ah_×ae_):Bool:=gi D z.1.2==w64 (v - 1)
noncomputable def posE (g:ac_) (ps:List aa_) (D:List Int) (p:aa_) (row:List ah_) (v:Int):Bool :=
  !(pck g p != 0)&&(!(((pmv g p).length:Int) != (row.length:Int))&&((row.zip (pmv g p)).all (eOk g ps p) &&
    cond (dl_ p.1.1 g.1.2.2.2.2.2.2.2) (v==0) (decide (1≤v)&&(decide (v≤3000)&&(row.zip (pmv g p)).any (nrr D v)))))
theorem wd_ {α σ ρ:Type} (L:List α) (c d:α→Bool) (F:Nat→Bool→σ) (E:Bool→ρ) (R:ρ) {body:σ→Option (σ⊕ρ)}
    (h:∀ (j:Nat) z acc,L[j]?=some z→body (F j acc)=some (cond (c z) (.inl (F (j+1) (acc||d z))) (.inr R)))
    (e:∀ acc,body (F L.length acc)=some (.inr (E acc))):∀ (k j:Nat) (acc:Bool),j+k=L.length→af_ body (F j acc)=some (cond ((L.drop j).all c) (E (acc||(L.drop j).any d)) R)
  | 0,j,acc,hj=>by
    obtain rfl:j=L.length:=by omega
    rw [k9_]
    refine bs_ ?_
    rw [e,List.any_nil,i2_]
    rfl
  | k+1,j,acc,hj=>by
    obtain ⟨z,hz⟩:=bb_ (l:=L) (i:=j) (by omega)
    have hd:L.drop j=z::L.drop (j+1):=by
      rw [h0_ (by omega)]
      rw [a7_ (by omega)] at hz
      rw [a6_ hz]
    have h1:=h j z acc hz
    rw [hd,List.all_cons,p1_]
    cases hc:c z with
    | true =>
      rw [hc] at h1
      rw [b7_,← Bool.or_assoc]
      exact bt_ h1 (wd_ L c d F E R h e k (j+1) _ (by omega))
    | false =>
      rw [hc] at h1
      exact bs_ h1
theorem zip_get {α β:Type} {a:List α} {b:List β} {j:Nat} {z:α×β} (h:(a.zip b)[j]?=some z):a[j]?=some z.1∧b[j]?=some z.2:=by
  rw [g1_] at h
  exact h
theorem prove_proved {g:ac_} (hg:SmG g) (h0:cd_ g=0) {ps:List aa_} {es:List (List ah_)} {D:List Int} (hp:∀ p ∈ ps,SmPo p) (hD:D.length=ps.length) {i:Nat} {p:aa_} {row:List ah_} {v:Int} (hi:ps[i]?=some p) (hr:es[i]?=some row) (hv:D[i]?=some v) :
    io_ g (ps,es) D (i:Int)=some (posE g ps D p row v,()):=by
  have ok:=cs_ h0
  unfold io_ posE
  simp only [ag_ hi,ag_ hr,ag_ hv,a0_,play_Can_all hg h0]
  cases hk:pck g p != 0 with
  | true =>
    simp only [a4_,hk,a0_]
    rfl
  | false =>
  simp only [a2_,a0_,show ((0:Int) != 0)=false from rfl]
  cases hl:((pmv g p).length:Int) != (row.length:Int) with
  | true=>rfl
  | false =>
  rw [h3_] at hl
  have hvp:VP g p:=pck_VP h0 (by simpa using hk)
  have hml:=vo_ ok p
  simp only [a2_,f2_,b7_]
  have hzl:(row.zip (pmv g p)).length=row.length:=by rw [k5_]; omega
  refine sv_ (wd_ (row.zip (pmv g p)) (eOk g ps p) (nrr D v) (fun j acc=>(acc,((j:Int),()))) (fun acc=>Sum.inl (acc,())) (Sum.inr (false,())) (fun j z acc hz => ?_) (fun acc => ?_) row.length 0 false (by omega)) ?_
  · obtain ⟨z1,z2⟩:=zip_get hz
    obtain ⟨q,hq⟩:=mp_ (az_ z2)
    have hj:=am_ z1
    simp only [dlt hj,a4_,ag_ z1,ag_ z2,a0_,play_Step_all hg h0,hk,a2_,hq,n8_,show ((0:Int) != 0)=false from rfl,ba_ (show Sm j by show _≤1000000000; omega)]
    unfold eOk nrr
    rw [hq,e9_]
    cases (z.1.1.1==z.2.1&&(z.1.1.2.1==z.2.2.1&&z.1.1.2.2==z.2.2.2)) with
    | false=>rfl
    | true =>
    cases n1:decide (z.1.2<0) with
    | true=>rfl
    | false =>
    cases n2:decide ((ps.length:Int)≤z.1.2) with
    | true=>rfl
    | false =>
    have n1:=b4_ n1
    have n2:=b4_ n2
    obtain ⟨n,hn⟩:=p2_ (show 0≤z.1.2 by omega)
    obtain ⟨r,hr⟩:=bb_ (l:=ps) (i:=n) (by omega)
    have ha:at? ps z.1.2=some r:=by rw [hn]; exact ag_ hr
    have hd:at? D z.1.2=some (gi D z.1.2):=pq_ (by omega) (by omega)
    simp only [ha,hd,d9_,a2_,a0_,yk_ (hp r (az_ hr)),n8_,f2_,b7_]
    cases decide (r=q) with
    | false=>rfl
    | true=>cases acc <;> rfl
  · rw [hzl]
    simp only [dnl,a2_]
  · rw [o4_,i6_]
    cases (row.zip (pmv g p)).all (eOk g ps p) with
    | false=>rfl
    | true =>
    simp only [a4_,ca_,a0_,room_Done hg.room ok.room hvp.st,show ((0:Int) != 0)=false from rfl,a2_,b7_]
    cases dl_ p.1.1 g.1.2.2.2.2.2.2.2 with
    | true=>rfl
    | false =>
    cases decide (1≤v) with
    | false=>rfl
    | true=>cases decide (v≤3000) <;> rfl
theorem zf_ {τ ρ:Type} (n:Nat) (hn:Sm n) (q:Nat→Bool) (R E:ρ) {body:(Int×Unit)→Option ((Int×Unit)⊕ρ)} {K:ρ→Option τ} {x:Option τ}
    (h:∀ i:Nat,i<n→body ((i:Int),())=some (cond (q i) (.inr R) (.inl (w64 ((i:Int)+1),())))) (e:body ((n:Int),())=some (.inr E)) (hx:K (cond ((List.range n).any q) R E)=x):(af_ body (0,())).bind K=x:=by
  have hl:(List.range n).length=n:=h7_
  refine bl_ (List.range n) (fun i y=>cond (q y) (some R) none) (fun i=>((i:Int),())) (r0:=E) (fun i y hy => ?_) (by rw [hl]; exact e) ?_
  · have hi:=am_ hy
    rw [hl] at hi
    rw [k7_ hi] at hy
    obtain rfl:=a6_ hy
    rw [h i hi,ba_ (show Sm i by unfold Sm at hn ⊢; omega)]
    cases q i <;> rfl
  · rw [gr_ (q:=q),← hx]
    cases (List.range n).any q <;> rfl
noncomputable def posAt (g:ac_) (ps:List aa_) (es:List (List ah_)) (D:List Int) (i:Nat):Bool:=posE g ps D ((ps[i]?).getD eP) ((es[i]?).getD []) (gi D (i:Int))
noncomputable def badC (g:ac_) (ps:List aa_) (es:List (List ah_)) (D:List Int):Bool :=
  decide ((ps.length:Int)<1)||(decide (3000<(ps.length:Int))||((es.length:Int) != (ps.length:Int)||((D.length:Int) != (ps.length:Int)||!((at? ps 0).elim true fun r=>decide (r=(ru_ g).1)))))
noncomputable def prvR (g:ac_) (ps:List aa_) (es:List (List ah_)) (D:List Int):Bool×(Int×Unit) :=
  cond ((ru_ g).2.1 != 0) (false,((ru_ g).2.1,())) (cond (badC g ps es D) (false,(0,())) (cond ((List.range ps.length).any fun i=>!(posAt g ps es D i)) (false,(0,())) (true,(0,()))))
theorem badC_of {g:ac_} {ps:List aa_} {es:List (List ah_)} {D:List Int} {f:aa_→Option (Bool×Unit)} (hf:∀ r ∈ ps,f r=some (!decide (r=(ru_ g).1),())) :
    cond (decide ((ps.length:Int)<1)) (some (true,())) (cond (decide (3000<(ps.length:Int))) (some (true,())) (cond ((es.length:Int) != (ps.length:Int)) (some (true,())) (cond ((D.length:Int) != (ps.length:Int)) (some (true,())) ((at? ps 0).bind f))))=some (badC g ps es D,()):=by
  unfold badC
  cases h1:decide ((ps.length:Int)<1) with
  | true=>rfl
  | false =>
  have h1:=b4_ h1
  obtain ⟨r,hr⟩:=bb_ (l:=ps) (i:=0) (by omega)
  have ha:at? ps 0=some r:=ag_ hr
  rw [ha,a0_,hf r (az_ hr),n8_]
  cases decide (3000<(ps.length:Int)) <;> cases ((es.length:Int) != (ps.length:Int)) <;> cases ((D.length:Int) != (ps.length:Int)) <;> rfl
theorem zh_ {g:ac_} {ps:List aa_} {es:List (List ah_)} {D:List Int} (h:badC g ps es D=false):es.length=ps.length∧D.length=ps.length∧1≤ps.length∧ps.length≤3000∧ps[0]?=some (ru_ g).1:=by
  unfold badC at h
  simp only [b8_,h3_,m6_,Bool.not_eq_false'] at h
  obtain ⟨h1,h2,h3,h4,h5⟩:=h
  obtain ⟨r,hr⟩:=bb_ (l:=ps) (i:=0) (by omega)
  have ha:at? ps 0=some r:=ag_ hr
  rw [ha,n8_] at h5
  exact ⟨by omega,by omega,by omega,by omega,by rw [hr,f6_ h5]⟩
section
variable {g:ac_} (hg:SmG g) {ps:List aa_} {es:List (List ah_)} {D:List Int} (hp:∀ p ∈ ps,SmPo p)
include hg hp
theorem prove_Proves:ip_ g (ps,es) D=some (prvR g ps es D):=by
  unfold ip_ prvR
  rw [vq_ hg,a0_]
  cases hb:(ru_ g).2.1 != 0 with
  | true=>rfl
  | false =>
  obtain ⟨h0,_⟩:=xh_ hg (by simpa using hb)
  simp only [a2_]
  rw [badC_of (f:=fun v1=>(hg_ v1 (ru_ g).1).bind fun v2=>some ((!v2.1),())) fun r hr=>by rw [yk_ (hp r hr)]; rfl]
  simp only [a0_]
  cases hB:badC g ps es D with
  | true=>rfl
  | false =>
  obtain ⟨b1,b2,b3,b4,_⟩:=zh_ hB
  simp only [a2_]
  refine zf_ ps.length (show _≤1000000000 by omega) (fun i=>!(posAt g ps es D i)) (Sum.inr (false,(0,()))) (Sum.inl ()) (fun i hi => ?_) (by simp only [dnl,a2_]) ?_
  · obtain ⟨p,h1⟩:=bb_ (l:=ps) hi
    obtain ⟨row,h2⟩:=bb_ (l:=es) (i:=i) (by omega)
    obtain ⟨v,h3⟩:=bb_ (l:=D) (i:=i) (by omega)
    simp only [dlt hi,a4_,prove_proved hg h0 hp b2 h1 h2 h3,a0_]
    unfold posAt
    rw [h1,h2,ng_ (ag_ h3)]
    simp only [e9_]
    cases posE g ps D p row v <;> rfl
  · cases (List.range ps.length).any fun i=>!(posAt g ps es D i) <;> rfl
theorem ref05_Proves:ik_ g (ps,es) D=some (prvR g ps es D):=by
  unfold ik_ prvR
  rw [tc_ hg,a0_]
  cases hb:(ru_ g).2.1 != 0 with
  | true=>rfl
  | false =>
  obtain ⟨h0,_⟩:=xh_ hg (by simpa using hb)
  have ok:=cs_ h0
  simp only [a2_]
  rw [badC_of (f:=fun v1=>(cj_ v1 (ru_ g).1).bind fun v2=>some ((!v2.1),())) fun r hr=>by rw [lb_ (hp r hr)]; rfl]
  simp only [a0_]
  cases hB:badC g ps es D with
  | true=>rfl
  | false =>
  obtain ⟨b1,b2,b3,b4,_⟩:=zh_ hB
  simp only [a2_]
  refine zf_ ps.length (show _≤1000000000 by omega) (fun i=>!(posAt g ps es D i)) (Sum.inr (false,(0,()))) (Sum.inl ()) (fun i hi => ?_) (by simp only [dnl,a2_]) ?_
  · obtain ⟨p,h1⟩:=bb_ (l:=ps) hi
    obtain ⟨row,h2⟩:=bb_ (l:=es) (i:=i) (by omega)
    obtain ⟨v,h3⟩:=bb_ (l:=D) (i:=i) (by omega)
    unfold posAt
    rw [h1,h2,ng_ (ag_ h3)]
    simp only [e9_,dlt hi,a4_,ag_ h1,ag_ h2,ag_ h3,a0_,ref04_Can_all hg h0]
    unfold posE
    cases hk:pck g p != 0 with
    | true =>
      simp only [a4_,hk,a0_]
      rfl
    | false =>
    simp only [a2_,a0_,show ((0:Int) != 0)=false from rfl]
    cases hl:((pmv g p).length:Int) != (row.length:Int) with
    | true=>rfl
    | false =>
    rw [h3_] at hl
    have hvp:VP g p:=pck_VP h0 (by simpa using hk)
    have hml:=vo_ ok p
    simp only [a2_,f2_,b7_]
    have hzl:(row.zip (pmv g p)).length=(pmv g p).length:=by rw [k5_]; omega
    refine sv_ (wd_ (row.zip (pmv g p)) (eOk g ps p) (nrr D v) (fun j acc=>(acc,((j:Int),()))) (fun acc=>Sum.inl (acc,())) (Sum.inr (Sum.inr (Sum.inr (false,(0,()))))) (fun j z acc hz => ?_) (fun acc => ?_) (pmv g p).length 0 false (by omega)) ?_
    · obtain ⟨z1,z2⟩:=zip_get hz
      obtain ⟨q,hq⟩:=mp_ (az_ z2)
      have hj:=am_ z2
      simp only [dlt hj,a4_,ag_ z1,ag_ z2,a0_,yi_ hg h0 hvp hq,ba_ (show Sm j by show _≤1000000000; omega)]
      unfold eOk nrr
      rw [hq,e9_]
      cases (z.1.1.1==z.2.1&&(z.1.1.2.1==z.2.2.1&&z.1.1.2.2==z.2.2.2)) with
      | false=>rfl
      | true =>
      cases n1:decide (z.1.2<0) with
      | true=>rfl
      | false =>
      cases n2:decide ((ps.length:Int)≤z.1.2) with
      | true=>rfl
      | false =>
      have n1:=b4_ n1
      have n2:=b4_ n2
      obtain ⟨n,hn⟩:=p2_ (show 0≤z.1.2 by omega)
      obtain ⟨r,hr⟩:=bb_ (l:=ps) (i:=n) (by omega)
      have ha:at? ps z.1.2=some r:=by rw [hn]; exact ag_ hr
      have hd:at? D z.1.2=some (gi D z.1.2):=pq_ (by omega) (by omega)
      simp only [ha,hd,d9_,a2_,a0_,lb_ (hp r (az_ hr)),n8_,f2_,b7_]
      cases decide (r=q) with
      | false=>rfl
      | true=>cases acc <;> rfl
    · rw [hzl]
      simp only [dnl,a2_]
    · rw [o4_,i6_]
      cases (row.zip (pmv g p)).all (eOk g ps p) with
      | false=>rfl
      | true =>
      simp only [a4_,ca_,a0_,xr_ hg ok hvp,b7_]
      cases dl_ p.1.1 g.1.2.2.2.2.2.2.2 with
      | true =>
        simp only [a4_,bne]
        cases v==0 <;> rfl
      | false =>
      simp only [a2_,f2_,a4_]
      cases k1:decide (1≤v) with
      | false =>
        rw [show decide (v<1)=true from c0_ (by have:=b4_ k1; omega)]
        rfl
      | true =>
      rw [show decide (v<1)=false from c1_ (by have:=f6_ k1; omega)]
      cases k2:decide (v≤3000) with
      | false =>
        rw [show decide (3000<v)=true from c0_ (by have:=b4_ k2; omega)]
        rfl
      | true =>
      rw [show decide (3000<v)=false from c1_ (by have:=f6_ k2; omega)]
      cases (row.zip (pmv g p)).any (nrr D v) <;> rfl
  · cases (List.range ps.length).any fun i=>!(posAt g ps es D i) <;> rfl
end
theorem law05_ProveProves (g:ac_) (c:dk_):gy_ g c=some (true,()):=by
  obtain ⟨b,e,hb⟩:=law05_Large g
  obtain ⟨b',e',hb'⟩:=law05_many c
  unfold gy_
  rw [e,e',a0_,a0_]
  cases b with
  | true=>simp only [a4_,qi_,a0_]
  | false =>
  cases b' with
  | true=>simp only [a4_,a2_,qi_,a0_]
  | false =>
  have hg:=hb rfl
  have hc:=hb' rfl
  have hcc:=hc.c
  simp only [a2_,a0_]
  rw [ref04_Copy hg,a0_,aw_ (show _≤1000000000 by omega),a0_,show c.1=(c.1.1,c.1.2) from rfl,prove_Proves hg hc.d,a0_,ref05_Proves hg hc.d,a0_]
  simp only [a4_,d1_,qi_,a0_]
end
end Go.Proofs.YtmdlefagpcmllaaGreatDoor.Rx
