/- A part of the proof: what the functions of the program compute, shown over the model. -/
import Derived.KernelRfl
import Derived.Test.YthpilkoeneocmaaGreatDoorPart4
set_option linter.unusedSectionVars false
set_option linter.unusedVariables false
set_option linter.unusedSimpArgs false
namespace Go.Proofs.YthpilkoeneocmaaGreatDoor.Rx
open Go Pad Rex Go.Proofs Go.Proofs.Tryz Sum
section
set_option maxRecDepth 100000
noncomputable def autB (a0:ae_) (th pr py:List Int):(Int×Unit)→Option ((Int×Unit)⊕(Unit⊕(Int×Unit))) :=
 (λ(v14:(Int×Unit)) =>
 (cond (decide (v14.1<(a0.2.2.2.2.2.1.length:Int)))
 ((at? a0.2.2.2.2.2.1 v14.1).bind λv15 =>
 ((((at? th v15.2.1).bind λv16 =>
 ((at? th v15.2.1).bind λv17 =>
 (cond (v17 != v15.2.2)
 ((bd_ (a0,(th,(pr,py))) v15.1).bind λv18 =>
 (some (v18.1,())))
 (some (false,())))))).bind λv19 =>
 (cond v19.1
 (some (inr (inr (v14.1,()))))
 (some (inl ((w64 (v14.1+1)),()))))))
 (some (inr (inl ())))))
noncomputable def setB (a0:ae_) (v11 v12:List Int):(Int×((List Int)×Unit))→Option ((Int×((List Int)×Unit))⊕(((List Int)×Unit)⊕(Bool×((List Int)×Unit)))) :=
 (λ(v13:(Int×((List Int)×Unit))) =>
 (cond (decide (v13.1<101))
 ((((af_ (ρ:=(Unit⊕(Int×Unit))) (autB a0 v13.2.1 v11 v12) (0,())).bind λv20 =>
 (cd_ v20 (λv21=>(some ((-1),())))
 (λv22=>(some v22))))).bind λv23 =>
 (cond (decide (v23.1<0))
 (some (inr (inr ((!true),(v13.2.1,())))))
 ((at? a0.2.2.2.2.2.1 v23.1).bind λv24 =>
 ((at? a0.2.2.2.2.2.1 v23.1).bind λv25 =>
 ((at? v13.2.1 v24.2.1).bind λv26 =>
 ((at? v13.2.1 v24.2.1).bind λv27 =>
 (some (inl ((w64 (v13.1+1)),((v13.2.1.set v24.2.1.toNat v25.2.2),()))))))))))
 (some (inr (inl (v13.2.1,()))))))
noncomputable def thgB (a0:ae_):(Int×(((List Int)×Unit)×Unit))→Option ((Int×(((List Int)×Unit)×Unit))⊕(((List Int)×Unit)×Unit)) :=
 (λ(v2:(Int×(((List Int)×Unit)×Unit))) =>
 (cond (decide (v2.1<(a0.2.1.length:Int)))
 ((at? a0.2.1 v2.1).bind λv3 =>
 ((push? (α:=Int) v2.2.1.1 [v3.2.2.2]).bind λv4 =>
 (some (inl ((w64 (v2.1+1)),((v4,()),()))))))
 (some (inr ((v2.2.1.1,()),())))))
noncomputable def prpB (a0:ae_):(Int×(((List Int)×Unit)×Unit))→Option ((Int×(((List Int)×Unit)×Unit))⊕(((List Int)×Unit)×Unit)) :=
 (λ(v6:(Int×(((List Int)×Unit)×Unit))) =>
 (cond (decide (v6.1<(a0.2.2.1.length:Int)))
 ((at? a0.2.2.1 v6.1).bind λv7 =>
 ((push? (α:=Int) v6.2.1.1 [v7.2.1]).bind λv8 =>
 (some (inl ((w64 (v6.1+1)),((v8,()),()))))))
 (some (inr ((v6.2.1.1,()),())))))
noncomputable def rbegX (a0:ae_):Option (aj_×(Int×Unit)) :=
 ((gc_ a0).bind λv0 =>
 (cond (v0.1 != 0)
 (some (([],([],[])),(v0.1,())))
 ((mk? (α:=Int) a0.2.2.2.2.2.2.1 0).bind λv1 =>
 ((af_ (ρ:=(((List Int)×Unit)×Unit)) (thgB a0) (0,(([],()),()))).bind λv5 =>
 ((af_ (ρ:=(((List Int)×Unit)×Unit)) (prpB a0) (0,(([],()),()))).bind λv9 =>
 ((push? (α:=Int) [] v5.1.1).bind λv10 =>
 ((push? (α:=Int) [] v9.1.1).bind λv11 =>
 ((push? (α:=Int) [] v1).bind λv12 =>
 ((((af_ (ρ:=(((List Int)×Unit)⊕(Bool×((List Int)×Unit)))) (setB a0 v11 v12) (0,(v10,()))).bind λv28 =>
 (cd_ v28 (λv29=>(some ((!false),(v29.1,()))))
 (λv30=>(some v30))))).bind λv31 =>
 (cond v31.1
 (some (([],([],[])),(27,())))
 (some ((v31.2.1,(v11,v12)),(0,())))))))))))))
theorem ck6:jq_=rbegX:=by kernel_rfl
end
end Go.Proofs.YthpilkoeneocmaaGreatDoor.Rx
namespace Go.Proofs.YthpilkoeneocmaaGreatDoor.Rx
open Go Pad Rex Sum
section
set_option maxRecDepth 10000
def VT (r:ae_) (th:List Int):Prop:=th.length=r.2.1.length∧∀ (i:Nat) n,th[i]?=some n→ou_ r.2.1 (i:Int) n=true
theorem cf6 {r:ae_} (h:SmR r) (ok:OkR r) {th:List Int} (hv:VT r th) {i n:Int} (hs:ou_ r.2.1 i n=true):VT r (th.set i.toNat n):=by
 refine⟨by rw[g1_];exact hv.1,λj m hj => ?_⟩
 have hi:=(nu_ h ok hs).1
 rw[g4_] at hj
 split at hj
 ·next e =>
  split at hj
  ·obtain rfl:=a6_ hj
   rw[show (j:Int)=i by omega]
   exact hs
  ·cases hj
 ·exact hv.2 j m hj
theorem ba3 {r:ae_} (h:SmR r):af_ (thgB r) (0,(([],()),()))=some ((r.2.1.map (·.2.2.2),()),()):=by
 have hth:=h.th
 obtain⟨z,hz,q,rfl,hq⟩:=ba2 r.2.1.length (λi (q:List Int)=>((i:Int),((q,()),()))) (λq=>((q,()),())) [] (body:=thgB r) (λi q=>q=(r.2.1.take i).map (·.2.2.2)) rfl (λi q hi hq=>by
  obtain⟨x,hx⟩:=bc_ hi
  have hq2:Sm q.length:=by rw[hq,e0_,c5_];omega
  refine⟨_,?_,q++[x.2.2.2],rfl,?_⟩
  ·unfold thgB
   simp only[dlt hi,a5_,ah_ hx,a0_,ci_ hq2,ba_ (show Sm i by omega)]
  ·rw[d9_,hx,hq,j1_]
   rfl) (λq hq=>by
  unfold thgB
  simp only[dnl,a2_])
 rw[d2_] at hq
 subst hq
 exact hz
theorem bb7 {r:ae_} (h:SmR r):af_ (prpB r) (0,(([],()),()))=some ((r.2.2.1.map (·.2.1),()),()):=by
 have hth:=h.pr
 obtain⟨z,hz,q,rfl,hq⟩:=ba2 r.2.2.1.length (λi (q:List Int)=>((i:Int),((q,()),()))) (λq=>((q,()),())) [] (body:=prpB r) (λi q=>q=(r.2.2.1.take i).map (·.2.1)) rfl (λi q hi hq=>by
  obtain⟨x,hx⟩:=bc_ hi
  have hq2:Sm q.length:=by rw[hq,e0_,c5_];omega
  refine⟨_,?_,q++[x.2.1],rfl,?_⟩
  ·unfold prpB
   simp only[dlt hi,a5_,ah_ hx,a0_,ci_ hq2,ba_ (show Sm i by omega)]
  ·rw[d9_,hx,hq,j1_]
   rfl) (λq hq=>by
  unfold prpB
  simp only[dnl,a2_])
 rw[d2_] at hq
 subst hq
 exact hz
end
end Go.Proofs.YthpilkoeneocmaaGreatDoor.Rx
namespace Go.Proofs.YthpilkoeneocmaaGreatDoor.Rx
open Go Pad Rex Go.Proofs Go.Proofs.Tryz Sum
section
set_option maxRecDepth 100000
noncomputable def pbgB (a0:ac_) (s:aj_):(Int×((List Bool)×((List ab_)×Unit)))→Option ((Int×((List Bool)×((List ab_)×Unit)))⊕((List Bool)×((List ab_)×Unit))) :=
 (λ(v3:(Int×((List Bool)×((List ab_)×Unit)))) =>
 (cond (decide (v3.1<(a0.2.2.2.1.length:Int)))
 ((((at? a0.2.2.2.1 v3.1).bind λv4 =>
 ((gb_ a0.1 s v4.2.2.2.1).bind λv5 =>
 (((cond v5.1
 ((bm_ s.2.2 v4.2.1).bind λv6 =>
 (cond v6.1
 ((at? v3.2.1 v3.1).bind λv7 =>
 ((at? v3.2.1 v3.1).bind λv8 =>
 (some ((!v8),()))))
 (some (false,()))))
 (some (false,())))).bind λv9 =>
 (cond v9.1
 ((at? v3.2.1 v3.1).bind λv10 =>
 ((at? v3.2.1 v3.1).bind λv11 =>
 (some ((v3.2.1.set v3.1.toNat true),((aa9 v3.2.2.1 v4.2.2.1),())))))
 (some (v3.2.1,(v3.2.2.1,())))))))).bind λv12 =>
 (some (inl ((w64 (v3.1+1)),(v12.1,(v12.2.1,()))))))
 (some (inr (v3.2.1,(v3.2.2.1,()))))))
noncomputable def pbegX (a0:ac_):Option (aa_×(Int×Unit)) :=
 ((hw_ a0).bind λv0 =>
 (cond (v0.1 != 0)
 (some ((([],([],[])),[]),(v0.1,())))
 ((jq_ a0.1).bind λv1 =>
 (cond (v1.2.1 != 0)
 (some ((([],([],[])),[]),(v1.2.1,())))
 ((mk? (α:=Bool) (a0.2.2.2.1.length:Int) false).bind λv2 =>
 ((af_ (ρ:=((List Bool)×((List ab_)×Unit))) (pbgB a0 v1.1) (0,(v2,([],())))).bind λv13 =>
 ((push? (α:=Int) [] v1.1.1).bind λv14 =>
 ((push? (α:=Int) [] v1.1.2.1).bind λv15 =>
 ((push? (α:=Int) [] v1.1.2.2).bind λv16 =>
 ((push? (α:=Bool) [] v13.1).bind λv17 =>
 (some (((v14,(v15,v16)),v17),(0,())))))))))))))
theorem cl4:jt_=pbegX:=by kernel_rfl
end
end Go.Proofs.YthpilkoeneocmaaGreatDoor.Rx
namespace Go.Proofs.YthpilkoeneocmaaGreatDoor.Rx
open Go Pad Rex Sum
section
set_option maxRecDepth 10000
theorem rk_ {r:ae_} (h:SmR r) (ok:OkR r) {s:aj_} (hv:VS r s):Sm s.1.length∧Sm s.2.1.length∧Sm s.2.2.length:=by
 have:=cl_.1 ok.py
 have h1:=hv.l1
 have h2:=hv.l2
 have h3:=hv.l3
 have:=h.th
 have:=h.pr
 refine⟨by show s.1.length≤1000000000;omega,by show s.2.1.length≤1000000000;omega,by show s.2.2.length≤1000000000;omega⟩
theorem gg_ {r:ae_} {s:aj_} (h0:dn_ r=0) (hv:VS r s):kc_ r s=0:=by
 unfold kc_
 rw[h0]
 exact cq3 hv
end
section
theorem mp_ (a b c:Int):bg_ a b c=some (wi a b c,()):=bi5 a b c
theorem oy_ (a b c:Int):bn_ a b c=some (wi a b c,()):=bi5 a b c
def okL (l:ab_):Bool:=wi l.1 1 4&&wi l.2 2 10
structure Lk (l:ab_):Prop where
 w1:1≤l.1
 w2:l.1≤4
 s1:2≤l.2
 s2:l.2≤10
theorem pc_ {l:ab_}:okL l=true↔Lk l:=by
 unfold okL
 rw[a1_,cl_,cl_]
 exact⟨λh=>⟨h.1.1,h.1.2,h.2.1,h.2.2⟩,λh=>⟨⟨h.w1,h.w2⟩,h.s1,h.s2⟩⟩
theorem md_ (l:ab_):fd_ l=some (if okL l then 0 else 10,()):=by
 unfold fd_ okL
 simp only[oy_,a0_]
 cases wi l.1 1 4<;>cases wi l.2 2 10<;>rfl
theorem mq_ (l:ab_):em_ l=some (if okL l then 0 else 10,()):=by
 unfold em_ okL
 simp only[mp_,a0_]
 cases wi l.1 1 4<;>cases wi l.2 2 10<;>rfl
def dq_ (l:ab_) (c:List Int):Bool:=decide ((c.length:Int)=l.1)&&c.all λn=>wi n 0 (l.2 - 1)
theorem Lk.ws {l:ab_} (h:Lk l):w64 (l.2 - 1)=l.2 - 1:=by have:=h.s1;have:=h.s2;exact ma_ (by omega) (by omega)
theorem Lk.ww {l:ab_} (h:Lk l):w64 (l.1 - 1)=l.1 - 1:=by have:=h.w1;have:=h.w2;exact ma_ (by omega) (by omega)
theorem np_ {l:ab_} (h:Lk l) (n:Int):bq_ l n=some (wi n 0 (l.2 - 1),()):=by
 unfold bq_
 rw[mp_,h.ws]
 rfl
theorem vp_ {l:ab_} (h:Lk l) (n:Int):az_ l n=some (wi n 0 (l.1 - 1),()):=by
 unfold az_
 rw[mp_,h.ww]
 rfl
theorem all_any {α:Type} (l:List α) (q:α→Bool):(!(l.any λx=>!(q x)))=l.all q:=uu_ l q
theorem va_ {l:ab_} (h:Lk l) (c:List Int):hd_ l c=some (dq_ l c,()):=by
 have w2:=h.w2
 unfold hd_ dq_
 by_cases he:(c.length:Int)=l.1
 ·have hb:((c.length:Int) != l.1)=false:=by simp[he]
  rw[hb,b5_ he,c3_,a2_]
  refine bu_ c (λ_ y=>cond (wi y 0 (l.2 - 1)) none (some (inr (false,()):Unit⊕(Bool×Unit)))) (λi=>((i:Int),())) (r0:=inl ()) (λi y hy => ?_) ?_ ?_
  ·have hi:=am_ hy
   simp only[dlt hi,a5_,ah_ hy,a0_,oy_,h.ws,ba_ (show Sm i by unfold Sm;omega)]
   cases wi y 0 (l.2 - 1)<;>rfl
  ·simp only[dnl,a2_]
  ·rw[kh_ (q:=λy=>wi y 0 (l.2 - 1))]
   cases c.all λy=>wi y 0 (l.2 - 1)<;>rfl
 ·have hb:((c.length:Int) != l.1)=true:=by simp[he]
  rw[hb,b6_ he]
  rfl
theorem pr_ {l:ab_} (h:Lk l) (c:List Int):co_ l c=some (dq_ l c,()):=by
 have w2:=h.w2
 unfold co_ dq_
 by_cases he:(c.length:Int)=l.1
 ·have hb:((c.length:Int)==l.1)=true:=by simp[he]
  rw[hb,b5_ he,c3_,a5_,oo_ (l:=c) (by unfold Sm;omega) (λn=>!(wi n 0 (l.2 - 1))) (λi y hy=>by
   simp only[dlt (am_ hy),a5_,ah_ hy,a0_,np_ h]
   cases wi y 0 (l.2 - 1)<;>rfl) (by simp only[dnl,a2_]),a0_,all_any]
 ·have hb:((c.length:Int)==l.1)=false:=by simp[he]
  rw[hb,b6_ he]
  rfl
theorem vl_ (l:ab_) (c:List Int):gq_ l c=some (if okL l then (if dq_ l c then 0 else 12) else 10,()):=by
 unfold gq_
 rw[md_,a0_]
 cases h:okL l with
 | true =>
  rw[if_pos rfl,va_ (pc_.1 h)]
  cases dq_ l c<;>rfl
 | false=>rfl
theorem on_ (l:ab_) (c:List Int):ew_ l c=some (if okL l then (if dq_ l c then 0 else 12) else 10,()):=by
 unfold ew_ il_
 rw[mq_,a0_]
 cases h:okL l with
 | true =>
  have hl:=pc_.1 h
  have:=oo_ (l:=[c]) (by unfold Sm;simp) (λc=>!(dq_ l c)) (body:=λ(v1:(Int×Unit)) =>
   (cond (decide (v1.1<(([c]:List (List Int)).length:Int)))
   ((at? [c] v1.1).bind λv2 =>
   ((co_ l v2).bind λv3 =>
   (cond (!v3.1)
   (some (inr (inr ((decide (0≤v1.1)),()))))
   (some (inl ((w64 (v1.1+1)),()))))))
   (some (inr (inl ()))))) (λi y hy=>by
   simp only[dlt (am_ hy),a5_,ah_ hy,a0_,pr_ hl]
   cases dq_ l y<;>rfl) (by simp only[dnl,a2_])
  rw[this]
  simp only[List.any_cons,List.any_nil,i4_]
  cases dq_ l c<;>rfl
 | false=>rfl
theorem bq8 {α:Type} [BEq α] [LawfulBEq α] [DecidableEq α] {a b:List α} (ha:Sm a.length) (he:a.length=b.length) {body:(Int×Unit)→Option ((Int×Unit)⊕(Unit⊕(Bool×Unit)))} {K:(Unit⊕(Bool×Unit))→Option (Bool×Unit)}
  (h:∀ (i:Nat) x y,a[i]?=some x→b[i]?=some y→body ((i:Int),())=some (cond (x != y) (.inr (.inr (false,()))) (.inl (w64 ((i:Int)+1),())))) (e:body ((a.length:Int),())=some (.inr (.inl ()))) (k1:K (.inl ())=some (true,())) (k2:K (.inr (false,()))=some (false,())) :
  (af_ body (0,())).bind K=some (decide (a=b),()):=by
 refine bu_ (a.zip b) (λ_ p=>cond (p.1==p.2) none (some (inr (false,()):Unit⊕(Bool×Unit)))) (λi=>((i:Int),())) (r0:=inl ()) (λi p hp => ?_) ?_ ?_
 ·obtain⟨h1,h2⟩:=h5_.1 hp
  rw[h i p.1 p.2 h1 h2,ba_ (show Sm i by have:=am_ h1;unfold Sm at *; omega)]
  cases hq:p.1==p.2<;>simp[bne,hq]
 ·rw[n1_,← he,Nat.min_self]
  exact e
 ·rw[kh_ (q:=λp:α×α=>p.1==p.2)]
  have hk:((a.zip b).all λp=>p.1==p.2)=decide (a=b):=by
   refine l9_.2 ?_
   rw[f2_,l6_]
   constructor
   ·intro hz
    refine f4_ λi => ?_
    by_cases hi:i<a.length
    ·obtain⟨x,hx⟩:=bc_ hi
     obtain⟨y,hy⟩:=bc_ (l:=b) (i:=i) (by omega)
     have:=hz (x,y) (b4_ (h5_.2 ⟨hx,hy⟩))
     rw[hx,hy,show x=y from eq_of_beq this]
    ·rw[c2_ (by omega),c2_ (by omega)]
   ·rintro rfl p hp
    obtain⟨i,hi⟩:=f3_ hp
    obtain⟨h1,h2⟩:=h5_.1 hi
    rw[h1] at h2
    exact i5_.2 (a6_ h2)
  rw[hk]
  cases decide (a=b)
  ·exact k2
  ·exact k1
theorem zn_ {a b:List Int} (ha:Sm a.length):hj_ a b=some (decide (a=b),()):=by
 unfold hj_
 by_cases he:a.length=b.length
 ·have hb:((a.length:Int) != (b.length:Int))=false:=by simp[he]
  rw[hb,a2_]
  refine bq8 ha he (λi x y hx hy => ?_) ?_ rfl rfl
  ·simp only[dlt (am_ hx),a5_,ah_ hx,ah_ hy,a0_]
   cases x != y<;>rfl
  ·simp only[dnl,a2_]
 ·have hb:((a.length:Int) != (b.length:Int))=true:=by simp;omega
  rw[hb,b6_ (λe=>he (by rw[e]))]
  rfl
def dr_ (l:ab_) (c:ak_):Bool :=
 if c.1=1 then wi c.2.1 0 (l.1 - 1)&&(wi c.2.2.2.1 0 (l.2 - 1)&&(c.2.2.1==0&&(c.2.2.2.2.1==0&&decide (c.2.2.2.2.2.1=[]))))
 else if c.1=2 then wi c.2.1 0 (l.1 - 1)&&(wi c.2.2.1 0 (l.1 - 1)&&(decide (c.2.1≤c.2.2.1)&&(wi c.2.2.2.1 0 100&&(c.2.2.2.2.1==0&&decide (c.2.2.2.2.2.1=[])))))
 else if c.1=3∨c.1=4 then wi c.2.1 0 (l.1 - 1)&&(wi c.2.2.1 0 (l.1 - 1)&&(c.2.1 != c.2.2.1&&(c.2.2.2.1==0&&(c.2.2.2.2.1==0&&decide (c.2.2.2.2.2.1=[])))))
 else if c.1=5 then wi c.2.2.2.1 0 (l.2 - 1)&&(wi c.2.2.2.2.1 0 l.1&&(c.2.1==0&&(c.2.2.1==0&&decide (c.2.2.2.2.2.1=[]))))
 else if c.1=6 then dq_ l c.2.2.2.2.2.1&&(wi c.2.2.2.1 0 l.1&&(wi c.2.2.2.2.1 0 l.1&&(c.2.1==0&&c.2.2.1==0)))
 else if c.1=7 then wi c.2.1 0 (l.1 - 1)&&(wi c.2.2.2.1 2 10&&(wi c.2.2.2.2.1 0 (c.2.2.2.1 - 1)&&(c.2.2.1==0&&decide (c.2.2.2.2.2.1=[]))))
 else false
theorem len0 (l:List Int):((l.length:Int)==((([]:List Int)).length:Int))=decide (l=[]):=by cases l<;>simp<;>omega
theorem vb_ {l:ab_} (h:Lk l) {c:ak_} (hs:Sm c.2.2.2.2.2.1.length):he_ l c=some (dr_ l c,()):=by
 unfold he_ dr_ jy_
 simp only[oy_,va_ h,zn_ hs,a0_,h.ww,h.ws,e2_,a5_]
 by_cases h1:c.1=1
 ·simp only[h1]
  cases wi c.2.1 0 (l.1 - 1)<;>cases wi c.2.2.2.1 0 (l.2 - 1)<;>simp only[a5_,a2_,a0_,e2_,c3_,e8_,Int.reduceBEq,k9_,i0_,Int.reduceEq,n5_,n4_,n0_]<;>cases c.2.2.1==0<;>cases c.2.2.2.2.1==0<;>rfl
 by_cases h2:c.1=2
 ·simp only[h2]
  cases wi c.2.1 0 (l.1 - 1)<;>cases wi c.2.2.1 0 (l.1 - 1)<;>cases decide (c.2.1≤c.2.2.1)<;>cases wi c.2.2.2.1 0 100<;>simp only[a5_,a2_,a0_,e2_,c3_,e8_,Int.reduceBEq,k9_,i0_,Int.reduceEq,n5_,n4_,n0_]<;>cases c.2.2.2.2.1==0<;>rfl
 by_cases h3:c.1=3
 ·simp only[h3]
  cases wi c.2.1 0 (l.1 - 1)<;>cases wi c.2.2.1 0 (l.1 - 1)<;>cases c.2.1 != c.2.2.1<;>simp only[a5_,a2_,a0_,e2_,c3_,e8_,Int.reduceBEq,k9_,i0_,Int.reduceEq,n5_,n4_,n0_]<;>cases c.2.2.2.1==0<;>cases c.2.2.2.2.1==0<;>rfl
 by_cases h4:c.1=4
 ·simp only[h4]
  cases wi c.2.1 0 (l.1 - 1)<;>cases wi c.2.2.1 0 (l.1 - 1)<;>cases c.2.1 != c.2.2.1<;>simp only[a5_,a2_,a0_,e2_,c3_,e8_,Int.reduceBEq,k9_,i0_,Int.reduceEq,n5_,n4_,n0_]<;>cases c.2.2.2.1==0<;>cases c.2.2.2.2.1==0<;>rfl
 by_cases h5:c.1=5
 ·simp only[h5]
  cases wi c.2.2.2.1 0 (l.2 - 1)<;>cases wi c.2.2.2.2.1 0 l.1<;>simp only[a5_,a2_,a0_,e2_,c3_,e8_,Int.reduceBEq,k9_,i0_,Int.reduceEq,n5_,n4_,n0_]<;>cases c.2.1==0<;>cases c.2.2.1==0<;>rfl
 by_cases h6:c.1=6
 ·simp only[h6]
  cases dq_ l c.2.2.2.2.2.1<;>cases wi c.2.2.2.1 0 l.1<;>cases wi c.2.2.2.2.1 0 l.1<;>simp only[a5_,a2_,a0_,e2_,c3_,e8_,Int.reduceBEq,k9_,i0_,Int.reduceEq,n5_,n4_,n0_]<;>cases c.2.1==0<;>cases c.2.2.1==0<;>simp
 by_cases h7:c.1=7
 ·simp only[h7]
  cases wi c.2.1 0 (l.1 - 1)
  ·rfl
  cases hn:wi c.2.2.2.1 2 10
  ·rfl
  have:=cl_.1 hn
  rw[ma_ (n:=c.2.2.2.1 - 1) (by omega) (by omega)]
  cases wi c.2.2.2.2.1 0 (c.2.2.2.1 - 1)<;>simp only[a5_,a2_,a0_,e2_,c3_,e8_,Int.reduceBEq,k9_,i0_,Int.reduceEq,n5_,n4_,n0_]<;>cases c.2.2.1==0<;>rfl
 have b1:(c.1==1)=false:=by simp[h1]
 have b2:(c.1==2)=false:=by simp[h2]
 have b3:(c.1==3)=false:=by simp[h3]
 have b4:(c.1==4)=false:=by simp[h4]
 have b5:(c.1==5)=false:=by simp[h5]
 have b6:(c.1==6)=false:=by simp[h6]
 have b7:(c.1==7)=false:=by simp[h7]
 simp only[b1,b2,b3,b4,b5,b6,b7,h1,h2,h3,h4,h5,h6,h7,a2_,a0_,i0_,n0_]
theorem ps_ {l:ab_} (h:Lk l) (c:ak_):cp_ l c=some (dr_ l c,()):=by
 unfold cp_ dr_
 simp only[mp_,vp_ h,np_ h,pr_ h,a0_]
 by_cases h1:c.1=1
 ·simp only[h1]
  cases wi c.2.1 0 (l.1 - 1)<;>cases wi c.2.2.2.1 0 (l.2 - 1)<;>simp only[a5_,a2_,a0_,e2_,c3_,e8_,Int.reduceBEq,k9_,i0_,Int.reduceEq,n5_,n4_,n0_,len0]<;>cases c.2.2.1==0<;>cases c.2.2.2.2.1==0<;>rfl
 by_cases h2:c.1=2
 ·simp only[h2]
  cases wi c.2.1 0 (l.1 - 1)<;>cases wi c.2.2.1 0 (l.1 - 1)<;>cases decide (c.2.1≤c.2.2.1)<;>cases wi c.2.2.2.1 0 100<;>simp only[a5_,a2_,a0_,e2_,c3_,e8_,Int.reduceBEq,k9_,i0_,Int.reduceEq,n5_,n4_,n0_,len0]<;>cases c.2.2.2.2.1==0<;>rfl
 by_cases h3:c.1=3
 ·simp only[h3]
  cases wi c.2.1 0 (l.1 - 1)<;>cases wi c.2.2.1 0 (l.1 - 1)<;>cases c.2.1 != c.2.2.1<;>simp only[a5_,a2_,a0_,e2_,c3_,e8_,Int.reduceBEq,k9_,i0_,Int.reduceEq,n5_,n4_,n0_,len0]<;>cases c.2.2.2.1==0<;>cases c.2.2.2.2.1==0<;>rfl
 by_cases h4:c.1=4
 ·simp only[h4]
  cases wi c.2.1 0 (l.1 - 1)<;>cases wi c.2.2.1 0 (l.1 - 1)<;>cases c.2.1 != c.2.2.1<;>simp only[a5_,a2_,a0_,e2_,c3_,e8_,Int.reduceBEq,k9_,i0_,Int.reduceEq,n5_,n4_,n0_,len0]<;>cases c.2.2.2.1==0<;>cases c.2.2.2.2.1==0<;>rfl
 by_cases h5:c.1=5
 ·simp only[h5]
  cases wi c.2.2.2.1 0 (l.2 - 1)<;>cases wi c.2.2.2.2.1 0 l.1<;>simp only[a5_,a2_,a0_,e2_,c3_,e8_,Int.reduceBEq,k9_,i0_,Int.reduceEq,n5_,n4_,n0_,len0]<;>cases c.2.1==0<;>cases c.2.2.1==0<;>rfl
 by_cases h6:c.1=6
 ·simp only[h6]
  cases dq_ l c.2.2.2.2.2.1<;>cases wi c.2.2.2.1 0 l.1<;>cases wi c.2.2.2.2.1 0 l.1<;>simp only[a5_,a2_,a0_,e2_,c3_,e8_,Int.reduceBEq,k9_,i0_,Int.reduceEq,n5_,n4_,n0_,len0]<;>cases c.2.1==0<;>cases c.2.2.1==0<;>rfl
 by_cases h7:c.1=7
 ·simp only[h7]
  cases wi c.2.1 0 (l.1 - 1)
  ·rfl
  cases hn:wi c.2.2.2.1 2 10
  ·rfl
  have:=cl_.1 hn
  rw[ma_ (n:=c.2.2.2.1 - 1) (by omega) (by omega)]
  cases wi c.2.2.2.2.1 0 (c.2.2.2.1 - 1)<;>simp only[a5_,a2_,a0_,e2_,c3_,e8_,Int.reduceBEq,k9_,i0_,Int.reduceEq,n5_,n4_,n0_,len0]<;>cases c.2.2.1==0<;>rfl
 have b1:(c.1==1)=false:=by simp[h1]
 have b2:(c.1==2)=false:=by simp[h2]
 have b3:(c.1==3)=false:=by simp[h3]
 have b4:(c.1==4)=false:=by simp[h4]
 have b5:(c.1==5)=false:=by simp[h5]
 have b6:(c.1==6)=false:=by simp[h6]
 have b7:(c.1==7)=false:=by simp[h7]
 simp only[b1,b2,b3,b4,b5,b6,b7,h1,h2,h3,h4,h5,h6,h7,a2_,a0_,i0_,n0_]
theorem vm_ {l:ab_} (hl:Lk l) {c:ak_} (hs:Sm c.2.2.2.2.2.1.length):gr_ l c=some (cond (dr_ l c) 0 11,()):=by
 unfold gr_
 rw[md_,pc_.2 hl,if_pos rfl,a0_,vb_ hl hs]
 cases dr_ l c<;>rfl
theorem vq_ {l:ab_} (hl:Lk l) (c:ak_):gt_ l c=some (cond (dr_ l c) 0 11,()):=by
 unfold gt_
 rw[mq_,pc_.2 hl,if_pos rfl,a0_,ps_ hl]
 cases dr_ l c<;>rfl
end
section
theorem ab7 {α τ σ ρ:Type} (l:List α) (f:τ→α→τ) (F:Nat→τ→σ) (R:τ→ρ) (t0:τ) {body:σ→Option (σ⊕ρ)}
  (h:∀ i x t,l[i]?=some x→body (F i t)=some (.inl (F (i+1) (f t x)))) (e:∀ t,body (F l.length t)=some (.inr (R t))):af_ body (F 0 t0)=some (R (l.foldl f t0)):=by
 obtain⟨t,h1,h2⟩:=lj_ l (λ_=>f) F R t0 (λi t=>t=(l.take i).foldl f t0) rfl (λi x t hx ht=>⟨h i x t hx,by
  rw[ht,d9_,hx,m0_]
  rfl⟩) (λt _=>e t)
 rw[h2,h1,d2_]
theorem nq_ {α τ σ ρ υ:Type} (l:List α) (f:τ→α→τ) (F:Nat→τ→σ) (R:τ→ρ) (t0:τ) {body:σ→Option (σ⊕ρ)} {K:ρ→Option υ} {x:Option υ}
  (h:∀ i x t,l[i]?=some x→body (F i t)=some (.inl (F (i+1) (f t x)))) (e:∀ t,body (F l.length t)=some (.inr (R t))) (hk:K (R (l.foldl f t0))=x):(af_ body (F 0 t0)).bind K=x:=by
 rw[ab7 l f F R t0 h e,a0_,hk]
theorem al4 {α β:Type}:∀ (l:List α) (m:List β) (i:Nat),(l.zip m).take i=(l.take i).zip (m.take i)
 | [],m,i=>by simp
 | x::l,[],i=>by cases i<;>simp
 | x::l,y::m,0=>rfl
 | x::l,y::m,i+1=>by simp[al4 l m i]
theorem kx_ {l:ab_} {c:List Int}:dq_ l c=true↔(c.length:Int)=l.1∧∀ n ∈ c,0≤n∧n≤l.2 - 1:=by
 unfold dq_
 rw[a1_,l6_,f2_]
 exact⟨λh=>⟨h.1,λn hn=>cl_.1 (h.2 n hn)⟩,λh=>⟨h.1,λn hn=>cl_.2 (h.2 n hn)⟩⟩
def ac3 (l:List Int) (k:Int):Int:=l.foldl (λs x=>cond (x==k) (w64 (s+1)) s) 0
def cg9 (code guess:List Int):Int:=(code.zip guess).foldl (λs p=>cond (p.1==p.2) (w64 (s+1)) s) 0
def comW (code guess:List Int):Int:=(List.range 10).foldl (λs (k:Nat)=>w64 (s+bl5 (ac3 code k) (ac3 guess k))) 0
theorem ar2 {l:List Int} {j:Nat} {x k:Int} (h:l[j]?=some x):ac3 (l.take (j+1)) k=cond (x==k) (w64 (ac3 (l.take j) k+1)) (ac3 (l.take j) k):=by
 unfold ac3
 rw[d9_,h,m0_]
 rfl
theorem ru_ {l:List Int} {k:Int} (hl:Sm l.length):fc_ l k=some (ac3 l k,()):=by
 unfold fc_ ac3
 refine nq_ l (λs x=>cond (x==k) (w64 (s+1)) s) (λi s=>(s,((i:Int),()))) (λs=>(s,())) 0 (λi x s hx=>by
  have hi:=am_ hx
  simp only[dlt hi,a5_,ah_ hx,a0_,ba_ (show Sm i by unfold Sm at *; omega)]
  cases x==k<;>rfl) (λs=>by simp only[dnl,a2_]) rfl
theorem am9 {l:ab_} (hl:Lk l) {code guess:List Int} (hc:dq_ l code=true) (hg:dq_ l guess=true):jk_ code guess=some (cg9 code guess,(w64 (comW code guess - cg9 code guess),())):=by
 obtain⟨c1,_⟩:=kx_.1 hc
 obtain⟨g1,_⟩:=kx_.1 hg
 have w2:=hl.w2
 have sc:Sm code.length:=by unfold Sm;omega
 have sg:Sm guess.length:=by unfold Sm;omega
 have hz:(code.zip guess).length=code.length:=by rw[n1_];omega
 unfold jk_
 refine nq_ (code.zip guess) (λs p=>cond (p.1==p.2) (w64 (s+1)) s) (λi s=>(s,((i:Int),()))) (λs=>(s,())) 0 (λi p s hp=>by
  obtain⟨h1,h2⟩:=h5_.1 hp
  simp only[dlt (am_ h1),a5_,ah_ h1,ah_ h2,a0_,ba_ (show Sm i by have:=am_ h1;unfold Sm at *; omega)]
  cases p.1==p.2<;>rfl) (λs=>by rw[hz];simp only[dnl,a2_]) ?_
 refine nq_ (List.range 10) (λs (k:Nat)=>w64 (s+bl5 (ac3 code k) (ac3 guess k))) (λi s=>(s,((i:Int),()))) (λs=>(s,())) 0 (λi k s hk=>by
  have hi:=am_ hk
  rw[h9_] at hi
  rw[m6_ hi] at hk
  obtain rfl:=a6_ hk
  simp only[show decide ((i:Int)<10)=true from b5_ (by omega),a5_,ru_ sc,ru_ sg,a0_,ba_ (show Sm i by unfold Sm;omega)]) (λs=>by
  rw[h9_]
  rfl) rfl
theorem aq9 {l:ab_} (hl:Lk l) {code guess:List Int} (hc:dq_ l code=true) (hg:dq_ l guess=true):fi_ code guess=some (cg9 code guess,(w64 (comW code guess - cg9 code guess),())):=by
  obtain⟨c1,c2⟩:=kx_.1 hc
  obtain⟨g1,g2⟩:=kx_.1 hg
  have w2:=hl.w2
  have s2:=hl.s2
  have hz:(code.zip guess).length=code.length:=by rw[n1_];omega
  have tk:∀ i,(code.zip guess).take i=(code.take i).zip (guess.take i):=λi=>al4 _ _ i
  let I:Nat→(Int×(List Int×List Int))→Prop:=λi t=>t.1=cg9 (code.take i) (guess.take i)∧t.2.1.length=10∧t.2.2.length=10∧∀ k:Nat,k<10→t.2.1[k]?=some (ac3 (code.take i) k)∧t.2.2[k]?=some (ac3 (guess.take i) k)
  have h1:=lj_ (code.zip guess) (λ_ (t:Int×(List Int×List Int)) p=>(cond (p.1==p.2) (w64 (t.1+1)) t.1,(t.2.1.set p.1.toNat (w64 ((t.2.1[p.1.toNat]?).getD 0+1)),t.2.2.set p.2.toNat (w64 ((t.2.2[p.2.toNat]?).getD 0+1)))))
    (λi t=>(t.1,((i:Int),(t.2.1,(t.2.2,()))))) (λt=>(t.1,(t.2.1,(t.2.2,())))) (0,([0,0,0,0,0,0,0,0,0,0],[0,0,0,0,0,0,0,0,0,0])) I
    (body:=λ(v0:(Int×(Int×((List Int)×((List Int)×Unit))))) =>
 (cond (decide (v0.2.1<(code.length:Int)))
 ((at? code v0.2.1).bind λv1 =>
 ((((at? guess v0.2.1).bind λv2 =>
 (cond (v1==v2)
 (some ((w64 (v0.1+1)),()))
 (some (v0.1,()))))).bind λv3 =>
 (cond (decide (v1<(10:Int)))
 ((at? v0.2.2.1 v1).bind λv4 =>
 ((at? v0.2.2.1 v1).bind λv5 =>
 (cond (decide (v1<(10:Int)))
 ((at? v0.2.2.1 v1).bind λv6 =>
 ((at? v0.2.2.1 v1).bind λv7 =>
 ((at? guess v0.2.1).bind λv8 =>
 (cond (decide (v8<(10:Int)))
 ((at? v0.2.2.2.1 v8).bind λv9 =>
 ((at? v0.2.2.2.1 v8).bind λv10 =>
 (cond (decide (v8<(10:Int)))
 ((at? v0.2.2.2.1 v8).bind λv11 =>
 ((at? v0.2.2.2.1 v8).bind λv12 =>
 (some (inl (v3.1,((w64 (v0.2.1+1)),((v0.2.2.1.set v1.toNat (w64 (v5+1))),((v0.2.2.2.1.set v8.toNat (w64 (v10+1))),()))))))))
 none)))
 none))))
 none)))
 none)))
 (some (inr (v0.1,(v0.2.2.1,(v0.2.2.2.1,())))))))
    ⟨rfl,rfl,rfl,λk hk=>⟨by
      match k,hk with
      | 0,_ | 1,_ | 2,_ | 3,_ | 4,_ | 5,_ | 6,_ | 7,_ | 8,_ | 9,_=>rfl,by
      match k,hk with
      | 0,_ | 1,_ | 2,_ | 3,_ | 4,_ | 5,_ | 6,_ | 7,_ | 8,_ | 9,_=>rfl⟩⟩ (λi p t hp ht=>by
      obtain⟨x,y⟩:=p
      obtain⟨hx,hy⟩:=h5_.1 hp
      obtain⟨t1,t2,t3,t4⟩:=ht
      have hx':=c2 x (b4_ hx)
      have hy':=g2 y (b4_ hy)
      have ax:at? t.2.1 x=some (ac3 (code.take i) x):=by
        have:=(t4 x.toNat (by omega)).1
        rw[show ((x.toNat:Nat):Int)=x by omega] at this
        unfold at?
        rw[if_pos hx'.1]
        exact this
      have ay:at? t.2.2 y=some (ac3 (guess.take i) y):=by
        have:=(t4 y.toNat (by omega)).2
        rw[show ((y.toNat:Nat):Int)=y by omega] at this
        unfold at?
        rw[if_pos hy'.1]
        exact this
      have gx:t.2.1[x.toNat]?=some (ac3 (code.take i) x):=by
        have:=(t4 x.toNat (by omega)).1
        rwa [show ((x.toNat:Nat):Int)=x by omega] at this
      have gy:t.2.2[y.toNat]?=some (ac3 (guess.take i) y):=by
        have:=(t4 y.toNat (by omega)).2
        rwa [show ((y.toNat:Nat):Int)=y by omega] at this
      refine⟨?_,?_,?_,?_,λk hk => ?_⟩
      · simp only[dlt (am_ hx),a5_,ah_ hx,ah_ hy,a0_,ax,ay,show decide (x<10)=true from b5_ (by omega),show decide (y<10)=true from b5_ (by omega),ba_ (show Sm i by have:=am_ hx;unfold Sm;omega),gx,gy,f8_]
        cases x==y<;>rfl
      · show cond (x==y) (w64 (t.1+1)) t.1=cg9 (code.take (i+1)) (guess.take (i+1))
        unfold cg9
        rw[← tk,d9_,hp,m0_,tk,t1]
        rfl
      · simp[t2]
      · simp[t3]
      · obtain⟨q1,q2⟩:=t4 k hk
        constructor
        · show (t.2.1.set x.toNat (w64 ((t.2.1[x.toNat]?).getD 0+1)))[k]?=_
          rw[ar2 hx,gx,f8_,g4_]
          by_cases e:x.toNat=k
          · have e2:x=(k:Int):=by omega
            rw[if_pos e,if_pos (by omega),e2,e2_,a5_]
          · have e2:(x==(k:Int))=false:=by simp;omega
            rw[if_neg e,q1,e2,a2_]
        · show (t.2.2.set y.toNat (w64 ((t.2.2[y.toNat]?).getD 0+1)))[k]?=_
          rw[ar2 hy,gy,f8_,g4_]
          by_cases e:y.toNat=k
          · have e2:y=(k:Int):=by omega
            rw[if_pos e,if_pos (by omega),e2,e2_,a5_]
          · have e2:(y==(k:Int))=false:=by simp;omega
            rw[if_neg e,q2,e2,a2_]) (λt _=>by rw[hz];simp only[dnl,a2_])
  obtain⟨t,⟨t1,t2,t3,t4⟩,h2⟩:=h1
  rw[hz] at t1 t4
  rw[d2_,show guess.take code.length=guess by rw[g8_ (by omega)]] at t1
  unfold fi_
  refine (congrArg (λo=>Option.bind o _) h2).trans ?_
  rw[a0_]
  refine nq_ (List.range 10) (λs (k:Nat)=>w64 (s+bl5 (ac3 code k) (ac3 guess k))) (λi s=>(s,((i:Int),()))) (λs=>(s,())) 0 (λi k s hk=>by
    have hi:=am_ hk
    rw[h9_] at hi
    rw[m6_ hi] at hk
    obtain rfl:=a6_ hk
    obtain⟨q1,q2⟩:=t4 i hi
    rw[d2_] at q1
    rw[show guess.take code.length=guess by rw[g8_ (by omega)]] at q2
    simp only[show decide ((i:Int)<10)=true from b5_ (by omega),a5_,ah_ q1,ah_ q2,a0_,ba_ (show Sm i by unfold Sm;omega)]) (λs=>by
    rw[h9_]
    rfl) ?_
  rw[t1]
  rfl
end
section
def xr_ (code:List Int) (a b:Int):List Int:=(code.take (b+1).toNat).drop a.toNat
def sumW (l:List Int):Int:=l.foldl (λs x=>w64 (s+x)) 0
def gt0 (code:List Int) (i:Int):Int:=(at? code i).getD 0
def plV (c:ak_) (code:List Int):Bool :=
 cond (c.1==1) (gt0 code c.2.1==c.2.2.2.1) <|
 cond (c.1==2) (sumW (xr_ code c.2.1 c.2.2.1)==c.2.2.2.1) <|
 cond (c.1==3) (decide (gt0 code c.2.1<gt0 code c.2.2.1)) <|
 cond (c.1==4) (gt0 code c.2.1==gt0 code c.2.2.1) <|
 cond (c.1==5) (ac3 code c.2.2.2.1==c.2.2.2.2.1) <|
 cond (c.1==6) (cond (cg9 code c.2.2.2.2.2.1==c.2.2.2.1) (w64 (comW code c.2.2.2.2.2.1 - cg9 code c.2.2.2.2.2.1)==c.2.2.2.2.1) false) <|
 cond (c.1==7) ((gt0 code c.2.1).tmod c.2.2.2.1==c.2.2.2.2.1) false
def tr (c:ak_) (code:List Int):Bool:=plV c code != c.2.2.2.2.2.2
theorem gt0_at {code:List Int} {i x:Int} (h:at? code i=some x):gt0 code i=x:=by unfold gt0;rw[h];rfl
theorem qy_ {l:ab_} (hl:Lk l) {c:ak_} {code:List Int} (hc:dr_ l c=true) (hk:dq_ l code=true):ge_ c code=some (tr c code,())∧ek_ c code=some (tr c code,()):=by
 obtain⟨c1,c2⟩:=kx_.1 hk
 have w1:=hl.w1;have w2:=hl.w2;have s1:=hl.s1;have s2:=hl.s2
 have sc:Sm code.length:=by unfold Sm;omega
 unfold dr_ at hc
 have hat:∀ i,wi i 0 (l.1 - 1)=true→at? code i=some (gt0 code i):=by
  intro i hi
  obtain⟨a,b⟩:=cl_.1 hi
  obtain⟨x,h1⟩:=bc_ (l:=code) (i:=i.toNat) (by omega)
  have h2:at? code i=some x:=by unfold at?; rw[if_pos a];exact h1
  rw[h2,gt0_at h2]
 unfold ge_ ek_ ik_ tr plV
 by_cases h1:c.1=1
 ·simp only[h1,k9_,a1_] at hc
  have hx:=hat _ hc.1
  simp only[h1,hx,e2_,a5_,a0_,and_self]
 have b1:(c.1==1)=false:=by simp[h1]
 simp only[b1,a2_]
 by_cases h2:c.1=2
 ·simp only[h2,k9_,a1_,show ¬ ((2:Int)=1) by omega,i0_] at hc
  obtain⟨hA,hB,hAB,_⟩:=hc
  obtain⟨a1,a2⟩:=cl_.1 hA
  obtain⟨d1,d2⟩:=cl_.1 hB
  have hab:c.2.1≤c.2.2.1:=by simpa using hAB
  have hsub:sub? code c.2.1 (w64 (c.2.2.1+1))=some (xr_ code c.2.1 c.2.2.1):=by
   rw[ma_ (by omega) (by omega)]
   unfold sub? xr_
   rw[if_pos ⟨a1,by omega,by omega⟩]
  have hsl:(xr_ code c.2.1 c.2.2.1).length=(c.2.2.1 - c.2.1+1).toNat:=by
   unfold xr_
   rw[i7_,c5_]
   omega
  have hsg:∀ (j:Nat) x,(xr_ code c.2.1 c.2.2.1)[j]?=some x→at? code (c.2.1+(j:Int))=some x:=by
   intro j x hj
   have hlt:=am_ hj
   unfold xr_ at hj
   rw[List.getElem?_drop,j4_,if_pos (by omega)] at hj
   unfold at?
   rw[if_pos (by omega),show (c.2.1+(j:Int)).toNat=c.2.1.toNat+j by omega]
   exact hj
  simp only[h2,e2_,a5_,hsub,a0_]
  constructor
  ·have:=ab7 (xr_ code c.2.1 c.2.2.1) (λs x=>w64 (s+x)) (λi s=>(s,(c.2.1+(i:Int),()))) (λs=>(s,())) 0 (body:=λ(v1:(Int×(Int×Unit))) =>
    (cond (decide (v1.2.1≤c.2.2.1))
    ((at? code v1.2.1).bind λv2 =>
    (some (inl ((w64 (v1.1+v2)),((w64 (v1.2.1+1)),())))))
    (some (inr (v1.1,()))))) (λi x s hx=>by
    have hi:=am_ hx
    simp only[show decide (c.2.1+(i:Int)≤c.2.2.1)=true from b5_ (by omega),a5_,hsg i x hx,a0_,ma_ (n:=c.2.1+(i:Int)+1) (by omega) (by omega)]
    rw[show c.2.1+(i:Int)+1=c.2.1+((i+1:Nat):Int) by omega]) (λs=>by
    simp only[show decide (c.2.1+((xr_ code c.2.1 c.2.2.1).length:Int)≤c.2.2.1)=false from b6_ (by omega),a2_])
   simp only[Int.natCast_zero,Int.add_zero] at this
   rw[this]
   rfl
  ·refine congrArg (λo=>Option.bind o _) (?_:_=some (sumW (xr_ code c.2.1 c.2.2.1)==c.2.2.2.1,())) |>.trans rfl
   refine nq_ (xr_ code c.2.1 c.2.2.1) (λs x=>w64 (s+x)) (λi s=>(s,((i:Int),()))) (λs=>(s,())) 0 (λi x s hx=>by
    have hi:=am_ hx
    simp only[dlt hi,a5_,ah_ hx,a0_,ba_ (show Sm i by unfold Sm;omega)]) (λs=>by simp only[dnl,a2_]) rfl
 have b2:(c.1==2)=false:=by simp[h2]
 simp only[b2,a2_]
 by_cases h3:c.1=3
 ·simp only[h3,k9_,a1_,show ¬ ((3:Int)=1) by omega,show ¬ ((3:Int)=2) by omega,i0_,n4_] at hc
  simp only[h3,hat _ hc.1,hat _ hc.2.1,e2_,a5_,a0_,and_self]
 have b3:(c.1==3)=false:=by simp[h3]
 simp only[b3,a2_]
 by_cases h4:c.1=4
 ·simp only[h4,k9_,a1_,show ¬ ((4:Int)=1) by omega,show ¬ ((4:Int)=2) by omega,i0_,n5_] at hc
  simp only[h4,hat _ hc.1,hat _ hc.2.1,e2_,a5_,a0_,and_self]
 have b4:(c.1==4)=false:=by simp[h4]
 simp only[b4,a2_]
 by_cases h5:c.1=5
 ·have hs:=ru_ (k:=c.2.2.2.1) sc
  simp only[h5,e2_,a5_,hs,a0_,true_and]
  have:=hs
  unfold fc_ at this
  obtain⟨y,h6,h7⟩:=bnd this
  rw[h6]
  have e:y.1=ac3 code c.2.2.2.1:=congrArg Prod.fst (a6_ h7)
  rw[a0_,a0_,e]
 have b5:(c.1==5)=false:=by simp[h5]
 simp only[b5,a2_]
 by_cases h6:c.1=6
 ·simp only[h6,k9_,a1_,show ¬ ((6:Int)=1) by omega,show ¬ ((6:Int)=2) by omega,show ¬ ((6:Int)=3∨(6:Int)=4) by omega,show ¬ ((6:Int)=5) by omega,i0_] at hc
  simp only[h6,e2_,a5_,am9 hl hk hc.1,aq9 hl hk hc.1,a0_]
  cases cg9 code c.2.2.2.2.2.1==c.2.2.2.1<;>exact⟨rfl,rfl⟩
 have b6:(c.1==6)=false:=by simp[h6]
 simp only[b6,a2_]
 by_cases h7:c.1=7
 ·simp only[h7,k9_,a1_,show ¬ ((7:Int)=1) by omega,show ¬ ((7:Int)=2) by omega,show ¬ ((7:Int)=3∨(7:Int)=4) by omega,show ¬ ((7:Int)=5) by omega,show ¬ ((7:Int)=6) by omega,i0_] at hc
  obtain⟨n1,n2⟩:=cl_.1 hc.2.1
  have hm:md (gt0 code c.2.1) c.2.2.2.1=some ((gt0 code c.2.1).tmod c.2.2.2.1):=bw7 (by omega)
  simp only[h7,hat _ hc.1,hm,e2_,a5_,a0_,and_self]
 ·simp[h1,h2,h3,h4,h5,h6,h7] at hc
end
section
def ju_ (S:Nat):Nat→List (List Int)
 | 0=>[[]]
 | W+1=>(List.range S).flatMap λ(x:Nat)=>(ju_ S W).map λc=>(x:Int)::c
theorem bf4 {α β:Type} {f:α→List β} {m:Nat}:∀ (l:List α),(∀ x ∈ l,(f x).length=m)→(l.flatMap f).length=l.length * m
 | [],_=>by simp
 | x::l,h=>by
  rw[p3_,a8_,h x (by simp),bf4 l (λy hy=>h y (by simp[hy])),c1_,j7_]
  omega
theorem bf5 {α β:Type} {f:α→List β} {m:Nat}:∀ (l:List α) (q r:Nat) (x:α),(∀ x ∈ l,(f x).length=m)→r<m→l[q]?=some x→(l.flatMap f)[q * m+r]?=(f x)[r]?
 | [],q,r,x,h,hr,hq=>by simp at hq
 | y::l,0,r,x,h,hr,hq=>by
  have e:y=x:=by simpa using hq
  subst e
  rw[p3_,Nat.zero_mul,b0_,b1_ (by rw[h y (by simp)];exact hr)]
 | y::l,q+1,r,x,h,hr,hq=>by
  have hq':l[q]?=some x:=by simpa using hq
  have hl:=h y (by simp)
  rw[p3_,c6_ (by rw[hl,j7_];omega),hl,show (q+1) * m+r - m=q * m+r by rw[j7_];omega]
  exact bf5 l q r x (λz hz=>h z (by simp[hz])) hr hq'
theorem rb_ (S:Nat):∀ W,(ju_ S W).length=S ^ W
 | 0=>rfl
 | W+1=>by
  unfold ju_
  rw[bf4 (m:=S ^ W) _ (λx _=>by rw[e0_,rb_ S W]),h9_,k3_,k6_]
theorem um_ (S:Nat):∀ W c,c ∈ ju_ S W↔c.length=W∧∀ n ∈ c,0≤n∧n<(S:Int)
 | 0,c=>by
  unfold ju_
  rw[e7_]
  constructor
  ·rintro rfl;exact⟨rfl,by simp⟩
  ·rintro⟨h,_⟩;exact n2_.1 h
 | W+1,c=>by
  unfold ju_
  rw[List.mem_flatMap]
  constructor
  ·rintro⟨x,hx,hc⟩
   obtain⟨d,hd,rfl⟩:=d3_.1 hc
   obtain⟨h1,h2⟩:=(um_ S W d).1 hd
   have:=m3_.1 hx
   refine⟨by rw[c1_,h1],λn hn => ?_⟩
   rcases d8_.1 hn with rfl | hn
   ·omega
   ·exact h2 n hn
  ·rintro⟨h1,h2⟩
   cases c with
   | nil=>simp at h1
   | cons x c =>
    obtain⟨a,b⟩:=h2 x (by simp)
    refine⟨x.toNat,m3_.2 (by omega),d3_.2 ⟨c,(um_ S W c).2 ⟨by simpa using h1,λn hn=>h2 n (by simp[hn])⟩,?_⟩⟩
    rw[show ((x.toNat:Nat):Int)=x by omega]
def dig (S:Nat):Nat→Nat→List Int
 | 0,_=>[]
 | W+1,i=>dig S W (i / S)++[((i % S:Nat):Int)]
theorem cc0 (S:Nat):∀ W i,(dig S W i).length=W
 | 0,_=>rfl
 | W+1,i=>by unfold dig;rw[a8_,cc0 S W];rfl
theorem bg2 {S:Nat} (hS:0<S):∀ (W q r:Nat),q<S→r<S ^ W→dig S (W+1) (q * S ^ W+r)=(q:Int)::dig S W r
 | 0,q,r,hq,hr=>by
  have:r=0:=by simpa using hr
  subst this
  simp[dig,k4_ hq]
 | W+1,q,r,hq,hr=>by
  have e1:(q * S ^ (W+1)+r) / S=q * S ^ W+r / S:=by
   rw[k3_,← Nat.mul_assoc,k6_ (q * S ^ W) S,Nat.mul_add_div hS]
  have e2:(q * S ^ (W+1)+r) % S=r % S:=by
   rw[k3_,← Nat.mul_assoc,k6_ (q * S ^ W) S,Nat.mul_add_mod]
  have hr':r / S<S ^ W:=Nat.div_lt_of_lt_mul (by rw[k6_,← k3_];exact hr)
  rw[dig,e1,e2,bg2 hS W q (r / S) hq hr']
  rfl
theorem rc_ {S:Nat} (hS:0<S):∀ (W i:Nat),i<S ^ W→(ju_ S W)[i]?=some (dig S W i)
 | 0,i,h=>by
  have:i=0:=by simpa using h
  subst this;rfl
 | W+1,i,h=>by
  have hP:0<S ^ W:=Nat.pow_pos hS
  have hr:i % S ^ W<S ^ W:=q1_ _ hP
  have hq:i / S ^ W<S:=Nat.div_lt_of_lt_mul (by rw[← k3_];exact h)
  have he:i=i / S ^ W * S ^ W+i % S ^ W:=by rw[k6_];exact (Nat.div_add_mod i (S ^ W)).symm
  rw[he,bg2 hS W _ _ hq hr]
  unfold ju_
  rw[bf5 (m:=S ^ W) _ _ _ (i / S ^ W) (λx _=>by rw[e0_,rb_]) hr (by rw[m6_ hq]),e3_,rc_ hS W _ hr]
  rfl
def rdg (l:ab_) (cl:List ak_):List (List Int):=(ju_ l.2.toNat l.1.toNat).filter λc=>cl.all (tr · c)
theorem bg4 {l:ab_} (hl:Lk l) {c:List Int}:c ∈ ju_ l.2.toNat l.1.toNat↔dq_ l c=true:=by
 have:=hl.w1;have:=hl.s1
 rw[um_,kx_]
 constructor
 ·rintro⟨a,b⟩;exact⟨by omega,λn hn=>by have:=b n hn;omega⟩
 ·rintro⟨a,b⟩;exact⟨by omega,λn hn=>by have:=b n hn;omega⟩
theorem ct5 {l:ab_} (hl:Lk l):l.2.toNat ^ l.1.toNat≤10000:=by
 have:=hl.w1;have:=hl.w2;have:=hl.s1;have:=hl.s2
 have h1:l.2.toNat ^ l.1.toNat≤10 ^ l.1.toNat:=Nat.pow_le_pow_left (by omega) _
 have h2:10 ^ l.1.toNat≤10 ^ 4:=Nat.pow_le_pow_right (by omega) (by omega)
 omega
theorem cf4 (cl:List ak_) (code:List Int):(!(cl.any λc=>!(tr c code)))=cl.all (tr · code):=uu_ cl λc=>tr c code
theorem av5 {l:ab_} (hl:Lk l) {cl:List ak_} (hn:cl.length≤20) {code:List Int} (hc:∀ c ∈ cl,dr_ l c=true) (hk:dq_ l code=true):∃ r,kr_ cl code=some (r,())∧decide (r<0)=cl.all (tr · code):=by
 obtain⟨n,h1,h2,_⟩:=bz3 (l:=cl) (by unfold Sm;omega) (λc=>!(tr c code)) (body:=λ(v0:(Int×Unit)) =>
  (cond (decide (v0.1<(cl.length:Int)))
  ((at? cl v0.1).bind λv1 =>
  ((ge_ v1 code).bind λv2 =>
  (cond (!v2.1)
  (some (inr (inr (v0.1,()))))
  (some (inl ((w64 (v0.1+1)),()))))))
  (some (inr (inl ()))))) (λi c hi=>by
  simp only[dlt (am_ hi),a5_,ah_ hi,a0_,(qy_ hl (hc c (b4_ hi)) hk).1]
  cases tr c code<;>rfl) (by simp only[dnl,a2_])
 exact⟨n,h1,by rw[h2,cf4]⟩
theorem ay4 {l:ab_} (hl:Lk l) {cl:List ak_} (hn:cl.length≤20) {code:List Int} (hc:∀ c ∈ cl,dr_ l c=true) (hk:dq_ l code=true):∃ r,el_ cl code=some (r,())∧decide (r<0)=cl.all (tr · code):=by
 obtain⟨n,h1,h2,_⟩:=bz3 (l:=cl) (by unfold Sm;omega) (λc=>!(tr c code)) (body:=λ(v0:(Int×Unit)) =>
  (cond (decide (v0.1<(cl.length:Int)))
  ((at? cl v0.1).bind λv1 =>
  ((ek_ v1 code).bind λv2 =>
  (cond (!v2.1)
  (some (inr (inr (v0.1,()))))
  (some (inl ((w64 (v0.1+1)),()))))))
  (some (inr (inl ()))))) (λi c hi=>by
  simp only[dlt (am_ hi),a5_,ah_ hi,a0_,(qy_ hl (hc c (b4_ hi)) hk).2]
  cases tr c code<;>rfl) (by simp only[dnl,a2_])
 exact⟨n,h1,by rw[h2,cf4]⟩
theorem rep_set {p:Nat} {x:Int} {t:List Int}:(List.replicate (p+1) (0:Int)++t).set p x=List.replicate p 0++(x::t):=by
 rw[List.set_append_left _ _ (by rw[f1_];omega),q2_,p9_ _ _ (by rw[f1_];omega),f1_,k5_]
 simp
theorem cq0 {l:ab_} (hl:Lk l) {S:Nat} (hS:l.2=(S:Int)):∀ (p n:Nat) (t:List Int),p≤4→n≤10000→af_ (ρ:=((List Int)×Unit)) (λ(v4:(Int×(Int×((List Int)×Unit)))) =>
 (cond (decide (0≤v4.2.1))
 ((md v4.1 l.2).bind λv5 =>
 ((at? v4.2.2.1 v4.2.1).bind λv6 =>
 ((at? v4.2.2.1 v4.2.1).bind λv7 =>
 ((dv v4.1 l.2).bind λv8 =>
 (some (inl (v8,((w64 (v4.2.1 - 1)),((v4.2.2.1.set v4.2.1.toNat v5),())))))))))
 (some (inr (v4.2.2.1,()))))) ((n:Int),((p:Int) - 1,(List.replicate p 0++t,())))=some (dig S p n++t,()):=by
  have s1:=hl.s1;have s2:=hl.s2
  intro p
  induction p with
  | zero =>
    intro n t _ _
    refine nd_ ?_
    simp[dig]
  | succ p ih =>
    intro n t hp hn
    have hd:dv (n:Int) l.2=some ((n / S:Nat):Int):=by
      unfold dv
      have:n / S≤n:=Nat.div_le_self n S
      rw[hS,if_neg (by omega),show (n:Int).tdiv (S:Int)=((n / S:Nat):Int) from (Int.ofNat_tdiv ..).symm]
      generalize n / S=q at this
      rw[ma_ (by omega) (by omega)]
    have hm:md (n:Int) l.2=some ((n % S:Nat):Int):=by
      rw[hS,bw7 (by omega),show (n:Int).tmod (S:Int)=((n % S:Nat):Int) from (Int.ofNat_tmod ..).symm]
    obtain⟨y,hy⟩:=bc_ (l:=List.replicate (p+1) (0:Int)++t) (i:=p) (by simp;omega)
    have e:((p+1:Nat):Int) - 1=((p:Nat):Int):=by omega
    refine (qd_ (s':=(((n / S:Nat):Int),((p:Int) - 1,(List.replicate p 0++(((n % S:Nat):Int)::t),())))) ?_).trans ?_
    · simp only[e,show decide (0≤(p:Int))=true from b5_ (by omega),a5_,hm,hd,ah_ hy,a0_,b9_,rep_set,ma_ (n:=(p:Int) - 1) (by omega) (by omega)]
    · rw[ih (n / S) _ (by omega) (c7_ (Nat.div_le_self n S) hn)]
      simp[dig]
theorem bs0 {l:ab_} (hl:Lk l) {cl:List ak_} (hn:cl.length≤20) (hc:∀ c ∈ cl,dr_ l c=true):oc_ l cl=some (rdg l cl,()):=by
  have w1:=hl.w1;have w2:=hl.w2;have s1:=hl.s1;have s2:=hl.s2
  obtain⟨W,hW⟩:∃ W:Nat,l.1=(W:Int):=⟨l.1.toNat,by omega⟩
  obtain⟨S,hS⟩:∃ S:Nat,l.2=(S:Int):=⟨l.2.toNat,by omega⟩
  have hpow:S ^ W≤10000:=by have:=ct5 hl;rwa [hW,hS,b9_,b9_] at this
  have hSp:0<S:=by omega
  have hlen:=rb_ S W
  have e1:af_ (ρ:=(Int×Unit)) (λ(v0:(Int×(Int×Unit))) =>
      (cond (decide (v0.2.1<l.1))
      (some (inl ((w64 (v0.1 * l.2)),((w64 (v0.2.1+1)),()))))
      (some (inr (v0.1,()))))) (1,(0,()))=some (((S ^ W:Nat):Int),()):=by
    obtain⟨t,rfl,h2⟩:=lj_ (List.range W) (λi t x=>t * S) (λi (t:Nat)=>((t:Int),((i:Int),()))) (λt=>((t:Int),())) 1 (λi t=>t=S ^ i) (body:=λ(v0:(Int×(Int×Unit))) =>
      (cond (decide (v0.2.1<l.1))
      (some (inl ((w64 (v0.1 * l.2)),((w64 (v0.2.1+1)),()))))
      (some (inr (v0.1,()))))) rfl (λi x t hi ht=>by
      have hi2:=am_ hi
      rw[h9_] at hi2
      have:S ^ (i+1)≤10000:=c7_ (Nat.pow_le_pow_right hSp (by omega)) hpow
      refine⟨?_,by rw[ht,k3_]⟩
      simp only[show decide ((i:Int)<l.1)=true from b5_ (by omega),a5_,ba_ (show Sm i by unfold Sm;omega)]
      rw[hS,← Int.natCast_mul,ht,show S ^ i * S=S ^ (i+1) from (k3_ ..).symm,ma_ (by omega) (by omega)]) (λt _=>by
      rw[h9_]
      simp only[show decide ((W:Int)<l.1)=false from b6_ (by omega),a2_])
    rw[h9_] at h2
    exact h2
  unfold oc_
  refine (congrArg (λo=>Option.bind o _) e1).trans ?_
  rw[a0_]
  obtain⟨t,h1,h2⟩:=lj_ (ju_ S W) (λj t c=>cond (cl.all (tr · c)) (t++[c]) t) (λj (t:List (List Int))=>(t,((j:Int),()))) (λt=>(t,())) [] (λj t=>t=((ju_ S W).take j).filter λc=>cl.all (tr · c)) (body:=λ(v2:((List (List Int))×(Int×Unit))) =>
 (cond (decide (v2.2.1<((S ^ W:Nat):Int)))
 ((((mk? (α:=Int) l.1 0).bind λv3 =>
 ((af_ (ρ:=((List Int)×Unit)) (λ(v4:(Int×(Int×((List Int)×Unit)))) =>
 (cond (decide (0≤v4.2.1))
 ((md v4.1 l.2).bind λv5 =>
 ((at? v4.2.2.1 v4.2.1).bind λv6 =>
 ((at? v4.2.2.1 v4.2.1).bind λv7 =>
 ((dv v4.1 l.2).bind λv8 =>
 (some (inl (v8,((w64 (v4.2.1 - 1)),((v4.2.2.1.set v4.2.1.toNat v5),())))))))))
 (some (inr (v4.2.2.1,()))))) (v2.2.1,((w64 (l.1 - 1)),(v3,())))).bind λv9 =>
 ((kr_ cl v9.1).bind λv10 =>
 (cond (decide (v10.1<0))
 ((push? (α:=(List Int)) v2.1 [v9.1]).bind λv11 =>
 (some (v11,())))
 (some (v2.1,()))))))).bind λv12 =>
 (some (inl (v12.1,((w64 (v2.2.1+1)),())))))
 (some (inr (v2.1,()))))) rfl (λj c t hj ht=>by
    have hj2:=am_ hj
    rw[hlen] at hj2
    have hg:=rc_ hSp W j hj2
    rw[hj] at hg
    obtain rfl:=a6_ hg
    have hok:dq_ l (dig S W j)=true:=(bg4 hl (c:=dig S W j)).1 (by rw[hW,hS,b9_,b9_];exact b4_ hj)
    obtain⟨r,r1,r2⟩:=av5 hl hn hc hok
    have hdig:=cq0 hl hS W j [] (by omega) (by omega)
    rw[e9_,e9_] at hdig
    have hb:=k7_ (λc=>cl.all (tr · c)) ((ju_ S W).take j)
    rw[c5_] at hb
    refine⟨?_,?_⟩
    · simp only[show decide ((j:Int)<((S ^ W:Nat):Int))=true from b5_ (by omega),a5_,xz_ (show 0≤l.1 by omega) (show l.1≤2147483648 by omega),a0_,hl.ww,show l.1.toNat=W by omega,ba_ (show Sm j by unfold Sm;omega)]
      rw[show l.1 - 1=(W:Int) - 1 by omega]
      have:∀ (K:(List Int×Unit)→Option ((List (List Int)×(Int×Unit))⊕(List (List Int)×Unit))),Option.bind (some (dig S W j,())) K=K (dig S W j,()):=λK=>rfl
      rw[hdig,a0_,r1,a0_,r2]
      cases hp:cl.all (tr · (dig S W j)) with
      | false=>rfl
      | true =>
        rw[a5_,af5 (by rw[ht];simp only[c8_];omega)]
        rfl
    · rw[ht,d9_,hj,n3_]
      cases hp:cl.all (tr · (dig S W j))<;>simp[hp]) (λt _=>by
    rw[hlen]
    simp only[dnl,a2_])
  refine (congrArg (λo=>Option.bind o _) h2).trans ?_
  rw[a0_,h1,d2_]
  unfold rdg
  rw[hW,hS,b9_,b9_]
end
section
theorem bn8 {σ ρ:Type} {body:σ→Option (σ⊕ρ)} (F:Nat→σ) {n:Nat} {r:ρ} (h:∀ j,j<n→body (F j)=some (.inl (F (j+1)))) (e:body (F n)=some (.inr r)):af_ body (F 0)=some r:=by
 have:=nc_ (body:=body) (λj s=>s=F j) (λx=>x=r) n 0 (F 0) rfl (λj s _ hj q=>by subst q;exact .inl ⟨_,h j (by omega),rfl⟩) (λs q=>by subst q;rw[b0_];exact⟨_,e,rfl⟩)
 obtain⟨x,h1,rfl⟩:=this
 exact h1
theorem cj4 {p:List Int} {x y:Int} {t:List Int}:(p++x::t).set p.length y=p++y::t:=by
 rw[p9_ _ _ (c4_ _),k5_]
 rfl
theorem co8 {p:List Int} {x:Int} {t:List Int}:at? (p++x::t) ((p.length:Nat):Int)=some x:=by
 rw[az0,c6_ (c4_ _),k5_]
 rfl
def odoB (l:ab_):(Int×(List Int×Unit))→Option ((Int×(List Int×Unit))⊕(Int×(List Int×Unit))):=(λ(v3:(Int×((List Int)×Unit))) =>
 (((cond (decide (0≤v3.1))
 ((at? v3.2.1 v3.1).bind λv4 =>
 ((at? v3.2.1 v3.1).bind λv5 =>
 (some ((v5==(w64 (l.2 - 1))),()))))
 (some (false,())))).bind λv6 =>
 (cond v6.1
 ((at? v3.2.1 v3.1).bind λv7 =>
 ((at? v3.2.1 v3.1).bind λv8 =>
 (some (inl ((w64 (v3.1 - 1)),((v3.2.1.set v3.1.toNat 0),()))))))
 (some (inr (v3.1,(v3.2.1,())))))))
theorem odo {l:ab_} (hl:Lk l) {S:Nat} (hS:l.2=(S:Int)):∀ (W j k:Nat),W≤4→∃ (i:Int) (c:List Int),
  af_ (odoB l) ((W:Int) - 1,(dig S W j++List.replicate k 0,()))=some (i,(c,())) ∧
  (j+1=S ^ W→i<0)∧(j+1<S ^ W→0≤i∧∃ x,at? c i=some x∧c.set i.toNat (w64 (x+1))=dig S W (j+1)++List.replicate k 0):=by
 have s1:=hl.s1;have s2:=hl.s2
 intro W
 induction W with
 | zero =>
  intro j k _
  refine⟨_,_,nd_ (r:=((0:Int) - 1,(dig S 0 j++List.replicate k 0,()))) rfl,λ_=>by omega,λh => ?_⟩
  simp at h
 | succ W ih =>
  intro j k hW
  have hd:dig S (W+1) j++List.replicate k 0=dig S W (j / S)++((j % S:Nat):Int)::List.replicate k 0:=by rw[dig,b3_];rfl
  have hlen:=cc0 S W (j / S)
  have hg:at? (dig S W (j / S)++((j % S:Nat):Int)::List.replicate k 0) ((W:Nat):Int)=some ((j % S:Nat):Int):=by
   have:=co8 (p:=dig S W (j / S)) (x:=((j % S:Nat):Int)) (t:=List.replicate k 0)
   rwa [hlen] at this
  have hse:∀ y:Int,(dig S W (j / S)++((j % S:Nat):Int)::List.replicate k 0).set W y=dig S W (j / S)++y::List.replicate k 0:=λy=>by
   have:=cj4 (p:=dig S W (j / S)) (x:=((j % S:Nat):Int)) (y:=y) (t:=List.replicate k 0)
   rwa [hlen] at this
  have hmod:j % S<S:=q1_ _ (by omega)
  have hdm:=Nat.div_add_mod j S
  have hpos:decide (0≤(W:Int))=true:=b5_ (by omega)
  rw[hd,show ((W+1:Nat):Int) - 1=(W:Int) by omega]
  by_cases h9:j % S=S - 1
  ·obtain⟨i,c,e1,e2,e3⟩:=ih (j / S) (k+1) (by omega)
   have hj1:j+1=S * (j / S+1):=by rw[Nat.mul_add,q4_];omega
   have hb:(((j % S:Nat):Int)==w64 (l.2 - 1))=true:=by rw[hl.ws,hS];simp;omega
   refine⟨i,c,?_,λh=>e2 ?_,λh => ?_⟩
   ·rw[← e1]
    refine qd_ ?_
    unfold odoB
    simp only[hpos,a5_,hg,a0_,hb,b9_,hse,ma_ (n:=(W:Int) - 1) (by omega) (by omega)]
    rfl
   ·rw[k3_,k6_] at h
    rw[hj1] at h
    exact Nat.eq_of_mul_eq_mul_left (by omega) h
   ·have:j / S+1<S ^ W:=by
     rw[k3_,k6_,hj1] at h
     exact Nat.lt_of_mul_lt_mul_left h
    obtain⟨f1,x,f2,f3⟩:=e3 this
    refine⟨f1,x,f2,?_⟩
    rw[f3,dig,hj1,Nat.mul_div_cancel_left _ (by omega),Nat.mul_mod_right,b3_]
    rfl
  ·have hb:(((j % S:Nat):Int)==w64 (l.2 - 1))=false:=by rw[hl.ws,hS];simp;omega
   refine⟨_,_,nd_ (r:=((W:Int),(dig S W (j / S)++((j % S:Nat):Int)::List.replicate k 0,()))) (by
    unfold odoB
    simp only[hpos,a5_,hg,a0_,hb,a2_]),λh => ?_,λh=>⟨by omega,_,hg,?_⟩⟩
   ·exfalso
    have:(j+1) % S=0:=by rw[h,k3_];exact Nat.mul_mod_left _ _
    have h2:(j+1) % S=j % S+1:=by rw[Nat.add_mod,k4_ (show 1<S by omega),k4_ (by omega)]
    omega
   ·simp only[b9_]
    rw[hse,ma_ (by omega) (by omega),dig,b3_]
    have h2:(j+1) % S=j % S+1:=by rw[Nat.add_mod,k4_ (show 1<S by omega),k4_ (by omega)]
    have h3:(j+1) / S=j / S:=by
     refine Nat.div_eq_of_lt_le ?_ ?_
     ·rw[k6_];omega
     ·rw[k6_,Nat.mul_add];omega
    rw[h2,h3]
    simp
theorem bg1 (S:Nat):∀ W,List.replicate W (0:Int)=dig S W 0
 | 0=>rfl
 | W+1=>by rw[dig,Nat.zero_div,Nat.zero_mod,← bg1 S W,q2_];rfl
noncomputable def bu9 (l:ab_) (n:Int) (c:List Int):Option ((Unit×(Unit×((List Int)×((Int×Unit)×Unit))))⊕((Unit×(Unit×((List Int)×((Int×Unit)×Unit))))⊕(Int×Unit))) :=
 ((af_ (odoB l) ((w64 (l.1 - 1)),(c,()))).bind λv9 =>
 (cond (decide (v9.1<0))
 (some (inr (inr (n,()))))
 ((at? v9.2.1 v9.1).bind λv10 =>
 ((at? v9.2.1 v9.1).bind λv11 =>
 ((at? v9.2.1 v9.1).bind λv12 =>
 ((at? v9.2.1 v9.1).bind λv13 =>
 (some (inl ((),((),((v9.2.1.set v9.1.toNat (w64 (v11+1))),((n,()),()))))))))))))
noncomputable def cntX (a0:ab_) (a1:List ak_):Option (Int×Unit) :=
 ((mk? (α:=Int) a0.1 0).bind λv0 =>
 ((af_ (ρ:=((Unit×(Unit×((List Int)×((Int×Unit)×Unit))))⊕(Int×Unit))) (λ(v1:(Unit×(Unit×((List Int)×((Int×Unit)×Unit))))) =>
 ((el_ a1 v1.2.2.1).bind λv2 =>
 (cond (decide (v2.1<0)) (bu9 a0 (w64 (v1.2.2.2.1.1+1)) v1.2.2.1) (bu9 a0 v1.2.2.2.1.1 v1.2.2.1)))) ((),((),(v0,((0,()),()))))).bind λv25 =>
 (cd_ v25 (λv26=>(some (v26.2.2.2.1.1,())))
 (λv27=>(some v27)))))
theorem cntX_eq:dk_=cntX:=by kernel_rfl
theorem bl7 {l:ab_} (hl:Lk l) {cl:List ak_} (hn:cl.length≤20) (hc:∀ c ∈ cl,dr_ l c=true):dk_ l cl=some (((rdg l cl).length:Int),()):=by
  have w1:=hl.w1;have w2:=hl.w2;have s1:=hl.s1;have s2:=hl.s2
  obtain⟨W,hW⟩:∃ W:Nat,l.1=(W:Int):=⟨l.1.toNat,by omega⟩
  obtain⟨S,hS⟩:∃ S:Nat,l.2=(S:Int):=⟨l.2.toNat,by omega⟩
  have hpow:S ^ W≤10000:=by have:=ct5 hl;rwa [hW,hS,b9_,b9_] at this
  have hSp:0<S:=by omega
  have hN:0<S ^ W:=Nat.pow_pos hSp
  have hlen:=rb_ S W
  have hok:∀ j,j<S ^ W→dq_ l (dig S W j)=true:=λj hj=>(bg4 hl).1 (by rw[hW,hS,b9_,b9_];exact b4_ (rc_ hSp W j hj))
  let cn:Nat→Nat:=λj=>(((ju_ S W).take j).filter λc=>cl.all (tr · c)).length
  have hcn:∀ j,j<S ^ W→cn j≤j∧cn (j+1)=cond (cl.all (tr · (dig S W j))) (cn j+1) (cn j):=by
    intro j hj
    constructor
    · have hb:=k7_ (λc=>cl.all (tr · c)) ((ju_ S W).take j)
      rw[c5_] at hb
      exact c7_ hb (Nat.min_le_left _ _)
    · show (((ju_ S W).take (j+1)).filter _).length=_
      rw[d9_,rc_ hSp W j hj,n3_,a8_]
      cases hp:cl.all (tr · (dig S W j))<;>simp[hp,cn]
  have step:∀ j,j<S ^ W→∀ m:Int,(j+1<S ^ W→bu9 l m (dig S W j)=some (inl ((),((),(dig S W (j+1),((m,()),()))))))∧(j+1=S ^ W→bu9 l m (dig S W j)=some (inr (inr (m,())))):=by
    intro j hj m
    obtain⟨i,c,o1,o2,o3⟩:=odo hl hS W j 0 (by omega)
    simp only[List.replicate_zero,e9_] at o1 o3
    rw[← hW,← hl.ww] at o1
    constructor
    · intro h
      obtain⟨p1,x,p2,p3⟩:=o3 h
      unfold bu9
      rw[o1,a0_]
      simp only[show decide (i<0)=false from b6_ (by omega),a2_,p2,a0_,p3]
    · intro h
      unfold bu9
      rw[o1,a0_]
      simp only[show decide (i<0)=true from b5_ (o2 h),a5_]
  have body:∀ j,j<S ^ W→(((el_ cl (dig S W j)).bind λv2=>(cond (decide (v2.1<0)) (bu9 l (w64 ((cn j:Int)+1)) (dig S W j)) (bu9 l (cn j) (dig S W j)))))=bu9 l ((cn (j+1):Nat):Int) (dig S W j):=by
    intro j hj
    obtain⟨r,r1,r2⟩:=ay4 hl hn hc (hok j hj)
    obtain⟨q1,q2⟩:=hcn j hj
    rw[r1,a0_,r2,q2]
    cases cl.all (tr · (dig S W j)) with
    | false=>rfl
    | true=>rw[a5_,a5_,ba_ (show Sm (cn j) by unfold Sm;omega)]
  rw[cntX_eq]
  unfold cntX
  rw[xz_ (by omega) (by omega),a0_,show l.1.toNat=W by omega,bg1 S W]
  have hw:=bn8 (n:=S ^ W - 1) (F:=λj=>((),((),(dig S W j,(((cn j:Int),()),()))))) (r:=inr ((cn (S ^ W):Int),())) (body:=λ(v1:(Unit×(Unit×((List Int)×((Int×Unit)×Unit))))) =>
 ((el_ cl v1.2.2.1).bind λv2 =>
 (cond (decide (v2.1<0)) (bu9 l (w64 (v1.2.2.2.1.1+1)) v1.2.2.1) (bu9 l v1.2.2.2.1.1 v1.2.2.1)))) (λj hj=>(body j (by omega)).trans ((step j (by omega) _).1 (by omega))) ((body (S ^ W - 1) (by omega)).trans (by
    rw[show S ^ W - 1+1=S ^ W by omega]
    exact (step (S ^ W - 1) (by omega) _).2 (by omega)))
  refine (congrArg (λo=>Option.bind o _) (show af_ _ _=_ from hw)).trans ?_
  have e:cn (S ^ W)=(rdg l cl).length:=by
    show (((ju_ S W).take (S ^ W)).filter _).length=_
    rw[← hlen,d2_]
    unfold rdg
    rw[hW,hS,b9_,b9_]
  rw[a0_,← e]
  rfl
theorem ul_ {l:ab_} (hl:Lk l) {cl:List ak_} (hn:cl.length≤20) (hc:∀ c ∈ cl,dr_ l c=true):dl_ l cl=some (0,()):=by
  unfold dl_
  rw[mq_,pc_.2 hl,if_pos rfl,a0_]
  have:=oo_ (l:=cl) (by unfold Sm;omega) (λc=>!(dr_ l c)) (body:=λ(v1:(Int×Unit)) =>
 (cond (decide (v1.1<(cl.length:Int)))
 ((at? cl v1.1).bind λv2 =>
 ((cp_ l v2).bind λv3 =>
 (cond (!v3.1)
 (some (inr (inr ((decide (0≤v1.1)),()))))
 (some (inl ((w64 (v1.1+1)),()))))))
 (some (inr (inl ()))))) (λi y hy=>by
    simp only[dlt (am_ hy),a5_,ah_ hy,a0_,ps_ hl]
    cases dr_ l y<;>rfl) (by simp only[dnl,a2_])
  have ha:(cl.any λc=>!(dr_ l c))=false:=by
    rw[List.any_eq_false]
    intro c h
    simp[hc c h]
  rw[ha] at this
  simp only[show decide ((20:Int)<(cl.length:Int))=false from b6_ (by omega),e5_,a2_,this,a0_]
theorem ar1 {l:ab_} (hl:Lk l) {cl:List ak_} (hn:cl.length≤20) (hc:∀ c ∈ cl,dr_ l c=true):ck_ l cl=some (((rdg l cl).length:Int),(0,())):=by
 unfold ck_
 rw[ul_ hl hn hc,a0_]
 simp only[e5_,a2_,bl7 hl hn hc,a0_]
theorem tw_ {l:ab_} (hl:Lk l) {cl:List ak_} (hn:cl.length≤20) (hc:∀ c ∈ cl,dr_ l c=true) (hs:∀ c ∈ cl,Sm c.2.2.2.2.2.1.length):fo_ l cl=some (0,()):=by
 unfold fo_
 rw[md_,pc_.2 hl,if_pos rfl,a0_]
 simp only[show decide ((20:Int)<(cl.length:Int))=false from b6_ (by omega),e5_,a2_]
 refine bu_ cl (λ_ c=>cond (dr_ l c) none (some (inr (11,()):Unit⊕(Int×Unit)))) (λi=>((i:Int),())) (r0:=inl ()) (λi c hi => ?_) ?_ ?_
 ·simp only[dlt (am_ hi),a5_,ah_ hi,a0_,vb_ hl (hs c (b4_ hi)),ba_ (show Sm i by have:=am_ hi;unfold Sm;omega)]
  cases dr_ l c<;>rfl
 ·simp only[dnl,a2_]
 ·rw[kh_ (q:=λc=>dr_ l c),f2_.2 hc]
  rfl
theorem an0 {l:ab_} (hl:Lk l) {cl:List ak_} (hn:cl.length≤20) (hc:∀ c ∈ cl,dr_ l c=true) (hs:∀ c ∈ cl,Sm c.2.2.2.2.2.1.length):ks_ l cl=some (((rdg l cl).length:Int),(0,())):=by
 unfold ks_
 rw[tw_ hl hn hc hs,a0_]
 simp only[e5_,a2_,bs0 hl hn hc,a0_]
theorem ar0 {l:ab_} (hl:Lk l) (c:ak_) {k:List Int} (hk:dq_ l k=true):ku_ l c k=some (cond (dr_ l c) (tr c k) false,(cond (dr_ l c) 0 11,())):=by
 unfold ku_
 rw[vq_ hl,a0_]
 cases hc:dr_ l c with
 | false=>rfl
 | true =>
  simp only[a5_,e5_,a2_]
  rw[on_,pc_.2 hl,if_pos rfl,hk,if_pos rfl,a0_]
  simp only[e5_,a2_,(qy_ hl hc hk).2,a0_]
theorem av6 {l:ab_} (hl:Lk l) {c:ak_} {k:List Int} (hc:dr_ l c=true) (hk:dq_ l k=true):ge_ c k=some (tr c k,()):=(qy_ hl hc hk).1
end
section
theorem zero_eq:lo_=mg_:=rfl
def clOk (l:ab_) (c:ak_) (k:List Int):Bool:=dr_ l c&&tr c k
end
section
set_option maxRecDepth 10000
def ch8 (c:ak_):Bool:=c.1==0&&(c.2.1==0&&(c.2.2.1==0&&(c.2.2.2.1==0&&(c.2.2.2.2.1==0&&(((c.2.2.2.2.2.1.length:Int)==0)&&!c.2.2.2.2.2.2)))))
theorem an9 (c:ak_):lo_ c=some (ch8 c,()):=by
 unfold lo_ ch8
 cases c.1==0 with
 | false=>rfl
 | true =>
 cases c.2.1==0 with
 | false=>rfl
 | true =>
 cases c.2.2.1==0 with
 | false=>rfl
 | true =>
 cases c.2.2.2.1==0 with
 | false=>rfl
 | true =>
 cases c.2.2.2.2.1==0 with
 | false=>rfl
 | true=>cases (c.2.2.2.2.2.1.length:Int)==0<;>rfl
theorem bj9 (c:ak_):mg_ c=some (ch8 c,()):=by rw[← zero_eq];exact an9 c
def twNt (g:ac_) (i:Nat) (n:cy_):Bool:=(g.2.2.2.1.take i).any λy=>y.1==n.1
def cdOk (g:ac_) (i:Nat) (l:ab_):Bool:=match g.2.2.1[i]? with
 | some k=>dq_ l k
 | none=>false
noncomputable def bv2 (g:ac_) (i:Nat) (n:cy_):Bool:=okN n.1&&(!(twNt g i n)&&(wi n.2.1 0 (w64 ((g.1.1.length:Int) - 1))&&(wi n.2.2.1 (-1) (w64 ((g.2.1.length:Int) - 1))&&(cond (decide (n.2.2.1<0)) (ch8 n.2.2.2.2) (match at? g.2.1 n.2.2.1,at? g.2.2.1 n.2.2.1 with
 | some l,some k=>clOk l n.2.2.2.2 k
 | _,_=>false)))))
def LkAll (g:ac_):Prop:=∀ (i:Nat) l,g.2.1[i]?=some l→Lk l∧∃ k,g.2.2.1[i]?=some k∧dq_ l k=true
theorem LkAll.at {g:ac_} (hg:SmG g) (h:LkAll g) {i:Int} (h0:¬ i<0) (hw:wi i (-1) (w64 ((g.2.1.length:Int) - 1))=true):∃ l k,at? g.2.1 i=some l∧at? g.2.2.1 i=some k∧Lk l∧dq_ l k=true:=by
 have hlk:=hg.lk
 rw[gv_ (by omega) (by omega)] at hw
 have hw:=cl_.1 hw
 obtain⟨l,hl⟩:=bc_ (l:=g.2.1) (i:=i.toNat) (by omega)
 obtain⟨h1,k,hk,h2⟩:=h _ l hl
 have hi:i=((i.toNat:Nat):Int):=by omega
 exact⟨l,k,by rw[hi];exact ah_ hl,by rw[hi];exact ah_ hk,h1,h2⟩
theorem bl0 {g:ac_} (hg:SmG g) (hL:LkAll g) {i:Nat} {n:cy_} (hn:g.2.2.2.1[i]?=some n):mn_ g (i:Int) n=some (bv2 g i n,()):=by
 have hi:=am_ hn
 have hs:=hg.nt
 have hnm:=(hg.ntn n (aw_ hn)).1
 have ht:Sm (g.2.2.2.1.take i).length:=by rw[c5_];show _≤1000000000;omega
 unfold mn_
 rw[qj_ (f9_ hi),a0_]
 refine e6_ (congrArg (λo=>Option.bind o _) (oo_ ht (λy=>y.1==n.1) (λk y hy => ?_) ?_)) ?_
 ·simp only[dlt (am_ hy),a5_,ah_ hy,a0_]
  cases y.1==n.1<;>rfl
 ·simp only[dnl,a2_]
 rw[a0_]
 simp only[bt1 (show Sm n.1.length by show _≤1000000000;omega),lf_,a0_]
 unfold bv2 okN twNt
 cases okW n.1 with
 | false=>simp only[f7_,e8_];rfl
 | true =>
 by_cases h12:(n.1.length:Int)≤12
 ·rw[b5_ h12,b6_ (by omega:¬ 12<(n.1.length:Int))]
  cases (g.2.2.2.1.take i).any λy=>y.1==n.1 with
  | true=>rfl
  | false =>
  cases wi n.2.1 0 (w64 ((g.1.1.length:Int) - 1)) with
  | false=>rfl
  | true =>
  cases hw:wi n.2.2.1 (-1) (w64 ((g.2.1.length:Int) - 1)) with
  | false=>rfl
  | true =>
  cases hz:decide (n.2.2.1<0) with
  | true=>simp only[an9];rfl
  | false =>
  obtain⟨l,k,e1,e2,h1,h2⟩:=hL.at hg (d1_ hz) hw
  simp only[e1,e2,e1_,g2_,a2_,a0_,ar0 h1 _ h2,c3_]
  unfold clOk
  cases dr_ l n.2.2.2.2<;>rfl
 ·rw[b6_ h12,b5_ (by omega:12<(n.1.length:Int))]
  rfl
theorem au9 {g:ac_} (hg:SmG g) (hL:LkAll g) {i:Nat} {n:cy_} (hn:g.2.2.2.1[i]?=some n):kl_ g (i:Int)=some (bv2 g i n,()):=by
 have hi:=am_ hn
 have hs:=hg.nt
 have hnm:=(hg.ntn n (aw_ hn)).1
 have hgs:Sm n.2.2.2.2.2.2.2.2.2.1.length:=c7_ (hg.ntn n (aw_ hn)).2.2 (by decide)
 have hle:(g.2.2.2.1.take i).length=i:=by rw[c5_];omega
 unfold kl_
 rw[ah_ hn,a0_]
 refine bu_ (g.2.2.2.1.take i) (λ_ y=>cond (y.1==n.1) (some (inr (false,()):Unit⊕(Bool×Unit))) none) (λi=>((i:Int),())) (r0:=inl ()) (λk y hy => ?_) ?_ ?_
 ·have hk:=am_ hy
  have hy':g.2.2.2.1[k]?=some y:=by
   rw[j4_] at hy
   split at hy
   ·exact hy
   ·cases hy
  simp only[dlt (show k<i by omega),a5_,ah_ hy',a0_,ba_ (show Sm k by show _≤1000000000;omega)]
  cases y.1==n.1<;>rfl
 ·rw[hle]
  simp only[dnl,a2_]
 rw[ib_ (q:=λy:cy_=>y.1==n.1)]
 unfold bv2 twNt
 cases (g.2.2.2.1.take i).any λy=>y.1==n.1 with
 | true=>simp only[e1_,e8_,f7_];rfl
 | false =>
 simp only[a2_,j6_]
 unfold cd_
 simp only[ld_ (show Sm n.1.length by show _≤1000000000;omega),aa0,a0_]
 cases okN n.1 with
 | false=>rfl
 | true =>
 cases wi n.2.1 0 (w64 ((g.1.1.length:Int) - 1)) with
 | false=>rfl
 | true =>
 cases hw:wi n.2.2.1 (-1) (w64 ((g.2.1.length:Int) - 1)) with
 | false=>rfl
 | true =>
 cases hz:decide (n.2.2.1<0) with
 | true =>
  have hz:=f0_ hz
  have:=cl_.1 hw
  rw[show (n.2.2.1==-1)=true by rw[i5_];omega]
  simp only[bj9]
  rfl
 | false =>
  have hz:=d1_ hz
  obtain⟨l,k,e1,e2,h1,h2⟩:=hL.at hg hz hw
  rw[show (n.2.2.1==-1)=false by rw[i9_];omega]
  simp only[e1,e2,e1_,g2_,a2_,a0_,vm_ h1 hgs,c3_]
  unfold clOk
  cases hc:dr_ l n.2.2.2.2 with
  | false=>rfl
  | true =>
   simp only[a5_,show ((0:Int)==0)=true from rfl,av6 h1 hc h2]
   rfl
noncomputable def cw_ (g:ac_):Int :=
  cond (dn_ g.1 != 0) (dn_ g.1) (cond (decide (8<(g.2.1.length:Int))||decide (16<(g.2.2.2.1.length:Int))) 2
   ((hg_ (λ_ l=>lr_ (okL l) 10) 0 g.2.1).getD
    (cond ((g.2.2.1.length:Int) != (g.2.1.length:Int)) 12
     ((hg_ (λi l=>lr_ (cdOk g i l) 12) 0 g.2.1).getD
      ((hg_ (λ_ (a:dg_)=>lr_ (!(decide ((g.2.1.length:Int)≤a.2.2.1))) 26) 0 g.1.2.2.2.2.1).getD
       ((hg_ (λi n=>tr_ (bv2 g i n) 40 (cOk g.1.2.1 n.2.2.2.1) 25) 0 g.2.2.2.1).getD
        (cond (wi g.2.2.2.2 1 100) 0 1)))))))
theorem mr_ {o:Option Int} {K:Unit→Option (Int×Unit)} {k:Int} (h:o=none→K ()=some (k,())):cd_ (left o) K (λy=>some y)=some (o.getD k,()):=by
 cases o with
 | none=>exact h rfl
 | some e=>rfl
theorem bx3 {g:ac_} (h1:hg_ (λ_ l=>lr_ (okL l) 10) 0 g.2.1=none) (h2:hg_ (λi l=>lr_ (cdOk g i l) 12) 0 g.2.1=none):LkAll g:=by
 intro i l hl
 refine⟨pc_.1 (lq_ (ds_ h1 hl)),?_⟩
 have:=lq_ (ds_ h2 hl)
 unfold cdOk at this
 cases hk:g.2.2.1[i]? with
 | none=>rw[hk] at this;cases this
 | some k=>rw[hk] at this;exact⟨k,rfl,this⟩
theorem mn_of (g:ac_):(cond (decide (8<(g.2.1.length:Int))) (some (true,())) (some ((decide (16<(g.2.2.2.1.length:Int))),())))=some (decide (8<(g.2.1.length:Int))||decide (16<(g.2.2.2.1.length:Int)),()):=by
 cases decide (8<(g.2.1.length:Int))<;>rfl
theorem aa2 {g:ac_} (hg:SmG g):hw_ g=some (cw_ g,()):=by
 have hlk:=hg.lk
 have hac:=hg.ac
 have hnt:=hg.nt
 unfold hw_ cw_
 rw[tv_ hg.room,a0_]
 cases hr:dn_ g.1 != 0 with
 | true=>rfl
 | false =>
 simp only[a2_]
 refine e6_ (congrArg (λo=>Option.bind o _) (mn_of g)) ?_
 rw[a0_]
 cases hm:(decide (8<(g.2.1.length:Int))||decide (16<(g.2.2.2.1.length:Int))) with
 | true=>rfl
 | false =>
 simp only[a2_]
 refine bx_ g.2.1 (λ_ l=>lr_ (okL l) 10) (λi y hy => ?_) ?_ (mr_ λhA => ?_)
 ·have hi:=am_ hy
  simp only[dlt hi,a5_,ah_ hy,a0_,ba_ (show Sm i by show _≤1000000000;omega),mq_]
  unfold lr_
  cases okL y<;>rfl
 ·simp only[dnl,a2_]
 cases hcl:((g.2.2.1.length:Int) != (g.2.1.length:Int)) with
 | true=>rfl
 | false =>
 have hcl:(g.2.2.1.length:Int)=(g.2.1.length:Int):=by simpa using hcl
 simp only[a2_]
 refine bx_ g.2.1 (λi l=>lr_ (cdOk g i l) 12) (λi y hy => ?_) ?_ (mr_ λhB => ?_)
 ·have hi:=am_ hy
  obtain⟨k,hk⟩:=bc_ (l:=g.2.2.1) (i:=i) (by omega)
  have hy1:=lq_ (ds_ hA hy)
  simp only[dlt hi,a5_,ah_ hy,ah_ hk,a0_,ba_ (show Sm i by show _≤1000000000;omega),on_,hy1]
  unfold lr_ cdOk
  rw[hk]
  simp only
  cases dq_ y k<;>rfl
 ·simp only[dnl,a2_]
 refine bx_ g.1.2.2.2.2.1 (λ_ (a:dg_)=>lr_ (!(decide ((g.2.1.length:Int)≤a.2.2.1))) 26) (λi y hy => ?_) ?_ (mr_ λhC => ?_)
 ·have hi:=am_ hy
  simp only[dlt hi,a5_,ah_ hy,a0_,ba_ (show Sm i by show _≤1000000000;omega)]
  unfold lr_
  cases decide ((g.2.1.length:Int)≤y.2.2.1)<;>rfl
 ·simp only[dnl,a2_]
 have hL:=bx3 hA hB
 refine bx_ g.2.2.2.1 (λi n=>tr_ (bv2 g i n) 40 (cOk g.1.2.1 n.2.2.2.1) 25) (λi y hy => ?_) ?_ (mr_ λhD => ?_)
 ·have hi:=am_ hy
  simp only[dlt hi,a5_,ah_ hy,a0_,ba_ (show Sm i by show _≤1000000000;omega),bl0 hg hL hy,bk9 hg.room.th]
  unfold tr_
  cases bv2 g i y with
  | false=>rfl
  | true=>cases cOk g.1.2.1 y.2.2.2.1<;>rfl
 ·simp only[dnl,a2_]
 rw[lf_,a0_]
 cases wi g.2.2.2.2 1 100<;>rfl
theorem rr_ {g:ac_} (hg:SmG g):gm_ g=some (cw_ g,()):=by
 have hlk:=hg.lk
 have hac:=hg.ac
 have hnt:=hg.nt
 unfold gm_ cw_
 rw[rt_ hg.room,a0_]
 cases hr:dn_ g.1 != 0 with
 | true=>rfl
 | false =>
 simp only[a2_]
 refine e6_ (congrArg (λo=>Option.bind o _) (mn_of g)) ?_
 rw[a0_]
 cases hm:(decide (8<(g.2.1.length:Int))||decide (16<(g.2.2.2.1.length:Int))) with
 | true=>rfl
 | false =>
 simp only[a2_]
 refine bx_ g.2.1 (λ_ l=>lr_ (okL l) 10) (λi y hy => ?_) ?_ (mr_ λhA => ?_)
 ·have hi:=am_ hy
  simp only[dlt hi,a5_,ah_ hy,a0_,ba_ (show Sm i by show _≤1000000000;omega),md_]
  unfold lr_
  cases okL y<;>rfl
 ·simp only[dnl,a2_]
 cases hcl:((g.2.2.1.length:Int) != (g.2.1.length:Int)) with
 | true=>rfl
 | false =>
 have hcl:(g.2.2.1.length:Int)=(g.2.1.length:Int):=by simpa using hcl
 simp only[a2_]
 refine bx_ g.2.1 (λi l=>lr_ (cdOk g i l) 12) (λi y hy => ?_) ?_ (mr_ λhB => ?_)
 ·have hi:=am_ hy
  obtain⟨k,hk⟩:=bc_ (l:=g.2.2.1) (i:=i) (by omega)
  have hy1:=lq_ (ds_ hA hy)
  simp only[dlt (show i<g.2.2.1.length by omega),a5_,ah_ hy,ah_ hk,a0_,ba_ (show Sm i by show _≤1000000000;omega),vl_,hy1]
  unfold lr_ cdOk
  rw[hk]
  simp only
  cases dq_ y k<;>rfl
 ·rw[← hcl]
  simp only[dnl,a2_]
 refine bx_ g.1.2.2.2.2.1 (λ_ (a:dg_)=>lr_ (!(decide ((g.2.1.length:Int)≤a.2.2.1))) 26) (λi y hy => ?_) ?_ (mr_ λhC => ?_)
 ·have hi:=am_ hy
  simp only[dlt hi,a5_,ah_ hy,a0_,ba_ (show Sm i by show _≤1000000000;omega)]
  unfold lr_
  cases decide ((g.2.1.length:Int)≤y.2.2.1)<;>rfl
 ·simp only[dnl,a2_]
 have hL:=bx3 hA hB
 refine bx_ g.2.2.2.1 (λi n=>tr_ (bv2 g i n) 40 (cOk g.1.2.1 n.2.2.2.1) 25) (λi y hy => ?_) ?_ (mr_ λhD => ?_)
 ·have hi:=am_ hy
  have hw:=(hg.ntn y (aw_ hy)).2.1
  simp only[dlt hi,a5_,ah_ hy,a0_,ba_ (show Sm i by show _≤1000000000;omega),au9 hg hL hy,hs_ hg.room.th (show Sm y.2.2.2.1.length by show _≤1000000000;omega)]
  unfold tr_
  cases bv2 g i y with
  | false=>rfl
  | true=>cases cOk g.1.2.1 y.2.2.2.1<;>rfl
 ·simp only[dnl,a2_]
 rw[aa0,a0_]
 cases wi g.2.2.2.2 1 100<;>rfl
structure OkG (g:ac_):Prop where
 room:dn_ g.1=0
 n8:g.2.1.length≤8
 n16:g.2.2.2.1.length≤16
 lk:LkAll g
 cd:g.2.2.1.length=g.2.1.length
 ac:∀ (i:Nat) (a:dg_),g.1.2.2.2.2.1[i]?=some a→a.2.2.1<(g.2.1.length:Int)
 nt:∀ (i:Nat) n,g.2.2.2.1[i]?=some n→bv2 g i n=true∧cOk g.1.2.1 n.2.2.2.1=true
 tr:wi g.2.2.2.2 1 100=true
theorem df_ {g:ac_} (h:cw_ g=0):OkG g:=by
 unfold cw_ at h
 cases hr:dn_ g.1 != 0 with
 | true =>
  rw[hr] at h
  rw[m7_] at hr
  exact absurd h hr
 | false =>
 rw[hr,a2_] at h
 cases hm:(decide (8<(g.2.1.length:Int))||decide (16<(g.2.2.2.1.length:Int))) with
 | true=>rw[hm] at h;exact absurd (show (2:Int)=0 from h) (by decide)
 | false =>
 rw[hm,a2_] at h
 rw[b8_] at hm
 have m1:=d1_ hm.1
 have m2:=d1_ hm.2
 obtain⟨hA,h⟩:=ha_ h (la_ (λi x=>yt_ (by decide)) _ _)
 cases hcl:((g.2.2.1.length:Int) != (g.2.1.length:Int)) with
 | true=>rw[hcl] at h;exact absurd (show (12:Int)=0 from h) (by decide)
 | false =>
 rw[hcl,a2_] at h
 have hcl:(g.2.2.1.length:Int)=(g.2.1.length:Int):=by simpa using hcl
 obtain⟨hB,h⟩:=ha_ h (la_ (λi x=>yt_ (by decide)) _ _)
 obtain⟨hC,h⟩:=ha_ h (la_ (λi x=>yt_ (by decide)) _ _)
 obtain⟨hD,h⟩:=ha_ h (la_ (λi x=>ys_ (by decide) (by decide)) _ _)
 refine⟨by simpa using hr,by omega,by omega,bx3 hA hB,by omega,λi a ha => ?_,λi n hn=>po_ (ds_ hD hn),?_⟩
 ·have:=lq_ (ds_ hC ha)
  simpa using this
 ·cases hw:wi g.2.2.2.2 1 100 with
  | true=>rfl
  | false=>rw[hw] at h;exact absurd (show (1:Int)=0 from h) (by decide)
end
section
set_option maxRecDepth 10000
theorem cq_ {σ ρ:Type} {body:σ→Option (σ⊕ρ)} {s t:σ} {r:ρ} (h:body s=some (.inl t)) (e:af_ body t=some r):af_ body s=some r:=by
 obtain⟨k,hk⟩:=hr_.1 e
 exact qc_ (k:=k+1) (by rw[ax2 h];exact hk)
theorem ct_ {σ ρ:Type} {body:σ→Option (σ⊕ρ)} {s:σ} {r:ρ} (h:body s=some (.inr r)):af_ body s=some r:=qc_ (k:=1) (wj_ h)
theorem ar8 {α τ σ ρ υ:Type} (l:List α) (f:Nat→τ→α→τ) (F:Nat→τ→σ) (R:τ→ρ) (t0:τ) {body:σ→Option (σ⊕ρ)} (I:Nat→τ→Prop) {K:ρ→Option υ} {x:Option υ} (h0:I 0 t0)
  (h:∀ i x t,l[i]?=some x→I i t→body (F i t)=some (.inl (F (i+1) (f i t x)))∧I (i+1) (f i t x)) (e:∀ t,I l.length t→body (F l.length t)=some (.inr (R t))) (hk:∀ t,I l.length t→K (R t)=x) :
  (af_ body (F 0 t0)).bind K=x:=by
 obtain⟨t,h1,h2⟩:=lj_ l f F R t0 I h0 h e
 rw[h2,a0_]
 exact hk t h1
theorem ce9 {np:Nat} {l:List Int} (h:lw_ np l=true):∀ x ∈ l,0≤x∧x<(np:Int):=by
 intro x hx
 obtain⟨i,hi⟩:=f3_ hx
 rw[← cw8] at h
 have:=(ae1 l).1 h i x hi
 unfold badQ at this
 rw[b8_] at this
 have h1:wi x 0 ((np:Int) - 1)=true:=by simpa using this.1
 have:=cl_.1 h1
 omega
structure ActIn (r:ae_) (a:dg_):Prop where
 us:∀ p ∈ a.2.2.2.1,0≤p∧p<(r.2.2.1.length:Int)
 sp:∀ p ∈ a.2.2.2.2.2.2.1,0≤p∧p<(r.2.2.1.length:Int)
 br:∀ p ∈ a.2.2.2.2.2.2.2,0≤p∧p<(r.2.2.1.length:Int)
 st:∀ x ∈ a.2.2.2.2.2.1,ou_ r.2.1 x.1 x.2=true
theorem bi0 {r:ae_} {i:Nat} {a:dg_} (h:vx_ r i a=true):ActIn r a:=by
 unfold vx_ at h
 simp only[a1_] at h
 obtain⟨_,_,_,h1,h2,h3,_,_,_,h4⟩:=h
 refine⟨ce9 h1,ce9 h2,ce9 h3,λx hx => ?_⟩
 obtain⟨j,hj⟩:=f3_ hx
 rw[Option.isNone_iff_eq_none] at h4
 have:=ds_ h4 hj
 cases hs:sn_ r a.2.2.2.2.2.1 j x with
 | false=>rw[hs] at this;cases this
 | true =>
  unfold sn_ at hs
  rw[a1_] at hs
  exact hs.1
theorem da_ {α:Type} {l:List α} (hl:Sm l.length) (i:Int):(wi i 0 (w64 ((l.length:Int) - 1))=false∧at? l i=none)∨∃ (j:Nat) (x:α),i=(j:Int)∧l[j]?=some x∧wi i 0 (w64 ((l.length:Int) - 1))=true∧at? l i=some x:=by
 rw[gv_ (by omega) (by omega)]
 by_cases h:0≤i∧i<(l.length:Int)
 ·obtain⟨x,hx⟩:=bc_ (l:=l) (i:=i.toNat) (by omega)
  have hi:i=((i.toNat:Nat):Int):=by omega
  exact .inr ⟨i.toNat,x,hi,hx,cl_.2 (by omega),by rw[hi];exact ah_ hx⟩
 ·refine .inl ⟨?_,?_⟩
  ·cases hw:wi i 0 ((l.length:Int) - 1) with
   | false=>rfl
   | true=>have:=cl_.1 hw;omega
  ·unfold at?
   split
   ·exact c2_ (by omega)
   ·rfl
def mx_ (pr:List Int) (h:Int):Nat:=pr.countP (· == h)
theorem wn_ (pr:List Int) (h:Int):mx_ pr h≤pr.length:=j2_
theorem bj0 {t:hz_} (h:Sm t.2.2.1.length) (p:Int):dt_ t p=some ((mx_ t.2.2.1 (w64 ((-2) - p)):Int),()):=by
 unfold dt_
 refine ar8 t.2.2.1 (λ_ (c:Nat) x=>cond (x==w64 ((-2) - p)) (c+1) c) (λi c=>((c:Int),((i:Int),()))) (λc=>((c:Int),())) 0 (λi c=>c=mx_ (t.2.2.1.take i) (w64 ((-2) - p))) rfl (λi x c hx hc => ?_) (λc hc => ?_) (λc hc => ?_)
 ·have hi:=am_ hx
  have hcl:c≤i:=by rw[hc];refine c7_ (wn_ _ _) ?_;rw[c5_];omega
  have hn:mx_ (t.2.2.1.take (i+1)) (w64 ((-2) - p))=cond (x==w64 ((-2) - p)) (c+1) c:=by
   unfold mx_
   rw[d9_,hx,hc,List.countP_append]
   unfold mx_
   cases hq:x==w64 ((-2) - p) with
   | true=>simp[hq]
   | false=>simp[hq]
  refine⟨?_,hn.symm⟩
  simp only[dlt hi,a5_,ah_ hx,a0_,ba_ (show Sm i by omega)]
  cases hq:x==w64 ((-2) - p) with
  | true=>simp only[a5_,a0_,ba_ (show Sm c by omega)]
  | false=>rfl
 ·simp only[dnl,a2_]
 ·rw[d2_] at hc
  rw[hc]
abbrev hdl (m:ai_):Int:=w64 ((-2) - m.1)
def lgl (r:ae_) (s:aj_) (m:ai_):Bool :=
  wi m.1 0 (w64 ((s.2.2.length:Int) - 1)) &&
  cond (m.2.1==1) ((at? r.2.2.2.1 m.2.2).elim false λw=>(w.1==gi s.2.2 m.1||w.2.1==gi s.2.2 m.1)&&ea_ s.1 w.2.2)
  (cond (m.2.1==2) ((at? r.2.2.1 m.2.2).elim false λx=>gi s.2.1 m.2.2==gi s.2.2 m.1&&(ea_ s.1 x.2.2&&decide ((mx_ s.2.1 (hdl m):Int)<3)))
  (cond (m.2.1==3) ((at? s.2.1 m.2.2).elim false λp=>p==hdl m)
  (cond (m.2.1==4) ((at? r.2.2.2.2.1 m.2.2).elim false λa=>a.2.1==gi s.2.2 m.1&&((a.2.2.2.1.all λp=>gi s.2.1 p==hdl m)&&(ea_ s.1 a.2.2.2.2.1&&((a.2.2.2.2.2.2.2.all λp=>gi s.2.1 p==-1)&&decide ((mx_ s.2.1 (hdl m):Int) - (a.2.2.2.2.2.2.1.length:Int)+(a.2.2.2.2.2.2.2.length:Int)≤3)))))
   false)))
theorem bh8 {l t:List Int} (hl:Sm l.length) (hi:∀ p ∈ l,0≤p∧p<(t.length:Int)) (h:Int) :
    ((af_ (ρ:=(Unit⊕(Bool×Unit))) (λ(v15:(Int×Unit)) =>
 (cond (decide (v15.1<(l.length:Int)))
 ((at? l v15.1).bind λv16 =>
 ((at? t v16).bind λv17 =>
 (cond (!(v17==h))
 (some (inr (inr ((decide (0≤v15.1)),()))))
 (some (inl ((w64 (v15.1+1)),()))))))
 (some (inr (inl ()))))) (0,())).bind λv18 =>
 (cd_ v18 (λv19=>(some ((decide ((0:Int)≤(-1))),())))
 (λv20=>(some v20))))=some (!(l.all λp=>gi t p==h),()):=by
  refine e6_ (oo_ hl (λp=>!(gi t p==h)) (λi y hy => ?_) ?_) ?_
  · have:=hi y (aw_ hy)
    simp only[dlt (am_ hy),a5_,ah_ hy,a0_,us_ this.1 this.2]
    cases gi t y==h<;>rfl
  · simp only[dnl,a2_]
  · rw[← uu_,Bool.not_not]
theorem xc_ {r:ae_} (h:SmR r) (ok:OkR r) {s:aj_} (hv:VS r s) (m:ai_):dj_ (r,s) m=some (lgl r s m,()):=by
 obtain⟨m1,m2,m3⟩:=rk_ h ok hv
 have hl1:=hv.l1
 have hl2:=hv.l2
 have hH:∀ {c:List bi_},cOk r.2.1 c=true→bd_ (r,s) c=some (ea_ s.1 c,()):=λ{c} hc=>by
  obtain⟨c1,c2⟩:=vh_ h.th hc
  exact ns_ (t:=(r,s)) (show c.length≤1000000000 by omega) (by show InC s.1.length c;rw[hl1];exact c1)
 have hD:dt_ (r,s) m.1=some ((mx_ s.2.1 (hdl m):Int),()):=bj0 (t:=(r,s)) m2 m.1
 have hDl:=wn_ s.2.1 (hdl m)
 unfold dj_ lgl
 simp only[eo_,a0_]
 rcases da_ m3 m.1 with ⟨e1,_⟩ | ⟨pj,px,hpj,hp,e1,e2⟩
 ·rw[e1];rfl
 ·have eg:gi s.2.2 m.1=px:=nz_ e2
  simp only[e1,e2,eg,e1_,a2_,a0_,c3_]
  cases hk1:m.2.1==1 with
  | true =>
   simp only[a5_]
   rcases da_ h.wy m.2.2 with ⟨f1,f2⟩ | ⟨j,w,hj,hw,f1,f2⟩
   ·simp only[f1,f2];rfl
   ·simp only[f1,f2,e1_,a2_,a0_,hH (ok.wy j w hw).2]
    show _=some ((w.1==px||w.2.1==px)&&ea_ s.1 w.2.2,())
    cases w.1==px with
    | true=>rfl
    | false=>cases w.2.1==px<;>rfl
  | false =>
  simp only[a2_]
  cases hk2:m.2.1==2 with
  | true =>
   simp only[a5_]
   rcases da_ m2 m.2.2 with ⟨f1,f2⟩ | ⟨j,p,hj,hp,f1,f2⟩
   ·have f3:at? r.2.2.1 m.2.2=none:=by
     rcases da_ h.pr m.2.2 with ⟨_,g2⟩ | ⟨j,x,hj,hx,g1,g2⟩
     ·exact g2
     ·rw[← hl2,f1] at g1;cases g1
    simp only[f1,f3,a2_];rfl
   ·obtain⟨x,hx⟩:=bc_ (l:=r.2.2.1) (i:=j) (by have:=am_ hp;omega)
    have f3:at? r.2.2.1 m.2.2=some x:=by rw[hj];exact ah_ hx
    have f4:gi s.2.1 m.2.2=p:=nz_ f2
    simp only[f1,f2,f3,f4,a5_,a0_,hH (ok.pr j x hx).2,hD]
    show _=some (p==px&&(ea_ s.1 x.2.2&&decide ((mx_ s.2.1 (hdl m):Int)<3)),())
    cases p==px with
    | false=>rfl
    | true=>cases ea_ s.1 x.2.2<;>rfl
  | false =>
  simp only[a2_]
  cases hk3:m.2.1==3 with
  | true =>
   simp only[a5_]
   rcases da_ m2 m.2.2 with ⟨f1,f2⟩ | ⟨j,p,hj,hp,f1,f2⟩
   ·simp only[f1,f2];rfl
   ·simp only[f1,f2,a5_,a0_];rfl
  | false =>
  simp only[a2_]
  cases hk4:m.2.1==4 with
  | false=>rfl
  | true =>
   simp only[a5_]
   rcases da_ h.ac m.2.2 with ⟨f1,f2⟩ | ⟨j,a,hj,ha,f1,f2⟩
   ·simp only[f1,f2];rfl
   ·obtain⟨oa,oc⟩:=ok.ac j a ha
    have ai:=bi0 oa
    obtain⟨s1,s2,s3,s4,s5,s6⟩:=h.acn a (aw_ ha)
    simp only[f1,f2,e1_,a2_,a0_]
    show _=some (a.2.1==px&&((a.2.2.2.1.all λp=>gi s.2.1 p==hdl m)&&(ea_ s.1 a.2.2.2.2.1&&((a.2.2.2.2.2.2.2.all λp=>gi s.2.1 p==-1)&&decide ((mx_ s.2.1 (hdl m):Int) - (a.2.2.2.2.2.2.1.length:Int)+(a.2.2.2.2.2.2.2.length:Int)≤3)))),())
    cases a.2.1==px with
    | false=>rfl
    | true =>
    simp only[a5_,c3_]
    refine e6_ (congrArg (λo=>Option.bind o _) (bh8 s2 (λp hp=>by have:=ai.us p hp;omega) (hdl m))) ?_
    rw[a0_]
    cases a.2.2.2.1.all λp=>gi s.2.1 p==hdl m with
    | false=>rfl
    | true =>
    simp only[e1_,g2_,a5_,hH oc,a0_,c3_]
    cases ea_ s.1 a.2.2.2.2.1 with
    | false=>rfl
    | true =>
    simp only[a5_,c3_]
    refine e6_ (congrArg (λo=>Option.bind o _) (bh8 s6 (λp hp=>by have:=ai.br p hp;omega) (-1))) ?_
    rw[a0_]
    cases a.2.2.2.2.2.2.2.all λp=>gi s.2.1 p==-1 with
    | false=>rfl
    | true =>
    simp only[e1_,g2_,a5_,hD,a0_,c3_]
    rw[gv_ (n:=(mx_ s.2.1 (hdl m):Int) - _) (by omega) (by omega),gv_ (by omega) (by omega)]
theorem ad9 {α:Type} (l:List α) (hl:Sm l.length) (ix vl:α→Int) (t:List Int) (hi:∀ x ∈ l,0≤ix x∧ix x<(t.length:Int)) {body:(Int×(List Int×Unit))→Option ((Int×(List Int×Unit))⊕(List Int×Unit))}
  (hb:∀ (i:Nat) (x:α) (t':List Int) (y:Int),l[i]?=some x→at? t' (ix x)=some y→body ((i:Int),(t',()))=some (.inl (w64 ((i:Int)+1),(t'.set (ix x).toNat (vl x),())))) (e:∀ t',body ((l.length:Int),(t',()))=some (.inr (t',()))) :
  af_ body (0,(t,()))=some (l.foldl (λt x=>t.set (ix x).toNat (vl x)) t,()):=by
 obtain⟨z,⟨_,hz⟩,e⟩:=lj_ l (λ_ t x=>t.set (ix x).toNat (vl x)) (λi t=>((i:Int),(t,()))) (λt=>(t,())) t (body:=body) (λi t'=>t'.length=t.length∧t'=(l.take i).foldl (λt x=>t.set (ix x).toNat (vl x)) t) ⟨rfl,rfl⟩ (λi x t' hx ht=>by
  obtain⟨h1,h2⟩:=ht
  have hil:=am_ hx
  have:=hi x (aw_ hx)
  refine⟨?_,by rw[g1_,h1],?_⟩
  ·rw[hb i x t' _ hx (us_ this.1 (by omega)),ba_ (show Sm i by omega)]
  ·rw[d9_,hx,m0_,← h2]
   rfl) (λt' _=>e t')
 rw[d2_] at hz
 rw[← hz]
 exact e
def mvP (r:ae_) (s:aj_) (m:ai_):aj_ :=
  cond (m.2.1==1) ((at? r.2.2.2.1 m.2.2).elim s λw=>(s.1,(s.2.1,s.2.2.set m.1.toNat (w.1+w.2.1 - gi s.2.2 m.1))))
  (cond (m.2.1==2) (s.1,(s.2.1.set m.2.2.toNat (hdl m),s.2.2))
  (cond (m.2.1==3) (s.1,(s.2.1.set m.2.2.toNat (gi s.2.2 m.1),s.2.2))
  (cond (m.2.1==4) ((at? r.2.2.2.2.1 m.2.2).elim s λa=>(a.2.2.2.2.2.1.foldl (λt x=>t.set x.1.toNat x.2) s.1,(a.2.2.2.2.2.2.2.foldl (λt p=>t.set p.toNat (hdl m)) (a.2.2.2.2.2.2.1.foldl (λt p=>t.set p.toNat (-1)) s.2.1),s.2.2)))
   s)))
theorem zd_ {α:Type} {l:List α} {P:α→Prop} (h:∀ (i:Nat) x,l[i]?=some x→P x) {j:Nat} {v:α} (hv:P v):∀ (i:Nat) x,(l.set j v)[i]?=some x→P x:=by
 intro i x hx
 rw[g4_] at hx
 split at hx
 ·split at hx
  ·obtain rfl:=a6_ hx
   exact hv
  ·cases hx
 ·exact h i x hx
theorem pm_ {α τ:Type} {f:τ→α→τ} {P:τ→Prop}:∀ (l:List α) (t:τ),P t→(∀ t x,x ∈ l→P t→P (f t x))→P (l.foldl f t)
 | [],t,h,_=>h
 | x::l,t,h,hf=>pm_ l (f t x) (hf t x (d5_ ..) h) λt y hy=>hf t y (c9_ _ hy)
theorem ad8 {α:Type} (ix vl:α→Int) (l:List α) (t:List Int):(l.foldl (λt x=>t.set (ix x).toNat (vl x)) t).length=t.length :=
 pm_ (P:=λt'=>t'.length=t.length) l t rfl λt' x _ h=>by rw[g1_,h]
theorem mf_ {r:ae_} (h:SmR r) {p:Int}:tb_ r p=true↔0≤p∧p<(r.1.length:Int):=by
 have:=h.pl
 unfold tb_
 rw[cl_,gv_ (by omega) (by omega)]
 omega
theorem ah8 {r:ae_} (h:SmR r) (ok:OkR r) {p:Int}:inR r p=true↔(-2) - r.2.2.2.2.2.2.1<p∧p<(r.1.length:Int):=by
 have:=h.pl
 have hp:=cl_.1 ok.py
 unfold inR
 rw[cl_,gv_ (n:=(-2) - r.2.2.2.2.2.2.1) (by omega) (by omega),gv_ (by omega) (by omega),gv_ (by omega) (by omega)]
 omega
theorem pl_pos {r:ae_} (ok:OkR r):0<r.1.length:=by
 have hne:r.1.length≠0:=λe=>ok.ne (n2_.1 e)
 omega
theorem hdl_eq {r:ae_} (ok:OkR r) {s:aj_} (hv:VS r s) {m:ai_} {j:Nat} {x:Int} (hj:m.1=(j:Int)) (hx:s.2.2[j]?=some x):hdl m=(-2) - m.1∧m.1<r.2.2.2.2.2.2.1:=by
 have hp:=cl_.1 ok.py
 have:=am_ hx
 have:=hv.l3
 exact⟨gv_ (by omega) (by omega),by omega⟩
theorem bx5 {r:ae_} {s:aj_} {m:ai_} (m3:Sm s.2.2.length) (hl:lgl r s m=true):∃ (j:Nat) (x:Int),m.1=(j:Int)∧s.2.2[j]?=some x∧at? s.2.2 m.1=some x:=by
 unfold lgl at hl
 rw[a1_] at hl
 rcases da_ m3 m.1 with ⟨e1,_⟩ | ⟨pj,px,hpj,hp,e1,e2⟩
 ·rw[e1] at hl;cases hl.1
 ·exact⟨pj,px,hpj,hp,e2⟩
theorem VS_mv {r:ae_} (h:SmR r) (ok:OkR r) {s:aj_} (hv:VS r s) {m:ai_} (hl:lgl r s m=true):VS r (mvP r s m):=by
 obtain⟨m1,m2,m3⟩:=rk_ h ok hv
 obtain⟨pj,px,hpj,hp,e2⟩:=bx5 m3 hl
 obtain⟨d1,d2⟩:=hdl_eq ok hv hpj hp
 have hpy:=cl_.1 ok.py
 have hpos:=pl_pos ok
 have hhd:inR r (hdl m)=true:=(ah8 h ok).2 (by omega)
 have hm1:inR r (-1)=true:=(ah8 h ok).2 (by omega)
 unfold lgl at hl
 rw[a1_] at hl
 have hl:=hl.2
 have eg:gi s.2.2 m.1=px:=nz_ e2
 have hpx:=hv.py _ _ hp
 unfold mvP
 cases hk1:m.2.1==1 with
 | true =>
  rw[hk1] at hl
  simp only[a5_] at hl ⊢
  cases hw:at? r.2.2.2.1 m.2.2 with
  | none=>exact hv
  | some w =>
   rw[hw] at hl
   have hl:((w.1==gi s.2.2 m.1||w.2.1==gi s.2.2 m.1)&&ea_ s.1 w.2.2)=true:=hl
   rw[a1_,d0_,i5_,i5_] at hl
   rcases da_ h.wy m.2.2 with ⟨f1,f2⟩ | ⟨j,w',hj,hw',f1,f2⟩
   ·rw[f2] at hw;cases hw
   ·rw[f2] at hw
    obtain rfl:=a6_ hw
    have ow:=(ok.wy j w' hw').1
    unfold cg6 at ow
    simp only[a1_] at ow
    have o1:=(mf_ h).1 ow.1
    have o2:=(mf_ h).1 ow.2.1
    refine⟨hv.l1,hv.l2,by show ((s.2.2.set _ _).length:Int)=_;rw[g1_];exact hv.l3,hv.th,hv.pr,zd_ hv.py ((mf_ h).2 ?_)⟩
    rcases hl.1 with e | e<;>omega
 | false =>
 rw[hk1] at hl
 simp only[a2_] at hl ⊢
 cases hk2:m.2.1==2 with
 | true=>exact⟨hv.l1,by show (s.2.1.set _ _).length=_;rw[g1_];exact hv.l2,hv.l3,hv.th,zd_ hv.pr hhd,hv.py⟩
 | false =>
 rw[hk2] at hl
 simp only[a2_] at hl ⊢
 cases hk3:m.2.1==3 with
 | true =>
  refine⟨hv.l1,by show (s.2.1.set _ _).length=_;rw[g1_];exact hv.l2,hv.l3,hv.th,zd_ hv.pr ?_,hv.py⟩
  rw[eg]
  have:=(mf_ h).1 hpx
  exact (ah8 h ok).2 (by omega)
 | false =>
 rw[hk3] at hl
 simp only[a2_] at hl ⊢
 cases hk4:m.2.1==4 with
 | false=>exact hv
 | true =>
  simp only[a5_]
  rcases da_ h.ac m.2.2 with ⟨f1,f2⟩ | ⟨j,a,hj,ha,f1,f2⟩
  ·rw[f2];exact hv
  ·rw[f2]
   have ai:=bi0 (ok.ac j a ha).1
   have hth:VT r (a.2.2.2.2.2.1.foldl (λt x=>t.set x.1.toNat x.2) s.1):=pm_ (P:=VT r) _ _ ⟨hv.l1,hv.th⟩ λt x hx ht=>cf6 h ok ht (ai.st x hx)
   have hpr:∀ (i:Nat) p,(a.2.2.2.2.2.2.2.foldl (λt p=>t.set p.toNat (hdl m)) (a.2.2.2.2.2.2.1.foldl (λt p=>t.set p.toNat (-1)) s.2.1))[i]?=some p→inR r p=true:=by
    refine pm_ (P:=λt=>∀ (i:Nat) p,t[i]?=some p→inR r p=true) _ _ ?_ λt x hx ht=>zd_ ht hhd
    exact pm_ (P:=λt=>∀ (i:Nat) p,t[i]?=some p→inR r p=true) _ _ hv.pr λt x hx ht=>zd_ ht hm1
   refine⟨hth.1,?_,hv.l3,hth.2,hpr,hv.py⟩
   show (a.2.2.2.2.2.2.2.foldl (λt p=>t.set p.toNat (hdl m)) (a.2.2.2.2.2.2.1.foldl (λt p=>t.set p.toNat (-1)) s.2.1)).length=_
   rw[ad8 (λp=>p) (λ_=>hdl m),ad8 (λp=>p) (λ_=>-1)]
   exact hv.l2
end
end Go.Proofs.YthpilkoeneocmaaGreatDoor.Rx
namespace Go.Proofs.YthpilkoeneocmaaGreatDoor.Rx
open Go Pad Rex Go.Proofs Go.Proofs.Tryz Sum
section
set_option maxRecDepth 100000
noncomputable def mvX (a0:ae_) (a2:ai_) (v1 v2 v3:List Int):Option (List Int×(List Int×(List Int×Unit))) :=
 (cond (a2.2.1==1)
 ((at? a0.2.2.2.1 a2.2.2).bind λv5 =>
 ((at? v3 a2.1).bind λv6 =>
 ((at? v3 a2.1).bind λv7 =>
 ((at? v3 a2.1).bind λv8 =>
 ((at? v3 a2.1).bind λv9 =>
 (some (v1,(v2,((v3.set a2.1.toNat (w64 ((w64 (v5.1+v5.2.1)) - v7))),())))))))))
 (cond (a2.2.1==2)
 ((at? v2 a2.2.2).bind λv10 =>
 ((at? v2 a2.2.2).bind λv11 =>
 (some (v1,((v2.set a2.2.2.toNat (w64 ((-2) - a2.1))),(v3,()))))))
 (cond (a2.2.1==3)
 ((at? v3 a2.1).bind λv12 =>
 ((at? v3 a2.1).bind λv13 =>
 ((at? v2 a2.2.2).bind λv14 =>
 ((at? v2 a2.2.2).bind λv15 =>
 (some (v1,((v2.set a2.2.2.toNat v13),(v3,()))))))))
 (cond (a2.2.1==4)
 ((at? a0.2.2.2.2.1 a2.2.2).bind λv16 =>
 ((af_ (ρ:=((List Int)×Unit)) (λ(v17:(Int×((List Int)×Unit))) =>
 (cond (decide (v17.1<(v16.2.2.2.2.2.2.1.length:Int)))
 ((at? v16.2.2.2.2.2.2.1 v17.1).bind λv18 =>
 ((at? v17.2.1 v18).bind λv19 =>
 ((at? v17.2.1 v18).bind λv20 =>
 (some (inl ((w64 (v17.1+1)),((v17.2.1.set v18.toNat (-1)),())))))))
 (some (inr (v17.2.1,()))))) (0,(v2,()))).bind λv21 =>
 ((af_ (ρ:=((List Int)×Unit)) (λ(v22:(Int×((List Int)×Unit))) =>
 (cond (decide (v22.1<(v16.2.2.2.2.2.2.2.length:Int)))
 ((at? v16.2.2.2.2.2.2.2 v22.1).bind λv23 =>
 ((at? v22.2.1 v23).bind λv24 =>
 ((at? v22.2.1 v23).bind λv25 =>
 (some (inl ((w64 (v22.1+1)),((v22.2.1.set v23.toNat (w64 ((-2) - a2.1))),())))))))
 (some (inr (v22.2.1,()))))) (0,(v21.1,()))).bind λv26 =>
 ((af_ (ρ:=((List Int)×Unit)) (λ(v27:(Int×((List Int)×Unit))) =>
 (cond (decide (v27.1<(v16.2.2.2.2.2.1.length:Int)))
 ((at? v16.2.2.2.2.2.1 v27.1).bind λv28 =>
 ((at? v27.2.1 v28.1).bind λv29 =>
 ((at? v27.2.1 v28.1).bind λv30 =>
 (some (inl ((w64 (v27.1+1)),((v27.2.1.set v28.1.toNat v28.2),())))))))
 (some (inr (v27.2.1,()))))) (0,(v1,()))).bind λv31 =>
 (some (v31.1,(v26.1,(v3,()))))))))
 (some (v1,(v2,(v3,()))))))))
noncomputable def rstX (a0:ae_) (a1:aj_) (a2:ai_):Option (aj_×(Int×Unit)) :=
 ((ca_ a0 a1).bind λv0 =>
 (cond (v0.1 != 0)
 (some (([],([],[])),(v0.1,())))
 ((push? (α:=Int) [] a1.1).bind λv1 =>
 ((push? (α:=Int) [] a1.2.1).bind λv2 =>
 ((push? (α:=Int) [] a1.2.2).bind λv3 =>
 ((dj_ (a0,(v1,(v2,v3))) a2).bind λv4 =>
 (cond (!v4.1)
 (some (([],([],[])),(29,())))
 ((mvX a0 a2 v1 v2 v3).bind λv32 =>
 ((((af_ (ρ:=(((List Int)×Unit)⊕(Bool×((List Int)×Unit)))) (setB a0 v32.2.1 v32.2.2.1) (0,(v32.1,()))).bind λv48 =>
 (cd_ v48 (λv49=>(some ((!false),(v49.1,()))))
 (λv50=>(some v50))))).bind λv51 =>
 (cond v51.1
 (some (([],([],[])),(27,())))
 (some ((v51.2.1,(v32.2.1,v32.2.2.1)),(0,())))))))))))))
theorem rstX_eq:fz_=rstX:=by kernel_rfl
theorem cu3 {r:ae_} (h:SmR r) (ok:OkR r) {s:aj_} (hv:VS r s) {m:ai_} (hl:lgl r s m=true):mvX r m s.1 s.2.1 s.2.2=some ((mvP r s m).1,((mvP r s m).2.1,((mvP r s m).2.2,()))):=by
  obtain⟨m1,m2,m3⟩:=rk_ h ok hv
  have hl1:=hv.l1
  have hl2:=hv.l2
  obtain⟨pj,px,hpj,hp,e2⟩:=bx5 m3 hl
  have eg:gi s.2.2 m.1=px:=nz_ e2
  have hpx:=(mf_ h).1 (hv.py _ _ hp)
  have hpl:=h.pl
  unfold lgl at hl
  rw[a1_] at hl
  have hl:=hl.2
  unfold mvX mvP
  cases hk1:m.2.1==1 with
  | true =>
    rw[hk1] at hl
    simp only[a5_] at hl ⊢
    rcases da_ h.wy m.2.2 with ⟨f1,f2⟩ | ⟨j,w,hj,hw,f1,f2⟩
    · rw[f2] at hl;cases hl
    · have ow:=(ok.wy j w hw).1
      unfold cg6 at ow
      simp only[a1_] at ow
      have o1:=(mf_ h).1 ow.1
      have o2:=(mf_ h).1 ow.2.1
      simp only[f2,e2,eg,a0_,Option.elim]
      rw[gv_ (n:=w.1+w.2.1) (by omega) (by omega),gv_ (by omega) (by omega)]
  | false =>
  rw[hk1] at hl
  simp only[a2_] at hl ⊢
  cases hk2:m.2.1==2 with
  | true =>
    rw[hk2] at hl
    simp only[a5_] at hl ⊢
    rcases da_ h.pr m.2.2 with ⟨f1,f2⟩ | ⟨j,x,hj,hx,f1,f2⟩
    · rw[f2] at hl;cases hl
    · have:=am_ hx
      rw[us_ (l:=s.2.1) (i:=m.2.2) (by omega) (by omega)]
      rfl
  | false =>
  rw[hk2] at hl
  simp only[a2_] at hl ⊢
  cases hk3:m.2.1==3 with
  | true =>
    rw[hk3] at hl
    simp only[a5_] at hl ⊢
    rcases da_ m2 m.2.2 with ⟨f1,f2⟩ | ⟨j,x,hj,hx,f1,f2⟩
    · rw[f2] at hl;cases hl
    · simp only[f2,e2,eg,a0_]
  | false =>
  rw[hk3] at hl
  simp only[a2_] at hl ⊢
  cases hk4:m.2.1==4 with
  | false=>rfl
  | true =>
    rw[hk4] at hl
    simp only[a5_] at hl ⊢
    rcases da_ h.ac m.2.2 with ⟨f1,f2⟩ | ⟨j,a,hj,ha,f1,f2⟩
    · rw[f2] at hl;cases hl
    · have ai:=bi0 (ok.ac j a ha).1
      obtain⟨s1,s2,s3,s4,s5,s6⟩:=h.acn a (aw_ ha)
      simp only[f2,a0_,Option.elim]
      have hA:=ad9 a.2.2.2.2.2.2.1 s5 (λp=>p) (λ_=>-1) s.2.1 (λp hp=>by have:=ai.sp p hp;omega) (body:=(λ(v17:(Int×((List Int)×Unit))) =>
 (cond (decide (v17.1<(a.2.2.2.2.2.2.1.length:Int)))
 ((at? a.2.2.2.2.2.2.1 v17.1).bind λv18 =>
 ((at? v17.2.1 v18).bind λv19 =>
 ((at? v17.2.1 v18).bind λv20 =>
 (some (inl ((w64 (v17.1+1)),((v17.2.1.set v18.toNat (-1)),())))))))
 (some (inr (v17.2.1,())))))) (λi x t' y hx hy=>by simp only[dlt (am_ hx),a5_,ah_ hx,a0_,hy]) (λt'=>by simp only[dnl,a2_])
      rw[hA,a0_]
      have hl3:(a.2.2.2.2.2.2.1.foldl (λt p=>t.set p.toNat (-1)) s.2.1).length=s.2.1.length:=ad8 (λp=>p) (λ_=>-1) _ _
      have hB:=ad9 a.2.2.2.2.2.2.2 s6 (λp=>p) (λ_=>hdl m) (a.2.2.2.2.2.2.1.foldl (λt p=>t.set p.toNat (-1)) s.2.1) (λp hp=>by have:=ai.br p hp;omega) (body:=(λ(v22:(Int×((List Int)×Unit))) =>
 (cond (decide (v22.1<(a.2.2.2.2.2.2.2.length:Int)))
 ((at? a.2.2.2.2.2.2.2 v22.1).bind λv23 =>
 ((at? v22.2.1 v23).bind λv24 =>
 ((at? v22.2.1 v23).bind λv25 =>
 (some (inl ((w64 (v22.1+1)),((v22.2.1.set v23.toNat (w64 ((-2) - m.1))),())))))))
 (some (inr (v22.2.1,())))))) (λi x t' y hx hy=>by simp only[dlt (am_ hx),a5_,ah_ hx,a0_,hy]) (λt'=>by simp only[dnl,a2_])
      simp only
      rw[hB,a0_]
      have hC:=ad9 a.2.2.2.2.2.1 s4 (λx:Int×Int=>x.1) (λx=>x.2) s.1 (λx hx=>by have:=(nu_ h ok (ai.st x hx)).1;omega) (body:=(λ(v27:(Int×((List Int)×Unit))) =>
 (cond (decide (v27.1<(a.2.2.2.2.2.1.length:Int)))
 ((at? a.2.2.2.2.2.1 v27.1).bind λv28 =>
 ((at? v27.2.1 v28.1).bind λv29 =>
 ((at? v27.2.1 v28.1).bind λv30 =>
 (some (inl ((w64 (v27.1+1)),((v27.2.1.set v28.1.toNat v28.2),())))))))
 (some (inr (v27.2.1,())))))) (λi x t' y hx hy=>by simp only[dlt (am_ hx),a5_,ah_ hx,a0_,hy]) (λt'=>by simp only[dnl,a2_])
      rw[hC,a0_]
def fstA (r:ae_) (th:List Int):Option (List bi_×ab_):=r.2.2.2.2.2.1.find? λy=>(gi th y.2.1 != y.2.2)&&ea_ th y.1
def stl (r:ae_):Nat→List Int→Option (List Int)
 | 0,_=>none
 | n+1,th=>match fstA r th with
  | none=>some th
  | some y=>stl r n (th.set y.2.1.toNat y.2.2)
theorem am0 {α ρ:Type} {q:α→Bool} {f:Nat→ρ}:∀ (m:List α) (k:Nat),(hg_ (λi y=>cond (q y) (some (f i)) none) k m=none∧m.find? q=none)∨∃ (i:Nat) (y:α),m[i]?=some y∧m.find? q=some y∧hg_ (λi y=>cond (q y) (some (f i)) none) k m=some (f (k+i))
 | [],_=>.inl ⟨rfl,rfl⟩
 | x::m,k=>by
  unfold hg_
  cases hq:q x with
  | true=>exact .inr ⟨0,x,rfl,by simp[hq],rfl⟩
  | false =>
   rcases am0 (q:=q) (f:=f) m (k+1) with ⟨h1,h2⟩ | ⟨i,y,h1,h2,h3⟩
   ·exact .inl ⟨h1,by simp[hq,h2]⟩
   ·exact .inr ⟨i+1,y,by simpa using h1,by simp[hq,h2],by rw[show k+(i+1)=k+1+i by omega];exact h3⟩
theorem if_find {α:Type} {l:List α} (hl:Sm l.length) (q:α→Bool) {body:(Int×Unit)→Option ((Int×Unit)⊕(Unit⊕(Int×Unit)))}
  (h:∀ (i:Nat) y,l[i]?=some y→body ((i:Int),())=some (cond (q y) (.inr (.inr ((i:Int),()))) (.inl (w64 ((i:Int)+1),())))) (e:body ((l.length:Int),())=some (.inr (.inl ()))) :
  ∃ n:Int,((af_ body (0,())).bind λv=>cd_ v (λ_=>some ((-1:Int),())) (λw=>some w))=some (n,())∧((n = -1∧l.find? q=none)∨∃ (i:Nat) (y:α),n=(i:Int)∧l[i]?=some y∧l.find? q=some y):=by
 have hrun:=pj_ l (λi y=>cond (q y) (some (inr ((i:Int),()):Unit⊕(Int×Unit))) none) (λi=>((i:Int),())) (r0:=inl ()) (body:=body) (λi y hy=>by
  have hi:=am_ hy
  rw[h i y hy,ba_ (show Sm i by omega)]
  cases q y<;>rfl) e
 have hr2:af_ body (0,())=some ((hg_ (λi y=>cond (q y) (some (inr ((i:Int),()):Unit⊕(Int×Unit))) none) 0 l).getD (inl ())):=hrun
 rw[hr2]
 rcases am0 (q:=q) (f:=λi=>(inr ((i:Int),()):Unit⊕(Int×Unit))) l 0 with ⟨h1,h2⟩ | ⟨i,y,h1,h2,h3⟩
 ·exact⟨-1,by rw[h1];rfl,.inl ⟨rfl,h2⟩⟩
 ·exact⟨(i:Int),by rw[h3,b0_];rfl,.inr ⟨i,y,rfl,h1,h2⟩⟩
theorem cr1 {r:ae_} (h:SmR r) (ok:OkR r) {th pr py:List Int} (hv:VT r th) :
  ∃ n:Int,((af_ (autB r th pr py) (0,())).bind λv=>cd_ v (λ_=>some ((-1:Int),())) (λw=>some w))=some (n,())∧((n = -1∧fstA r th=none)∨∃ (i:Nat) (y:List bi_×ab_),n=(i:Int)∧r.2.2.2.2.2.1[i]?=some y∧fstA r th=some y) :=
 if_find (l:=r.2.2.2.2.2.1) h.au (λy=>(gi th y.2.1 != y.2.2)&&ea_ th y.1) (body:=autB r th pr py) (λi y hy=>by
  obtain⟨g1,g2⟩:=ok.au i y hy
  have hi:=(nu_ h ok g1).1
  obtain⟨c1,c2⟩:=vh_ h.th g2
  have hl:=hv.1
  unfold autB
  have ht:bd_ (r,(th,(pr,py))) y.1=some (ea_ th y.1,()):=ns_ (t:=(r,(th,(pr,py)))) (by omega) (by show InC th.length y.1;rw[hl];exact c1)
  simp only[dlt (am_ hy),a5_,ah_ hy,a0_,us_ hi.1 (show y.2.1<th.length by omega),ht]
  cases gi th y.2.1 != y.2.2 with
  | false=>rfl
  | true=>cases ea_ th y.1<;>rfl) (by
  unfold autB
  simp only[dnl,a2_])
theorem ov_ {r:ae_} (h:SmR r) (ok:OkR r) {pr py:List Int}:∀ (n i:Nat) (th:List Int),i+n=101→VT r th →
  ∃ z,af_ (setB r pr py) ((i:Int),(th,()))=some z∧match stl r n th with
   | some th'=>z = .inr (false,(th',()))∧VT r th'
   | none=>∃ w,z = .inl w
 | 0,i,th,hi,hv=>by
  obtain rfl:i=101:=by omega
  exact⟨.inl (th,()),ct_ (by unfold setB;rfl),_,rfl⟩
 | n+1,i,th,hi,hv=>by
  obtain⟨k,e,hc⟩:=cr1 h ok hv (pr:=pr) (py:=py)
  have hd:decide ((i:Int)<101)=true:=b5_ (by omega)
  unfold stl
  rcases hc with ⟨rfl,hf⟩ | ⟨j,y,rfl,hy,hf⟩
  ·rw[hf]
   refine⟨.inr (false,(th,())),ct_ ?_,rfl,hv⟩
   unfold setB
   simp only[hd,a5_]
   refine e6_ (congrArg (λo=>Option.bind o _) e) rfl
  ·rw[hf]
   have g1:=(ok.au j y hy).1
   have hi2:=(nu_ h ok g1).1
   have hl:=hv.1
   obtain⟨z,ez,hz⟩:=ov_ h ok (pr:=pr) (py:=py) n (i+1) (th.set y.2.1.toNat y.2.2) (by omega) (cf6 h ok hv g1)
   refine⟨z,cq_ ?_ ez,hz⟩
   unfold setB
   simp only[hd,a5_]
   refine e6_ (congrArg (λo=>Option.bind o _) e) ?_
   simp only[a0_,show decide ((j:Int)<0)=false from b6_ (by omega),a2_,ah_ hy,us_ hi2.1 (show y.2.1<th.length by omega),ba_ (show Sm i by show _≤1000000000;omega)]
def zi_ (r:ae_) (s:aj_) (m:ai_):Option aj_:=(stl r 101 (mvP r s m).1).map λth=>(th,(mvP r s m).2)
abbrev eS:aj_:=([],([],[]))
theorem am2 {r:ae_} (h:SmR r) (h0:dn_ r=0) {s:aj_} (hv:VS r s) (m:ai_) :
  fz_ r s m=some (cond (lgl r s m) ((zi_ r s m).elim (eS,(27,())) λt=>(t,(0,()))) (eS,(29,()))):=by
 have ok:=bt_ h0
 obtain⟨m1,m2,m3⟩:=rk_ h ok hv
 rw[rstX_eq]
 unfold rstX
 rw[fs_ h,a0_,gg_ h0 hv]
 simp only[show ((0:Int) != 0)=false from rfl,a2_]
 rw[ax_ m1,a0_,ax_ m2,a0_,ax_ m3,a0_]
 refine e6_ (congrArg (λo=>Option.bind o _) (xc_ h ok hv m)) ?_
 rw[a0_]
 cases hl:lgl r s m with
 | false=>rfl
 | true =>
 simp only[e1_,a2_,a5_]
 rw[cu3 h ok hv hl,a0_]
 simp only
 have hv2:=VS_mv h ok hv hl
 obtain⟨z,ez,hz⟩:=ov_ h ok (pr:=(mvP r s m).2.1) (py:=(mvP r s m).2.2) 101 0 (mvP r s m).1 rfl ⟨hv2.l1,hv2.th⟩
 refine e6_ (congrArg (λo=>Option.bind (Option.bind o _) _) ez) ?_
 unfold zi_
 cases hs:stl r 101 (mvP r s m).1 with
 | none =>
  rw[hs] at hz
  obtain⟨w,rfl⟩:=hz
  rfl
 | some th' =>
  rw[hs] at hz
  obtain⟨rfl,_⟩:=hz
  rfl
theorem wb_ {r:ae_} (h:SmR r) (h0:dn_ r=0) {s t:aj_} (hv:VS r s) {m:ai_} (hl:lgl r s m=true) (ht:zi_ r s m=some t):VS r t:=by
 have ok:=bt_ h0
 have hv2:=VS_mv h ok hv hl
 unfold zi_ at ht
 obtain⟨th,hs,rfl⟩:=f6_.1 ht
 obtain⟨z,ez,hz⟩:=ov_ h ok (pr:=(mvP r s m).2.1) (py:=(mvP r s m).2.2) 101 0 (mvP r s m).1 rfl ⟨hv2.l1,hv2.th⟩
 rw[hs] at hz
 exact⟨hz.2.1,hv2.l2,hv2.l3,hz.2.2,hv2.pr,hv2.py⟩
end
section
set_option maxRecDepth 100000
theorem au3 {r:ae_} (h:SmR r) (h0:dn_ r=0) {s:aj_} (hv:VS r s) {c:List bi_} (hc:cOk r.2.1 c=true):gb_ r s c=some (ea_ s.1 c,(0,())):=by
 have ok:=bt_ h0
 obtain⟨m1,m2,m3⟩:=rk_ h ok hv
 unfold gb_
 rw[fs_ h,a0_,gg_ h0 hv]
 simp only[show ((0:Int) != 0)=false from rfl,a2_]
 rw[kw_ h.th,a0_,hc]
 obtain⟨c1,c2⟩:=vh_ h.th hc
 have hl:=hv.l1
 simp only[e1_,a2_]
 rw[ax_ m1,a0_,ax_ m2,a0_,ax_ m3,a0_,ns_ (t:=(r,(s.1,(s.2.1,s.2.2)))) (show c.length≤1000000000 by omega) (by show InC s.1.length c;rw[hl];exact c1)]
 rfl
def rdB (s:aj_) (n:cy_) (b:Bool):Bool:=b||(ea_ s.1 n.2.2.2.1&&s.2.2.contains n.2.1)
def rdN (g:ac_) (s:aj_) (d:List Bool):List Bool:=List.zipWith (rdB s) g.2.2.2.1 d
theorem tx_ {g:ac_} {s:aj_} {d:List Bool} (hd:d.length=g.2.2.2.1.length):(rdN g s d).length=g.2.2.2.1.length:=by
 unfold rdN
 rw[List.length_zipWith]
 omega
theorem bs1 {g:ac_} {s:aj_} {d:List Bool} {i:Nat} {n:cy_} {b:Bool} (hn:g.2.2.2.1[i]?=some n) (hb:d[i]?=some b):(rdN g s d)[i]?=some (rdB s n b):=by
 unfold rdN
 rw[List.getElem?_zipWith,hn,hb]
theorem xq_ {g:ac_} (hg:SmG g) (ok:OkG g) {s:aj_} (hv:VS g.1 s) {d:List Bool} (hd:d.length=g.2.2.2.1.length) (m:List ab_) :
  ∃ z,af_ (pbgB g s) (0,(d,(m,())))=some z∧z.1=rdN g s d:=by
 have h0:=ok.room
 have okr:=bt_ h0
 obtain⟨m1,m2,m3⟩:=rk_ hg.room okr hv
 have hn:=hg.nt
 have hrl:=tx_ (s:=s) hd
 refine nc_ (λ(i:Nat) (z:Int×(List Bool×(List ab_×Unit)))=>∃ d' m',z=((i:Int),(d',(m',())))∧∀ j,d'[j]?=if j<i then (rdN g s d)[j]? else d[j]?) _ g.2.2.2.1.length 0 _ ⟨d,m,rfl,λj=>by simp⟩ (λj z h1 h2 hz=>.inl ?_) (λz hz => ?_)
 ·obtain⟨d',m',rfl,hd'⟩:=hz
  obtain⟨x,hx⟩:=bc_ (l:=g.2.2.2.1) (i:=j) (by omega)
  obtain⟨y,hy⟩:=bc_ (l:=d) (i:=j) (by omega)
  have hy':d'[j]?=some y:=by rw[hd' j,if_neg (by omega)];exact hy
  have hr:=bs1 (s:=s) hx hy
  have hH:=au3 hg.room h0 hv (ok.nt j x hx).2
  have keep:rdB s x y=y→∀ k,d'[k]?=if k<j+1 then (rdN g s d)[k]? else d[k]?:=λe k=>by
   rw[hd' k]
   by_cases hk:k=j
   ·subst hk
    rw[if_neg (by omega),if_pos (by omega),hr,hy,e]
   ·by_cases hk2:k<j
    ·rw[if_pos hk2,if_pos (by omega)]
    ·rw[if_neg hk2,if_neg (by omega)]
  have turn:rdB s x y=true→∀ k,(d'.set ((j:Int)).toNat true)[k]?=if k<j+1 then (rdN g s d)[k]? else d[k]?:=λe k=>by
   rw[b9_,g4_]
   by_cases hk:j=k
   ·subst hk
    rw[if_pos rfl,if_pos (am_ hy'),if_pos (by omega),hr,e]
   ·rw[if_neg hk,hd' k]
    by_cases hk2:k<j
    ·rw[if_pos hk2,if_pos (by omega)]
    ·rw[if_neg hk2,if_neg (by omega)]
  unfold pbgB
  simp only[dlt (am_ hx),a5_,ah_ hx,ah_ hy',a0_,hH,qa_ m3,ba_ (show Sm j by omega)]
  unfold rdB at keep turn
  cases hb:ea_ s.1 x.2.2.2.1 with
  | false=>exact⟨_,rfl,_,_,rfl,keep (by rw[hb];simp)⟩
  | true =>
  cases hc:s.2.2.contains x.2.1 with
  | false =>
   refine⟨_,?_,d',m',rfl,keep (by rw[hc];simp)⟩
   simp only[a5_,a2_,a0_]
  | true =>
  cases y with
  | true=>exact⟨_,rfl,_,_,rfl,keep rfl⟩
  | false=>exact⟨_,rfl,_,_,rfl,turn (by rw[hb,hc];rfl)⟩
 ·obtain⟨d',m',rfl,hd'⟩:=hz
  rw[b0_]
  unfold pbgB
  simp only[dnl,a2_]
  refine⟨_,rfl,f4_ λk => ?_⟩
  rw[hd' k]
  split
  ·rfl
  ·rw[c2_ (by omega),c2_ (by omega)]
def bm5 (g:ac_) (d:List Bool) (lock:Int):List ak_:=(g.2.2.2.1.zip d).filterMap λx=>cond (x.1.2.2.1==lock&&x.2) (some x.1.2.2.2.2) none
theorem aj8 {g:ac_} {d:List Bool} {lock:Int} {c:ak_} (h:c ∈ bm5 g d lock):∃ (i:Nat) (n:cy_),g.2.2.2.1[i]?=some n∧n.2.2.1=lock∧n.2.2.2.2=c:=by
 unfold bm5 at h
 obtain⟨x,hx,he⟩:=List.mem_filterMap.1 h
 obtain⟨i,hi⟩:=f3_ (List.of_mem_zip hx).1
 cases hq:(x.1.2.2.1==lock&&x.2) with
 | false=>rw[hq] at he;cases he
 | true =>
  rw[hq] at he
  rw[a1_,i5_] at hq
  exact⟨i,x.1,hi,hq.1,a6_ he⟩
theorem bg5 {g:ac_} (hg:SmG g) (d:List Bool) (lock:Int):(bm5 g d lock).length≤20:=by
 unfold bm5
 refine c7_ (p2_ ..) ?_
 rw[n1_]
 have:=hg.nt
 omega
theorem bv1 {g:ac_} (ok:OkG g) {i:Nat} {n:cy_} (hn:g.2.2.2.1[i]?=some n) {l:ab_} (h0:0≤n.2.2.1) (hl:at? g.2.1 n.2.2.1=some l):dr_ l n.2.2.2.2=true:=by
 have h:=(ok.nt i n hn).1
 unfold bv2 at h
 simp only[a1_] at h
 have h5:=h.2.2.2.2
 rw[b6_ (by omega),hl] at h5
 simp only[a2_] at h5
 cases hk:at? g.2.2.1 n.2.2.1 with
 | none=>rw[hk] at h5;cases h5
 | some k =>
  rw[hk] at h5
  have h5:clOk l n.2.2.2.2 k=true:=h5
  unfold clOk at h5
  rw[a1_] at h5
  exact h5.1
noncomputable def rdC (g:ac_) (d:List Bool) (lock:Int) (l:ab_):Int:=((rdg l ((bm5 g d lock))).length:Int)
theorem aq8 {g:ac_} (hg:SmG g) (ok:OkG g) (d:List Bool) {lock:Int} (h0:0≤lock) {l:ab_} (hl:at? g.2.1 lock=some l):ck_ l (bm5 g d lock)=some (rdC g d lock l,(0,())):=by
 obtain⟨_,_,l1⟩:=eu_ hl
 refine ar1 (ok.lk _ l l1).1 (bg5 hg d lock) λc hc => ?_
 obtain⟨i,n,hn,rfl,rfl⟩:=aj8 hc
 exact bv1 ok hn h0 hl
noncomputable def opn (g:ac_) (d:List Bool) (lock:Int):Bool:=cond (decide (lock<0)) true ((at? g.2.1 lock).elim false λl=>decide (rdC g d lock l≤g.2.2.2.2))
noncomputable def abB (a0:ac_) (v1:List Bool) (lock:Int):(List Int×(List ak_×(Int×Unit)))→Option ((List Int×(List ak_×(Int×Unit)))⊕(List Int×(List ak_×Unit))) :=
 (λ(v4:((List Int)×((List ak_)×(Int×Unit)))) =>
 (cond (decide (v4.2.2.1<(a0.2.2.2.1.length:Int)))
 ((((at? a0.2.2.2.1 v4.2.2.1).bind λv5 =>
 (((cond (v5.2.2.1==lock)
 ((at? v1 v4.2.2.1).bind λv6 =>
 ((at? v1 v4.2.2.1).bind λv7 =>
 (some (v7,()))))
 (some (false,())))).bind λv8 =>
 (cond v8.1
 ((push? (α:=Int) v4.1 [v4.2.2.1]).bind λv9 =>
 ((push? (α:=ak_) v4.2.1 [v5.2.2.2.2]).bind λv10 =>
 (some (v9,(v10,())))))
 (some (v4.1,(v4.2.1,()))))))).bind λv11 =>
 (some (inl (v11.1,(v11.2.1,((w64 (v4.2.2.1+1)),()))))))
 (some (inr (v4.1,(v4.2.1,()))))))
theorem cf5 {g:ac_} (hg:SmG g) {d:List Bool} (hd:d.length=g.2.2.2.1.length) (lock:Int):∃ q,af_ (abB g d lock) ([],([],(0,())))=some (q,(bm5 g d lock,())):=by
 have hn:=hg.nt
 suffices hk:∃ r,af_ (abB g d lock) ([],([],(0,())))=some r∧∃ q,r=(q,(bm5 g d lock,())) by
  obtain⟨z,ez,q,rfl⟩:=hk
  exact⟨q,ez⟩
 refine nc_ (λ(i:Nat) (z:List Int×(List ak_×(Int×Unit)))=>∃ q,z=(q,(((g.2.2.2.1.zip d).take i).filterMap (λx=>cond (x.1.2.2.1==lock&&x.2) (some x.1.2.2.2.2) none),((i:Int),())))∧q.length≤i) (λw=>∃ q,w=(q,(bm5 g d lock,()))) g.2.2.2.1.length 0 ([],([],(0,()))) ⟨[],rfl,c4_ _⟩ (λj z h1 h2 hz=>.inl ?_) (λz hz => ?_)
 ·obtain⟨q,rfl,hq⟩:=hz
  obtain⟨x,hx⟩:=bc_ (l:=g.2.2.2.1) (i:=j) (by omega)
  obtain⟨y,hy⟩:=bc_ (l:=d) (i:=j) (by omega)
  have hzip:(g.2.2.2.1.zip d)[j]?=some (x,y):=by rw[h5_];exact⟨hx,hy⟩
  have hlen:(((g.2.2.2.1.zip d).take j).filterMap (λx=>cond (x.1.2.2.1==lock&&x.2) (some x.1.2.2.2.2) none)).length≤j:=by
   refine c7_ (p2_ ..) ?_
   rw[c5_];omega
  have hstep:((g.2.2.2.1.zip d).take (j+1)).filterMap (λx=>cond (x.1.2.2.1==lock&&x.2) (some x.1.2.2.2.2) none)=((g.2.2.2.1.zip d).take j).filterMap (λx=>cond (x.1.2.2.1==lock&&x.2) (some x.1.2.2.2.2) none)++cond (x.2.2.1==lock&&y) [x.2.2.2.2] []:=by
   rw[d9_,hzip,n9_]
   cases hc:(x.2.2.1==lock&&y) with
   | false=>simp[hc]
   | true=>simp[hc]
  unfold abB
  simp only[dlt (am_ hx),a5_,ah_ hx,ah_ hy,a0_,ba_ (show Sm j by omega)]
  cases h1:x.2.2.1==lock with
  | false =>
   refine⟨_,rfl,q,?_,by omega⟩
   rw[hstep,h1,e8_,a2_,e9_]
  | true =>
  cases y with
  | false =>
   refine⟨_,rfl,q,?_,by omega⟩
   rw[hstep,f7_,a2_,e9_]
  | true =>
   simp only[a5_,a0_,ci_ (show Sm q.length by show _≤1000000000;omega),ci_ (show Sm _ from c7_ hlen (by omega))]
   refine⟨_,rfl,q++[(j:Int)],?_,by rw[a8_,c8_];omega⟩
   rw[hstep,h1,h7_,a5_]
 ·obtain⟨q,rfl,hq⟩:=hz
  rw[b0_]
  unfold abB
  simp only[dnl,a2_]
  refine⟨_,rfl,q,?_⟩
  unfold bm5
  rw[g8_ (by rw[n1_];omega)]
end
section
set_option maxRecDepth 100000
noncomputable def opX (a0:ac_) (v1:List Bool) (a2:ai_):Option (Bool×(List ab_×Unit)) :=
 (cond (a2.2.1==4)
 ((cb_ a2.2.2 0 (w64 ((a0.1.2.2.2.2.1.length:Int) - 1))).bind λv2 =>
 (cond v2.1
 ((at? a0.1.2.2.2.2.1 a2.2.2).bind λv3 =>
 (cond (decide (v3.2.2.1<0))
 (some ((!true),([],())))
 ((((af_ (abB a0 v1 v3.2.2.1) ([],([],(0,())))).bind λv12 =>
 ((at? a0.2.1 v3.2.2.1).bind λv13 =>
 ((ck_ v13 v12.2.1).bind λv14 =>
 (((cond (v14.2.1==0)
 (some ((decide (v14.1≤a0.2.2.2.2)),()))
 (some (false,())))).bind λv15 =>
 (cond v15.1
 (some ((fh_ (fh_ [] v3.2.2.1 2) v3.2.2.1 1),()))
 (some ((fh_ [] v3.2.2.1 2),())))))))).bind λv16 =>
 (some ((!((dm_ 0 v16.1 v3.2.2.1)==1)),(v16.1,()))))))
 (some (false,([],())))))
 (some (false,([],()))))
noncomputable def pstX (a0:ac_) (a1:aa_) (a2:ai_):Option (aa_×(Int×Unit)) :=
 ((ez_ a0 a1).bind λv0 =>
 (cond (v0.1 != 0)
 (cond (v0.1 != 0)
 (some ((([],([],[])),[]),(v0.1,())))
 none)
 ((push? (α:=Bool) [] a1.2).bind λv1 =>
 ((((opX a0 v1 a2).bind λv17 =>
 (cond v17.1
 (some ((!false),(v1,(v17.2.1,((a1.1.1,(a1.1.2.1,(a1.1.2.2,()))),())))))
 ((fz_ a0.1 a1.1 a2).bind λv18 =>
 (cond (v18.2.1 != 0)
 (some ((!false),(v1,(v17.2.1,((a1.1.1,(a1.1.2.1,(a1.1.2.2,()))),())))))
 ((af_ (ρ:=((List Bool)×((List ab_)×Unit))) (pbgB a0 v18.1) (0,(v1,(v17.2.1,())))).bind λv29 =>
 (some ((!true),(v29.1,(v29.2.1,((v18.1.1,(v18.1.2.1,(v18.1.2.2,()))),()))))))))))).bind λv30 =>
 (cond v30.1
 (some ((([],([],[])),[]),(29,())))
 ((push? (α:=Int) [] v30.2.2.2.1.1).bind λv31 =>
 ((push? (α:=Int) [] v30.2.2.2.1.2.1).bind λv32 =>
 ((push? (α:=Int) [] v30.2.2.2.1.2.2.1).bind λv33 =>
 ((push? (α:=Bool) [] v30.2.1).bind λv34 =>
 (some (((v31,(v32,v33)),v34),(0,()))))))))))))
theorem pstX_eq:jd_=pstX:=by kernel_rfl
noncomputable def okM (g:ac_) (d:List Bool) (m:ai_):Bool:=cond (m.2.1==4) ((at? g.1.2.2.2.2.1 m.2.2).elim true λa=>opn g d a.2.2.1) true
noncomputable def stepP (g:ac_) (p:aa_) (m:ai_):Option aa_ :=
 cond (okM g p.2 m&&lgl g.1 p.1 m) ((zi_ g.1 p.1 m).map λs=>(s,rdN g s p.2)) none
abbrev eP:aa_:=(eS,[])
theorem bl1 {g:ac_} (hg:SmG g) (p:aa_):ez_ g p=some (cond (cw_ g != 0) (cw_ g) (cond (kc_ g.1 p.1 != 0) (kc_ g.1 p.1) (cond ((p.2.length:Int) != (g.2.2.2.1.length:Int)) 28 0)),()):=by
 unfold ez_
 rw[aa2 hg,a0_]
 cases cw_ g != 0 with
 | true=>rfl
 | false =>
 simp only[a2_]
 rw[fs_ hg.room,a0_]
 cases kc_ g.1 p.1 != 0 with
 | true=>rfl
 | false =>
 simp only[a2_]
 cases (p.2.length:Int) != (g.2.2.2.1.length:Int)<;>rfl
structure VP (g:ac_) (p:aa_):Prop where
 st:VS g.1 p.1
 rd:p.2.length=g.2.2.2.1.length
theorem xo_ {g:ac_} (hg:SmG g) (h0:cw_ g=0) {p:aa_} (hv:VP g p):ez_ g p=some (0,()):=by
 rw[bl1 hg,h0,gg_ (df_ h0).room hv.st,hv.rd,show ((g.2.2.2.1.length:Int) != (g.2.2.2.1.length:Int))=false by simp]
 rfl
theorem opX_eq {g:ac_} (hg:SmG g) (ok:OkG g) {d:List Bool} (hd:d.length=g.2.2.2.1.length) (m:ai_):∃ x,opX g d m=some (!(okM g d m),(x,())):=by
 have hac:=hg.ac
 unfold opX okM
 cases hk:m.2.1==4 with
 | false=>exact⟨[],rfl⟩
 | true =>
 simp only[a5_,lf_,a0_]
 rcases da_ (l:=g.1.2.2.2.2.1) (by show _≤1000000000;omega) m.2.2 with ⟨f1,f2⟩ | ⟨j,a,hj,ha,f1,f2⟩
 ·rw[f1,f2];exact⟨[],rfl⟩
 ·rw[f1,f2]
  simp only[a5_,a0_,Option.elim]
  unfold opn
  cases hz:decide (a.2.2.1<0) with
  | true=>exact⟨[],rfl⟩
  | false =>
  have hz:=d1_ hz
  have hlt:=ok.ac j a ha
  obtain⟨l,hl⟩:=bc_ (l:=g.2.1) (i:=a.2.2.1.toNat) (by omega)
  have hl2:at? g.2.1 a.2.2.1=some l:=by rw[show a.2.2.1=((a.2.2.1.toNat:Nat):Int) by omega];exact ah_ hl
  obtain⟨q,e⟩:=cf5 hg hd a.2.2.1
  rw[e]
  simp only[a2_,a0_,hl2,aq8 hg ok d (by omega) hl2,Option.elim]
  simp only[show ((0:Int)==0)=true from rfl,a5_,a0_]
  cases decide (rdC g d a.2.2.1 l≤g.2.2.2.2) with
  | true=>exact⟨_,by simp[fh_,dm_,mget?];rfl⟩
  | false=>exact⟨_,by simp[fh_,dm_,mget?];rfl⟩
theorem ao0 {g:ac_} (hg:SmG g) (h0:cw_ g=0) {p:aa_} (hv:VP g p) (m:ai_) :
  jd_ g p m=some ((stepP g p m).elim (eP,(29,())) λq=>(q,(0,()))):=by
 have ok:=df_ h0
 have hn:=hg.nt
 have hrd:=hv.rd
 rw[pstX_eq]
 unfold pstX
 rw[xo_ hg h0 hv,a0_]
 simp only[show ((0:Int) != 0)=false from rfl,a2_]
 rw[ax_ (show Sm p.2.length by show _≤1000000000;omega),a0_]
 obtain⟨x,ex⟩:=opX_eq hg ok hv.rd m
 rw[ex,a0_]
 unfold stepP
 cases okM g p.2 m with
 | false=>rfl
 | true =>
 simp only[e1_,a2_,c3_]
 rw[am2 hg.room ok.room hv.st m,a0_]
 cases hl:lgl g.1 p.1 m with
 | false=>rfl
 | true =>
 simp only[a5_]
 cases hs:zi_ g.1 p.1 m with
 | none=>rfl
 | some s =>
 have hv2:=wb_ hg.room ok.room hv.st hl hs
 obtain⟨m1,m2,m3⟩:=rk_ hg.room (bt_ ok.room) hv2
 have hrl:=tx_ (s:=s) hv.rd
 obtain⟨z,ez,hz⟩:=xq_ hg ok hv2 hv.rd x
 simp only[Option.elim,show ((0:Int) != 0)=false from rfl,a2_]
 rw[ez,a0_,a0_]
 simp only[e1_,a2_]
 rw[ax_ m1,a0_,ax_ m2,a0_,ax_ m3,a0_,hz,ax_ (show Sm (rdN g s p.2).length by show _≤1000000000;omega),a0_]
 rfl
theorem ad4 {g:ac_} (hg:SmG g) (h0:cw_ g=0) {p q:aa_} (hv:VP g p) {m:ai_} (h:stepP g p m=some q):VP g q:=by
 have ok:=df_ h0
 unfold stepP at h
 cases hc:(okM g p.2 m&&lgl g.1 p.1 m) with
 | false=>rw[hc] at h;cases h
 | true =>
 rw[hc,a5_] at h
 obtain⟨s,hs,rfl⟩:=f6_.1 h
 rw[a1_] at hc
 exact⟨wb_ hg.room ok.room hv.st hc.2 hs,tx_ hv.rd⟩
end
end Go.Proofs.YthpilkoeneocmaaGreatDoor.Rx
namespace Go.Proofs.YthpilkoeneocmaaGreatDoor.Rx
open Go Pad Rex Sum
section
set_option maxRecDepth 10000
theorem br6 {r:ae_} (h:SmR r) (h0:dn_ r=0) {s:aj_} (hv:VS r s):lm_ r s=some (ea_ s.1 r.2.2.2.2.2.2.2,(0,())):=by
 have ok:=bt_ h0
 obtain⟨m1,m2,m3⟩:=rk_ h ok hv
 unfold lm_
 rw[fs_ h,a0_,gg_ h0 hv]
 simp only[show ((0:Int) != 0)=false from rfl,a2_]
 obtain⟨c1,c2⟩:=vh_ h.th ok.go
 have hl:=hv.l1
 rw[ax_ m1,ax_ m2,ax_ m3]
 simp only[a0_]
 rw[ns_ (t:=(r,(s.1,(s.2.1,s.2.2)))) (show r.2.2.2.2.2.2.2.length≤1000000000 by omega) (by show InC s.1.length r.2.2.2.2.2.2.2;rw[hl];exact c1)]
 rfl
end
section
set_option maxRecDepth 10000
theorem bk4 {s:aj_} (h:Sm s.2.1.length) (p:Int):hv_ s p=some ((mx_ s.2.1 (w64 ((-2) - p)):Int),()):=by
 unfold hv_
 refine ar8 s.2.1 (λ_ (c:Nat) x=>cond (x==w64 ((-2) - p)) (c+1) c) (λi c=>((c:Int),((i:Int),()))) (λc=>((c:Int),())) 0 (λi c=>c=mx_ (s.2.1.take i) (w64 ((-2) - p))) rfl (λi x c hx hc => ?_) (λc hc => ?_) (λc hc => ?_)
 ·have hi:=am_ hx
  have hcl:c≤i:=by rw[hc];refine c7_ (wn_ _ _) ?_;rw[c5_];omega
  have hn:mx_ (s.2.1.take (i+1)) (w64 ((-2) - p))=cond (x==w64 ((-2) - p)) (c+1) c:=by
   unfold mx_
   rw[d9_,hx,hc,List.countP_append]
   unfold mx_
   cases hq:x==w64 ((-2) - p) with
   | true=>simp[hq]
   | false=>simp[hq]
  refine⟨?_,hn.symm⟩
  simp only[dlt hi,a5_,ah_ hx,a0_,ba_ (show Sm i by omega)]
  cases hq:x==w64 ((-2) - p) with
  | true=>simp only[a5_,a0_,ba_ (show Sm c by omega)]
  | false=>rfl
 ·simp only[dnl,a2_]
 ·rw[d2_] at hc
  rw[hc]
theorem ak3 (a b:Int):(a != b) = !(a==b):=rfl
theorem av4 {r:ae_} (h:SmR r) (ok:OkR r) {s:aj_} (hv:VS r s) (m:ai_):kp_ r s m=some (lgl r s m,()):=by
 obtain⟨m1,m2,m3⟩:=rk_ h ok hv
 have hl1:=hv.l1
 have hl2:=hv.l2
 have hl3:=hv.l3
 have hH:∀ {c:List bi_},cOk r.2.1 c=true→bk_ s c=some (ea_ s.1 c,()):=λ{c} hc=>by
  obtain⟨c1,c2⟩:=vh_ h.th hc
  exact ki_ (show c.length≤1000000000 by omega) (by show InC s.1.length c;rw[hl1];exact c1)
 have hD:hv_ s m.1=some ((mx_ s.2.1 (hdl m):Int),()):=bk4 m2 m.1
 have hDl:=wn_ s.2.1 (hdl m)
 unfold kp_ lgl
 rw[← hl3]
 simp only[gi_,a0_]
 rcases da_ m3 m.1 with ⟨e1,_⟩ | ⟨pj,px,hpj,hp,e1,e2⟩
 ·rw[e1];rfl
 ·have eg:gi s.2.2 m.1=px:=nz_ e2
  simp only[e1,e2,eg,e1_,a2_,a0_,c3_]
  cases hk1:m.2.1==1 with
  | true =>
   simp only[a5_]
   rcases da_ h.wy m.2.2 with ⟨f1,f2⟩ | ⟨j,w,hj,hw,f1,f2⟩
   ·simp only[f1,f2];rfl
   ·simp only[f1,f2,a5_,a0_,hH (ok.wy j w hw).2]
    show _=some ((w.1==px||w.2.1==px)&&ea_ s.1 w.2.2,())
    cases w.1==px with
    | true=>rfl
    | false=>cases w.2.1==px<;>rfl
  | false =>
  simp only[a2_]
  cases hk2:m.2.1==2 with
  | true =>
   simp only[a5_]
   rcases da_ h.pr m.2.2 with ⟨f1,f2⟩ | ⟨j,x,hj,hx,f1,f2⟩
   ·simp only[f1,f2];rfl
   ·obtain⟨p,hp⟩:=bc_ (l:=s.2.1) (i:=j) (by have:=am_ hx;omega)
    have f3:at? s.2.1 m.2.2=some p:=by rw[hj];exact ah_ hp
    have f4:gi s.2.1 m.2.2=p:=nz_ f3
    simp only[f1,f2,f3,f4,a5_,a0_,hH (ok.pr j x hx).2,hD]
    show _=some (p==px&&(ea_ s.1 x.2.2&&decide ((mx_ s.2.1 (hdl m):Int)<3)),())
    cases p==px with
    | false=>rfl
    | true=>cases ea_ s.1 x.2.2<;>rfl
  | false =>
  simp only[a2_]
  cases hk3:m.2.1==3 with
  | true =>
   simp only[a5_]
   rcases da_ m2 m.2.2 with ⟨f1,f2⟩ | ⟨j,p,hj,hp,f1,f2⟩
   ·rw[hl2] at f1
    simp only[f1,f2];rfl
   ·rw[hl2] at f1
    simp only[f1,f2,a5_,a0_];rfl
  | false =>
  simp only[a2_]
  cases hk4:m.2.1==4 with
  | false=>rfl
  | true =>
   simp only[a5_]
   rcases da_ h.ac m.2.2 with ⟨f1,f2⟩ | ⟨j,a,hj,ha,f1,f2⟩
   ·simp only[f1,f2];rfl
   ·obtain⟨oa,oc⟩:=ok.ac j a ha
    have ai:=bi0 oa
    obtain⟨s1,s2,s3,s4,s5,s6⟩:=h.acn a (aw_ ha)
    simp only[f1,f2,e1_,a2_,a0_]
    show _=some (a.2.1==px&&((a.2.2.2.1.all λp=>gi s.2.1 p==hdl m)&&(ea_ s.1 a.2.2.2.2.1&&((a.2.2.2.2.2.2.2.all λp=>gi s.2.1 p==-1)&&decide ((mx_ s.2.1 (hdl m):Int) - (a.2.2.2.2.2.2.1.length:Int)+(a.2.2.2.2.2.2.2.length:Int)≤3)))),())
    refine bu_ a.2.2.2.1 (λ_ p=>cond (gi s.2.1 p==hdl m) none (some (inr (false,()):Unit⊕(Bool×Unit)))) (λi=>((i:Int),())) (r0:=inl ()) (λi y hy => ?_) ?_ ?_
    ·have:=ai.us y (aw_ hy)
     simp only[dlt (am_ hy),a5_,ah_ hy,a0_,us_ this.1 (show y<(s.2.1.length:Int) by omega),ba_ (show Sm i by have:=am_ hy;omega),ak3]
     cases gi s.2.1 y==hdl m<;>rfl
    ·simp only[dnl,a2_]
    rw[kh_ (q:=λp=>gi s.2.1 p==hdl m)]
    cases a.2.2.2.1.all λp=>gi s.2.1 p==hdl m with
    | false=>simp only[e8_,f7_];rfl
    | true =>
    simp only[a5_,j6_]
    unfold cd_
    refine bu_ a.2.2.2.2.2.2.2 (λ_ p=>cond (gi s.2.1 p==-1) none (some (inr (false,()):Unit⊕(Bool×Unit)))) (λi=>((i:Int),())) (r0:=inl ()) (λi y hy => ?_) ?_ ?_
    ·have:=ai.br y (aw_ hy)
     simp only[dlt (am_ hy),a5_,ah_ hy,a0_,us_ this.1 (show y<(s.2.1.length:Int) by omega),ba_ (show Sm i by have:=am_ hy;omega),ak3]
     cases gi s.2.1 y==-1<;>rfl
    ·simp only[dnl,a2_]
    rw[kh_ (q:=λp=>gi s.2.1 p==-1)]
    cases a.2.2.2.2.2.2.2.all λp=>gi s.2.1 p==-1 with
    | false=>simp only[e8_,f7_];rfl
    | true =>
    simp only[a5_,j6_]
    cases a.2.1==px with
    | false=>rfl
    | true =>
    simp only[a5_,hH oc,a0_,c3_]
    cases ea_ s.1 a.2.2.2.2.1 with
    | false=>rfl
    | true =>
    simp only[a5_,hD,a0_,c3_]
    rw[gv_ (n:=(mx_ s.2.1 (hdl m):Int) - _) (by omega) (by omega),gv_ (by omega) (by omega)]
end
section
set_option maxRecDepth 10000
theorem run_cnt {σ ρ:Type} (n:Nat) (S:Nat→σ) {body:σ→Option (σ⊕ρ)} {r:ρ} (h:∀ i,i<n→body (S i)=some (.inl (S (i+1)))) (e:body (S n)=some (.inr r)):af_ body (S 0)=some r:=by
 have gen:∀ (k i:Nat),i+k=n→af_ body (S i)=some r:=by
  intro k
  induction k with
  | zero =>
   intro i hi
   obtain rfl:i=n:=by omega
   exact ct_ e
  | succ k ih =>
   intro i hi
   exact cq_ (h i (by omega)) (ih (i+1) (by omega))
 exact gen n 0 (by omega)
theorem mt_ {σ ρ υ:Type} (n:Nat) (S:Nat→σ) {body:σ→Option (σ⊕ρ)} {r:ρ} {s0:σ} {K:ρ→Option υ} {x:Option υ} (h0:S 0=s0) (h:∀ i,i<n→body (S i)=some (.inl (S (i+1)))) (e:body (S n)=some (.inr r)) (hk:K r=x):(af_ body s0).bind K=x:=by
 rw[← h0,run_cnt n S h e,a0_,hk]
section
variable (q:ai_→Bool)
def mvK (i k:Int):Nat→List ai_→List ai_
 | 0,l=>l
 | n+1,l=>cond (q (i,(k,(n:Int)))) (mvK i k n l++[(i,(k,(n:Int)))]) (mvK i k n l)
def mvJ (i:Int) (c:Nat→Nat):Nat→List ai_→List ai_
 | 0,l=>l
 | k+1,l=>mvK q i (k:Int) (c k) (mvJ i c k l)
def mvs (c:Nat→Nat):Nat→List ai_
 | 0=>[]
 | n+1=>mvJ q (n:Int) c 5 (mvs c n)
theorem ag5 (i k:Int):∀ n l,(mvK q i k n l).length≤l.length+n
 | 0,l=>c4_ _
 | n+1,l=>by
  have:=ag5 i k n l
  unfold mvK
  cases q (i,(k,(n:Int))) with
  | true=>simp only[a5_,a8_,c1_,i2_];omega
  | false=>simp only[a2_];omega
theorem ag6 (i:Int) {c:Nat→Nat} (hc:∀ k,c k≤24):∀ k l,(mvJ q i c k l).length≤l.length+k * 24
 | 0,l=>c4_ _
 | k+1,l=>by
  have h1:=ag6 i hc k l
  have h2:=ag5 q i (k:Int) (c k) (mvJ q i c k l)
  have h3:=hc k
  unfold mvJ
  omega
theorem ag4 {c:Nat→Nat} (hc:∀ k,c k≤24):∀ n,(mvs q c n).length≤n * 120
 | 0=>c4_ _
 | n+1=>by
  have h1:=ag4 hc n
  have h2:=ag6 q (n:Int) hc 5 (mvs q c n)
  unfold mvs
  omega
theorem bv7 (i k:Int) {n:Nat} (l:List ai_):∀ m,n≤m→(∀ j:Nat,n≤j→j<m→q (i,(k,(j:Int)))=false)→mvK q i k m l=mvK q i k n l
  | 0, h, _ => by obtain rfl : n = 0 := by omega
                  rfl
  | m+1,h,hf=>by
    rcases m8_ m n with hm | hm
    · obtain rfl:n=m+1:=by omega
      rfl
    · show cond (q (i,(k,(m:Int)))) _ (mvK q i k m l)=_
      rw[hf m hm (by omega),a2_]
      exact bv7 i k l m hm λj a b=>hf j a (by omega)
theorem bv9 (i:Int) {c d:Nat→Nat} (K:Nat) (l:List ai_) (hc:∀ k,k<K→c k≤d k) (hf:∀ k,k<K→∀ j:Nat,c k≤j→j<d k→q (i,((k:Int),(j:Int)))=false):∀ k,k≤K→mvJ q i d k l=mvJ q i c k l
 | 0,_=>rfl
 | k+1,hk=>by
  unfold mvJ
  rw[bv9 i K l hc hf k (by omega)]
  exact bv7 q i (k:Int) _ (d k) (hc k (by omega)) (hf k (by omega))
theorem bv6 {c d:Nat→Nat} (hc:∀ k,k<5→c k≤d k) (hf:∀ i k,k<5→∀ j:Nat,c k≤j→j<d k→q (i,((k:Int),(j:Int)))=false):∀ n,mvs q d n=mvs q c n
 | 0=>rfl
 | n+1=>by
  unfold mvs
  rw[bv6 hc hf n]
  exact bv9 q (n:Int) 5 _ hc (hf (n:Int)) 5 (c4_ _)
end
def as8 (r:ae_) (k:Nat):Nat:=[0,r.2.2.2.1.length,r.2.2.1.length,r.2.2.1.length,r.2.2.2.2.1.length].getD k 0
def un_ (k:Nat):Nat:=match k with
 | 0=>0
 | _+1=>24
theorem at5 (a b c d:Nat):∀ {k:Nat},k<5→decide ((k:Int)<(([0,(a:Int),(b:Int),(c:Int),(d:Int)]:List Int).length:Int))=true∧at? [0,(a:Int),(b:Int),(c:Int),(d:Int)] (k:Int)=some ((([0,a,b,c,d]:List Nat).getD k 0:Nat):Int)
 | 0,_=>⟨rfl,rfl⟩
 | 1,_=>⟨rfl,rfl⟩
 | 2,_=>⟨rfl,rfl⟩
 | 3,_=>⟨rfl,rfl⟩
 | 4,_=>⟨rfl,rfl⟩
 | _+5,h=>absurd h (by omega)
theorem cnt_le {r:ae_} (ok:OkR r):∀ k,as8 r k≤un_ k:=by
 have hm:=ok.many
 unfold ah2 at hm
 simp only[b8_,p4_] at hm
 intro k
 match k with
 | 0=>exact c4_ _
 | 1=>show r.2.2.2.1.length≤24;omega
 | 2=>show r.2.2.1.length≤24;omega
 | 3=>show r.2.2.1.length≤24;omega
 | 4=>show r.2.2.2.2.1.length≤24;omega
 | k+5=>exact h4_ _
theorem aj7:∀ k,un_ k≤24
 | 0=>h4_ _
 | _+1=>c4_ _
theorem bh5 {α:Type} {l:List α} {j:Nat} (h:l.length≤j):at? l (j:Int)=none:=by
 rw[ce6]
 exact c2_ h
theorem lgl_out {r:ae_} {s:aj_} (hv:VS r s) (i:Int) {k:Nat} (hk:k<5) {j:Nat} (hj:as8 r k≤j):lgl r s (i,((k:Int),(j:Int)))=false:=by
 unfold lgl
 match k,hk with
 | 0,_ =>
  show (_&&false)=false
  rw[f7_]
 | 1,_ =>
  show (_&&(at? r.2.2.2.1 (j:Int)).elim false _)=false
  rw[bh5 (show r.2.2.2.1.length≤j from hj)]
  exact f7_ _
 | 2,_ =>
  show (_&&(at? r.2.2.1 (j:Int)).elim false _)=false
  rw[bh5 (show r.2.2.1.length≤j from hj)]
  exact f7_ _
 | 3,_ =>
  show (_&&(at? s.2.1 (j:Int)).elim false _)=false
  have hl:=hv.l2
  have hj:r.2.2.1.length≤j:=hj
  rw[bh5 (show s.2.1.length≤j by omega)]
  exact f7_ _
 | 4,_ =>
  show (_&&(at? r.2.2.2.2.1 (j:Int)).elim false _)=false
  rw[bh5 (show r.2.2.2.2.1.length≤j from hj)]
  exact f7_ _
 | k+5,h=>exact absurd h (by omega)
def lmv (r:ae_) (s:aj_):List ai_:=mvs (lgl r s) (as8 r) r.2.2.2.2.2.2.1.toNat
theorem bj7 {r:ae_} (h:SmR r) (h0:dn_ r=0) {s:aj_} (hv:VS r s):ga_ r s=some (lmv r s,(0,())):=by
 have ok:=bt_ h0
 obtain⟨m1,m2,m3⟩:=rk_ h ok hv
 have hpy:=cl_.1 ok.py
 obtain⟨P,hP⟩:∃ P:Nat,r.2.2.2.2.2.2.1=(P:Int):=⟨_,(Int.toNat_of_nonneg (by omega)).symm⟩
 have hc:∀ k,as8 r k≤24:=λk=>c7_ (cnt_le ok k) (aj7 k)
 unfold ga_ lmv
 rw[fs_ h,a0_,gg_ h0 hv]
 simp only[show ((0:Int) != 0)=false from rfl,a2_,ax_ m1,ax_ m2,ax_ m3,a0_,hP,b9_]
 refine mt_ P (λi=>((i:Int),((),((mvs (lgl r s) (as8 r) i,()),())))) rfl (λi hi => ?_) (by simp only[dnl,a2_];rfl) rfl
 simp only[dlt hi,a5_]
 have l1:=ag4 (lgl r s) hc i
 refine mt_ 5 (λk=>((k:Int),((),((mvJ (lgl r s) (i:Int) (as8 r) k (mvs (lgl r s) (as8 r) i),()),())))) rfl (λk hk => ?_) rfl ?_
 ·have l2:=ag6 (lgl r s) (i:Int) hc k (mvs (lgl r s) (as8 r) i)
  obtain⟨a1,a2⟩:=at5 r.2.2.2.1.length r.2.2.1.length r.2.2.1.length r.2.2.2.2.1.length hk
  simp only[a1,a2,a5_,a0_]
  refine mt_ (as8 r k) (λj=>((j:Int),((),((mvK (lgl r s) (i:Int) (k:Int) j (mvJ (lgl r s) (i:Int) (as8 r) k (mvs (lgl r s) (as8 r) i)),()),())))) rfl (λj hj => ?_) (by exact congrArg (λb=>cond b _ _) (dnl (as8 r k))) ?_
  ·have l3:=ag5 (lgl r s) (i:Int) (k:Int) j (mvJ (lgl r s) (i:Int) (as8 r) k (mvs (lgl r s) (as8 r) i))
   have hk24:=hc k
   have hp:=ci_ (x:=((i:Int),((k:Int),(j:Int)))) (show Sm (mvK (lgl r s) (i:Int) (k:Int) j (mvJ (lgl r s) (i:Int) (as8 r) k (mvs (lgl r s) (as8 r) i))).length by show _≤1000000000;omega)
   have hd:decide ((j:Int)<((([0,r.2.2.2.1.length,r.2.2.1.length,r.2.2.1.length,r.2.2.2.2.1.length]:List Nat).getD k 0:Nat):Int))=true:=dlt hj
   simp only[hd,a5_,show ((r,(s.1,(s.2.1,s.2.2))):hz_)=(r,s) from rfl,xc_ h ok hv,a0_,ba_ (show Sm j by show j≤1000000000;omega),mvK]
   cases hq:lgl r s ((i:Int),((k:Int),(j:Int))) with
   | true=>simp only[a5_,hp,a0_]
   | false=>simp only[a2_,a0_]
  ·simp only[ba_ (show Sm k by show k≤1000000000;omega)]
   rfl
 ·simp only[ba_ (show Sm i by show i≤1000000000;omega)]
  rfl
theorem vk_ {r:ae_} (h:SmR r) (ok:OkR r) {s:aj_} (hv:VS r s):fn_ r s=some (lmv r s,()):=by
 have hpy:=cl_.1 ok.py
 obtain⟨P,hP⟩:∃ P:Nat,r.2.2.2.2.2.2.1=(P:Int):=⟨_,(Int.toNat_of_nonneg (by omega)).symm⟩
 have hc:=aj7
 have hE:lmv r s=mvs (lgl r s) un_ P:=by
  unfold lmv
  rw[hP,b9_]
  exact (bv6 (lgl r s) (λk _=>cnt_le ok k) (λi k hk j a _=>lgl_out hv i hk a) P).symm
 unfold fn_
 rw[hE]
 simp only[hP]
 refine mt_ P (λi=>(mvs (lgl r s) un_ i,((i:Int),()))) rfl (λi hi => ?_) (by simp only[dnl,a2_];rfl) rfl
 simp only[dlt hi,a5_]
 have l1:=ag4 (lgl r s) hc i
 refine mt_ 4 (λk=>(mvJ (lgl r s) (i:Int) un_ (k+1) (mvs (lgl r s) un_ i),(((k+1:Nat):Int),()))) rfl (λk hk => ?_) rfl ?_
 ·have l2:=ag6 (lgl r s) (i:Int) hc (k+1) (mvs (lgl r s) un_ i)
  simp only[show decide (((k+1:Nat):Int)≤4)=true from b5_ (by omega),a5_]
  refine mt_ 24 (λj=>(mvK (lgl r s) (i:Int) ((k+1:Nat):Int) j (mvJ (lgl r s) (i:Int) un_ (k+1) (mvs (lgl r s) un_ i)),((j:Int),()))) rfl (λj hj => ?_) rfl ?_
  ·have l3:=ag5 (lgl r s) (i:Int) ((k+1:Nat):Int) j (mvJ (lgl r s) (i:Int) un_ (k+1) (mvs (lgl r s) un_ i))
   have hp:=ci_ (x:=((i:Int),(((k+1:Nat):Int),(j:Int)))) (show Sm (mvK (lgl r s) (i:Int) ((k+1:Nat):Int) j (mvJ (lgl r s) (i:Int) un_ (k+1) (mvs (lgl r s) un_ i))).length by show _≤1000000000;omega)
   simp only[show decide ((j:Int)<24)=true from b5_ (by omega),a5_,av4 h ok hv,a0_,ba_ (show Sm j by show j≤1000000000;omega),mvK]
   cases hq:lgl r s ((i:Int),(((k+1:Nat):Int),(j:Int))) with
   | true=>simp only[a5_,hp,a0_]
   | false=>simp only[a2_,a0_]
  ·simp only[ba_ (show Sm (k+1) by show k+1≤1000000000;omega)]
   rfl
 ·simp only[ba_ (show Sm i by show i≤1000000000;omega)]
  rfl
end
section
set_option maxRecDepth 10000
theorem bm7 {α υ:Type} (l:List α) (hl:Sm l.length) (q:α→Bool) {body:(Int×(Int×Unit))→Option ((Int×(Int×Unit))⊕(Int×Unit))} {K:(Int×Unit)→Option υ} {x:Option υ}
  (hq:∀ (i:Nat) y,l[i]?=some y→body (-1,((i:Int),()))=some (.inl (cond (q y) (i:Int) (-1),(w64 ((i:Int)+1),()))))
  (he:body (-1,((l.length:Int),()))=some (.inr (-1,())))
  (hx:∀ i j:Nat,body ((i:Int),((j:Int),()))=some (.inr ((i:Int),())))
  (hk:∀ n:Int,((n = -1∧l.find? q=none)∨∃ (i:Nat) (y:α),n=(i:Int)∧l[i]?=some y∧l.find? q=some y)→K (n,())=x) :
  (af_ body (-1,(0,()))).bind K=x:=by
 have gen:∀ (k i:Nat),i+k=l.length→∃ n:Int,af_ body (-1,((i:Int),()))=some (n,())∧((n = -1∧(l.drop i).find? q=none)∨∃ (j:Nat) (y:α),n=(j:Int)∧l[j]?=some y∧(l.drop i).find? q=some y):=by
  intro k
  induction k with
  | zero =>
   intro i hi
   obtain rfl:i=l.length:=by omega
   exact⟨-1,ct_ he,.inl ⟨rfl,by rw[o1_];rfl⟩⟩
  | succ k ih =>
   intro i hi
   have hil:i<l.length:=by omega
   obtain⟨y,hy⟩:=bc_ hil
   have hd:l.drop i=y::l.drop (i+1):=by
    rw[j0_ hil]
    rw[a7_ hil] at hy
    rw[a6_ hy]
   have hb:=hq i y hy
   rw[ba_ (show Sm i by unfold Sm at hl ⊢; omega)] at hb
   cases hqy:q y with
   | true =>
    rw[hqy] at hb
    exact⟨(i:Int),cq_ hb (ct_ (hx i (i+1))),.inr ⟨i,y,rfl,hy,by rw[hd,List.find?_cons_of_pos hqy]⟩⟩
   | false =>
    rw[hqy] at hb
    obtain⟨n,e,c⟩:=ih (i+1) (by omega)
    refine⟨n,cq_ hb e,?_⟩
    rw[hd,List.find?_cons_of_neg (by rw[hqy];decide)]
    exact c
 obtain⟨n,e,c⟩:=gen l.length 0 (by omega)
 have e:af_ body (-1,(0,()))=some (n,()):=e
 rw[e,a0_]
 exact hk n c
theorem bd0 {r:ae_} (h:SmR r) (ok:OkR r) {σ ρ:Type} (F:Nat→List Int→σ) (G E:List Int→ρ) {body:σ→Option (σ⊕ρ)}
  (hb:∀ (i:Nat) th,i<101→VT r th→body (F i th)=some (match fstA r th with
   | none=>.inr (G th)
   | some y=>.inl (F (i+1) (th.set y.2.1.toNat y.2.2))))
  (he:∀ th,body (F 101 th)=some (.inr (E th))) :
  ∀ (n i:Nat) (th:List Int),i+n=101→VT r th→∃ z,af_ body (F i th)=some z∧match stl r n th with
   | some th'=>z=G th'∧VT r th'
   | none=>∃ w,z=E w
 | 0,i,th,hi,hv=>by
  obtain rfl:i=101:=by omega
  exact⟨_,ct_ (he th),th,rfl⟩
 | n+1,i,th,hi,hv=>by
  have hb1:=hb i th (by omega) hv
  unfold stl
  cases hf:fstA r th with
  | none =>
   rw[hf] at hb1
   exact⟨_,ct_ hb1,rfl,hv⟩
  | some y =>
   rw[hf] at hb1
   have hm:y ∈ r.2.2.2.2.2.1:=List.mem_of_find?_eq_some hf
   obtain⟨j,hj⟩:=f3_ hm
   obtain⟨z,ez,hz⟩:=bd0 h ok F G E hb he n (i+1) (th.set y.2.1.toNat y.2.2) (by omega) (cf6 h ok hv (ok.au j y hj).1)
   exact⟨z,cq_ hb1 ez,hz⟩
theorem uy_ {r:ae_} (h:SmR r) (ok:OkR r) {s:aj_} (hv:VT r s.1) (m1:Sm s.1.length) (m2:Sm s.2.1.length) (m3:Sm s.2.2.length) :
    hb_ r s=some ((stl r 101 s.1).elim (eS,(false,())) λth=>((th,s.2),(true,()))):=by
  unfold hb_
  simp only[ax_ m1,ax_ m2,ax_ m3,a0_]
  obtain⟨z,ez,hz⟩:=bd0 h ok (F:=λi th=>((i:Int),(th,((([]:List Int),(([]:List Int),(([]:List Int),()))),())))) (G:=λth=>(inr ((th,(s.2.1,s.2.2)),(true,())):((List Int)×(((List Int)×((List Int)×((List Int)×Unit)))×Unit))⊕(aj_×(Bool×Unit)))) (E:=λth=>inl (th,(([],([],([],()))),())))
    (body:=(λ(v3:(Int×((List Int)×(((List Int)×((List Int)×((List Int)×Unit)))×Unit)))) =>
 (cond (decide (v3.1≤100))
 ((af_ (ρ:=(Int×Unit)) (λ(v4:(Int×(Int×Unit))) =>
 (((cond (decide (v4.2.1<(r.2.2.2.2.2.1.length:Int)))
 (some ((decide (v4.1<0)),()))
 (some (false,())))).bind λv5 =>
 (cond v5.1
 ((((at? r.2.2.2.2.2.1 v4.2.1).bind λv6 =>
 ((((bk_ (v3.2.1,(s.2.1,s.2.2)) v6.1).bind λv7 =>
 (cond v7.1
 ((at? v3.2.1 v6.2.1).bind λv8 =>
 ((at? v3.2.1 v6.2.1).bind λv9 =>
 (some ((v9 != v6.2.2),()))))
 (some (false,()))))).bind λv10 =>
 (cond v10.1
 (some (v4.2.1,()))
 (some (v4.1,())))))).bind λv11 =>
 (some (inl (v11.1,((w64 (v4.2.1+1)),())))))
 (some (inr (v4.1,())))))) ((-1),(0,()))).bind λv12 =>
 (cond (decide (v12.1<0))
 (some (inr (inr ((v3.2.1,(s.2.1,s.2.2)),(true,())))))
 ((at? r.2.2.2.2.2.1 v12.1).bind λv13 =>
 ((at? r.2.2.2.2.2.1 v12.1).bind λv14 =>
 ((at? v3.2.1 v13.2.1).bind λv15 =>
 ((at? v3.2.1 v13.2.1).bind λv16 =>
 (some (inl ((w64 (v3.1+1)),((v3.2.1.set v13.2.1.toNat v14.2.2),((v3.2.2.1.1,(v3.2.2.1.2.1,(v3.2.2.1.2.2.1,()))),())))))))))))
 (some (inr (inl (v3.2.1,((v3.2.2.1.1,(v3.2.2.1.2.1,(v3.2.2.1.2.2.1,()))),())))))))) (λi th hi hvt=>by
      simp only[show decide ((i:Int)≤100)=true from b5_ (by omega),a5_]
      have hl:=hvt.1
      refine bm7 r.2.2.2.2.2.1 h.au (λy=>(gi th y.2.1 != y.2.2)&&ea_ th y.1) (λj y hy => ?_) ?_ (λa b => ?_) (λn hc => ?_)
      · obtain⟨g1,g2⟩:=ok.au j y hy
        have hi:=(nu_ h ok g1).1
        obtain⟨c1,c2⟩:=vh_ h.th g2
        simp only[dlt (am_ hy),a5_,show decide ((-1:Int)<0)=true from rfl,a0_,ah_ hy,ki_ (s:=(th,(s.2.1,s.2.2))) (show y.1.length≤1000000000 by omega) (by show InC th.length y.1;rw[hl];exact c1),us_ hi.1 (show y.2.1<th.length by omega)]
        cases ea_ th y.1 with
        | false=>rw[f7_];rfl
        | true=>cases gi th y.2.1 != y.2.2<;>rfl
      · simp only[dnl,a2_,a0_]
      · simp only[show decide ((a:Int)<0)=false from b6_ (by omega)]
        cases decide ((b:Int)<(r.2.2.2.2.2.1.length:Int))<;>rfl
      · rcases hc with ⟨rfl,hf⟩ | ⟨j,y,rfl,hy,hf⟩
        · rw[show fstA r th=none from hf]
          rfl
        · rw[show fstA r th=some y from hf]
          obtain⟨g1,g2⟩:=ok.au j y hy
          have hi2:=(nu_ h ok g1).1
          simp only[a0_,show decide ((j:Int)<0)=false from b6_ (by omega),a2_,ah_ hy,us_ hi2.1 (show y.2.1<th.length by omega),ba_ (show Sm i by show _≤1000000000;omega)])
    (λth=>rfl) 101 0 s.1 rfl hv
  refine e6_ (congrArg (λo=>Option.bind o _) ez) ?_
  cases hs:stl r 101 s.1 with
  | none =>
    rw[hs] at hz
    obtain⟨w,rfl⟩:=hz
    rfl
  | some th' =>
    rw[hs] at hz
    obtain⟨rfl,_⟩:=hz
    rfl
noncomputable def mwX (a0:ae_) (a2:ai_) (v0 v1 v2:List Int) (v3:Int):Option (List Int×(List Int×(List Int×Unit))) :=
 (cond (a2.2.1==1)
 ((at? a0.2.2.2.1 a2.2.2).bind λv4 =>
 ((at? a0.2.2.2.1 a2.2.2).bind λv5 =>
 ((at? v2 a2.1).bind λv6 =>
 ((at? v2 a2.1).bind λv7 =>
 (some (v0,(v1,((v2.set a2.1.toNat (w64 ((w64 (v4.1+v5.2.1)) - v3))),()))))))))
 (cond (a2.2.1==2)
 ((at? v1 a2.2.2).bind λv8 =>
 ((at? v1 a2.2.2).bind λv9 =>
 (some (v0,((v1.set a2.2.2.toNat (w64 ((-2) - a2.1))),(v2,()))))))
 (cond (a2.2.1==3)
 ((at? v1 a2.2.2).bind λv10 =>
 ((at? v1 a2.2.2).bind λv11 =>
 (some (v0,((v1.set a2.2.2.toNat v3),(v2,()))))))
 (cond (a2.2.1==4)
 ((at? a0.2.2.2.2.1 a2.2.2).bind λv12 =>
 ((af_ (ρ:=((List Int)×Unit)) (λ(v13:(Int×((List Int)×Unit))) =>
 (cond (decide (v13.1<(v12.2.2.2.2.2.2.1.length:Int)))
 ((at? v12.2.2.2.2.2.2.1 v13.1).bind λv14 =>
 ((at? v13.2.1 v14).bind λv15 =>
 ((at? v13.2.1 v14).bind λv16 =>
 (some (inl ((w64 (v13.1+1)),((v13.2.1.set v14.toNat (-1)),())))))))
 (some (inr (v13.2.1,()))))) (0,(v1,()))).bind λv17 =>
 ((af_ (ρ:=((List Int)×Unit)) (λ(v18:(Int×((List Int)×Unit))) =>
 (cond (decide (v18.1<(v12.2.2.2.2.2.2.2.length:Int)))
 ((at? v12.2.2.2.2.2.2.2 v18.1).bind λv19 =>
 ((at? v18.2.1 v19).bind λv20 =>
 ((at? v18.2.1 v19).bind λv21 =>
 (some (inl ((w64 (v18.1+1)),((v18.2.1.set v19.toNat (w64 ((-2) - a2.1))),())))))))
 (some (inr (v18.2.1,()))))) (0,(v17.1,()))).bind λv22 =>
 ((af_ (ρ:=((List Int)×Unit)) (λ(v23:(Int×((List Int)×Unit))) =>
 (cond (decide (v23.1<(v12.2.2.2.2.2.1.length:Int)))
 ((at? v12.2.2.2.2.2.1 v23.1).bind λv24 =>
 ((at? v12.2.2.2.2.2.1 v23.1).bind λv25 =>
 ((at? v23.2.1 v24.1).bind λv26 =>
 ((at? v23.2.1 v24.1).bind λv27 =>
 (some (inl ((w64 (v23.1+1)),((v23.2.1.set v24.1.toNat v25.2),()))))))))
 (some (inr (v23.2.1,()))))) (0,(v0,()))).bind λv28 =>
 (some (v28.1,(v22.1,(v2,()))))))))
 (some (v0,(v1,(v2,()))))))))
theorem dup {α β:Type} (o:Option α) (f:α→α→Option β):(o.bind λa=>o.bind λb=>f a b)=o.bind λa=>f a a:=by cases o<;>rfl
theorem mwX_eq {r:ae_} {m:ai_} {th pr py:List Int} {x:Int} (hx:at? py m.1=some x) {z} (h:mvX r m th pr py=some z):mwX r m th pr py x=some z:=by
 unfold mvX at h
 unfold mwX
 cases hk1:m.2.1==1 with
 | true =>
  rw[hk1] at h
  simp only[a5_,hx,a0_] at h ⊢
  cases hw:at? r.2.2.2.1 m.2.2 with
  | none=>rw[hw] at h;cases h
  | some w=>rw[hw] at h;exact h
 | false =>
 rw[hk1] at h
 simp only[a2_] at h ⊢
 cases hk2:m.2.1==2 with
 | true=>rw[hk2] at h;exact h
 | false =>
 rw[hk2] at h
 simp only[a2_] at h ⊢
 cases hk3:m.2.1==3 with
 | true =>
  rw[hk3] at h
  simp only[a5_,hx,a0_] at h ⊢
  exact h
 | false =>
 rw[hk3] at h
 simp only[a2_,dup] at h ⊢
 exact h
theorem uz_ {r:ae_} (h:SmR r) (ok:OkR r) {s:aj_} (hv:VS r s) {m:ai_} (hl:lgl r s m=true) :
  hc_ r s m=some ((zi_ r s m).elim (eS,(false,())) λt=>(t,(true,()))):=by
 obtain⟨m1,m2,m3⟩:=rk_ h ok hv
 obtain⟨pj,px,hpj,hp,e2⟩:=bx5 m3 hl
 have hv2:=VS_mv h ok hv hl
 obtain⟨n1,n2,n3⟩:=rk_ h ok hv2
 unfold hc_
 simp only[ax_ m1,ax_ m2,ax_ m3,a0_]
 refine e6_ (congrArg (λo=>Option.bind o _) e2) ?_
 rw[a0_]
 refine e6_ (congrArg (λo=>Option.bind o _) (mwX_eq e2 (cu3 h ok hv hl))) ?_
 rw[a0_]
 simp only
 rw[uy_ (s:=((mvP r s m).1,((mvP r s m).2.1,(mvP r s m).2.2))) h ok ⟨hv2.l1,hv2.th⟩ n1 n2 n3,a0_]
 unfold zi_
 cases stl r 101 (mvP r s m).1<;>rfl
theorem am7 {r:ae_} (h:SmR r) (h0:dn_ r=0) {s:aj_} (hv:VS r s) :
  jj_ r s=some ((stl r 101 s.1).elim (eS,(27,())) λth=>((th,s.2),(0,()))):=by
 have ok:=bt_ h0
 obtain⟨m1,m2,m3⟩:=rk_ h ok hv
 unfold jj_
 rw[ol_ h,a0_,gg_ h0 hv]
 simp only[show ((0:Int) != 0)=false from rfl,a2_]
 rw[uy_ h ok ⟨hv.l1,hv.th⟩ m1 m2 m3,a0_]
 cases stl r 101 s.1<;>rfl
def bm9 (r:ae_):aj_:=(r.2.1.map (·.2.2.2),(r.2.2.1.map (·.2.1),List.replicate r.2.2.2.2.2.2.1.toNat 0))
theorem ay8 {r:ae_} (h:SmR r) (h0:dn_ r=0):VS r (bm9 r):=by
 have ok:=bt_ h0
 have hpy:=cl_.1 ok.py
 have hth:=h.th
 refine⟨e0_ _,e0_ _,?_,λi n hn => ?_,λi p hp => ?_,λi p hp => ?_⟩
 ·show ((List.replicate _ (0:Int)).length:Int)=_
  rw[f1_]
  omega
 ·have hn:(r.2.1.map (·.2.2.2))[i]?=some n:=hn
  rw[e3_] at hn
  obtain⟨x,hx,rfl⟩:=f6_.1 hn
  have hk:=ok.th i x hx
  unfold bp1 at hk
  simp only[a1_] at hk
  have hi:=am_ hx
  unfold ou_
  rw[ah_ hx,a1_]
  exact⟨cl_.2 (by rw[gv_ (by omega) (by omega)];omega),hk.2.2.2⟩
 ·have hp:(r.2.2.1.map (·.2.1))[i]?=some p:=hp
  rw[e3_] at hp
  obtain⟨x,hx,rfl⟩:=f6_.1 hp
  have hk:=(ok.pr i x hx).1
  unfold cl1 at hk
  simp only[a1_,d0_] at hk
  rw[cu8 h ok.py,d0_,d0_]
  rcases hk.2 with hk | hk
  ·exact .inl hk
  ·exact .inr (.inl hk)
 ·have hp:(List.replicate r.2.2.2.2.2.2.1.toNat (0:Int))[i]?=some p:=hp
  rw[k1_] at hp
  split at hp
  ·obtain rfl:=a6_ hp
   have hpl:=h.pl
   have hne:r.1.length≠0:=λe=>ok.ne (n2_.1 e)
   unfold tb_
   exact cl_.2 (by rw[gv_ (by omega) (by omega)];omega)
  ·cases hp
def begS (r:ae_):Option aj_:=(stl r 101 (bm9 r).1).map λth=>(th,(bm9 r).2)
theorem begS_VS {r:ae_} (h:SmR r) (h0:dn_ r=0) {t:aj_} (ht:begS r=some t):VS r t:=by
 have ok:=bt_ h0
 have hv:=ay8 h h0
 unfold begS at ht
 obtain⟨th,hs,rfl⟩:=f6_.1 ht
 obtain⟨z,ez,hz⟩:=ov_ h ok (pr:=(bm9 r).2.1) (py:=(bm9 r).2.2) 101 0 (bm9 r).1 rfl ⟨hv.l1,hv.th⟩
 rw[hs] at hz
 exact⟨hz.2.1,hv.l2,hv.l3,hz.2.2,hv.pr,hv.py⟩
def ak6 (r:ae_):aj_×(Int×Unit):=cond (dn_ r != 0) (eS,(dn_ r,())) ((begS r).elim (eS,(27,())) λs=>(s,(0,())))
theorem au4 {r:ae_} (h:SmR r):jq_ r=some (ak6 r):=by
 rw[ck6]
 unfold rbegX ak6
 rw[tv_ h,a0_]
 cases hr:dn_ r != 0 with
 | true=>rfl
 | false =>
 have h0:dn_ r=0:=by simpa using hr
 have ok:=bt_ h0
 have hpy:=cl_.1 ok.py
 have hv:=ay8 h h0
 obtain⟨m1,m2,m3⟩:=rk_ h ok hv
 simp only[a2_]
 have hplayers:mk? (α:=Int) r.2.2.2.2.2.2.1 0=some (List.replicate r.2.2.2.2.2.2.1.toNat 0):=xz_ (by omega) (by omega)
 rw[hplayers,a0_,ba3 h,a0_,bb7 h,a0_]
 simp only
 refine e6_ (congrArg (λo=>Option.bind o _) (ax_ m1)) ?_
 rw[a0_]
 refine e6_ (congrArg (λo=>Option.bind o _) (ax_ m2)) ?_
 rw[a0_]
 refine e6_ (congrArg (λo=>Option.bind o _) (ax_ m3)) ?_
 rw[a0_]
 obtain⟨z,ez,hz⟩:=ov_ h ok (pr:=(bm9 r).2.1) (py:=(bm9 r).2.2) 101 0 (bm9 r).1 rfl ⟨hv.l1,hv.th⟩
 refine e6_ (congrArg (λo=>Option.bind (Option.bind o _) _) ez) ?_
 unfold begS
 cases hs:stl r 101 (bm9 r).1 with
 | none =>
  rw[hs] at hz
  obtain⟨w,rfl⟩:=hz
  rfl
 | some th' =>
  rw[hs] at hz
  obtain⟨rfl,_⟩:=hz
  rfl
theorem am8 {r:ae_} (h:SmR r):kq_ r=some (ak6 r):=by
 unfold kq_ ak6
 rw[rt_ h,a0_]
 cases hr:dn_ r != 0 with
 | true=>rfl
 | false =>
 have h0:dn_ r=0:=by simpa using hr
 have ok:=bt_ h0
 have hpy:=cl_.1 ok.py
 have hv:=ay8 h h0
 simp only[a2_]
 have hplayers:mk? (α:=Int) r.2.2.2.2.2.2.1 0=some (List.replicate r.2.2.2.2.2.2.1.toNat 0):=xz_ (by omega) (by omega)
 rw[hplayers,a0_]
 refine e6_ (congrArg (λo=>Option.bind o _) (ba3 h)) ?_
 rw[a0_]
 refine e6_ (congrArg (λo=>Option.bind o _) (bb7 h)) ?_
 rw[a0_]
 refine e6_ (congrArg (λo=>Option.bind o _) (am7 h h0 hv)) ?_
 unfold begS
 show ((some ((stl r 101 (bm9 r).1).elim (eS,(27,())) λth=>((th,(bm9 r).2),((0:Int),())))).bind λv10=>some (v10.1,(v10.2.1,())))=_
 cases stl r 101 (bm9 r).1<;>rfl
end
section
set_option maxRecDepth 10000
theorem ms_ {σ ρ υ:Type} (n:Nat) (Inv:Nat→σ→Prop) {body:σ→Option (σ⊕ρ)} {z0:σ} {K:ρ→Option υ} {x:Option υ} (h0:Inv 0 z0)
  (hs:∀ j z,j<n→Inv j z→∃ z',body z=some (.inl z')∧Inv (j+1) z') (he:∀ z,Inv n z→∃ r,body z=some (.inr r)∧K r=x):(af_ body z0).bind K=x:=by
 have gen:∀ (k i:Nat) (z:σ),i+k=n→Inv i z→∃ r,af_ body z=some r∧K r=x:=by
  intro k
  induction k with
  | zero =>
   intro i z hi hz
   obtain rfl:i=n:=by omega
   obtain⟨r,e,hr⟩:=he z hz
   exact⟨r,ct_ e,hr⟩
  | succ k ih =>
   intro i z hi hz
   obtain⟨z',e,hz'⟩:=hs i z (by omega) hz
   obtain⟨r,er,hr⟩:=ih (i+1) z' (by omega) hz'
   exact⟨r,cq_ e er,hr⟩
 obtain⟨r,e,hr⟩:=gen n 0 z0 (by omega) h0
 rw[e,a0_]
 exact hr
theorem xj_ {s:aj_} (m1:Sm s.1.length) (m2:Sm s.2.1.length) (m3:Sm s.2.2.length):go_ s=some (s,()):=by
 unfold go_
 simp only[ax_ m1,ax_ m2,ax_ m3,a0_]
theorem aj5 {l:List Int} {j:Nat} {x p:Int} (hx:l[j]?=some x):(l.take (j+1)).contains p=((l.take j).contains p||x==p):=by
 rw[d9_,hx]
 have:(x==p)=(p==x):=l9_.2 (by rw[i5_,i5_];exact eq_comm)
 rw[this,List.contains_eq_any_beq,List.contains_eq_any_beq,List.any_append]
 simp
theorem zz_ {g:ac_} (hg:SmG g) (ok:OkG g) {p:aa_} (hv:VP g p):jr_ g p=some ((p.1,rdN g p.1 p.2),()):=by
 have h0:=ok.room
 have okr:=bt_ h0
 obtain⟨m1,m2,m3⟩:=rk_ hg.room okr hv.st
 have hn:=hg.nt
 have hd:=hv.rd
 have hrl:=tx_ (s:=p.1) hd
 have hl1:=hv.st.l1
 unfold jr_
 rw[xj_ m1 m2 m3,a0_,ax_ (show Sm p.2.length by show _≤1000000000;omega),a0_]
 refine ms_ g.2.2.2.1.length (λ(i:Nat) (z:Int×(List Bool×Unit))=>∃ d',z=((i:Int),(d',()))∧∀ j,d'[j]?=if j<i then (rdN g p.1 p.2)[j]? else p.2[j]?) ⟨p.2,rfl,λj=>by simp⟩ (λi z hi hz => ?_) (λz hz => ?_)
 ·obtain⟨d',rfl,hd'⟩:=hz
  obtain⟨x,hx⟩:=bc_ (l:=g.2.2.2.1) (i:=i) hi
  obtain⟨y,hy⟩:=bc_ (l:=p.2) (i:=i) (by omega)
  have hy':d'[i]?=some y:=by rw[hd' i,if_neg (by omega)];exact hy
  have hr:=bs1 (s:=p.1) hx hy
  obtain⟨c1,c2⟩:=vh_ hg.room.th (ok.nt i x hx).2
  have hH:bk_ p.1 x.2.2.2.1=some (ea_ p.1.1 x.2.2.2.1,()):=ki_ (show x.2.2.2.1.length≤1000000000 by omega) (by show InC p.1.1.length x.2.2.2.1;rw[hl1];exact c1)
  simp only[dlt (am_ hx),a5_,ah_ hx,a0_]
  refine⟨?z',?_,?_⟩
  case z'=>exact (((i+1:Nat):Int),(cond (ea_ p.1.1 x.2.2.2.1&&p.1.2.2.contains x.2.1) (d'.set i true) d',()))
  ·refine ms_ p.1.2.2.length (λ(j:Nat) (z:Int×(List Bool×Unit))=>z=((j:Int),(cond (ea_ p.1.1 x.2.2.2.1&&(p.1.2.2.take j).contains x.2.1) (d'.set i true) d',()))) ?_ (λj z hj hz => ?_) (λz hz => ?_)
   ·rw[l0_]
    show _=((0:Int),(cond (ea_ p.1.1 x.2.2.2.1&&false) (d'.set i true) d',()))
    rw[f7_]
    rfl
   ·subst hz
    obtain⟨a,ha⟩:=bc_ hj
    refine⟨_,?_,rfl⟩
    simp only[dlt hj,a5_,ah_ ha,a0_,ba_ (show Sm j by unfold Sm at m3 ⊢; omega),aj5 ha]
    cases hq:a==x.2.1 with
    | false=>simp only[a2_,a0_,i4_]
    | true =>
     simp only[a5_,hH,a0_,o0_,h7_]
     cases hb:ea_ p.1.1 x.2.2.2.1 with
     | false=>simp only[a2_,a0_,e8_]
     | true =>
      simp only[a5_,a0_,c3_]
      cases hc:(p.1.2.2.take j).contains x.2.1 with
      | false=>simp only[a2_,ah_ hy',a0_,b9_]
      | true =>
       have:(d'.set i true)[i]?=some true:=by rw[g3_ (am_ hy')]
       simp only[a5_,ah_ this,a0_,b9_,List.set_set]
   ·subst hz
    refine⟨_,by simp only[dnl,a2_];rfl,?_⟩
    simp only[d2_,ba_ (show Sm i by show i≤1000000000;omega)]
  ·refine⟨_,rfl,λk => ?_⟩
   unfold rdB at hr
   cases hb:(ea_ p.1.1 x.2.2.2.1&&p.1.2.2.contains x.2.1) with
   | false =>
    rw[hb,i4_] at hr
    rw[a2_,hd' k]
    by_cases hk:k=i
    ·subst hk
     rw[if_neg (by omega),if_pos (by omega),hr,hy]
    ·by_cases hk2:k<i
     ·rw[if_pos hk2,if_pos (by omega)]
     ·rw[if_neg hk2,if_neg (by omega)]
   | true =>
    rw[hb,o0_] at hr
    rw[a5_,g4_]
    by_cases hk:i=k
    ·subst hk
     rw[if_pos rfl,if_pos (am_ hy'),if_pos (by omega),hr]
    ·rw[if_neg hk,hd' k]
     by_cases hk2:k<i
     ·rw[if_pos hk2,if_pos (by omega)]
     ·rw[if_neg hk2,if_neg (by omega)]
 ·obtain⟨d',rfl,hd'⟩:=hz
  simp only[dnl,a2_]
  refine⟨_,rfl,?_⟩
  have:d'=rdN g p.1 p.2:=f4_ λk=>by
   rw[hd' k]
   split
   ·rfl
   ·rw[c2_ (by omega),c2_ (by omega)]
  simp only[this]
theorem bk1 {g:ac_} (hg:SmG g) (h0:cw_ g=0) {p q:aa_} (hv:VP g p) {m:ai_} (hq:stepP g p m=some q):mi_ g p m=some (q,()):=by
 have ok:=df_ h0
 have okr:=bt_ ok.room
 unfold stepP at hq
 cases hc:(okM g p.2 m&&lgl g.1 p.1 m) with
 | false=>rw[hc] at hq;cases hq
 | true =>
 rw[hc,a5_] at hq
 obtain⟨s,hs,rfl⟩:=f6_.1 hq
 rw[a1_] at hc
 unfold mi_
 rw[uz_ hg.room okr hv.st hc.2,a0_,hs]
 simp only[Option.elim]
 rw[zz_ hg ok (p:=(s,p.2)) ⟨wb_ hg.room ok.room hv.st hc.2 hs,hv.rd⟩]
 rfl
noncomputable def vw_ (g:ac_):aa_×(Int×Unit):=cond (cw_ g != 0) (eP,(cw_ g,())) (cond ((ak6 g.1).2.1 != 0) (eP,((ak6 g.1).2.1,())) (((ak6 g.1).1,rdN g (ak6 g.1).1 (List.replicate g.2.2.2.1.length false)),(0,())))
theorem ay6 {r:ae_} (h:SmR r) (he:(ak6 r).2.1=0):VS r (ak6 r).1:=by
 unfold ak6 at he ⊢
 cases hr:dn_ r != 0 with
 | true =>
  rw[hr] at he
  rw[m7_] at hr
  exact absurd he hr
 | false =>
 have h0:dn_ r=0:=by simpa using hr
 rw[hr,a2_] at he
 cases hb:begS r with
 | none =>
  rw[hb] at he
  exact absurd (show (27:Int)=0 from he) (by decide)
 | some t=>exact begS_VS h h0 hb
theorem ay7 {g:ac_} (hg:SmG g) (he:(vw_ g).2.1=0):cw_ g=0∧VP g (vw_ g).1:=by
 unfold vw_ at he ⊢
 cases hr:cw_ g != 0 with
 | true =>
  rw[hr] at he
  rw[m7_] at hr
  exact absurd he hr
 | false =>
 rw[hr,a2_] at he
 have h0:cw_ g=0:=by simpa using hr
 cases hb:(ak6 g.1).2.1 != 0 with
 | true =>
  rw[hb] at he
  rw[m7_] at hb
  exact absurd he hb
 | false =>
 have hb:(ak6 g.1).2.1=0:=by simpa using hb
 exact⟨h0,ay6 hg.room hb,tx_ f1_⟩
theorem mk_nt {g:ac_} (hg:SmG g):mk? (α:=Bool) (g.2.2.2.1.length:Int) false=some (List.replicate g.2.2.2.1.length false):=by
 have:=hg.nt
 rw[xz_ (by omega) (by omega),b9_]
theorem am6 {g:ac_} (hg:SmG g):ko_ g=some (vw_ g):=by
 unfold ko_ vw_
 rw[rr_ hg,a0_]
 cases hr:cw_ g != 0 with
 | true=>rfl
 | false =>
 have h0:cw_ g=0:=by simpa using hr
 have ok:=df_ h0
 simp only[a2_]
 rw[am8 hg.room,a0_]
 cases hb:(ak6 g.1).2.1 != 0 with
 | true=>rfl
 | false =>
 have hb:(ak6 g.1).2.1=0:=by simpa using hb
 simp only[a2_]
 rw[mk_nt hg,a0_,zz_ hg ok (p:=((ak6 g.1).1,List.replicate g.2.2.2.1.length false)) ⟨ay6 hg.room hb,f1_⟩]
 rfl
theorem xp_ {g:ac_} (hg:SmG g):jt_ g=some (vw_ g):=by
 rw[cl4]
 unfold pbegX vw_
 rw[aa2 hg,a0_]
 cases hr:cw_ g != 0 with
 | true=>rfl
 | false =>
 have h0:cw_ g=0:=by simpa using hr
 have ok:=df_ h0
 have hn:=hg.nt
 simp only[a2_]
 rw[au4 hg.room,a0_]
 cases hb:(ak6 g.1).2.1 != 0 with
 | true=>rfl
 | false =>
 have hb:(ak6 g.1).2.1=0:=by simpa using hb
 have hv:=ay6 hg.room hb
 obtain⟨m1,m2,m3⟩:=rk_ hg.room (bt_ ok.room) hv
 simp only[a2_]
 rw[mk_nt hg,a0_]
 obtain⟨z,ez,hz⟩:=xq_ hg ok hv (d:=List.replicate g.2.2.2.1.length false) f1_ []
 have hrl:=tx_ (g:=g) (s:=(ak6 g.1).1) (d:=List.replicate g.2.2.2.1.length false) f1_
 rw[ez,a0_,ax_ m1,a0_,ax_ m2,a0_,ax_ m3,a0_,hz,ax_ (show Sm (rdN g _ _).length by show _≤1000000000;omega),a0_]
def ch5 (g:ac_) (q:List Nat):List ak_:=q.filterMap λe=>(g.2.2.2.1[e]?).map (·.2.2.2.2)
theorem av0 {g:ac_} (hg:SmG g) {p:aa_} (hd:p.2.length=g.2.2.2.1.length) (lock:Int) :
    ∃ q:List Nat,ih_ g p lock=some (q.map (λe:Nat=>(e:Int)),())∧q.length≤20∧(∀ e ∈ q,e<g.2.2.2.1.length)∧ch5 g q=bm5 g p.2 lock:=by
  have hn:=hg.nt
  suffices hk:∃ r,ih_ g p lock=some r∧∃ q:List Nat,r=(q.map (λe:Nat=>(e:Int)),())∧q.length≤20∧(∀ e ∈ q,e<g.2.2.2.1.length)∧ch5 g q=bm5 g p.2 lock by
    obtain⟨r,e,q,rfl,h⟩:=hk
    exact⟨q,e,h⟩
  unfold ih_
  have key:∀ (k i:Nat) (q:List Nat),i+k=g.2.2.2.1.length→q.length≤i→(∀ e ∈ q,e<g.2.2.2.1.length)→ch5 g q=((g.2.2.2.1.zip p.2).take i).filterMap (λx=>cond (x.1.2.2.1==lock&&x.2) (some x.1.2.2.2.2) none) →
      ∃ q':List Nat,af_ (ρ:=((List Int)×Unit)) (λ(v0:((List Int)×(Int×Unit))) =>
 (cond (decide (v0.2.1<(g.2.2.2.1.length:Int)))
 ((((((at? p.2 v0.2.1).bind λv1 =>
 (cond v1
 ((at? g.2.2.2.1 v0.2.1).bind λv2 =>
 (some ((v2.2.2.1==lock),())))
 (some (false,()))))).bind λv3 =>
 (cond v3.1
 ((push? (α:=Int) v0.1 [v0.2.1]).bind λv4 =>
 (some (v4,())))
 (some (v0.1,()))))).bind λv5 =>
 (some (inl (v5.1,((w64 (v0.2.1+1)),())))))
 (some (inr (v0.1,()))))) (q.map (λe:Nat=>(e:Int)),((i:Int),()))=some (q'.map (λe:Nat=>(e:Int)),())∧q'.length≤20∧(∀ e ∈ q',e<g.2.2.2.1.length)∧ch5 g q'=bm5 g p.2 lock:=by
    intro k
    induction k with
    | zero =>
      intro i q hi hq hb hc
      obtain rfl:i=g.2.2.2.1.length:=by omega
      refine⟨q,ct_ (by simp only[dnl,a2_]),by omega,hb,?_⟩
      rw[hc,g8_ (by rw[n1_];omega)]
      rfl
    | succ k ih =>
      intro i q hi hq hb hc
      obtain⟨x,hx⟩:=bc_ (l:=g.2.2.2.1) (i:=i) (by omega)
      obtain⟨y,hy⟩:=bc_ (l:=p.2) (i:=i) (by omega)
      have hzip:(g.2.2.2.1.zip p.2)[i]?=some (x,y):=by rw[h5_];exact⟨hx,hy⟩
      have hstep:((g.2.2.2.1.zip p.2).take (i+1)).filterMap (λx=>cond (x.1.2.2.1==lock&&x.2) (some x.1.2.2.2.2) none)=((g.2.2.2.1.zip p.2).take i).filterMap (λx=>cond (x.1.2.2.1==lock&&x.2) (some x.1.2.2.2.2) none)++cond (x.2.2.1==lock&&y) [x.2.2.2.2] []:=by
        rw[d9_,hzip,n9_]
        cases hc:(x.2.2.1==lock&&y) with
        | false=>simp[hc]
        | true=>simp[hc]
      cases hcc:(x.2.2.1==lock&&y) with
      | false =>
        obtain⟨q',e,r1⟩:=ih (i+1) q (by omega) (by omega) hb (by rw[hstep,hcc,a2_,e9_];exact hc)
        refine⟨q',cq_ ?_ e,r1⟩
        simp only[dlt (am_ hx),a5_,ah_ hx,ah_ hy,a0_,ba_ (show Sm i by show i≤1000000000;omega)]
        cases y with
        | false=>rfl
        | true =>
          rw[h7_] at hcc
          simp only[a5_,hcc,a0_,a2_]
      | true =>
        have hcc2:=hcc
        rw[a1_] at hcc2
        obtain⟨h1,rfl⟩:=hcc2
        obtain⟨q',e,r1⟩:=ih (i+1) (q++[i]) (by omega) (by rw[a8_,c8_];omega) (λe he=>by
          rcases b2_.1 he with he | he
          · exact hb e he
          · rw[e7_] at he
            omega) (by
          rw[hstep,hcc,a5_,← hc]
          unfold ch5
          rw[n9_]
          simp[hx])
        refine⟨q',cq_ ?_ e,r1⟩
        simp only[dlt (am_ hx),a5_,ah_ hx,ah_ hy,a0_,ba_ (show Sm i by show i≤1000000000;omega),h1,ci_ (show Sm (q.map (λe:Nat=>(e:Int))).length by rw[e0_];show _≤1000000000;omega),j1_,g6_,List.map_nil]
  obtain⟨q',e,r1⟩:=key g.2.2.2.1.length 0 [] (by omega) (h4_ _) (λe he=>by cases he) rfl
  refine⟨_,?_,q',rfl,r1⟩
  refine e6_ (congrArg (λo=>Option.bind o _) e) rfl
theorem av1 {g:ac_} {q:List Nat} (hq:q.length≤20) (hb:∀ e ∈ q,e<g.2.2.2.1.length):km_ g (q.map (λe:Nat=>(e:Int)))=some (ch5 g q,()):=by
 unfold km_
 refine ms_ q.length (λ(i:Nat) (z:List ak_×(Int×Unit))=>z=(ch5 g (q.take i),((i:Int),()))) (by rw[l0_];rfl) (λi z hi hz => ?_) (λz hz => ?_)
 ·subst hz
  obtain⟨e,he⟩:=bc_ hi
  obtain⟨n,hn⟩:=bc_ (hb e (aw_ he))
  have hm:(q.map (λe:Nat=>(e:Int)))[i]?=some (e:Int):=by rw[e3_,he];rfl
  have hl:(ch5 g (q.take i)).length≤20:=by
   unfold ch5
   refine c7_ (p2_ ..) ?_
   rw[c5_];omega
  refine⟨_,?_,rfl⟩
  simp only[e0_,dlt hi,a5_,ah_ hm,ah_ hn,a0_,ci_ (show Sm _ from c7_ hl (by omega)),ba_ (show Sm i by show i≤1000000000;omega)]
  rw[d9_,he]
  unfold ch5
  rw[n9_]
  simp[hn]
 ·subst hz
  refine⟨_,by simp only[e0_,dnl,a2_];rfl,?_⟩
  simp only[d2_]
theorem bk0 {g:ac_} (hg:SmG g) (ok:OkG g) {p:aa_} (hd:p.2.length=g.2.2.2.1.length) {lock:Int} (h0:0≤lock) {l:ab_} (hl:at? g.2.1 lock=some l):mh_ g p lock=some (opn g p.2 lock,()):=by
 obtain⟨_,_,l1⟩:=eu_ hl
 obtain⟨q,e,hq,hb,hc⟩:=av0 hg hd lock
 unfold mh_
 rw[e,a0_]
 unfold jx_
 rw[hl,a0_,av1 hq hb,a0_,hc,an0 (ok.lk _ l l1).1 (bg5 hg p.2 lock) (λc hc=>by
  obtain⟨i,n,hn,rfl,rfl⟩:=aj8 hc
  exact bv1 ok hn h0 hl) (λc hc=>by
  obtain⟨i,n,hn,rfl,rfl⟩:=aj8 hc
  exact c7_ (hg.ntn n (aw_ hn)).2.2 (by omega))]
 unfold opn rdC
 rw[b6_ (by omega),hl]
 rfl
theorem zl_ {g:ac_} (hg:SmG g) (h0:cw_ g=0) {p:aa_} (hv:VP g p) {m:ai_} (hl:lgl g.1 p.1 m=true):hh_ g p m=some ((stepP g p m).isSome,()):=by
 have ok:=df_ h0
 have okr:=bt_ ok.room
 have hac:=hg.ac
 unfold hh_ stepP okM
 rw[uz_ hg.room okr hv.st hl,a0_,hl,h7_]
 cases hs:zi_ g.1 p.1 m with
 | none =>
  rw[Option.map_none]
  simp only[Option.elim,g2_,a5_]
  generalize (cond (m.2.1==4) _ true:Bool)=b
  cases b<;>rfl
 | some s =>
 simp only[Option.elim,e1_,a2_,h0_]
 rw[ak3]
 cases hk:m.2.1==4 with
 | false=>rfl
 | true =>
 simp only[e1_,a2_,a5_]
 unfold lgl at hl
 rw[a1_] at hl
 have hl:=hl.2
 have hk':m.2.1=4:=i5_.1 hk
 rw[hk'] at hl
 simp only[show ((4:Int)==1)=false from rfl,show ((4:Int)==2)=false from rfl,show ((4:Int)==3)=false from rfl,show ((4:Int)==4)=true from rfl,a2_,a5_] at hl
 rcases da_ (l:=g.1.2.2.2.2.1) (by show _≤1000000000;omega) m.2.2 with ⟨f1,f2⟩ | ⟨j,a,hj,ha,f1,f2⟩
 ·rw[f2] at hl;cases hl
 ·rw[f2]
  simp only[a0_]
  cases hz:decide (a.2.2.1<0) with
  | true =>
   unfold opn
   rw[hz]
   rfl
  | false =>
  have hz':=d1_ hz
  have hlt:=ok.ac j a ha
  obtain⟨l,hl⟩:=bc_ (l:=g.2.1) (i:=a.2.2.1.toNat) (by omega)
  have hl2:at? g.2.1 a.2.2.1=some l:=by rw[show a.2.2.1=((a.2.2.1.toNat:Nat):Int) by omega];exact ah_ hl
  simp only[a2_]
  rw[bk0 hg ok hv.rd (by omega) hl2,a0_]
  cases opn g p.2 a.2.2.1<;>rfl
theorem aw6 {q:ai_→Bool} {i k:Int} {m:ai_}:∀ (n:Nat) (l:List ai_),m ∈ mvK q i k n l→m ∈ l∨q m=true
 | 0,l,h=>.inl h
 | n+1,l,h=>by
  unfold mvK at h
  cases hq:q (i,(k,(n:Int))) with
  | false=>rw[hq] at h;exact aw6 n l h
  | true =>
   rw[hq,a5_] at h
   rcases b2_.1 h with h | h
   ·exact aw6 n l h
   ·rw[e7_] at h
    exact .inr (by rw[h];exact hq)
theorem bv8 {q:ai_→Bool} {i:Int} {c:Nat→Nat} {m:ai_}:∀ (k:Nat) (l:List ai_),m ∈ mvJ q i c k l→m ∈ l∨q m=true
 | 0,l,h=>.inl h
 | k+1,l,h=>(aw6 (c k) _ h).elim (λh=>bv8 k l h) .inr
theorem bv5 {q:ai_→Bool} {c:Nat→Nat} {m:ai_}:∀ n,m ∈ mvs q c n→q m=true
 | 0,h=>by cases h
 | n+1,h=>(bv8 5 _ h).elim (λh=>bv5 n h) id
theorem aw7 {r:ae_} {s:aj_} {m:ai_} (h:m ∈ lmv r s):lgl r s m=true:=bv5 _ h
theorem aw8 {r:ae_} (ok:OkR r) (s:aj_):(lmv r s).length≤480:=by
 have hpy:=cl_.1 ok.py
 have:=ag4 (lgl r s) (λk=>c7_ (cnt_le ok k) (aj7 k)) r.2.2.2.2.2.2.1.toNat
 unfold lmv
 omega
noncomputable def pmv (g:ac_) (p:aa_):List ai_:=(lmv g.1 p.1).filter λm=>(stepP g p m).isSome
theorem yn_ {α:Type} {l:List α} {i:Nat} {x:α} (q:α→Bool) (hx:l[i]?=some x):(l.take (i+1)).filter q=cond (q x) ((l.take i).filter q++[x]) ((l.take i).filter q):=by
 rw[d9_,hx,n3_]
 cases hq:q x with
 | true=>simp[hq]
 | false=>simp[hq]
theorem av3 {g:ac_} (hg:SmG g) (h0:cw_ g=0) {p:aa_} (hv:VP g p):kn_ g p=some (pmv g p,()):=by
 have ok:=df_ h0
 have okr:=bt_ ok.room
 have hll:=aw8 okr p.1
 unfold kn_
 rw[vk_ hg.room okr hv.st,a0_]
 refine ms_ (lmv g.1 p.1).length (λ(i:Nat) (z:List ai_×(Int×Unit))=>z=(((lmv g.1 p.1).take i).filter (λm=>(stepP g p m).isSome),((i:Int),()))) (by rw[l0_];rfl) (λi z hi hz => ?_) (λz hz => ?_)
 ·subst hz
  obtain⟨m,hm⟩:=bc_ hi
  have hfl:(((lmv g.1 p.1).take i).filter (λm=>(stepP g p m).isSome)).length≤480:=by
   refine c7_ (k7_ ..) ?_
   rw[c5_];omega
  refine⟨_,?_,rfl⟩
  simp only[dlt hi,a5_,ah_ hm,a0_,zl_ hg h0 hv (aw7 (aw_ hm)),yn_ _ hm,ba_ (show Sm i by show i≤1000000000;omega)]
  cases (stepP g p m).isSome with
  | false=>rfl
  | true=>simp only[a5_,ci_ (show Sm _ from c7_ hfl (by omega)),a0_]
 ·subst hz
  refine⟨_,by simp only[dnl,a2_];rfl,?_⟩
  simp only[d2_]
  rfl
end
section
set_option maxRecDepth 10000
theorem nj_ {K V:Type} [DecidableEq K] (m:List (K×V)) (k k':K) (v:V):mget? (fh_ m k v) k'=if k'=k then some v else mget? m k':=by
 induction m with
 | nil=>simp[fh_,mget?]
 | cons x m ih =>
  obtain⟨a,u⟩:=x
  unfold fh_
  by_cases h:k=a
  ·subst h
   rw[if_pos rfl]
   unfold mget?
   by_cases h2:k'=k
   ·rw[if_pos h2,if_pos h2]
   ·rw[if_neg h2,if_neg h2,if_neg h2]
  ·rw[if_neg h]
   unfold mget?
   by_cases h2:k'=a
   ·rw[if_pos h2,if_pos h2,if_neg (λe=>h (by rw[← e,h2]))]
   ·rw[if_neg h2,if_neg h2,ih]
theorem ky_ {K V:Type} [DecidableEq K] (z:V) (m:List (K×V)) (k k':K) (v:V):dm_ z (fh_ m k v) k'=if k'=k then v else dm_ z m k':=by
 unfold dm_
 rw[nj_]
 split<;>rfl
noncomputable def cmpX (a0:ac_) (d:List Bool) (mm:List ab_) (lock:Int):Option (List ab_×Unit) :=
 (cond ((dm_ 0 mm lock)==0)
 ((af_ (abB a0 d lock) ([],([],(0,())))).bind λv18 =>
 ((at? a0.2.1 lock).bind λv19 =>
 ((ck_ v19 v18.2.1).bind λv20 =>
 (((cond (v20.2.1==0)
 (some ((decide (v20.1≤a0.2.2.2.2)),()))
 (some (false,())))).bind λv21 =>
 (cond v21.1
 (some ((fh_ (fh_ mm lock 2) lock 1),()))
 (some ((fh_ mm lock 2),())))))))
 (some (mm,())))
noncomputable def canX (a0:ac_) (a1:aa_) (v2:List Bool) (mm:List ab_) (v5:ai_):Option (Bool×(List ab_×Unit)) :=
 (((push? (α:=Bool) [] v2).bind λv6 =>
 (((((cond (v5.2.1==4)
 ((cb_ v5.2.2 0 (w64 ((a0.1.2.2.2.2.1.length:Int) - 1))).bind λv7 =>
 (some (v7.1,())))
 (some (false,())))).bind λv8 =>
 (cond v8.1
 ((at? a0.1.2.2.2.2.1 v5.2.2).bind λv9 =>
 (((cond (decide (v9.2.2.1<0))
 (some (mm,()))
 ((cmpX a0 v2 mm v9.2.2.1).bind λv22 =>
 (some (v22.1,()))))).bind λv23 =>
 (some (v23.1,((fh_ [] v9.2.2.1 (dm_ 0 v23.1 v9.2.2.1)),())))))
 (some (mm,([],())))))).bind λv24 =>
 (((((cond (v5.2.1==4)
 ((cb_ v5.2.2 0 (w64 ((a0.1.2.2.2.2.1.length:Int) - 1))).bind λv25 =>
 (cond v25.1
 ((at? a0.1.2.2.2.2.1 v5.2.2).bind λv26 =>
 (cond (decide (v26.2.2.1<0))
 (some ((!true),(v24.2.1,())))
 ((cmpX a0 v6 v24.2.1 v26.2.2.1).bind λv39 =>
 (some ((!((dm_ 0 v39.1 v26.2.2.1)==1)),(v39.1,()))))))
 (some (false,(v24.2.1,())))))
 (some (false,(v24.2.1,()))))).bind λv40 =>
 (cond v40.1
 (some ((!false),(v6,(v40.2.1,((a1.1.1,(a1.1.2.1,(a1.1.2.2,()))),())))))
 ((fz_ a0.1 a1.1 v5).bind λv41 =>
 (cond (v41.2.1 != 0)
 (some ((!false),(v6,(v40.2.1,((a1.1.1,(a1.1.2.1,(a1.1.2.2,()))),())))))
 ((af_ (pbgB a0 v41.1) (0,(v6,(v40.2.1,())))).bind λv52 =>
 (some ((!true),(v52.1,(v52.2.1,((v41.1.1,(v41.1.2.1,(v41.1.2.2,()))),()))))))))))).bind λv53 =>
 (cond v53.1
 (some (false,(v24.1,())))
 (some (true,(v24.1,()))))))))
noncomputable def canL (a0:ac_) (a1:aa_):Option (List ai_×(Int×Unit)) :=
 ((ez_ a0 a1).bind λv0 =>
 (cond (v0.1 != 0)
 (cond (v0.1 != 0)
 (some ([],(v0.1,())))
 ((ga_ a0.1 a1.1).bind λv1 =>
 (cond (v1.2.1 != 0)
 (some ([],(v1.2.1,())))
 none)))
 ((push? (α:=Bool) [] a1.2).bind λv2 =>
 ((ga_ a0.1 a1.1).bind λv3 =>
 (cond (v3.2.1 != 0)
 (some ([],(v3.2.1,())))
 ((af_ (ρ:=((List ai_)×((List ab_)×Unit))) (λ(v4:((List ai_)×(Int×((List ab_)×Unit)))) =>
 (cond (decide (v4.2.1<(v3.1.length:Int)))
 ((((at? v3.1 v4.2.1).bind λv5 =>
 ((canX a0 a1 v2 v4.2.2.1 v5).bind λv54 =>
 (cond v54.1
 ((push? (α:=ai_) v4.1 [v5]).bind λv55 =>
 (some (v55,(v54.2.1,()))))
 (some (v4.1,(v54.2.1,()))))))).bind λv56 =>
 (some (inl (v56.1,((w64 (v4.2.1+1)),(v56.2.1,()))))))
 (some (inr (v4.1,(v4.2.2.1,())))))) ([],(0,([],())))).bind λv57 =>
 (some (v57.1,(0,())))))))))
theorem canL_eq:ra_=canL:=by
 kernel_rfl
def Mem (g:ac_) (d:List Bool) (mm:List ab_):Prop:=∀ lock,0≤lock→(dm_ 0 mm lock=(0:Int)∨dm_ 0 mm lock=cond (opn g d lock) 1 2)
theorem cc6 {g:ac_} (hg:SmG g) (ok:OkG g) {d:List Bool} (hd:d.length=g.2.2.2.1.length) {mm:List ab_} {lock:Int} (hz:0≤lock) {l:ab_} (hl:at? g.2.1 lock=some l)
  (hm:dm_ 0 mm lock=(0:Int)∨dm_ 0 mm lock=cond (opn g d lock) 1 2) :
  ∃ m',cmpX g d mm lock=some (m',())∧dm_ 0 m' lock=cond (opn g d lock) 1 2∧∀ k,k≠lock→dm_ 0 m' k=dm_ 0 mm k:=by
 unfold cmpX
 cases h0:(dm_ 0 mm lock:Int)==0 with
 | false =>
  have h0:dm_ 0 mm lock≠(0:Int):=by simpa using h0
  exact⟨mm,rfl,hm.resolve_left h0,λ_ _=>rfl⟩
 | true =>
  obtain⟨q,e⟩:=cf5 hg hd lock
  have ho:opn g d lock=decide (rdC g d lock l≤g.2.2.2.2):=by
   unfold opn
   rw[b6_ (by omega),hl]
   rfl
  rw[a5_,e]
  simp only[a0_,hl,aq8 hg ok d hz hl]
  simp only[show ((0:Int)==0)=true from rfl,a5_,a0_]
  rw[ho]
  cases decide (rdC g d lock l≤g.2.2.2.2) with
  | true=>exact⟨_,rfl,by rw[ky_,if_pos rfl];rfl,λk hk=>by rw[ky_,if_neg hk,ky_,if_neg hk]⟩
  | false=>exact⟨_,rfl,by rw[ky_,if_pos rfl];rfl,λk hk=>by rw[ky_,if_neg hk]⟩
theorem canX_eq {g:ac_} (hg:SmG g) (h0:cw_ g=0) {p:aa_} (hv:VP g p) {m:ai_} (hl:lgl g.1 p.1 m=true) {mm:List ab_} (hM:Mem g p.2 mm) :
    ∃ m',canX g p p.2 mm m=some ((stepP g p m).isSome,(m',()))∧Mem g p.2 m':=by
  have ok:=df_ h0
  have okr:=bt_ ok.room
  have hac:=hg.ac
  have hnt:=hg.nt
  have hrd:=hv.rd
  have fin:∀ (b:Bool) (u:List ab_) (m':List ab_),okM g p.2 m = !b →
      (((((some (b,(u,())):Option (Bool×(List ab_×Unit)))).bind λv40 =>
 (cond v40.1
 (some ((!false),(p.2,(v40.2.1,((p.1.1,(p.1.2.1,(p.1.2.2,()))),())))))
 ((fz_ g.1 p.1 m).bind λv41 =>
 (cond (v41.2.1 != 0)
 (some ((!false),(p.2,(v40.2.1,((p.1.1,(p.1.2.1,(p.1.2.2,()))),())))))
 ((af_ (pbgB g v41.1) (0,(p.2,(v40.2.1,())))).bind λv52 =>
 (some ((!true),(v52.1,(v52.2.1,((v41.1.1,(v41.1.2.1,(v41.1.2.2,()))),()))))))))))).bind λv53 =>
 (cond v53.1
 (some (false,(m',())))
 (some (true,(m',())))))=some ((stepP g p m).isSome,(m',())):=by
    intro b u m' hb
    unfold stepP
    rw[hb,hl,h7_,a0_]
    cases b with
    | true=>rfl
    | false =>
    simp only[a2_,g2_,a5_]
    rw[am2 hg.room ok.room hv.st m,a0_,hl,a5_]
    cases hs:zi_ g.1 p.1 m with
    | none=>rfl
    | some s =>
    have hv2:=wb_ hg.room ok.room hv.st hl hs
    obtain⟨z,ez,hz⟩:=xq_ hg ok hv2 hv.rd u
    simp only[Option.elim,show ((0:Int) != 0)=false from rfl,a2_]
    rw[ez,a0_,a0_]
    rfl
  unfold canX
  rw[ax_ (show Sm p.2.length by show _≤1000000000;omega),a0_]
  simp only[lf_]
  cases hk:m.2.1==4 with
  | false =>
    refine⟨mm,?_,hM⟩
    simp only[a2_,a0_]
    refine fin false [] mm ?_
    unfold okM
    rw[hk]
    rfl
  | true =>
  simp only[a5_,a0_]
  have hl':=hl
  unfold lgl at hl'
  rw[a1_] at hl'
  have hl':=hl'.2
  have hk':m.2.1=4:=i5_.1 hk
  rw[hk'] at hl'
  simp only[show ((4:Int)==1)=false from rfl,show ((4:Int)==2)=false from rfl,show ((4:Int)==3)=false from rfl,show ((4:Int)==4)=true from rfl,a2_,a5_] at hl'
  rcases da_ (l:=g.1.2.2.2.2.1) (by show _≤1000000000;omega) m.2.2 with ⟨f1,f2⟩ | ⟨j,a,hj,ha,f1,f2⟩
  · rw[f2] at hl';cases hl'
  · have ho:okM g p.2 m=opn g p.2 a.2.2.1:=by
      unfold okM
      rw[hk,a5_,f2]
      rfl
    simp only[f1,f2,a5_,a0_]
    cases hz:decide (a.2.2.1<0) with
    | true =>
      refine⟨mm,?_,hM⟩
      simp only[a5_,a0_]
      refine fin (!true) _ mm ?_
      rw[ho]
      unfold opn
      rw[hz]
      rfl
    | false =>
      have hz':=d1_ hz
      have hlt:=ok.ac j a ha
      obtain⟨l,hlk⟩:=bc_ (l:=g.2.1) (i:=a.2.2.1.toNat) (by omega)
      have hl2:at? g.2.1 a.2.2.1=some l:=by rw[show a.2.2.1=((a.2.2.1.toNat:Nat):Int) by omega];exact ah_ hlk
      obtain⟨m1,e1,k1,r1⟩:=cc6 hg ok hv.rd (mm:=mm) (by omega) hl2 (hM _ (by omega))
      obtain⟨m2,e2,k2,r2⟩:=cc6 hg ok hv.rd (mm:=fh_ [] a.2.2.1 (dm_ 0 m1 a.2.2.1)) (by omega) hl2 (.inr (by rw[ky_,if_pos rfl,k1]))
      refine⟨m1,?_,λlock hlock => ?_⟩
      · simp only[a2_,e1,a0_,e2]
        refine fin _ m2 m1 ?_
        rw[ho,k2]
        cases opn g p.2 a.2.2.1<;>rfl
      · by_cases hE:lock=a.2.2.1
        · rw[hE]
          exact .inr k1
        · rw[r1 lock hE]
          exact hM lock hlock
theorem cl3 {g:ac_} (hg:SmG g) (h0:cw_ g=0) {p:aa_} (hv:VP g p):ra_ g p=some (pmv g p,(0,())):=by
 have ok:=df_ h0
 have okr:=bt_ ok.room
 have hll:=aw8 okr p.1
 have hnt:=hg.nt
 have hrd:=hv.rd
 rw[canL_eq]
 unfold canL
 rw[xo_ hg h0 hv,a0_]
 simp only[show ((0:Int) != 0)=false from rfl,a2_]
 rw[ax_ (show Sm p.2.length by show _≤1000000000;omega),a0_,bj7 hg.room ok.room hv.st,a0_]
 simp only[show ((0:Int) != 0)=false from rfl,a2_]
 refine ms_ (lmv g.1 p.1).length (λ(i:Nat) (z:List ai_×(Int×(List ab_×Unit)))=>∃ mm,z=(((lmv g.1 p.1).take i).filter (λm=>(stepP g p m).isSome),((i:Int),(mm,())))∧Mem g p.2 mm) ⟨[],by rw[l0_];rfl,λlock _=>.inl rfl⟩ (λi z hi hz => ?_) (λz hz => ?_)
 ·obtain⟨mm,rfl,hM⟩:=hz
  obtain⟨m,hm⟩:=bc_ hi
  have hfl:(((lmv g.1 p.1).take i).filter (λm=>(stepP g p m).isSome)).length≤480:=by
   refine c7_ (k7_ ..) ?_
   rw[c5_];omega
  obtain⟨m',e,hM'⟩:=canX_eq hg h0 hv (aw7 (aw_ hm)) hM
  refine⟨_,?_,m',rfl,hM'⟩
  simp only[dlt hi,a5_,ah_ hm,a0_,e,yn_ _ hm,ba_ (show Sm i by show i≤1000000000;omega)]
  cases (stepP g p m).isSome with
  | false=>rfl
  | true=>simp only[a5_,ci_ (show Sm _ from c7_ hfl (by omega)),a0_]
 ·obtain⟨mm,rfl,hM⟩:=hz
  refine⟨_,by simp only[dnl,a2_];rfl,?_⟩
  simp only[d2_]
  rfl
end
section
set_option maxRecDepth 10000
theorem vf_ {a b:List UInt8} (h:a.length+b.length≤2147483648):cat? a b=some (a++b):=by
 unfold cat?
 rw[h8_ h]
 rfl
def dval (l:List UInt8):Nat:=l.foldl (λa c=>a * 10+(c.toNat - 48)) 0
theorem dgt {n:Nat} (h:n<10):(UInt8.ofNat (48+n)).toNat=48+n:=by
 rw[UInt8.toNat_ofNat']
 exact k4_ (by omega)
theorem yu_:∀ (k u:Nat),u<10 ^ k→dval (Lib.decDigits u)=u∧(∀ c ∈ Lib.decDigits u,48≤c.toNat∧c.toNat≤57)∧(Lib.decDigits u).length≤k+1
 | 0,u,h=>by
  obtain rfl:u=0:=by simpa using h
  rw[Lib.decDigits]
  exact⟨rfl,λc hc=>by
   simp at hc
   rw[hc]
   exact⟨by decide,by decide⟩,by decide⟩
 | k+1,u,h=>by
  rw[Lib.decDigits]
  by_cases hu:u<10
  ·rw[dif_pos hu]
   refine⟨?_,λc hc => ?_,by simp⟩
   ·show 0 * 10+((UInt8.ofNat (48+u)).toNat - 48)=u
    rw[dgt hu];omega
   ·rw[e7_] at hc
    rw[hc,dgt hu];omega
  ·rw[dif_neg hu]
   rw[k3_] at h
   obtain⟨a,b,c⟩:=yu_ k (u / 10) (by omega)
   have hm:u % 10<10:=q1_ _ (by decide)
   refine⟨?_,λx hx => ?_,by rw[a8_,c8_];omega⟩
   ·unfold dval at a ⊢
    rw[m0_,a]
    show u / 10 * 10+((UInt8.ofNat (48+u % 10)).toNat - 48)=u
    rw[dgt hm];omega
   ·rcases b2_.1 hx with hx | hx
    ·exact b x hx
    ·rw[e7_] at hx
     rw[hx,dgt hm];omega
theorem xn_ (u:Nat):u<10 ^ u:=Nat.lt_pow_self (by decide)
theorem uk_ {u v:Nat} (h:Lib.decDigits u=Lib.decDigits v):u=v:=by
 rw[← (yu_ u u (xn_ u)).1,← (yu_ v v (xn_ v)).1,h]
theorem yv_ {u:Nat}:∀ c ∈ Lib.decDigits u,48≤c.toNat∧c.toNat≤57:=(yu_ u u (xn_ u)).2.1
theorem ah6 {a b:Int} (h:Lib.itoa a=Lib.itoa b):a=b:=by
 unfold Lib.itoa at h
 have hd:∀ {u:Nat} {l:List UInt8},Lib.decDigits u≠45::l:=λ{u l} e=>by
  have:=yv_ (u:=u) 45 (by rw[e];exact d5_ ..)
  have h45:(45:UInt8).toNat=45:=rfl
  omega
 by_cases ha:a<0
 ·by_cases hb:b<0
  ·rw[if_pos ha,if_pos hb] at h
   have:=uk_ (o4_ h).2
   omega
  ·rw[if_pos ha,if_neg hb] at h
   exact absurd h.symm hd
 ·by_cases hb:b<0
  ·rw[if_neg ha,if_pos hb] at h
   exact absurd h hd
  ·rw[if_neg ha,if_neg hb] at h
   have:=uk_ h
   omega
theorem ax1 (a:Int):(32:UInt8) ∉ Lib.itoa a:=by
 have hd:∀ {u:Nat},(32:UInt8) ∉ Lib.decDigits u:=λ{u} e=>by
  have:=yv_ _ e
  have h32:(32:UInt8).toNat=32:=rfl
  omega
 unfold Lib.itoa
 split
 ·intro h
  rcases d8_.1 h with h | h
  ·exact absurd h (by decide)
  ·exact hd h
 ·exact hd
def hk_ (a:List (List UInt8)):List UInt8:=a.flatMap (· ++ [32])
theorem ba5:∀ {t u r s:List UInt8},(32:UInt8) ∉ t→(32:UInt8) ∉ u→t++32::r=u++32::s→t=u∧r=s
 | [],[],r,s,_,_,h=>⟨rfl,(o4_ h).2⟩
 | [],c::u,r,s,_,hu,h=>absurd (o4_ h).1 λe=>hu (by rw[e];exact d5_ ..)
 | c::t,[],r,s,ht,_,h=>absurd (o4_ h).1 λe=>ht (by rw[e];exact d5_ ..)
 | c::t,d::u,r,s,ht,hu,h=>by
  obtain⟨h1,h2⟩:=o4_ h
  obtain⟨h3,h4⟩:=ba5 (λe=>ht (c9_ _ e)) (λe=>hu (c9_ _ e)) h2
  exact⟨by rw[h1,h3],h4⟩
theorem ad1:∀ {a b:List (List UInt8)},(∀ t ∈ a,(32:UInt8) ∉ t)→(∀ t ∈ b,(32:UInt8) ∉ t)→hk_ a=hk_ b→a=b
 | [],[],_,_,_=>rfl
 | [],t::b,_,_,h=>by
  have:=congrArg List.length h
  simp[hk_] at this
 | t::a,[],_,_,h=>by
  have:=congrArg List.length h
  simp[hk_] at this
 | t::a,u::b,ha,hb,h=>by
  have h:t++32::hk_ a=u++32::hk_ b:=by
   have:∀ (t:List UInt8) (a:List (List UInt8)),hk_ (t::a)=t++32::hk_ a:=λt a=>by simp[hk_]
   rw[this,this] at h
   exact h
  obtain⟨h1,h2⟩:=ba5 (ha t (d5_ ..)) (hb u (d5_ ..)) h
  rw[h1,ad1 (λt h=>ha t (c9_ _ h)) (λt h=>hb t (c9_ _ h)) h2]
theorem mb_ (a b:List (List UInt8)):hk_ (a++b)=hk_ a++hk_ b:=q6_
theorem qg_ {a:List (List UInt8)} {k:Nat} (h:∀ t ∈ a,t.length≤k):(hk_ a).length≤a.length * (k+1):=by
 induction a with
 | nil=>exact h4_ _
 | cons t a ih =>
  have h1:=ih λt ht=>h t (c9_ _ ht)
  have h2:=h t (d5_ ..)
  have h3:hk_ (t::a)=t++32::hk_ a:=by simp[hk_]
  rw[h3,a8_,c1_,c1_,Nat.succ_mul]
  omega
theorem gk_ {α β:Type} {f:α→β}:∀ {a b:List α},(∀ x ∈ a,∀ y ∈ b,f x=f y→x=y)→a.map f=b.map f→a=b
 | [],[],_,_=>rfl
 | [],_::_,_,h=>by cases h
 | _::_,[],_,h=>by cases h
 | x::a,y::b,hi,h=>by
  obtain⟨h1,h2⟩:=o4_ (show f x::a.map f=f y::b.map f from h)
  rw[hi x (d5_ ..) y (d5_ ..) h1,gk_ (λx hx y hy=>hi x (c9_ _ hx) y (c9_ _ hy)) h2]
structure PB (p:aa_):Prop where
 n1:p.1.1.length≤12
 n2:p.1.2.1.length≤10
 n3:p.1.2.2.length≤4
 n4:p.2.length≤20
 b1:∀ x ∈ p.1.1,0≤x∧x≤5
 b2:∀ x ∈ p.1.2.1,-6<x∧x<8
 b3:∀ x ∈ p.1.2.2,0≤x∧x<8
theorem az2 {g:ac_} (hg:SmG g) (ok:OkG g) {p:aa_} (hv:VP g p):PB p:=by
 have okr:=bt_ ok.room
 have hm:=okr.many
 unfold ah2 at hm
 simp only[b8_,p4_] at hm
 have hpy:=cl_.1 okr.py
 have h1:=hv.st.l1
 have h2:=hv.st.l2
 have h3:=hv.st.l3
 have h4:=hv.rd
 have h5:=hg.nt
 refine⟨by omega,by omega,by omega,by omega,λx hx => ?_,λx hx => ?_,λx hx => ?_⟩
 ·obtain⟨i,hi⟩:=f3_ hx
  exact (nu_ hg.room okr (hv.st.th i x hi)).2
 ·obtain⟨i,hi⟩:=f3_ hx
  have:=(ah8 hg.room okr).1 (hv.st.pr i x hi)
  omega
 ·obtain⟨i,hi⟩:=f3_ hx
  have:=(mf_ hg.room).1 (hv.st.py i x hi)
  omega
def bt (b:Bool):List UInt8:=cond b [116,114,117,101] [102,97,108,115,101]
def ptk (p:aa_):List (List UInt8):=(p.1.1.map Lib.itoa++(p.1.2.1.map Lib.itoa++p.1.2.2.map Lib.itoa))++p.2.map bt
theorem xw_ (l:List Int):ao6 l=hk_ (l.map Lib.itoa):=by
 unfold ao6 hk_
 rw[List.flatMap_map]
 rfl
theorem pp_ {u:Nat} (h:u<10000000000):(Lib.decDigits u).length≤11:=(yu_ 10 u h).2.2
theorem bz0 {x:Int} (h1 : -8≤x) (h2:x≤8):(Lib.itoa x).length≤21:=by
 unfold Lib.itoa
 split
 ·have:=pp_ (u:=x.natAbs) (by omega)
  rw[c1_];omega
 ·have:=pp_ (u:=x.toNat) (by omega)
  omega
theorem bk8 {p:aa_} (h:p.2.length≤20):ml_ p=some (hk_ (p.2.map bt),()):=by
 unfold ml_
 have hb:∀ b,(bt b).length≤5:=λb=>by cases b<;>decide
 refine ms_ p.2.length (λ(i:Nat) (z:List UInt8×(Int×Unit))=>z=(hk_ ((p.2.take i).map bt),((i:Int),()))) (by rw[l0_];rfl) (λi z hi hz => ?_) (λz hz => ?_)
 ·subst hz
  obtain⟨b,hx⟩:=bc_ hi
  have hl:(hk_ ((p.2.take i).map bt)).length≤20 * 6:=by
   refine c7_ (qg_ (k:=5) λt ht => ?_) ?_
   ·obtain⟨b,_,rfl⟩:=d3_.1 ht
    exact hb b
   ·rw[e0_,c5_]
    omega
  have hf:ep_ b=some (bt b,()):=by cases b<;>rfl
  have hb5:=hb b
  refine⟨_,?_,rfl⟩
  simp only[dlt hi,a5_,ah_ hx,a0_,hf,ba_ (show Sm i by show i≤1000000000;omega)]
  rw[vf_ (show (bt b).length+1≤_ by omega),a0_,vf_ (by rw[a8_,c8_];omega),a0_,d9_,hx]
  simp[hk_]
 ·subst hz
  refine⟨_,by simp only[dnl,a2_];rfl,?_⟩
  simp only[d2_]
theorem yh_ {l:List Int} (h:∀ x ∈ l,-8≤x∧x≤8):l.all inI=true:=by
 rw[f2_]
 intro x hx
 have:=h x hx
 unfold inI
 rw[a1_,l6_,l6_]
 omega
theorem an8 {p:aa_} (h:PB p):ln_ p=some (hk_ (ptk p),()):=by
 have hB1:∀ x ∈ p.1.1,-8≤x∧x≤8:=λx hx=>by have:=h.b1 x hx;omega
 have hB2:∀ x ∈ p.1.2.1,-8≤x∧x≤8:=λx hx=>by have:=h.b2 x hx;omega
 have hB3:∀ x ∈ p.1.2.2,-8≤x∧x≤8:=λx hx=>by have:=h.b3 x hx;omega
 have hE:ia_ [p.1.1,p.1.2.1,p.1.2.2]=hk_ (p.1.1.map Lib.itoa++(p.1.2.1.map Lib.itoa++p.1.2.2.map Lib.itoa)):=by
  rw[mb_,mb_,← xw_,← xw_,← xw_]
  simp[ia_]
 have hlen:∀ {l:List Int} {k:Nat},l.length≤k→(∀ x ∈ l,-8≤x∧x≤8)→(hk_ (l.map Lib.itoa)).length≤k * 22:=λ{l k} hk hb=>by
  refine c7_ (qg_ (k:=21) λt ht => ?_) ?_
  ·obtain⟨x,hx,rfl⟩:=d3_.1 ht
   exact bz0 (hb x hx).1 (hb x hx).2
  ·rw[e0_]
   exact i6_ _ hk
 have hl:(ia_ [p.1.1,p.1.2.1,p.1.2.2]).length≤1000:=by
  rw[hE,mb_,mb_,a8_,a8_]
  have h1:=hlen h.n1 hB1
  have h2:=hlen h.n2 hB2
  have h3:=hlen h.n3 hB3
  omega
 have hr:(hk_ (p.2.map bt)).length≤20 * 6:=by
  refine c7_ (qg_ (k:=5) λt ht => ?_) ?_
  ·obtain⟨b,_,rfl⟩:=d3_.1 ht
   cases b<;>decide
  ·rw[e0_]
   have:=h.n4
   omega
 have hn:gf_ [p.1.1,p.1.2.1,p.1.2.2]=some (ia_ [p.1.1,p.1.2.1,p.1.2.2],()):=by
  unfold gf_
  have h1:([p.1.1,p.1.2.1,p.1.2.2].all λl=>l.all inI)=true:=by
   simp[yh_ hB1,yh_ hB2,yh_ hB3]
  rw[h1,h8_ (show _≤2147483648 by omega)]
  rfl
 unfold ln_
 rw[hn,a0_,bk8 h.n4,a0_,vf_ (by show (ia_ _).length+(hk_ (p.2.map bt)).length≤_;omega),a0_]
 unfold ptk
 rw[mb_,← hE]
theorem bt_inj {a b:Bool} (h:bt a=bt b):a=b:=by
 cases a<;>cases b<;>first | rfl | cases h
theorem ct4 (p:aa_):∀ t ∈ ptk p,(32:UInt8) ∉ t:=by
 intro t ht
 unfold ptk at ht
 simp only[b2_,d3_] at ht
 rcases ht with (⟨x,_,rfl⟩ | ⟨x,_,rfl⟩ | ⟨x,_,rfl⟩) | ⟨b,_,rfl⟩
 ·exact ax1 x
 ·exact ax1 x
 ·exact ax1 x
 ·cases b<;>decide
def SmL (p q:aa_):Prop:=p.1.1.length=q.1.1.length∧p.1.2.1.length=q.1.2.1.length∧p.1.2.2.length=q.1.2.2.length∧p.2.length=q.2.length
theorem cx0 {g:ac_} {p q:aa_} (hp:VP g p) (hq:VP g q):SmL p q:=by
 have h1:=hp.st.l1
 have h2:=hp.st.l2
 have h3:=hp.st.l3
 have h4:=hp.rd
 have k1:=hq.st.l1
 have k2:=hq.st.l2
 have k3:=hq.st.l3
 have k4:=hq.rd
 exact⟨by omega,by omega,by omega,by omega⟩
theorem ut_ {α:Type} {a b c d:List α} (h:a.length=c.length) (e:a++b=c++d):a=c∧b=d:=List.append_inj e h
theorem bt0 {p q:aa_} (h1:p.1.1=q.1.1) (h2:p.1.2.1=q.1.2.1) (h3:p.1.2.2=q.1.2.2) (h4:p.2=q.2):p=q :=
 Prod.ext (Prod.ext h1 (Prod.ext h2 h3)) h4
theorem ptk_inj {p q:aa_} (hs:SmL p q) (h:hk_ (ptk p)=hk_ (ptk q)):p=q:=by
 obtain⟨s1,s2,s3,s4⟩:=hs
 have h:=ad1 (ct4 p) (ct4 q) h
 unfold ptk at h
 obtain⟨h,e4⟩:=ut_ (by simp only[a8_,e0_];omega) h
 obtain⟨e1,h⟩:=ut_ (by simp only[e0_];omega) h
 obtain⟨e2,e3⟩:=ut_ (by simp only[e0_];omega) h
 exact bt0 (gk_ (λ_ _ _ _=>ah6) e1) (gk_ (λ_ _ _ _=>ah6) e2) (gk_ (λ_ _ _ _=>ah6) e3) (gk_ (λ_ _ _ _=>bt_inj) e4)
def dec (n:Int):List UInt8:=Lib.decDigits n.toNat
theorem sub_dig:∀ {r:Nat},r<10→sub? ([48,49,50,51,52,53,54,55,56,57]:List UInt8) (r:Int) (w64 ((r:Int)+1))=some [UInt8.ofNat (48+r)]
 | 0,_=>rfl
 | 1,_=>rfl
 | 2,_=>rfl
 | 3,_=>rfl
 | 4,_=>rfl
 | 5,_=>rfl
 | 6,_=>rfl
 | 7,_=>rfl
 | 8,_=>rfl
 | 9,_=>rfl
 | _+10,h=>absurd h (by omega)
theorem bi2:∀ (k u:Nat),u≤1000000000→u<10 ^ (k+1)→ed_ (k+1) (u:Int)=some (Lib.decDigits u,())
  | k,u,hu,h=>by
    have hm:u % 10<10:=q1_ _ (by decide)
    have e1:Int.tmod (u:Int) 10=((u % 10:Nat):Int):=by rw[Int.tmod_eq_emod_of_nonneg (by omega)];omega
    have e2:Int.tdiv (u:Int) 10=((u / 10:Nat):Int):=by rw[Int.tdiv_eq_ediv_of_nonneg (by omega)];omega
    show ((sub? [48,49,50,51,52,53,54,55,56,57] (Int.tmod (u:Int) 10) (w64 ((Int.tmod (u:Int) 10)+1))).bind λv0 =>
 (cond (decide ((u:Int)<10))
 (some (v0,()))
 ((ed_ k (w64 (Int.tdiv (u:Int) 10))).bind λv1 =>
 ((cat? v1.1 v0).bind λv2 =>
 (some (v2,()))))))=_
    rw[e1,sub_dig hm,a0_,e2,gv_ (by omega) (by omega),Lib.decDigits]
    by_cases h10:u<10
    · rw[dif_pos h10,b5_ (show (u:Int)<10 by omega),a5_,k4_ h10]
    · rw[dif_neg h10,b6_ (show ¬ (u:Int)<10 by omega),a2_]
      match k,h with
      | 0,h=>exact absurd h (by simp;omega)
      | k+1,h =>
        rw[k3_] at h
        rw[bi2 k (u / 10) (by omega) (by omega),a0_]
        have:=pp_ (u:=u / 10) (by omega)
        rw[vf_ (by show (Lib.decDigits (u / 10)).length+1≤_;omega),a0_]
theorem ac9 {n:Int} (h0:0≤n) (h1:n≤1000000):cg_ n=some (dec n,()):=by
 obtain⟨u,rfl⟩:∃ u:Nat,n=(u:Int):=⟨n.toNat,by omega⟩
 unfold cg_ dec
 rw[b9_]
 exact bi2 19 u (by omega) (by omega)
theorem keyL (l:List Int) (h:Int→Int) (acc:List UInt8) (hl:l.length≤20) (ha:acc.length≤100000) (hb:∀ x ∈ l,0≤h x∧h x≤100) {body:(List UInt8×(Int×Unit))→Option ((List UInt8×(Int×Unit))⊕(List UInt8×Unit))} {υ:Type} {K:(List UInt8×Unit)→Option υ} {x:Option υ}
  (hs:∀ (i:Nat) y t,l[i]?=some y→body (t,((i:Int),()))=((cg_ (h y)).bind λv8=>((cat? t v8.1).bind λv9=>((cat? v9 [32]).bind λv10=>(some (inl (v10,((w64 ((i:Int)+1)),()))))))))
  (he:∀ t,body (t,((l.length:Int),()))=some (.inr (t,()))) (hk:K (acc++hk_ (l.map λx=>dec (h x)),())=x):(af_ body (acc,(0,()))).bind K=x:=by
 refine ms_ l.length (λ(i:Nat) (z:List UInt8×(Int×Unit))=>z=(acc++hk_ ((l.take i).map λx=>dec (h x)),((i:Int),()))) (by rw[l0_,List.map_nil,show hk_ []=[] from rfl,e9_];rfl) (λi z hi hz => ?_) (λz hz => ?_)
 ·subst hz
  obtain⟨y,hy⟩:=bc_ hi
  have hlen:(hk_ ((l.take i).map λx=>dec (h x))).length≤20 * 12:=by
   refine c7_ (qg_ (k:=11) λt ht => ?_) ?_
   ·obtain⟨x,hx,rfl⟩:=d3_.1 ht
    have:=hb x (k0_ hx)
    exact pp_ (by omega)
   ·rw[e0_,c5_]
    omega
  have hyb:=hb y (aw_ hy)
  have hd:(dec (h y)).length≤11:=pp_ (by omega)
  refine⟨_,?_,rfl⟩
  rw[hs i y _ hy,ac9 hyb.1 (by omega),a0_,vf_ (by show (acc++hk_ _).length+(dec (h y)).length≤_;rw[a8_];omega),a0_,vf_ (by show ((acc++hk_ _)++dec (h y)).length+1≤_;rw[a8_,a8_];omega),a0_,ba_ (show Sm i by show i≤1000000000;omega),d9_,hy]
  simp[hk_]
 ·subst hz
  refine⟨_,he _,?_⟩
  rw[d2_]
  exact hk
def idx (d:List Bool):List Nat:=(List.range d.length).filter λi=>d[i]?==some true
theorem bz4 {d:List Bool} {i:Nat}:i ∈ idx d↔d[i]?=some true:=by
 unfold idx
 rw[d7_,m3_,i5_]
 exact⟨λh=>h.2,λh=>⟨am_ h,h⟩⟩
theorem idx_inj {d e:List Bool} (hl:d.length=e.length) (h:idx d=idx e):d=e:=by
 refine f4_ λi => ?_
 rcases m8_ i d.length with hi | hi
 ·obtain⟨x,hx⟩:=bc_ hi
  obtain⟨y,hy⟩:=bc_ (l:=e) (i:=i) (by omega)
  have hm:i ∈ idx d↔i ∈ idx e:=by rw[h]
  rw[bz4,bz4,hx,hy] at hm
  rw[hx,hy]
  cases x with
  | true=>rw[hm.1 rfl]
  | false =>
   cases y with
   | true=>exact (hm.2 rfl)
   | false=>rfl
 ·rw[c2_ hi,c2_ (by omega)]
def rtk (p:aa_):List (List UInt8):=((p.1.1.map (λx=>dec x)++p.1.2.1.map (λx=>dec (w64 (x+10))))++p.1.2.2.map (λx=>dec x))++(idx p.2).map (λi:Nat=>dec (i:Int))
theorem am5 {p:aa_} (h:PB p):jb_ p=some (hk_ (rtk p),()):=by
 have hlen:∀ {l:List Int} (f:Int→Int),l.length≤20→(∀ x ∈ l,0≤f x∧f x≤100)→(hk_ (l.map λx=>dec (f x))).length≤20 * 12:=λ{l} f hk hb=>by
  refine c7_ (qg_ (k:=11) λt ht => ?_) ?_
  ·obtain⟨x,hx,rfl⟩:=d3_.1 ht
   have:=hb x hx
   exact pp_ (by omega)
  ·rw[e0_]
   exact i6_ _ hk
 have n1:=h.n1
 have n2:=h.n2
 have n3:=h.n3
 have n4:=h.n4
 have q1:∀ x ∈ p.1.1,0≤x∧x≤100:=λx hx=>by have:=h.b1 x hx;omega
 have q2:∀ x ∈ p.1.2.1,0≤w64 (x+10)∧w64 (x+10)≤100:=λx hx=>by have:=h.b2 x hx;rw[gv_ (by omega) (by omega)];omega
 have q3:∀ x ∈ p.1.2.2,0≤x∧x≤100:=λx hx=>by have:=h.b3 x hx;omega
 have l1:=hlen (l:=p.1.1) (λx=>x) (by omega) q1
 have l2:=hlen (l:=p.1.2.1) (λx=>w64 (x+10)) (by omega) q2
 have l3:=hlen (l:=p.1.2.2) (λx=>x) (by omega) q3
 unfold jb_
 refine keyL p.1.1 (λx=>x) [] (by omega) (by simp) q1 (λi y t hy=>by simp only[dlt (am_ hy),a5_,ah_ hy,a0_]) (λt=>by simp only[dnl,a2_]) ?_
 refine keyL p.1.2.1 (λx=>w64 (x+10)) ([]++_) (by omega) (by rw[h1_];omega) q2 (λi y t hy=>by simp only[dlt (am_ hy),a5_,ah_ hy,a0_]) (λt=>by simp only[dnl,a2_]) ?_
 refine keyL p.1.2.2 (λx=>x) (([]++_)++_) (by omega) (by rw[h1_,a8_];omega) q3 (λi y t hy=>by simp only[dlt (am_ hy),a5_,ah_ hy,a0_]) (λt=>by simp only[dnl,a2_]) ?_
 refine ms_ p.2.length (λ(i:Nat) (z:List UInt8×(Int×Unit))=>z=((([]++hk_ (p.1.1.map λx=>dec x))++hk_ (p.1.2.1.map λx=>dec (w64 (x+10))))++hk_ (p.1.2.2.map λx=>dec x)++hk_ (((List.range i).filter λi=>p.2[i]?==some true).map λi:Nat=>dec (i:Int)),((i:Int),()))) (by rw[List.range_zero,List.filter_nil,List.map_nil,show hk_ []=[] from rfl,e9_];rfl) (λi z hi hz => ?_) (λz hz => ?_)
 ·subst hz
  obtain⟨b,hb⟩:=bc_ hi
  have hl4:(hk_ (((List.range i).filter λi=>p.2[i]?==some true).map λi:Nat=>dec (i:Int))).length≤20 * 12:=by
   refine c7_ (qg_ (k:=11) λt ht => ?_) ?_
   ·obtain⟨x,hx,rfl⟩:=d3_.1 ht
    have:=m3_.1 (d7_.1 hx).1
    exact pp_ (by omega)
   ·refine i6_ _ ?_
    rw[e0_]
    refine c7_ (k7_ ..) ?_
    rw[h9_]
    omega
  have hd:(dec (i:Int)).length≤11:=pp_ (by omega)
  refine⟨_,?_,rfl⟩
  simp only[dlt hi,a5_,ah_ hb,a0_,ba_ (show Sm i by show i≤1000000000;omega)]
  rw[List.range_succ,n3_]
  cases b with
  | false=>simp[hb]
  | true =>
   rw[a5_,ac9 (by omega) (by omega),a0_,vf_ (by simp only[a8_,i2_];omega),a0_,vf_ (by simp only[a8_,i2_,c1_];omega)]
   simp[hb,hk_]
 ·subst hz
  refine⟨_,by simp only[dnl,a2_];rfl,?_⟩
  unfold rtk idx
  rw[mb_,mb_,mb_,h1_]
theorem bg3 (x:Int):(32:UInt8) ∉ dec x:=λe=>by
 have:=yv_ _ e
 have h32:(32:UInt8).toNat=32:=rfl
 omega
theorem cs8 (p:aa_):∀ t ∈ rtk p,(32:UInt8) ∉ t:=by
 intro t ht
 unfold rtk at ht
 simp only[b2_,d3_] at ht
 rcases ht with ((⟨x,_,rfl⟩ | ⟨x,_,rfl⟩) | ⟨x,_,rfl⟩) | ⟨b,_,rfl⟩
 ·exact bg3 x
 ·exact bg3 _
 ·exact bg3 x
 ·exact bg3 _
theorem rtk_inj {p q:aa_} (hp:PB p) (hq:PB q) (hs:SmL p q) (h:hk_ (rtk p)=hk_ (rtk q)):p=q:=by
 obtain⟨s1,s2,s3,s4⟩:=hs
 have h:=ad1 (cs8 p) (cs8 q) h
 unfold rtk at h
 obtain⟨h,e4⟩:=ut_ (by simp only[a8_,e0_];omega) h
 obtain⟨h,e3⟩:=ut_ (by simp only[a8_,e0_];omega) h
 obtain⟨e1,e2⟩:=ut_ (by simp only[e0_];omega) h
 refine bt0 (gk_ (λx hx y hy e => ?_) e1) (gk_ (λx hx y hy e => ?_) e2) (gk_ (λx hx y hy e => ?_) e3) (idx_inj s4 (gk_ (λx hx y hy e => ?_) e4))
 ·have:=uk_ (show Lib.decDigits x.toNat=Lib.decDigits y.toNat from e)
  have:=hp.b1 x hx
  have:=hq.b1 y hy
  omega
 ·have:=uk_ (show Lib.decDigits (w64 (x+10)).toNat=Lib.decDigits (w64 (y+10)).toNat from e)
  have:=hp.b2 x hx
  have:=hq.b2 y hy
  rw[gv_ (by omega) (by omega),gv_ (by omega) (by omega)] at *
  omega
 ·have:=uk_ (show Lib.decDigits x.toNat=Lib.decDigits y.toNat from e)
  have:=hp.b3 x hx
  have:=hq.b3 y hy
  omega
 ·have:=uk_ (show Lib.decDigits (x:Int).toNat=Lib.decDigits (y:Int).toNat from e)
  omega
end
section
set_option maxRecDepth 10000
def wh (ps:List aa_) (q:aa_):Option Nat:=ps.findIdx? (λx=>decide (x=q))
theorem bn9 {ps:List aa_} {q:aa_} {n:Nat} (h:wh ps q=some n):ps[n]?=some q:=by
 unfold wh at h
 obtain⟨hn,h1,_⟩:=List.findIdx?_eq_some_iff_getElem.1 h
 rw[a7_ hn,f0_ h1]
theorem wh_push (ps:List aa_) (q x:aa_):wh (ps++[q]) x=(wh ps x).or (if x=q then some ps.length else none):=by
 unfold wh
 rw[List.findIdx?_append]
 congr 1
 by_cases h:x=q
 ·rw[if_pos h]
  simp[h]
 ·rw[if_neg h]
  have:¬ q=x:=λe=>h e.symm
  simp[this]
def MI (g:ac_) (key:aa_→List UInt8) (ps:List aa_) (M:List (List UInt8×Int)):Prop:=∀ q,VP g q→mget? M (key q)=(wh ps q).map λn=>(n:Int)
theorem az3 {g:ac_} {key:aa_→List UInt8} (hk:∀ p q,VP g p→VP g q→key p=key q→p=q) {ps:List aa_} {M:List (List UInt8×Int)} (hM:MI g key ps M) {q:aa_} (hq:VP g q) (hw:wh ps q=none) :
  MI g key (ps++[q]) (fh_ M (key q) (ps.length:Int)):=by
 intro x hx
 rw[nj_,wh_push]
 by_cases h:x=q
 ·subst h
  rw[if_pos rfl,hw,if_pos rfl]
  rfl
 ·rw[if_neg (λe=>h (hk x q hx hq e)),if_neg h,hM x hx,Option.or_none]
noncomputable def inn (g:ac_) (p:aa_):List ai_→List ad_→List aa_→Option (List ad_×List aa_)
 | [],e,ps=>some (e,ps)
 | m::ms,e,ps=>match wh ps ((stepP g p m).getD eP) with
  | some n=>inn g p ms (e++[(m,(n:Int))]) ps
  | none=>if ps.length=3000 then none else inn g p ms (e++[(m,(ps.length:Int))]) (ps++[(stepP g p m).getD eP])
noncomputable def out (g:ac_):Nat→Nat→List aa_→List (List ad_)→Option (List aa_×List (List ad_))
 | 0,i,ps,es=>some (ps,es)
 | n+1,i,ps,es=>match ps[i]? with
  | none=>some (ps,es)
  | some p=>match inn g p (pmv g p) [] ps with
   | none=>none
   | some (e,ps')=>out g n (i+1) ps' (es++[e])
noncomputable def exG (g:ac_):br_×(Int×Unit) :=
 cond ((vw_ g).2.1 != 0) (([],[]),((vw_ g).2.1,())) (match out g 3001 0 [(vw_ g).1] [] with
  | none=>(([],[]),(2,()))
  | some (ps,es)=>((ps,es),(0,())))
structure PI (g:ac_) (ps:List aa_):Prop where
 n:ps.length≤3000
 v:∀ x ∈ ps,VP g x
theorem cf9 {g:ac_} {ps:List aa_} (h:PI g ps) {q:aa_} (hq:VP g q) (hn:ps.length≠3000):PI g (ps++[q]):=by
 have:=h.n
 refine⟨by rw[a8_,c8_];omega,λx hx => ?_⟩
 rcases b2_.1 hx with hx | hx
 ·exact h.v x hx
 ·rw[e7_] at hx
  rw[hx]
  exact hq
theorem qs_ {g:ac_} {p:aa_} {m:ai_} (hm:m ∈ pmv g p):∃ q,stepP g p m=some q:=by
 unfold pmv at hm
 exact Option.isSome_iff_exists.1 (d7_.1 hm).2
theorem av9 {g:ac_} (ok:OkG g) (p:aa_):(pmv g p).length≤480:=by
 unfold pmv
 exact c7_ (k7_ ..) (aw8 (bt_ ok.room) p.1)
theorem be2 {g:ac_} (hg:SmG g) (h0:cw_ g=0) {p:aa_} (hv:VP g p):∀ (ms:List ai_) (e e':List ad_) (ps ps':List aa_),(∀ m ∈ ms,∃ q,stepP g p m=some q)→PI g ps→inn g p ms e ps=some (e',ps') →
  PI g ps'∧(∃ r,ps'=ps++r)∧((∀ x ∈ e,0≤x.2∧x.2<(ps.length:Int))→∀ x ∈ e',0≤x.2∧x.2<(ps'.length:Int))∧(∀ x ∈ e',x ∈ e∨x.1 ∈ ms)∧e'.length=e.length+ms.length
 | [],e,e',ps,ps',hms,hI,h=>by
  unfold inn at h
  obtain⟨rfl,rfl⟩:=h3_ (a6_ h)
  exact⟨hI,⟨[],(e9_ _).symm⟩,λh=>h,λx hx=>.inl hx,rfl⟩
 | m::ms,e,e',ps,ps',hms,hI,h=>by
  obtain⟨q,hq⟩:=hms m (d5_ ..)
  have hms':∀ m ∈ ms,∃ q,stepP g p m=some q:=λm hm=>hms m (c9_ _ hm)
  have hvq:=ad4 hg h0 hv hq
  unfold inn at h
  rw[hq,f8_] at h
  cases hw:wh ps q with
  | some n =>
   rw[hw] at h
   obtain⟨a,b,c,d,f⟩:=be2 hg h0 hv ms _ e' ps ps' hms' hI h
   refine⟨a,b,λhe=>c λx hx => ?_,λx hx => ?_,by rw[f,a8_,c8_,c1_];omega⟩
   rotate_left
   ·rcases d x hx with hx | hx
    ·rcases b2_.1 hx with hx | hx
     ·exact .inl hx
     ·rw[e7_] at hx
      rw[hx]
      exact .inr (d5_ ..)
    ·exact .inr (c9_ _ hx)
   rcases b2_.1 hx with hx | hx
   ·exact he x hx
   ·rw[e7_] at hx
    have:=am_ (bn9 hw)
    rw[hx]
    exact⟨by show (0:Int)≤(n:Int);omega,by show (n:Int)<_;omega⟩
  | none =>
   rw[hw] at h
   have h:(if ps.length=3000 then none else inn g p ms (e++[(m,(ps.length:Int))]) (ps++[q]))=some (e',ps'):=h
   split at h
   ·cases h
   ·next hn =>
    obtain⟨a,⟨r,hr⟩,c,d,f⟩:=be2 hg h0 hv ms _ e' (ps++[q]) ps' hms' (cf9 hI hvq hn) h
    refine⟨a,⟨q::r,by rw[hr,b3_];rfl⟩,λhe=>c λx hx => ?_,λx hx => ?_,by rw[f,a8_,c8_,c1_];omega⟩
    rotate_left
    ·rcases d x hx with hx | hx
     ·rcases b2_.1 hx with hx | hx
      ·exact .inl hx
      ·rw[e7_] at hx
       rw[hx]
       exact .inr (d5_ ..)
     ·exact .inr (c9_ _ hx)
    have hl:(ps++[q]).length=ps.length+1:=by rw[a8_,c8_]
    rcases b2_.1 hx with hx | hx
    ·have:=he x hx
     omega
    ·rw[e7_] at hx
     rw[hx]
     exact⟨by show (0:Int)≤(ps.length:Int);omega,by show (ps.length:Int)<_;omega⟩
theorem lgl_num {r:ae_} {s:aj_} {m:ai_} (h:lgl r s m=true) (hk:m.2.1=4):m.2.2≠-1:=by
 intro e
 unfold lgl at h
 rw[a1_,hk,e] at h
 have h:=h.2
 simp only[show ((4:Int)==1)=false from rfl,show ((4:Int)==2)=false from rfl,show ((4:Int)==3)=false from rfl,show ((4:Int)==4)=true from rfl,a2_,a5_] at h
 have:at? r.2.2.2.2.1 (-1)=none:=rfl
 rw[this] at h
 cases h
theorem pmv_num {g:ac_} {p:aa_} {m:ai_} (hm:m ∈ pmv g p):m.2.1=4→m.2.2≠-1:=by
 unfold pmv at hm
 exact lgl_num (aw7 (d7_.1 hm).1)
structure GI (g:ac_) (ps:List aa_) (es:List (List ad_)):Prop where
 pI:PI g ps
 eI:∀ l ∈ es,∀ x ∈ l,(0≤x.2∧x.2<(ps.length:Int))∧(x.1.2.1=4→x.1.2.2≠-1)
 eL:∀ l ∈ es,l.length≤480
theorem ct8 {g:ac_} (hg:SmG g) (h0:cw_ g=0):∀ (n i:Nat) (ps ps':List aa_) (es es':List (List ad_)),i+n=3001→i≤ps.length→es.length=i→GI g ps es→out g n i ps es=some (ps',es')→GI g ps' es'∧es'.length=ps'.length
 | 0,i,ps,ps',es,es',hi,hip,hl,hG,h=>by
  have:=hG.pI.n
  omega
 | n+1,i,ps,ps',es,es',hi,hip,hl,hG,h=>by
  unfold out at h
  cases hp:ps[i]? with
  | none =>
   rw[hp] at h
   obtain⟨rfl,rfl⟩:=h3_ (a6_ h)
   have:=o9_.1 hp
   exact⟨hG,by omega⟩
  | some p =>
   rw[hp] at h
   have hvp:=hG.pI.v p (aw_ hp)
   have hok:=df_ h0
   cases hin:inn g p (pmv g p) [] ps with
   | none =>
    simp only[hin] at h
    cases h
   | some z =>
    obtain⟨e,ps1⟩:=z
    simp only[hin] at h
    obtain⟨a,⟨r,rfl⟩,c,d,f⟩:=be2 hg h0 hvp _ _ _ _ _ (λm hm=>qs_ hm) hG.pI hin
    have hpl:=am_ hp
    have hpm:=av9 hok p
    have hll:(ps++r).length=ps.length+r.length:=a8_
    refine ct8 hg h0 n (i+1) _ ps' _ es' (by omega) (by omega) (by rw[a8_,c8_];omega) ⟨a,λl hl x hx => ?_,λl hl => ?_⟩ h
    ·rcases b2_.1 hl with hl | hl
     ·have:=hG.eI l hl x hx
      exact⟨by omega,this.2⟩
     ·rw[e7_] at hl
      rw[hl] at hx
      refine⟨c (λx hx=>by cases hx) x hx,?_⟩
      rcases d x hx with hx | hx
      ·cases hx
      ·exact pmv_num hx
    ·rcases b2_.1 hl with hl | hl
     ·exact hG.eL l hl
     ·rw[e7_] at hl
      rw[hl,f]
      show 0+_≤480
      omega
theorem cv8 {g:ac_} (hg:SmG g) (he:(exG g).2.1=0):cw_ g=0∧GI g (exG g).1.1 (exG g).1.2∧(exG g).1.2.length=(exG g).1.1.length:=by
 unfold exG at he ⊢
 cases hb:(vw_ g).2.1 != 0 with
 | true =>
  rw[hb] at he
  rw[m7_] at hb
  exact absurd he hb
 | false =>
 rw[hb,a2_] at he
 have hb:(vw_ g).2.1=0:=by simpa using hb
 obtain⟨h0,hv⟩:=ay7 hg hb
 cases ho:out g 3001 0 [(vw_ g).1] [] with
 | none =>
  rw[ho] at he
  exact absurd (show (2:Int)=0 from he) (by decide)
 | some z =>
  obtain⟨ps,es⟩:=z
  exact⟨h0,ct8 hg h0 3001 0 _ ps _ es rfl (h4_ _) rfl ⟨⟨by show 1≤3000;decide,λx hx=>by rw[e7_] at hx;rw[hx];exact hv⟩,(λl hl=>by cases hl),(λl hl=>by cases hl)⟩ ho⟩
noncomputable def ap7 (key:aa_→List UInt8) (g:ac_) (p:aa_):List ai_→List ad_→List aa_→List (List UInt8×Int)→Option (List ad_×(List aa_×List (List UInt8×Int)))
 | [],e,ps,M=>some (e,(ps,M))
 | m::ms,e,ps,M=>match wh ps ((stepP g p m).getD eP) with
  | some n=>ap7 key g p ms (e++[(m,(n:Int))]) ps M
  | none=>if ps.length=3000 then none else ap7 key g p ms (e++[(m,(ps.length:Int))]) (ps++[(stepP g p m).getD eP]) (fh_ M (key ((stepP g p m).getD eP)) (ps.length:Int))
theorem ah7 (key:aa_→List UInt8) (g:ac_) (p:aa_):∀ ms e ps M,(ap7 key g p ms e ps M).map (λz=>(z.1,z.2.1))=inn g p ms e ps
 | [],e,ps,M=>rfl
 | m::ms,e,ps,M=>by
  unfold ap7 inn
  cases wh ps ((stepP g p m).getD eP) with
  | some n=>exact ah7 key g p ms _ _ _
  | none =>
   by_cases hn:ps.length=3000
   ·simp only[if_pos hn,Option.map_none]
   ·simp only[if_neg hn]
    exact ah7 key g p ms _ _ _
section
variable {g:ac_} (hg:SmG g) (h0:cw_ g=0) {key:aa_→List UInt8} (hk:∀ p q,VP g p→VP g q→key p=key q→p=q)
include hg h0 hk
theorem ax6 {p:aa_} (hv:VP g p):∀ (ms:List ai_) e ps M e' ps' M',(∀ m ∈ ms,∃ q,stepP g p m=some q)→MI g key ps M→ap7 key g p ms e ps M=some (e',(ps',M'))→MI g key ps' M'
 | [],e,ps,M,e',ps',M',_,hM,h=>by
  unfold ap7 at h
  obtain⟨_,h⟩:=h3_ (a6_ h)
  obtain⟨rfl,rfl⟩:=h3_ h
  exact hM
 | m::ms,e,ps,M,e',ps',M',hms,hM,h=>by
  obtain⟨q,hq⟩:=hms m (d5_ ..)
  have hms':∀ m ∈ ms,∃ q,stepP g p m=some q:=λm hm=>hms m (c9_ _ hm)
  have hvq:=ad4 hg h0 hv hq
  unfold ap7 at h
  rw[hq,f8_] at h
  cases hw:wh ps q with
  | some n =>
   rw[hw] at h
   exact ax6 hv ms _ _ _ _ _ _ hms' hM h
  | none =>
   rw[hw] at h
   have h:(if ps.length=3000 then none else ap7 key g p ms (e++[(m,(ps.length:Int))]) (ps++[q]) (fh_ M (key q) (ps.length:Int)))=some (e',(ps',M')):=h
   split at h
   ·cases h
   ·exact ax6 hv ms _ _ _ _ _ _ hms' (az3 hk hM hvq hw) h
theorem ah3 {p:aa_} (hv:VP g p) {at_:Nat} {σ ρ:Type} (F:List ad_→Nat→List (List UInt8×Int)→List aa_→σ) (G:List ad_→List (List UInt8×Int)→List aa_→ρ) {EE:ρ} {body:σ→Option (σ⊕ρ)} (ms:List ai_) (hms:∀ m ∈ ms,∃ q,stepP g p m=some q)
  (hb:∀ i m e M ps q,ms[i]?=some m→stepP g p m=some q→VP g q→mget? M (key q)=(wh ps q).map (λn=>(n:Int))→PI g ps→ps[at_]?=some p→e.length=i →
   body (F e i M ps)=some (match wh ps q with
    | some n=>.inl (F (e++[(m,(n:Int))]) (i+1) M ps)
    | none=>if ps.length=3000 then .inr EE else .inl (F (e++[(m,(ps.length:Int))]) (i+1) (fh_ M (key q) (ps.length:Int)) (ps++[q]))))
  (he:∀ e M ps,body (F e ms.length M ps)=some (.inr (G e M ps))) :
  ∀ (k i:Nat) e M ps,i+k=ms.length→e.length=i→PI g ps→ps[at_]?=some p→MI g key ps M→af_ body (F e i M ps)=some ((ap7 key g p (ms.drop i) e ps M).elim EE λz=>G z.1 z.2.2 z.2.1)
 | 0,i,e,M,ps,hi,hl,hI,hat,hM=>by
  obtain rfl:i=ms.length:=by omega
  rw[o1_]
  exact ct_ (he e M ps)
 | k+1,i,e,M,ps,hi,hl,hI,hat,hM=>by
  have hil:i<ms.length:=by omega
  obtain⟨m,hm⟩:=bc_ hil
  obtain⟨q,hq⟩:=hms m (aw_ hm)
  have hvq:=ad4 hg h0 hv hq
  have hd:ms.drop i=m::ms.drop (i+1):=by
   rw[j0_ hil]
   rw[a7_ hil] at hm
   rw[a6_ hm]
  have hbb:=hb i m e M ps q hm hq hvq (hM q hvq) hI hat hl
  rw[hd]
  unfold ap7
  rw[hq,f8_]
  cases hw:wh ps q with
  | some n =>
   rw[hw] at hbb
   exact cq_ hbb (ah3 hv F G ms hms hb he k (i+1) (e++[(m,(n:Int))]) M ps (by omega) (by rw[a8_,c8_,hl]) hI hat hM)
  | none =>
   rw[hw] at hbb
   have hbb:body (F e i M ps)=some (if ps.length=3000 then .inr EE else .inl (F (e++[(m,(ps.length:Int))]) (i+1) (fh_ M (key q) (ps.length:Int)) (ps++[q]))):=hbb
   by_cases hn:ps.length=3000
   ·rw[if_pos hn] at hbb
    simp only[if_pos hn]
    exact ct_ hbb
   ·rw[if_neg hn] at hbb
    simp only[if_neg hn]
    exact cq_ hbb (ah3 hv F G ms hms hb he k (i+1) (e++[(m,(ps.length:Int))]) (fh_ M (key q) (ps.length:Int)) (ps++[q]) (by omega) (by rw[a8_,c8_,hl]) (cf9 hI hvq hn) (by rw[b1_ (am_ hat)];exact hat) (az3 hk hM hvq hw))
theorem ar7 {p:aa_} (hv:VP g p) {at_:Nat} {σ ρ υ:Type} (F:List ad_→Nat→List (List UInt8×Int)→List aa_→σ) (G:List ad_→List (List UInt8×Int)→List aa_→ρ) (EE:ρ) {body:σ→Option (σ⊕ρ)} (ms:List ai_) (hms:∀ m ∈ ms,∃ q,stepP g p m=some q)
  {M:List (List UInt8×Int)} {ps:List aa_} (hI:PI g ps) (hat:ps[at_]?=some p) (hM:MI g key ps M) {K:ρ→Option υ} {x:Option υ}
  (hb:∀ i m e M ps q,ms[i]?=some m→stepP g p m=some q→VP g q→mget? M (key q)=(wh ps q).map (λn=>(n:Int))→PI g ps→ps[at_]?=some p→e.length=i →
   body (F e i M ps)=some (match wh ps q with
    | some n=>.inl (F (e++[(m,(n:Int))]) (i+1) M ps)
    | none=>if ps.length=3000 then .inr EE else .inl (F (e++[(m,(ps.length:Int))]) (i+1) (fh_ M (key q) (ps.length:Int)) (ps++[q]))))
  (he:∀ e M ps,body (F e ms.length M ps)=some (.inr (G e M ps))) (hx:(ap7 key g p ms [] ps M).elim (K EE) (λz=>K (G z.1 z.2.2 z.2.1))=x):(af_ body (F [] 0 M ps)).bind K=x:=by
 rw[ah3 hg h0 hk hv F G ms hms hb he ms.length 0 [] M ps (by omega) rfl hI hat hM,a0_,← hx]
 rw[List.drop_zero]
 cases ap7 key g p ms [] ps M<;>rfl
theorem bd1 {σ ρ:Type} (F:Nat→List (List UInt8×Int)→List aa_→List (List ad_)→σ) (G:List (List UInt8×Int)→List aa_→List (List ad_)→ρ) {EE:ρ} {body:σ→Option (σ⊕ρ)}
    (hb:∀ i M ps es p,ps[i]?=some p→VP g p→PI g ps→es.length=i→MI g key ps M→body (F i M ps es)=some ((ap7 key g p (pmv g p) [] ps M).elim (.inr EE) λz=>.inl (F (i+1) z.2.2 z.2.1 (es++[z.1]))))
    (he:∀ M ps es,body (F ps.length M ps es)=some (.inr (G M ps es))) :
    ∀ (n i:Nat) M ps es,i+n=3001→i≤ps.length→es.length=i→PI g ps→MI g key ps M→match out g n i ps es with
      | none=>af_ body (F i M ps es)=some EE
      | some (ps',es')=>∃ M',af_ body (F i M ps es)=some (G M' ps' es')
  | 0,i,M,ps,es,hi,hip,hl,hI,hM=>by
    have:=hI.n
    omega
  | n+1,i,M,ps,es,hi,hip,hl,hI,hM=>by
    unfold out
    cases hp:ps[i]? with
    | none =>
      have:=o9_.1 hp
      obtain rfl:i=ps.length:=by omega
      exact⟨M,ct_ (he M ps es)⟩
    | some p =>
      have hvp:=hI.v p (aw_ hp)
      have hbb:=hb i M ps es p hp hvp hI hl hM
      have hmap:=ah7 key g p (pmv g p) [] ps M
      show (match (match inn g p (pmv g p) [] ps with
            | none=>none
            | some (e,ps')=>out g n (i+1) ps' (es++[e])) with
          | none=>af_ body (F i M ps es)=some EE
          | some (ps',es')=>∃ M',af_ body (F i M ps es)=some (G M' ps' es'))
      cases hin:ap7 key g p (pmv g p) [] ps M with
      | none =>
        rw[hin] at hbb hmap
        rw[← hmap]
        exact ct_ hbb
      | some z =>
        obtain⟨e,ps1,M1⟩:=z
        have hM1:=ax6 hg h0 hk hvp _ _ _ _ _ _ _ (λm hm=>qs_ hm) hM hin
        rw[hin] at hbb hmap
        obtain⟨a,⟨r,rfl⟩,_,_,_⟩:=be2 hg h0 hvp _ _ _ _ _ (λm hm=>qs_ hm) hI hmap.symm
        rw[← hmap]
        have hpl:=am_ hp
        have hll:(ps++r).length=ps.length+r.length:=a8_
        have ih:=bd1 F G hb he n (i+1) M1 (ps++r) (es++[e]) (by omega) (by omega) (by rw[a8_,c8_];omega) a hM1
        show (match out g n (i+1) (ps++r) (es++[e]) with
          | none=>af_ body (F i M ps es)=some EE
          | some (ps',es')=>∃ M',af_ body (F i M ps es)=some (G M' ps' es'))
        cases ho:out g n (i+1) (ps++r) (es++[e]) with
        | none=>rw[ho] at ih;exact cq_ hbb ih
        | some z =>
          rw[ho] at ih
          obtain⟨M',hz⟩:=ih
          exact⟨M',cq_ hbb hz⟩
theorem bh3 {σ ρ:Type} (F:Nat→List (List UInt8×Int)→List aa_→List (List ad_)→σ) (G:List (List UInt8×Int)→List aa_→List (List ad_)→ρ) (EE:ρ) {body:σ→Option (σ⊕ρ)} {p0:aa_} (hv:VP g p0) {K:ρ→Option (br_×(Int×Unit))}
  (hb:∀ i M ps es p,ps[i]?=some p→VP g p→PI g ps→es.length=i→MI g key ps M→body (F i M ps es)=some ((ap7 key g p (pmv g p) [] ps M).elim (.inr EE) λz=>.inl (F (i+1) z.2.2 z.2.1 (es++[z.1]))))
  (he:∀ M ps es,body (F ps.length M ps es)=some (.inr (G M ps es)))
  (hE:K EE=some (([],[]),(2,()))) (hG:∀ M ps es,K (G M ps es)=some ((ps,es),(0,()))) :
  (af_ body (F 0 (fh_ [] (key p0) 0) [p0] [])).bind K=some (match out g 3001 0 [p0] [] with
   | none=>(([],[]),(2,()))
   | some (ps,es)=>((ps,es),(0,()))):=by
 have hI:PI g [p0]:=⟨by show 1≤3000;decide,λx hx=>by rw[e7_] at hx;rw[hx];exact hv⟩
 have hM:MI g key [p0] (fh_ [] (key p0) 0):=by
  have:=az3 (ps:=[]) (M:=[]) (q:=p0) hk (λq _=>rfl) hv rfl
  exact this
 have:=bd1 hg h0 hk F G hb he 3001 0 (fh_ [] (key p0) 0) [p0] [] rfl (h4_ _) rfl hI hM
 cases ho:out g 3001 0 [p0] [] with
 | none =>
  rw[ho] at this
  rw[this,a0_]
  exact hE
 | some z =>
  obtain⟨ps,es⟩:=z
  rw[ho] at this
  obtain⟨M',hz⟩:=this
  rw[hz,a0_]
  exact hG M' ps es
end
end
section
set_option maxRecDepth 10000
theorem bb1 {g:ac_} (hg:SmG g) (ok:OkG g) (p q:aa_) (hp:VP g p) (hq:VP g q) (h:hk_ (rtk p)=hk_ (rtk q)):p=q:=rtk_inj (az2 hg ok hp) (az2 hg ok hq) (cx0 hp hq) h
theorem bb8 {g:ac_} (p q:aa_) (hp:VP g p) (hq:VP g q) (h:hk_ (ptk p)=hk_ (ptk q)):p=q:=ptk_inj (cx0 hp hq) h
theorem ae6 {g:ac_} (hg:SmG g):gd_ g=some (exG g):=by
 unfold gd_ exG
 rw[am6 hg,a0_]
 cases hb:(vw_ g).2.1 != 0 with
 | true=>rfl
 | false =>
 have hb:(vw_ g).2.1=0:=by simpa using hb
 obtain⟨h0,hv⟩:=ay7 hg hb
 have ok:=df_ h0
 simp only[a2_]
 rw[am5 (az2 hg ok hv),a0_]
 refine bh3 hg h0 (key:=λq=>hk_ (rtk q)) (bb1 hg ok) (λi M ps es=>((i:Int),(M,(([],([],())),((ps,(es,())),()))))) (λM ps es=>inl (M,(([],([],())),((ps,(es,())),())))) (inr (([],[]),(2,()))) hv (λi M ps es p hp hvp hI hl hM => ?_) (λM ps es=>by simp only[dnl,a2_]) rfl (λM ps es=>rfl)
 have hi:=am_ hp
 have hn:=hI.n
 have hml:=av9 ok p
 simp only[dlt hi,a5_,ah_ hp,a0_]
 rw[av3 hg h0 hvp,a0_]
 refine ar7 hg h0 (key:=λq=>hk_ (rtk q)) (bb1 hg ok) hvp (at_:=i) (λe j M ps=>(e,((j:Int),(M,(([],([],())),((ps,()),())))))) (λe M ps=>inl (e,(M,(([],([],())),((ps,()),()))))) (inr (inr (inr (([],[]),(2,()))))) (pmv g p) (λm hm=>qs_ hm) hI hp hM (λj m e M ps q hm hq hvq hMq hI hat hl => ?_) (λe M ps=>by simp only[dnl,a2_]) ?_
 ·have hj:=am_ hm
  have hn:=hI.n
  have hkq:=am5 (az2 hg ok hvq)
  simp only[dlt hj,a5_,ah_ hm,ah_ hat,a0_,bk1 hg h0 hvp hq,hkq]
  cases hw:wh ps q with
  | some n =>
   rw[hw] at hMq
   have e1:lu_ M (hk_ (rtk q))=true:=by unfold lu_;rw[hMq];rfl
   have e2:dm_ 0 M (hk_ (rtk q))=(n:Int):=by unfold dm_;rw[hMq];rfl
   simp only[e1,e2,e1_,a2_,a0_,cd_,ah_ hm,ci_ (show Sm e.length by show _≤1000000000;omega),ba_ (show Sm j by show _≤1000000000;omega)]
  | none =>
   rw[hw] at hMq
   have e1:lu_ M (hk_ (rtk q))=false:=by unfold lu_;rw[hMq];rfl
   simp only[e1,g2_,a5_]
   by_cases hc:ps.length=3000
   ·have:((ps.length:Int)==3000)=true:=by rw[hc];rfl
    simp only[this,a5_,a0_,cd_,if_pos hc]
   ·have:((ps.length:Int)==3000)=false:=by rw[i9_];omega
    simp only[this,a2_,a0_,cd_,if_neg hc,ci_ (show Sm ps.length by show _≤1000000000;omega),ci_ (show Sm e.length by show _≤1000000000;omega),ba_ (show Sm j by show _≤1000000000;omega),ah_ hm]
 ·cases hin:ap7 (λq=>hk_ (rtk q)) g p (pmv g p) [] ps M with
  | none=>rfl
  | some z =>
   simp only[Option.elim,cd_,ci_ (show Sm es.length by show _≤1000000000;omega),a0_,ba_ (show Sm i by show _≤1000000000;omega)]
theorem st_ {g:ac_} (hg:SmG g):ev_ g=some (exG g):=by
 unfold ev_ exG
 rw[xp_ hg,a0_]
 cases hb:(vw_ g).2.1 != 0 with
 | true=>rfl
 | false =>
 have hb:(vw_ g).2.1=0:=by simpa using hb
 obtain⟨h0,hv⟩:=ay7 hg hb
 have ok:=df_ h0
 simp only[a2_]
 rw[an8 (az2 hg ok hv),a0_,a0_]
 refine bh3 hg h0 (key:=λq=>hk_ (ptk q)) bb8 (λi M ps es=>((i:Int),(M,(([],([],())),((ps,(es,())),()))))) (λM ps es=>inl (M,(([],([],())),((ps,(es,())),())))) (inr (([],[]),(2,()))) hv (λi M ps es p hp hvp hI hl hM => ?_) (λM ps es=>by simp only[dnl,a2_]) rfl (λM ps es=>rfl)
 have hi:=am_ hp
 have hn:=hI.n
 have hml:=av9 ok p
 simp only[dlt hi,a5_,ah_ hp,a0_]
 rw[cl3 hg h0 hvp,a0_]
 simp only[show ((0:Int) != 0)=false from rfl,a2_]
 refine ar7 hg h0 (key:=λq=>hk_ (ptk q)) bb8 hvp (at_:=i) (λe j M ps=>(e,((j:Int),(M,(([],([],())),((ps,()),())))))) (λe M ps=>inl (e,(M,(([],([],())),((ps,()),()))))) (inr (inr (inr (([],[]),(2,()))))) (pmv g p) (λm hm=>qs_ hm) hI hp hM (λj m e M ps q hm hq hvq hMq hI hat hl => ?_) (λe M ps=>by simp only[dnl,a2_]) ?_
 ·have hj:=am_ hm
  have hn:=hI.n
  have hkq:=an8 (az2 hg ok hvq)
  have hstep:jd_ g p m=some (q,(0,())):=by rw[ao0 hg h0 hvp m,hq];rfl
  simp only[dlt hj,a5_,ah_ hm,ah_ hat,a0_,hstep,hkq,show ((0:Int) != 0)=false from rfl,a2_]
  cases hw:wh ps q with
  | some n =>
   rw[hw] at hMq
   have e1:lu_ M (hk_ (ptk q))=true:=by unfold lu_;rw[hMq];rfl
   have e2:dm_ 0 M (hk_ (ptk q))=(n:Int):=by unfold dm_;rw[hMq];rfl
   simp only[e1,e2,a5_,e1_,a2_,a0_,ci_ (show Sm e.length by show _≤1000000000;omega),ba_ (show Sm j by show _≤1000000000;omega)]
  | none =>
   rw[hw] at hMq
   have e1:lu_ M (hk_ (ptk q))=false:=by unfold lu_;rw[hMq];rfl
   simp only[e1,a2_]
   by_cases hc:ps.length=3000
   ·have:((ps.length:Int)==3000)=true:=by rw[hc];rfl
    simp only[this,a5_,a0_,g2_,if_pos hc]
   ·have:((ps.length:Int)==3000)=false:=by rw[i9_];omega
    simp only[this,a2_,a0_,e1_,if_neg hc,ci_ (show Sm ps.length by show _≤1000000000;omega),ci_ (show Sm e.length by show _≤1000000000;omega),ba_ (show Sm j by show _≤1000000000;omega)]
 ·cases hin:ap7 (λq=>hk_ (ptk q)) g p (pmv g p) [] ps M with
  | none=>rfl
  | some z =>
   simp only[Option.elim,cd_,ci_ (show Sm es.length by show _≤1000000000;omega),a0_,ba_ (show Sm i by show _≤1000000000;omega)]
end
section
set_option maxRecDepth 10000
structure LC (es:List (List ad_)) (fin:Nat→Bool) (a:List Int):Prop where
 lo:∀ (i:Nat) (v:Int),a[i]?=some v→-1≤v
 z:∀ (i:Nat) (v:Int),a[i]?=some v→(v=0↔fin i=true)
 dn:∀ (i k:Nat),a[i]?=some ((k+1:Nat):Int)→∃ l x,es[i]?=some l∧x ∈ l∧at? a x.2=some (k:Int)
 up:∀ (i:Nat) (l:List ad_) (x:ad_) (k:Nat),es[i]?=some l→x ∈ l→at? a x.2=some (k:Int)→∃ v,a[i]?=some v∧0≤v∧v≤(k:Int)+1
theorem cg0 {es:List (List ad_)} {fin:Nat→Bool} {a b:List Int} (ha:LC es fin a) (hb:LC es fin b) (hl:a.length=b.length) (k:Nat) (ih:∀ j,j<k→∀ i:Nat,a[i]?=some (j:Int)↔b[i]?=some (j:Int)) (i:Nat) (h:a[i]?=some (k:Int)):b[i]?=some (k:Int):=by
 obtain⟨w,hw⟩:=bc_ (l:=b) (i:=i) (by have:=am_ h;omega)
 match k with
 | 0 =>
  have h1:=(ha.z i _ h).1 rfl
  have h2:=(hb.z i w hw).2 h1
  rw[hw,h2]
  rfl
 | k+1 =>
  obtain⟨l,x,hl',hx,hat⟩:=ha.dn i k h
  obtain⟨q1,q2,q3⟩:=eu_ hat
  have h3:=(ih k (by omega) _).1 q3
  have h4:at? b x.2=some (k:Int):=by
   rw[show x.2=((x.2.toNat:Nat):Int) by omega]
   exact ah_ h3
  obtain⟨v,e,v0,v1⟩:=hb.up i l x k hl' hx h4
  rw[hw] at e
  obtain rfl:=a6_ e
  rcases Int.lt_or_eq_of_le v1 with hlt | heq
  ·exfalso
   obtain⟨n,rfl⟩:∃ n:Nat,w=(n:Int):=⟨w.toNat,by omega⟩
   have:=(ih n (by omega) i).2 hw
   rw[h] at this
   have:=a6_ this
   omega
  ·rw[hw,heq]
   rfl
theorem LC_uniq {es:List (List ad_)} {fin:Nat→Bool} {a b:List Int} (ha:LC es fin a) (hb:LC es fin b) (hl:a.length=b.length):a=b:=by
 have key:∀ k i:Nat,a[i]?=some (k:Int)↔b[i]?=some (k:Int):=by
  intro k
  induction k using Nat.strongRecOn with
  | _ k ih =>
   intro i
   exact⟨cg0 ha hb hl k ih i,cg0 hb ha hl.symm k (λj hj i=>(ih j hj i).symm) i⟩
 refine f4_ λi => ?_
 rcases m8_ i a.length with hi | hi
 ·obtain⟨v,hv⟩:=bc_ hi
  obtain⟨w,hw⟩:=bc_ (l:=b) (i:=i) (by omega)
  have h1:=ha.lo i v hv
  have h2:=hb.lo i w hw
  rw[hv,hw]
  by_cases hv0:0≤v
  ·obtain⟨n,rfl⟩:∃ n:Nat,v=(n:Int):=⟨v.toNat,by omega⟩
   have:=(key n i).1 hv
   rw[hw] at this
   exact this.symm
  ·by_cases hw0:0≤w
   ·obtain⟨n,rfl⟩:∃ n:Nat,w=(n:Int):=⟨w.toNat,by omega⟩
    have:=(key n i).2 hw
    rw[hv] at this
    exact this
   ·rw[show v = -1 by omega,show w = -1 by omega]
 ·rw[c2_ hi,c2_ (by omega)]
def ab9 (g:ac_) (ps:List aa_) (i:Nat):Bool:=match ps[i]? with
 | some p=>ea_ p.1.1 g.1.2.2.2.2.2.2.2
 | none=>false
theorem ym_ {g:ac_} {ps:List aa_} {i:Nat} {p:aa_} (h:ps[i]?=some p):ab9 g ps i=ea_ p.1.1 g.1.2.2.2.2.2.2.2:=by
 unfold ab9
 rw[h]
def ay0 (g:ac_) (ps:List aa_):List Int:=ps.map λp=>cond (ea_ p.1.1 g.1.2.2.2.2.2.2.2) 0 (-1)
theorem ai8 {g:ac_} {ps:List aa_} {i:Nat} {v:Int} (h:(ay0 g ps)[i]?=some v):(v=0∧ab9 g ps i=true)∨(v = -1∧ab9 g ps i=false):=by
 unfold ay0 at h
 rw[e3_] at h
 obtain⟨p,hp,rfl⟩:=f6_.1 h
 rw[ym_ hp]
 cases ea_ p.1.1 g.1.2.2.2.2.2.2.2 with
 | true=>exact .inl ⟨rfl,rfl⟩
 | false=>exact .inr ⟨rfl,rfl⟩
def wg_ (a:List Int):Nat:=a.countP λv=>decide (v<0)
theorem negs_le (a:List Int):wg_ a≤a.length:=j2_
theorem bc7:∀ {a:List Int} {i:Nat} {v w:Int},a[i]?=some v→v<0→0≤w→wg_ (a.set i w)+1=wg_ a
 | x::a,0,v,w,h,hv,hw=>by
  obtain rfl:x=v:=a6_ h
  unfold wg_
  rw[List.set_cons_zero,j8_,j8_,b5_ hv,b6_ (by omega)]
  simp
 | x::a,i+1,v,w,h,hv,hw=>by
  have:=bc7 (a:=a) (i:=i) h hv hw
  unfold wg_ at this ⊢
  rw[List.set_cons_succ,j8_,j8_]
  omega
 | [],i,v,w,h,_,_=>by simp at h
end
section
set_option maxRecDepth 10000
def nv (es:List (List ad_)) (a:List Int) (r:Nat) (i:Nat) (v:Int):Int:=cond (decide (v<0)&&(es[i]?.getD []).any (λx=>gi a x.2==(r:Int) - 1)) (r:Int) v
theorem ak5 {σ ρ υ:Type} (n:Nat) (Inv:Nat→σ→Prop) {body:σ→Option (σ⊕ρ)} {z0:σ} {K:ρ→Option υ} {Q:υ→Prop} (h0:Inv 0 z0)
  (hs:∀ j z,j<n→Inv j z→∃ z',body z=some (.inl z')∧Inv (j+1) z') (he:∀ z,Inv n z→∃ r,body z=some (.inr r)∧∃ y,K r=some y∧Q y):∃ y,(af_ body z0).bind K=some y∧Q y:=by
 have gen:∀ (k i:Nat) (z:σ),i+k=n→Inv i z→∃ r,af_ body z=some r∧∃ y,K r=some y∧Q y:=by
  intro k
  induction k with
  | zero =>
   intro i z hi hz
   obtain rfl:i=n:=by omega
   obtain⟨r,e,hr⟩:=he z hz
   exact⟨r,ct_ e,hr⟩
  | succ k ih =>
   intro i z hi hz
   obtain⟨z',e,hz'⟩:=hs i z (by omega) hz
   obtain⟨r,er,hr⟩:=ih (i+1) z' (by omega) hz'
   exact⟨r,cq_ e er,hr⟩
 obtain⟨r,e,hr⟩:=gen n 0 z0 (by omega) h0
 rw[e,a0_]
 exact hr
end
section
set_option maxRecDepth 10000
def BkI (es:List (List ad_)) (n i:Nat) (bk:List (List Int)):Prop :=
 bk.length=n∧∀ (t:Nat) l,bk[t]?=some l→l.length≤i * 480∧∀ y:Int,y ∈ l↔∃ j:Nat,j<i∧y=(j:Int)∧∃ row,es[j]?=some row∧∃ x ∈ row,x.2=(t:Int)
theorem BkI_all {es:List (List ad_)} {n:Nat} {bk:List (List Int)} (h:BkI es n es.length bk) {t:Nat} {l:List Int} (hl:bk[t]?=some l) (y:Int):y ∈ l↔∃ j:Nat,y=(j:Int)∧∃ row,es[j]?=some row∧∃ x ∈ row,x.2=(t:Int):=by
 rw[(h.2 t l hl).2 y]
 exact⟨λ⟨j,_,h⟩=>⟨j,h⟩,λ⟨j,h1,row,h2,h3⟩=>⟨j,am_ h2,h1,row,h2,h3⟩⟩
structure BI (es:List (List ad_)) (fin:Nat→Bool) (n:Nat) (near far:List Int):Prop where
 len:far.length=n
 lo:∀ (i:Nat) (v:Int),far[i]?=some v→-1≤v
 z:∀ (i:Nat) (v:Int),far[i]?=some v→(v=0↔fin i=true)
 dn:∀ (i k:Nat),far[i]?=some ((k+1:Nat):Int)→∃ l x,es[i]?=some l∧x ∈ l∧at? far x.2=some (k:Int)
 nr:∀ x ∈ near,∃ v,at? far x=some v∧0≤v
 pw:near.Pairwise (λx y=>gi far x≤gi far y)
 top:∀ x ∈ near,∀ (i:Nat) (v:Int),far[i]?=some v→v≤gi far x+1
 up:∀ (i:Nat) (l:List ad_) (x:ad_) (k:Nat),es[i]?=some l→x ∈ l→at? far x.2=some (k:Int)→x.2 ∉ near→∃ v,far[i]?=some v∧0≤v∧v≤(k:Int)+1
 bd:∀ (i:Nat) (v:Int),far[i]?=some v→v+(wg_ far:Int)≤(n:Int)
 ms:near.length+wg_ far≤n
theorem BI_end {es:List (List ad_)} {fin:Nat→Bool} {n:Nat} {far:List Int} (h:BI es fin n [] far):LC es fin far :=
 ⟨h.lo,h.z,h.dn,λi l x k hl hx hat=>h.up i l x k hl hx hat (λh=>by cases h)⟩
structure AI (bs:List Int) (d:Int) (far:List Int) (b:Nat) (pu far':List Int):Prop where
 len:far'.length=far.length
 keep:∀ (i:Nat) (v:Int),far[i]?=some v→0≤v→far'[i]?=some v
 neg:∀ (i:Nat) (v:Int),far[i]?=some v→v<0→far'[i]?=some v∨(far'[i]?=some (d+1)∧(i:Int) ∈ pu∧(i:Int) ∈ bs)
 pI:∀ x ∈ pu,at? far' x=some (d+1)∧∃ w,at? far x=some w∧w<0
 done:∀ y ∈ bs.take b,∃ v,at? far' y=some v∧0≤v
 ms:wg_ far'+pu.length=wg_ far
theorem cr8 (bs:List Int) (d:Int) (far:List Int):AI bs d far 0 [] far :=
 ⟨rfl,λ_ _ h _=>h,λ_ _ h _=>.inl h,λ_ h=>(by cases h),λy h=>by rw[l0_] at h; (cases h),rfl⟩
theorem ak8 {α:Type} {a:List α} {x:Int} {v:α} (h:at? a x=some v):∃ i:Nat,x=(i:Int)∧a[i]?=some v:=by
 obtain⟨q1,q2,q3⟩:=eu_ h
 exact⟨x.toNat,by omega,q3⟩
theorem AI_skip {bs:List Int} {d:Int} {far:List Int} {b:Nat} {pu far':List Int} (h:AI bs d far b pu far') {y v:Int} (hy:bs[b]?=some y) (hv:at? far' y=some v) (hv0:0≤v):AI bs d far (b+1) pu far':=by
 refine⟨h.len,h.keep,h.neg,h.pI,λz hz => ?_,h.ms⟩
 rw[d9_,hy] at hz
 rcases b2_.1 hz with hz | hz
 ·exact h.done z hz
 ·have:z=y:=by simpa using hz
  rw[this]
  exact⟨v,hv,hv0⟩
theorem AI_add {bs:List Int} {d:Int} (hd:0≤d) {far:List Int} {b:Nat} {pu far':List Int} (h:AI bs d far b pu far') {y v:Int} (hy:bs[b]?=some y) (hv:at? far' y=some v) (hv0:v<0):AI bs d far (b+1) (pu++[y]) (far'.set y.toNat (d+1)):=by
 obtain⟨i,rfl,hi⟩:=ak8 hv
 rw[b9_]
 have hlt:=am_ hi
 have hself:(far'.set i (d+1))[i]?=some (d+1):=g3_ hlt
 have hfi:∃ w,far[i]?=some w∧w<0:=by
  obtain⟨w,hw⟩:=bc_ (l:=far) (i:=i) (by have:=h.len;omega)
  refine⟨w,hw,Classical.byContradiction λhc => ?_⟩
  have:=h.keep i w hw (by omega)
  rw[hi] at this
  have:=a6_ this
  omega
 have hat:∀ {x w:Int},at? far' x=some w→0≤w→at? (far'.set i (d+1)) x=some w:=λ{x w} hx hw=>by
  obtain⟨j,rfl,hj⟩:=ak8 hx
  refine ah_ ?_
  by_cases hij:i=j
  ·subst hij
   rw[hi] at hj
   have:=a6_ hj
   omega
  ·rw[c0_ hij]
   exact hj
 refine⟨by rw[g1_,h.len],λj w hw hw0 => ?_,λj w hw hw0 => ?_,λx hx => ?_,λz hz => ?_,?_⟩
 ·have:=h.keep j w hw hw0
  by_cases hij:i=j
  ·subst hij
   rw[hi] at this
   have:=a6_ this
   omega
  ·rw[c0_ hij]
   exact this
 ·by_cases hij:i=j
  ·subst hij
   exact .inr ⟨hself,n8_ _ (e7_.2 rfl),aw_ hy⟩
  ·rw[c0_ hij]
   rcases h.neg j w hw hw0 with h1 | ⟨h1,h2,h3⟩
   ·exact .inl h1
   ·exact .inr ⟨h1,o3_ _ h2,h3⟩
 ·rcases b2_.1 hx with hx | hx
  ·obtain⟨h1,h2⟩:=h.pI x hx
   exact⟨hat h1 (by omega),h2⟩
  ·rw[e7_] at hx
   rw[hx]
   obtain⟨w,hw,hw0⟩:=hfi
   exact⟨ah_ hself,w,ah_ hw,hw0⟩
 ·rw[d9_,hy] at hz
  rcases b2_.1 hz with hz | hz
  ·obtain⟨w,h1,h2⟩:=h.done z hz
   exact⟨w,hat h1 h2,h2⟩
  ·have:z=(i:Int):=by simpa using hz
   rw[this]
   exact⟨d+1,ah_ hself,by omega⟩
 ·have:=bc7 hi hv0 (show (0:Int)≤d+1 by omega)
  have:=h.ms
  rw[a8_,c8_]
  omega
theorem BI_step {es:List (List ad_)} {fin:Nat→Bool} {n:Nat} (hes:es.length=n) (hx:∀ l ∈ es,∀ x ∈ l,0≤x.2∧x.2<(n:Int)) {h:Int} {tl far:List Int} (I:BI es fin n (h::tl) far) {bs:List Int} {d:Int} (hd:at? far h=some d)
  (hbs:∀ y:Int,y ∈ bs↔∃ j:Nat,y=(j:Int)∧∃ row,es[j]?=some row∧∃ x ∈ row,x.2=h) {pu far':List Int} (A:AI bs d far bs.length pu far'):BI es fin n (tl++pu) far':=by
 have hd0:0≤d:=by
  obtain⟨v,h1,h2⟩:=I.nr h (d5_ ..)
  rw[hd] at h1
  have:=a6_ h1
  omega
 have hgd:gi far h=d:=nz_ hd
 have hms:=A.ms
 have cs:∀ (i:Nat) (v:Int),far'[i]?=some v→far[i]?=some v∨(v=d+1∧(i:Int) ∈ pu∧(i:Int) ∈ bs∧1≤pu.length∧∃ w,far[i]?=some w∧w<0):=λi v hv=>by
  obtain⟨w,hw⟩:=bc_ (l:=far) (i:=i) (by have:=am_ hv;have:=A.len;omega)
  by_cases hw0:0≤w
  ·have:=A.keep i w hw hw0
   rw[hv] at this
   rw[a6_ this]
   exact .inl hw
  ·rcases A.neg i w hw (by omega) with h1 | ⟨h1,h2,h3⟩
   ·rw[hv] at h1
    rw[a6_ h1]
    exact .inl hw
   ·rw[hv] at h1
    have hne:1≤pu.length:=by
     cases pu with
     | nil=>cases h2
     | cons _ _=>simp
    exact .inr ⟨a6_ h1,h2,h3,hne,w,hw,by omega⟩
 have keepA:∀ {x v:Int},at? far x=some v→0≤v→at? far' x=some v:=λ{x v} hx hv=>by
  obtain⟨i,rfl,hi⟩:=ak8 hx
  exact ah_ (A.keep i v hi hv)
 have gk:∀ x ∈ tl,gi far' x=gi far x:=λx hx=>by
  obtain⟨v,h1,h2⟩:=I.nr x (c9_ _ hx)
  rw[nz_ h1,nz_ (keepA h1 h2)]
 have gp:∀ x ∈ pu,gi far' x=d+1:=λx hx=>nz_ (A.pI x hx).1
 have htop:=I.top h (d5_ ..)
 rw[hgd] at htop
 obtain⟨pw1,pw2⟩:=List.pairwise_cons.1 I.pw
 have htl:∀ x ∈ tl,gi far x≤d+1:=λx hx=>by
  obtain⟨v,h1,h2⟩:=I.nr x (c9_ _ hx)
  obtain⟨i,_,hi⟩:=ak8 h1
  rw[nz_ h1]
  exact htop i v hi
 have hle:∀ (i:Nat) (v:Int),far'[i]?=some v→v≤d+1:=λi v hv=>by
  rcases cs i v hv with h1 | ⟨h1,_⟩
  ·exact htop i v h1
  ·omega
 refine⟨by rw[A.len,I.len],λi v hv => ?_,λi v hv => ?_,λi k hk => ?_,λx hx => ?_,?_,λx hx i v hv => ?_,λi l x k hl hxl hat hnn => ?_,λi v hv => ?_,?_⟩
 ·rcases cs i v hv with h1 | ⟨h1,_⟩
  ·exact I.lo i v h1
  ·omega
 ·rcases cs i v hv with h1 | ⟨h1,_,_,_,w,hw,hw0⟩
  ·exact I.z i v h1
  ·have:=I.z i w hw
   rw[← this]
   constructor
   ·intro e;omega
   ·intro e;omega
 ·rcases cs i _ hk with h1 | ⟨h1,h2,h3,_⟩
  ·obtain⟨l,x,a1,a2,a3⟩:=I.dn i k h1
   exact⟨l,x,a1,a2,keepA a3 (by omega)⟩
  ·obtain⟨j,hj,row,hrow,x,hxr,hxe⟩:=(hbs _).1 h3
   obtain rfl:i=j:=by omega
   refine⟨row,x,hrow,hxr,?_⟩
   rw[hxe,show (k:Int)=d by omega]
   exact keepA hd hd0
 ·rcases b2_.1 hx with hx | hx
  ·obtain⟨v,h1,h2⟩:=I.nr x (c9_ _ hx)
   exact⟨v,keepA h1 h2,h2⟩
  ·exact⟨d+1,(A.pI x hx).1,by omega⟩
 ·refine List.pairwise_append.2 ⟨?_,?_,λx hx y hy => ?_⟩
  ·refine List.Pairwise.imp_of_mem (λ{x y} hx hy hr => ?_) pw2
   rw[gk x hx,gk y hy]
   exact hr
  ·refine List.pairwise_of_forall_mem_list (λx hx y hy => ?_)
   rw[gp x hx,gp y hy]
   exact j9_ _
  ·rw[gk x hx,gp y hy]
   exact htl x hx
 ·have h2:=hle i v hv
  rcases b2_.1 hx with hx | hx
  ·rw[gk x hx]
   have:=pw1 x hx
   rw[hgd] at this
   omega
  ·rw[gp x hx]
   omega
 ·have hb:=hx l (aw_ hl) x hxl
  obtain⟨xi,hxi,hxk⟩:=ak8 hat
  obtain⟨w,hw⟩:=bc_ (l:=far') (i:=i) (by have:=am_ hl;have:=A.len;have:=I.len;omega)
  rcases cs xi _ hxk with h1 | ⟨_,h2,_⟩
  ·by_cases hxh:x.2=h
   ·have hm:(i:Int) ∈ bs:=(hbs _).2 ⟨i,rfl,l,hl,x,hxl,hxh⟩
    obtain⟨v,h3,h4⟩:=A.done (i:Int) (by rw[d2_];exact hm)
    have h3:far'[i]?=some v:=by rw[← ce6];exact h3
    refine⟨v,h3,h4,?_⟩
    have:(k:Int)=d:=by
     have:at? far h=some (k:Int):=by rw[← hxh,hxi];exact ah_ h1
     rw[hd] at this
     exact (a6_ this).symm
    have:=hle i v h3
    omega
   ·obtain⟨v,h3,h4,h5⟩:=I.up i l x k hl hxl (by rw[hxi];exact ah_ h1) (λhm=>by
     rcases d8_.1 hm with hm | hm
     ·exact hxh hm
     ·exact hnn (o3_ _ hm))
    exact⟨v,A.keep i v h3 h4,h4,h5⟩
  ·exact absurd (n8_ _ (by rw[hxi];exact h2)) hnn
 ·rcases cs i v hv with h1 | ⟨h1,_,_,h4,_⟩
  ·have:=I.bd i v h1
   omega
  ·obtain⟨hi,_,hh⟩:=ak8 hd
   have:=I.bd hi d hh
   omega
 ·have:=I.ms
  rw[a8_]
  rw[c1_] at this
  omega
theorem bm6 {υ:Type} {body:(List Int×(List Int×Unit))→Option ((List Int×(List Int×Unit))⊕(List Int×Unit))} {K:(List Int×Unit)→Option υ} {Q:υ→Prop} (Inv:List Int→List Int→Prop) (μ:List Int→List Int→Nat)
  (hs:∀ h tl far,Inv (h::tl) far→∃ y,body (h::tl,(far,()))=some y∧∃ near' far',y = .inl (near',(far',()))∧Inv near' far'∧μ near' far'<μ (h::tl) far)
  (he:∀ far,Inv [] far→∃ r,body ([],(far,()))=some (.inr r)∧∃ y,K r=some y∧Q y) {near far:List Int} (hI:Inv near far):∃ y,(af_ body (near,(far,()))).bind K=some y∧Q y:=by
 have gen:∀ (m:Nat) (near far:List Int),μ near far=m→Inv near far→∃ r,af_ body (near,(far,()))=some r∧∃ y,K r=some y∧Q y:=by
  intro m
  induction m using Nat.strongRecOn with
  | _ m ih =>
   intro near far hm hI
   cases near with
   | nil =>
    obtain⟨r,e,h⟩:=he far hI
    exact⟨r,ct_ e,h⟩
   | cons h tl =>
    obtain⟨y,ey,near',far',rfl,h1,h2⟩:=hs h tl far hI
    obtain⟨r,er,hr⟩:=ih _ (by omega) near' far' rfl h1
    exact⟨r,cq_ ey er,hr⟩
 obtain⟨r,e,hr⟩:=gen _ near far rfl hI
 rw[e,a0_]
 exact hr
theorem cf8 {n:Nat} (h:n≤1000000):fv_ [-1] (n:Int)=some (List.replicate n (-1)):=by
 show mk? (n:Int) (-1)=_
 rw[xz_ (by omega) (by omega),b9_]
theorem bv4 (x:Int) (a:List Int):wg_ (x::a)=wg_ a+(if x<0 then 1 else 0):=by unfold wg_;rw[j8_];simp
end
section
set_option maxRecDepth 10000
theorem cm9 (a b:List Int):wg_ (a++b)=wg_ a+wg_ b:=by unfold wg_;rw[List.countP_append]
theorem bv3 {a:List Int} {i:Nat} {v:Int} (h:a[i]?=some v):wg_ (a.take (i+1))=wg_ (a.take i)+(if v<0 then 1 else 0):=by
 rw[d9_,h,cm9,show (some v).toList=[v] from rfl,bv4,show wg_ []=0 from rfl,b0_]
theorem cr7 {g:ac_} {ps:List aa_} {es:List (List ad_)} {near:List Int} (h1:∀ x ∈ near,∃ j:Nat,x=(j:Int)∧j<ps.length∧ab9 g ps j=true) (h2:∀ j:Nat,j<ps.length→ab9 g ps j=true→(j:Int) ∈ near) (h3:near.length+wg_ (ay0 g ps)=ps.length) :
  BI es (ab9 g ps) ps.length near (ay0 g ps):=by
 have hl:(ay0 g ps).length=ps.length:=e0_ _
 have hg:∀ x ∈ near,at? (ay0 g ps) x=some 0:=λx hx=>by
  obtain⟨j,rfl,hj,hf⟩:=h1 x hx
  obtain⟨v,hv⟩:=bc_ (l:=ay0 g ps) (i:=j) (by omega)
  rcases ai8 hv with ⟨rfl,_⟩ | ⟨rfl,hf2⟩
  ·exact ah_ hv
  ·rw[hf] at hf2;cases hf2
 have hle:∀ (i:Nat) (v:Int),(ay0 g ps)[i]?=some v→-1≤v∧v≤0:=λi v hv=>by
  rcases ai8 hv with ⟨rfl,_⟩ | ⟨rfl,_⟩<;>omega
 refine⟨hl,λi v hv=>(hle i v hv).1,λi v hv => ?_,λi k hk => ?_,λx hx=>⟨0,hg x hx,j9_ _⟩,?_,λx hx i v hv => ?_,λi l x k hl hxl hat hnn => ?_,λi v hv => ?_,by omega⟩
 ·rcases ai8 hv with ⟨rfl,h⟩ | ⟨rfl,h⟩
  ·exact⟨λ_=>h,λ_=>rfl⟩
  ·rw[h]
   exact⟨λe=>by omega,λe=>by cases e⟩
 ·have:=hle i _ hk
  omega
 ·refine List.pairwise_of_forall_mem_list (λx hx y hy => ?_)
  rw[nz_ (hg x hx),nz_ (hg y hy)]
  exact j9_ _
 ·rw[nz_ (hg x hx)]
  have:=hle i v hv
  omega
 ·obtain⟨xi,hxi,hxk⟩:=ak8 hat
  have hlt:=am_ hxk
  rcases ai8 hxk with ⟨_,hf⟩ | ⟨e,_⟩
  ·exact absurd (by rw[hxi];exact h2 xi (by omega) hf) hnn
  ·omega
 ·have:=hle i v hv
  have:=negs_le (ay0 g ps)
  omega
noncomputable def meaG (rowB:Int→List ad_→(Int×(List (List Int)×Unit))→Option ((Int×(List (List Int)×Unit))⊕(List (List Int)×Unit))) {τ:Type} (a0:ac_) (G:br_) (K:List Int×Unit→Option τ):Option τ :=
 ((fv_ [(-1)] (G.1.length:Int)).bind λv1 =>
 ((af_ (ρ:=((List Int)×((List Int)×Unit))) (λ(v2:((List Int)×(Int×((List Int)×Unit)))) =>
 (cond (decide (v2.2.1<(G.1.length:Int)))
 ((((at? G.1 v2.2.1).bind λv3 =>
 ((lm_ a0.1 v3.1).bind λv4 =>
 (((cond (v4.2.1==0)
 (some (v4.1,()))
 (some (false,())))).bind λv5 =>
 (cond v5.1
 ((at? v2.2.2.1 v2.2.1).bind λv6 =>
 ((at? v2.2.2.1 v2.2.1).bind λv7 =>
 ((push? (α:=Int) v2.1 [v2.2.1]).bind λv8 =>
 (some (v8,((v2.2.2.1.set v2.2.1.toNat 0),()))))))
 (some (v2.1,(v2.2.2.1,())))))))).bind λv9 =>
 (some (inl (v9.1,((w64 (v2.2.1+1)),(v9.2.1,()))))))
 (some (inr (v2.1,(v2.2.2.1,())))))) ([],(0,(v1,())))).bind λv10 =>
 ((mk? (α:=(List Int)) (G.1.length:Int) []).bind λv11 =>
 ((af_ (ρ:=((List (List Int))×Unit)) (λ(v12:(Int×((List (List Int))×Unit))) =>
 (cond (decide (v12.1<(G.2.length:Int)))
 ((at? G.2 v12.1).bind λv13 =>
 ((af_ (ρ:=((List (List Int))×Unit)) (rowB v12.1 v13) (0,(v12.2.1,()))).bind λv22 =>
 (some (inl ((w64 (v12.1+1)),(v22.1,()))))))
 (some (inr (v12.2.1,()))))) (0,(v11,()))).bind λv23 =>
 ((af_ (ρ:=((List Int)×Unit)) (λ(v24:((List Int)×((List Int)×Unit))) =>
 (cond (decide (0<(v24.1.length:Int)))
 ((at? v24.1 0).bind λv25 =>
 ((at? v24.1 0).bind λv26 =>
 ((sub? v24.1 1 (v24.1.length:Int)).bind λv27 =>
 ((at? v23.1 v26).bind λv28 =>
 ((af_ (ρ:=((List Int)×((List Int)×Unit))) (λ(v29:((List Int)×(Int×((List Int)×Unit)))) =>
 (cond (decide (v29.2.1<(v28.length:Int)))
 ((((at? v28 v29.2.1).bind λv30 =>
 ((at? v29.2.2.1 v30).bind λv31 =>
 ((at? v29.2.2.1 v30).bind λv32 =>
 (cond (decide (v32<0))
 ((at? v29.2.2.1 v26).bind λv33 =>
 ((at? v29.2.2.1 v26).bind λv34 =>
 ((at? v29.2.2.1 v30).bind λv35 =>
 ((at? v29.2.2.1 v30).bind λv36 =>
 ((push? (α:=Int) v29.1 [v30]).bind λv37 =>
 (some (v37,((v29.2.2.1.set v30.toNat (w64 (v34+1))),()))))))))
 (some (v29.1,(v29.2.2.1,())))))))).bind λv38 =>
 (some (inl (v38.1,((w64 (v29.2.1+1)),(v38.2.1,()))))))
 (some (inr (v29.1,(v29.2.2.1,())))))) (v27,(0,(v24.2.1,())))).bind λv39 =>
 (some (inl (v39.1,(v39.2.1,())))))))))
 (some (inr (v24.2.1,()))))) (v10.1,(v10.2.1,()))).bind λv40 =>
 (K v40))))))
def rowE (i:Int) (row:List ad_):(Int×(List (List Int)×Unit))→Option ((Int×(List (List Int)×Unit))⊕(List (List Int)×Unit)) :=
 (λ(v14:(Int×((List (List Int))×Unit))) =>
 (cond (decide (v14.1<(row.length:Int)))
 ((((at? row v14.1).bind λv15 =>
 ((at? v14.2.1 v15.2).bind λv16 =>
 ((at? v14.2.1 v15.2).bind λv17 =>
 ((push? (α:=Int) v17 [i]).bind λv18 =>
 ((at? v14.2.1 v15.2).bind λv19 =>
 (cond ((v15.2==v15.2)&&true)
 ((at? v14.2.1 v15.2).bind λv20 =>
 (some ((v14.2.1.set v15.2.toNat v18),())))
 none))))))).bind λv21 =>
 (some (inl ((w64 (v14.1+1)),(v21.1,())))))
 (some (inr (v14.2.1,())))))
noncomputable abbrev meaK {τ:Type} (a0:ac_) (G:br_) (K:List Int×Unit→Option τ):Option τ:=meaG rowE a0 G K
theorem bw5 (rowB:Int→List ad_→(Int×(List (List Int)×Unit))→Option ((Int×(List (List Int)×Unit))⊕(List (List Int)×Unit))) {τ:Type} (a0:ac_) (G:br_) (K:List Int×Unit→Option τ):meaG rowB a0 G K=(meaG rowB a0 G some).bind K:=by
 unfold meaG
 simp only[Option.bind_assoc,a0_]
def esQ (Q:ad_→Bool) (es:List (List ad_)):List (List ad_):=es.map λl=>l.filter Q
theorem cv9 {Q:ad_→Bool} {es:List (List ad_)} {i:Nat} {l:List ad_} (h:es[i]?=some l):(esQ Q es)[i]?=some (l.filter Q):=by
 unfold esQ
 rw[e3_,h]
 rfl
structure RowOk (rowB:Int→List ad_→(Int×(List (List Int)×Unit))→Option ((Int×(List (List Int)×Unit))⊕(List (List Int)×Unit))) (Q:ad_→Bool):Prop where
 st:∀ (i:Int) row (k:Nat) x bk l,row[k]?=some x→at? bk x.2=some l→l.length≤2000000→k≤1000→rowB i row ((k:Int),(bk,()))=some (.inl (((k+1:Nat):Int),(cond (Q x) (bk.set x.2.toNat (l++[i])) bk,())))
 en:∀ (i:Int) row bk,rowB i row ((row.length:Int),(bk,()))=some (.inr (bk,()))
theorem cn5 {rowB} {Q:ad_→Bool} (hR:RowOk rowB Q) {g:ac_} (hg:SmG g) (h0:cw_ g=0) {ps:List aa_} {es:List (List ad_)} (hG:GI g ps es) (hes:es.length=ps.length):∃ y,meaG rowB g (ps,es) some=some y∧∃ D,y=(D,())∧(D.length=ps.length∧LC (esQ Q es) (ab9 g ps) D)∧∀ (i:Nat) (v:Int),D[i]?=some v→v≤(ps.length:Int):=by
 have ok:=df_ h0
 have okr:=bt_ ok.room
 have hn:=hG.pI.n
 have hx:∀ l ∈ es,∀ x ∈ l,0≤x.2∧x.2<(ps.length:Int):=λl hl x hx=>(hG.eI l hl x hx).1
 have hesQ:(esQ Q es).length=es.length:=e0_ _
 have hxQ:∀ l ∈ esQ Q es,∀ x ∈ l,0≤x.2∧x.2<(ps.length:Int):=λl hl x hxl=>by
  obtain⟨l',h1,rfl⟩:=d3_.1 hl
  exact hx l' h1 x (d7_.1 hxl).1
 unfold meaG
 simp only
 rw[cf8 (by omega),a0_]
 have hfl:(ay0 g ps).length=ps.length:=e0_ _
 refine ak5 ps.length (λ(i:Nat) (z:List Int×(Int×(List Int×Unit)))=>∃ near far:List Int,z=(near,((i:Int),(far,())))∧far.length=ps.length∧(∀ j:Nat,far[j]?=if j<i then (ay0 g ps)[j]? else (List.replicate ps.length (-1:Int))[j]?)∧(∀ x ∈ near,∃ j:Nat,x=(j:Int)∧j<i∧ab9 g ps j=true)∧(∀ j:Nat,j<i→ab9 g ps j=true→(j:Int) ∈ near)∧near.length+wg_ ((ay0 g ps).take i)=i)
  ⟨[],_,rfl,f1_,(λj=>by simp),(λx hx=>by cases hx),(λj hj=>by omega),rfl⟩ (λi z hi hz => ?_) (λz hz => ?_)
 ·obtain⟨near,far,rfl,hl,hj,h1,h2,h3⟩:=hz
  obtain⟨p,hp⟩:=bc_ hi
  obtain⟨v,hv⟩:=bc_ (l:=far) (i:=i) (by omega)
  have hv1:v = -1:=by
   rw[hj,if_neg (by omega),k1_,if_pos hi] at hv
   exact (a6_ hv).symm
  have hf0:(ay0 g ps)[i]?=some (cond (ea_ p.1.1 g.1.2.2.2.2.2.2.2) 0 (-1)):=by
   unfold ay0
   rw[e3_,hp]
   rfl
  have hfp:=ym_ (g:=g) hp
  have hnt:=bv3 hf0
  simp only[dlt hi,a5_,ah_ hp,ah_ hv,a0_,br6 hg.room ok.room (hG.pI.v p (aw_ hp)).st,show ((0:Int)==0)=true from rfl,b9_,ba_ (show Sm i by show _≤1000000000;omega),ci_ (show Sm near.length by show _≤1000000000;omega)]
  cases hc:ea_ p.1.1 g.1.2.2.2.2.2.2.2 with
  | true =>
   rw[hc] at hf0 hfp hnt
   refine⟨_,rfl,near++[(i:Int)],far.set i 0,rfl,by rw[g1_,hl],λj => ?_,λx hx => ?_,λj hj hf => ?_,?_⟩
   ·rcases p1_ j i with hji | hji | hji
    ·rw[c0_ (by omega),hj,if_pos hji,if_pos (by omega)]
    ·subst hji
     rw[g3_ (by omega),if_pos (by omega),hf0]
     rfl
    ·rw[c0_ (by omega),hj,if_neg (by omega),if_neg (by omega)]
   ·rcases b2_.1 hx with hx | hx
    ·obtain⟨j,a,b,c⟩:=h1 x hx
     exact⟨j,a,by omega,c⟩
    ·rw[e7_] at hx
     exact⟨i,hx,by omega,hfp⟩
   ·rcases m8_ j i with hji | hji
    ·exact o3_ _ (h2 j hji hf)
    ·obtain rfl:j=i:=by omega
     exact n8_ _ (e7_.2 rfl)
   ·rw[a8_,c8_,hnt]
    show _+1+(_+if (0:Int)<0 then 1 else 0)=i+1
    rw[if_neg (by omega)]
    omega
  | false =>
   rw[hc] at hf0 hfp hnt
   refine⟨_,rfl,near,far,rfl,hl,λj => ?_,λx hx => ?_,λj hj hf => ?_,?_⟩
   ·rcases p1_ j i with hji | hji | hji
    ·rw[hj,if_pos hji,if_pos (by omega)]
    ·subst hji
     rw[hv,if_pos (by omega),hf0,hv1]
     rfl
    ·rw[hj,if_neg (by omega),if_neg (by omega)]
   ·obtain⟨j,a,b,c⟩:=h1 x hx
    exact⟨j,a,by omega,c⟩
   ·rcases m8_ j i with hji | hji
    ·exact h2 j hji hf
    ·obtain rfl:j=i:=by omega
     rw[hfp] at hf
     cases hf
   ·rw[hnt]
    show _+(_+if (-1:Int)<0 then 1 else 0)=i+1
    rw[if_pos (by omega)]
    omega
 ·obtain⟨near,far,rfl,hl,hj,h1,h2,h3⟩:=hz
  have hff:far=ay0 g ps:=f4_ λj=>by
   rw[hj]
   split
   ·rfl
   ·rw[c2_ (by rw[f1_];omega),c2_ (by omega)]
  subst hff
  rw[g8_ (by omega)] at h3
  refine⟨_,by simp only[dnl,a2_];rfl,?_⟩
  simp only
  rw[xz_ (by omega) (by omega),a0_,b9_]
  refine ak5 es.length (λ(i:Nat) (z:Int×(List (List Int)×Unit))=>∃ bk,z=((i:Int),(bk,()))∧BkI (esQ Q es) ps.length i bk) ⟨_,rfl,f1_,λt l hl => ?_⟩ (λi z hi hz => ?_) (λz hz => ?_)
  ·rw[k1_] at hl
   split at hl
   ·obtain rfl:=a6_ hl
    exact⟨h4_ _,λy=>⟨(λh=>by cases h),λ⟨j,h,_⟩=>by omega⟩⟩
   ·cases hl
  ·obtain⟨bk,rfl,hb1,hb2⟩:=hz
   obtain⟨row,hrow⟩:=bc_ hi
   have hrl:=hG.eL row (aw_ hrow)
   simp only[dlt hi,a5_,ah_ hrow,a0_]
   have:=ak5 (υ:=(Int×(List (List Int)×Unit))⊕(List (List Int)×Unit)) row.length (λ(k:Nat) (z:Int×(List (List Int)×Unit))=>∃ bk',z=((k:Int),(bk',()))∧bk'.length=ps.length∧∀ (t:Nat) l,bk'[t]?=some l→l.length≤i * 480+k∧∀ y:Int,y ∈ l↔((∃ j:Nat,j<i∧y=(j:Int)∧∃ row,(esQ Q es)[j]?=some row∧∃ x ∈ row,x.2=(t:Int))∨(y=(i:Int)∧∃ x ∈ (row.take k).filter Q,x.2=(t:Int))))
    (body:=rowB (i:Int) row) (z0:=(0,(bk,()))) (K:=λv22=>some (inl ((w64 ((i:Int)+1)),(v22.1,())))) (Q:=λy=>∃ z',y=inl z'∧∃ bk,z'=(((i+1:Nat):Int),(bk,()))∧BkI (esQ Q es) ps.length (i+1) bk)
    ⟨bk,rfl,hb1,λt l hl=>⟨(hb2 t l hl).1,λy=>by
     rw[(hb2 t l hl).2 y,l0_,List.filter_nil]
     exact⟨.inl,λh=>h.elim id λ⟨_,x,h,_⟩=>(by cases h)⟩⟩⟩ (λk z hk hz => ?_) (λz hz => ?_)
   ·obtain⟨y,ey,z',rfl,bk2,rfl,hB⟩:=this
    exact⟨_,ey,bk2,rfl,hB⟩
   ·obtain⟨bk',rfl,hb3,hb4⟩:=hz
    obtain⟨x,hxk⟩:=bc_ hk
    obtain⟨x0,x1⟩:=hx row (aw_ hrow) x (aw_ hxk)
    obtain⟨l,hl⟩:=bc_ (l:=bk') (i:=x.2.toNat) (by omega)
    have hat:at? bk' x.2=some l:=by rw[show x.2=((x.2.toNat:Nat):Int) by omega];exact ah_ hl
    obtain⟨q1,q2⟩:=hb4 _ l hl
    refine⟨_,hR.st (i:Int) row k x bk' l hxk hat (by omega) (by omega),_,rfl,by cases Q x<;>simp[hb3],λt l' hl' => ?_⟩
    have htk:∀ y:Int,(∃ e ∈ (row.take (k+1)).filter Q,e.2=y)↔((∃ e ∈ (row.take k).filter Q,e.2=y)∨(Q x=true∧x.2=y)):=λy=>by
     rw[d9_,hxk,n3_]
     constructor
     ·rintro⟨e,he,h⟩
      rcases b2_.1 he with he | he
      ·exact .inl ⟨e,he,h⟩
      ·have h2:=d7_.1 he
       have:e=x:=by simpa using h2.1
       rw[this] at h h2
       exact .inr ⟨h2.2,h⟩
     ·rintro (⟨e,he,h⟩ | ⟨hq,h⟩)
      ·exact⟨e,o3_ _ he,h⟩
      ·exact⟨x,n8_ _ (d7_.2 ⟨by simp,hq⟩),h⟩
    have skip:∀ l',bk'[t]?=some l'→(Q x=true→x.2≠(t:Int))→l'.length≤i * 480+(k+1)∧∀ y:Int,y ∈ l'↔((∃ j:Nat,j<i∧y=(j:Int)∧∃ row,(esQ Q es)[j]?=some row∧∃ x ∈ row,x.2=(t:Int))∨(y=(i:Int)∧∃ x ∈ (row.take (k+1)).filter Q,x.2=(t:Int))):=λl' hl' hne=>by
     obtain⟨r1,r2⟩:=hb4 t l' hl'
     refine⟨by omega,λy => ?_⟩
     rw[r2 y,htk]
     constructor
     ·rintro (h | ⟨h,h'⟩)
      ·exact .inl h
      ·exact .inr ⟨h,.inl h'⟩
     ·rintro (h | ⟨h,h' | ⟨h1,h2⟩⟩)
      ·exact .inl h
      ·exact .inr ⟨h,h'⟩
      ·exact absurd h2 (hne h1)
    cases hQ:Q x with
    | false =>
     rw[hQ] at hl'
     exact skip l' hl' (λe=>by rw[hQ] at e;cases e)
    | true =>
     rw[hQ,a5_] at hl'
     by_cases ht:x.2.toNat=t
     ·rw[ht,g3_ (by omega)] at hl'
      obtain rfl:=a6_ hl'
      rw[ht] at q2
      have hxt:x.2=(t:Int):=by omega
      refine⟨by rw[a8_,c8_];omega,λy => ?_⟩
      rw[b2_,e7_,q2 y,htk]
      constructor
      ·rintro ((h | ⟨h,h'⟩) | h)
       ·exact .inl h
       ·exact .inr ⟨h,.inl h'⟩
       ·exact .inr ⟨h,.inr ⟨hQ,hxt⟩⟩
      ·rintro (h | ⟨h,h' | h'⟩)
       ·exact .inl (.inl h)
       ·exact .inl (.inr ⟨h,h'⟩)
       ·exact .inr h
     ·rw[c0_ ht] at hl'
      exact skip l' hl' (λ_=>by omega)
   ·obtain⟨bk',rfl,hb3,hb4⟩:=hz
    refine⟨_,hR.en (i:Int) row bk',_,rfl,_,rfl,bk',by simp only[ba_ (show Sm i by show _≤1000000000;omega)],hb3,λt l hl => ?_⟩
    obtain⟨r1,r2⟩:=hb4 t l hl
    refine⟨by omega,λy => ?_⟩
    rw[r2 y,d2_]
    constructor
    ·rintro (⟨j,a,b⟩ | ⟨h,h'⟩)
     ·exact⟨j,by omega,b⟩
     ·exact⟨i,by omega,h,_,cv9 hrow,h'⟩
    ·rintro⟨j,a,b,row',c,d⟩
     rcases m8_ j i with hji | hji
     ·exact .inl ⟨j,hji,b,row',c,d⟩
     ·obtain rfl:j=i:=by omega
      rw[cv9 hrow] at c
      obtain rfl:=a6_ c
      exact .inr ⟨b,d⟩
  ·obtain⟨bk,rfl,hB⟩:=hz
   rw[← hesQ] at hB
   refine⟨_,by simp only[dnl,a2_];rfl,?_⟩
   simp only
   refine bm6 (λnear far=>BI (esQ Q es) (ab9 g ps) ps.length near far) (λnear far=>near.length+wg_ far) (λh tl far I => ?_) (λfar I => ?_) (cr7 h1 h2 h3)
   rotate_left
   ·exact⟨_,rfl,_,rfl,far,rfl,⟨I.len,BI_end I⟩,λi v h=>by have:=I.bd i v h;omega⟩
   obtain⟨d,hd,hd0⟩:=I.nr h (d5_ ..)
   obtain⟨hi,hhi,hdi⟩:=ak8 hd
   have hlt:=am_ hdi
   have hIl:=I.len
   have hIm:=I.ms
   have hIb:=I.bd hi d hdi
   obtain⟨bs,hbs⟩:=bc_ (l:=bk) (i:=hi) (by have:=hB.1;omega)
   have hbsl:=(hB.2 hi bs hbs).1
   rw[hesQ] at hbsl
   have hbe:=BkI_all hB hbs
   have hatb:at? bk h=some bs:=by rw[hhi];exact ah_ hbs
   have hat0:at? (h::tl) 0=some h:=rfl
   have hsub:sub? (h::tl) 1 ((h::tl).length:Int)=some tl:=by
    unfold sub?
    rw[if_pos ⟨by omega,by rw[c1_];omega,j9_ _⟩,b9_,d2_]
    rfl
   simp only[show decide ((0:Int)<((h::tl).length:Int))=true from b5_ (by rw[c1_];omega),a5_,hat0,hsub,hatb,a0_]
   refine ak5 bs.length (λ(k:Nat) (z:List Int×(Int×(List Int×Unit)))=>∃ pu far',z=(tl++pu,((k:Int),(far',())))∧AI bs d far k pu far') ⟨[],far,by rw[e9_];rfl,cr8 bs d far⟩ (λk z hk hz => ?_) (λz hz => ?_)
   ·obtain⟨pu,far',rfl,A⟩:=hz
    obtain⟨y,hy⟩:=bc_ hk
    obtain⟨j,hj2,row,hrow,x,hxr,hxe⟩:=(hbe y).1 (aw_ hy)
    have hrow':=am_ hrow
    rw[hesQ] at hrow'
    have hAl:=A.len
    have hAm:=A.ms
    obtain⟨v,hv⟩:=bc_ (l:=far') (i:=j) (by omega)
    have hvy:at? far' y=some v:=by rw[hj2];exact ah_ hv
    have hdh:at? far' h=some d:=by rw[hhi];exact ah_ (A.keep hi d hdi hd0)
    rw[c1_] at hIm
    by_cases hv0:v<0
    ·refine⟨_,?_,pu++[y],_,rfl,AI_add hd0 A hy hvy hv0⟩
     simp only[dlt hk,a5_,ah_ hy,hvy,hdh,a0_,b5_ hv0,ci_ (show Sm (tl++pu).length by rw[a8_];show _≤1000000000;omega),ba_ (show Sm k by show _≤1000000000;omega),b3_,gv_ (n:=d+1) (by omega) (by omega)]
    ·refine⟨_,?_,pu,far',rfl,AI_skip A hy hvy (by omega)⟩
     simp only[dlt hk,a5_,ah_ hy,hvy,a0_,b6_ hv0,a2_,ba_ (show Sm k by show _≤1000000000;omega)]
   ·obtain⟨pu,far',rfl,A⟩:=hz
    refine⟨_,by simp only[dnl,a2_];rfl,_,rfl,_,_,rfl,BI_step (by rw[hesQ,hes]) hxQ I hd (λy=>by rw[hhi];exact hbe y) A,?_⟩
    have:=A.ms
    show (tl++pu).length+wg_ far'<(h::tl).length+wg_ far
    rw[a8_,c1_]
    omega
theorem meaG_eq {rowB} {Q:ad_→Bool} (hR:RowOk rowB Q) {g:ac_} (hg:SmG g) (h0:cw_ g=0) {ps:List aa_} {es:List (List ad_)} (hG:GI g ps es) (hes:es.length=ps.length):∃ D,(D.length=ps.length∧LC (esQ Q es) (ab9 g ps) D)∧(∀ (i:Nat) (v:Int),D[i]?=some v→v≤(ps.length:Int))∧∀ {τ:Type} (K:List Int×Unit→Option τ),meaG rowB g (ps,es) K=K (D,()):=by
 obtain⟨y,e,D,rfl,h,hb⟩:=cn5 hR hg h0 hG hes
 refine⟨D,h,hb,λK => ?_⟩
 rw[bw5,e,a0_]
theorem rowE_ok:RowOk rowE (λ_=>true):=by
 refine⟨λi row k x bk l hx hl h1 h2 => ?_,λi row bk => ?_⟩
 ·unfold rowE
  simp only[dlt (am_ hx),a5_,ah_ hx,a0_,hl,ci_ (show Sm l.length by show _≤1000000000;omega),e2_,h7_,ba_ (show Sm k by show _≤1000000000;omega)]
 ·unfold rowE
  simp only[dnl,a2_]
theorem cp8 (es:List (List ad_)):esQ (λ_=>true) es=es:=by
 unfold esQ
 refine e6_ (o5_ λl hl => ?_) (List.map_id _)
 exact o7_.2 λx hx=>rfl
theorem cu5 {g:ac_} (hg:SmG g) (h0:cw_ g=0) {ps:List aa_} {es:List (List ad_)} (hG:GI g ps es) (hes:es.length=ps.length):∃ D,(D.length=ps.length∧LC es (ab9 g ps) D)∧(∀ (i:Nat) (v:Int),D[i]?=some v→v≤(ps.length:Int))∧∀ {τ:Type} (K:List Int×Unit→Option τ),meaK g (ps,es) K=K (D,()):=by
 have:=meaG_eq rowE_ok hg h0 hG hes
 rw[cp8] at this
 exact this
end
section
set_option maxRecDepth 10000
theorem ax0 (g:ac_):∃ b,kt_ g=some (b,())∧(b=false→SmG g):=by
  obtain⟨b,e,hb⟩:=by0 g
  unfold kt_
  rw[e,a0_]
  cases b with
  | true=>exact⟨true,by simp only[a5_,a0_,e],λh=>by cases h⟩
  | false =>
  have hg:=hb rfl
  simp only[a2_]
  rw[rr_ hg,a0_,a0_]
  cases hc:cw_ g != 0 with
  | true=>exact⟨false,by simp only[a5_,e,a0_],λ_=>hg⟩
  | false =>
  simp only[a2_]
  have key:∀ c:Bool,∃ b,(((some (c,()):Option (Bool×Unit))).bind λv4 =>
 (cond v4.1
 (some (true,()))
 ((gd_ g).bind λv5 =>
 (cond (v5.2.1==2)
 (some (true,()))
 (some ((decide (200<(v5.1.1.length:Int))),()))))))=some (b,())∧(b=false→SmG g):=λc=>by
    rw[a0_,ae6 hg,a0_]
    cases c with
    | true=>exact⟨true,rfl,λ_=>hg⟩
    | false =>
      cases hE:(exG g).2.1==2 with
      | true=>exact⟨true,by simp only[a2_,hE,a5_],λ_=>hg⟩
      | false=>exact⟨_,by simp only[a2_,hE];rfl,λ_=>hg⟩
  have one:∀ (c:Bool) (o:Option (Bool×Unit)),(∃ d,o=some (d,()))→∃ d,cond c (some (true,())) o=some (d,()):=λc o h=>by
    cases c with
    | true=>exact⟨true,rfl⟩
    | false=>exact h
  obtain⟨d,hd⟩:=one (decide (4<(g.1.1.length:Int))) _ (one (decide (4<(g.1.2.1.length:Int))) _ (one (decide (3<(g.1.2.2.1.length:Int))) _ (one (decide (2<g.1.2.2.2.2.2.2.1)) _ (one (decide (6<(g.1.2.2.2.2.1.length:Int))) _ (one (decide (4<(g.1.2.2.2.2.2.1.length:Int))) _ (one (decide (5<(g.2.2.2.1.length:Int))) _ ⟨decide (3<(g.2.1.length:Int)),rfl⟩))))))
  rw[hd]
  exact key d
end
section
set_option maxRecDepth 10000
structure MS (m:List (Int×Int)) (s:Nat→Prop):Prop where
 v:∀ e ∈ m,e.2=1∧∃ i:Nat,e.1=(i:Int)∧s i
 i:∀ i,s i→((i:Int),(1:Int)) ∈ m
 nd:(m.map (·.1)).Nodup
theorem ag7 {K V:Type} [DecidableEq K] {k:K} {v:V} {e:K×V}:∀ {m:List (K×V)},e ∈ fh_ m k v→e=(k,v)∨e ∈ m
 | [],h=>by
  have h:e ∈ [(k,v)]:=h
  exact .inl (by simpa using h)
 | (a,u)::m,h=>by
  unfold fh_ at h
  by_cases hk:k=a
  ·rw[if_pos hk] at h
   rcases d8_.1 h with h | h
   ·exact .inl (by rw[h,hk])
   ·exact .inr (c9_ _ h)
  ·rw[if_neg hk] at h
   rcases d8_.1 h with h | h
   ·exact .inr (by rw[h];exact d5_ ..)
   ·rcases ag7 h with h | h
    ·exact .inl h
    ·exact .inr (c9_ _ h)
theorem bc8 {K V:Type} [DecidableEq K] {k:K} {v:V}:∀ {m:List (K×V)},(k,v) ∈ fh_ m k v
 | []=>d5_ ..
 | (a,u)::m=>by
  unfold fh_
  by_cases hk:k=a
  ·rw[if_pos hk,hk];exact d5_ ..
  ·rw[if_neg hk];exact c9_ _ bc8
theorem ya_ {K V:Type} [DecidableEq K] {k:K} {v:V} {e:K×V} (hne:e.1≠k):∀ {m:List (K×V)},e ∈ m→e ∈ fh_ m k v
 | (a,u)::m,h=>by
  unfold fh_
  by_cases hk:k=a
  ·rw[if_pos hk]
   rcases d8_.1 h with h | h
   ·exact absurd (by rw[h,hk]) hne
   ·exact c9_ _ h
  ·rw[if_neg hk]
   rcases d8_.1 h with h | h
   ·rw[h];exact d5_ ..
   ·exact c9_ _ (ya_ hne h)
theorem aa8 {K V:Type} [DecidableEq K] {k:K} {v:V}:∀ {m:List (K×V)},(m.map (·.1)).Nodup→((fh_ m k v).map (·.1)).Nodup
 | [],_=>by
  show [k].Nodup
  simp
 | (a,u)::m,h=>by
  unfold fh_
  rw[g6_,g7_] at h
  by_cases hk:k=a
  ·rw[if_pos hk,g6_,g7_]
   exact⟨h.1,h.2⟩
  ·rw[if_neg hk,g6_,g7_]
   refine⟨λhm => ?_,aa8 h.2⟩
   obtain⟨e,he,hea⟩:=d3_.1 hm
   rcases ag7 he with h1 | h1
   ·rw[h1] at hea
    exact hk hea
   ·exact h.1 (d3_.2 ⟨e,h1,hea⟩)
theorem ao8 {K V:Type} [DecidableEq K] {k:K} {v:V}:∀ {m:List (K×V)},mget? m k=some v→(k,v) ∈ m
 | [],h=>by cases h
 | (a,u)::m,h=>by
  unfold mget? at h
  by_cases hk:k=a
  ·rw[if_pos hk] at h
   rw[hk,a6_ h];exact d5_ ..
  ·rw[if_neg hk] at h
   exact c9_ _ (ao8 h)
theorem ao9 {K V:Type} [DecidableEq K] {k:K}:∀ {m:List (K×V)},mget? m k=none→∀ v,(k,v) ∉ m
 | [],_,_,h=>by cases h
 | (a,u)::m,h,v,hm=>by
  unfold mget? at h
  by_cases hk:k=a
  ·rw[if_pos hk] at h
   cases h
  ·rw[if_neg hk] at h
   rcases d8_.1 hm with h1 | h1
   ·exact hk (congrArg Prod.fst h1)
   ·exact ao9 h v h1
theorem MS.look {m:List (Int×Int)} {s:Nat→Prop} (h:MS m s) (i:Nat):(s i∧dm_ 0 m (i:Int)=1)∨(¬ s i∧dm_ 0 m (i:Int)=0):=by
 unfold dm_
 cases hg:mget? m (i:Int) with
 | some v =>
  obtain⟨h1,j,h2,h3⟩:=h.v _ (ao8 hg)
  have h1:v=1:=h1
  have h2:(i:Int)=(j:Int):=h2
  obtain rfl:i=j:=by omega
  exact .inl ⟨h3,h1⟩
 | none=>exact .inr ⟨λhs=>ao9 hg 1 (h.i i hs),rfl⟩
theorem MS.set {m:List (Int×Int)} {s:Nat→Prop} (h:MS m s) (i:Nat):MS (fh_ m (i:Int) 1) (λj=>s j∨j=i):=by
 refine⟨λe he => ?_,λj hj => ?_,aa8 h.nd⟩
 ·rcases ag7 he with h1 | h1
  ·rw[h1];exact⟨rfl,i,rfl,.inr rfl⟩
  ·obtain⟨h2,j,h3,h4⟩:=h.v e h1
   exact⟨h2,j,h3,.inl h4⟩
 ·by_cases hji:j=i
  ·rw[hji];exact bc8
  ·rcases hj with hj | hj
   ·exact ya_ (λh=>hji (by have h:(j:Int)=(i:Int):=h;omega)) (h.i j hj)
   ·exact absurd hj hji
theorem MS.one (i:Nat):MS [((i:Int),(1:Int))] (λj=>j=i) :=
 ⟨λe he=>by
  have:e=((i:Int),(1:Int)):=by simpa using he
  rw[this]
  exact⟨rfl,i,rfl,rfl⟩,λj hj=>by rw[hj];exact d5_ ..,by simp⟩
theorem MS.nil:MS [] (λ_=>False):=⟨λe he=>(by cases he),λj hj=>hj.elim,q3_⟩
theorem pe_ {α β:Type} {f:α→β}:∀ {l:List α},(l.map f).Nodup→l.Nodup
 | [],_=>q3_
 | x::l,h=>by
  rw[g6_,g7_] at h
  exact g7_.2 ⟨λhx=>h.1 (d3_.2 ⟨x,hx,rfl⟩),pe_ h.2⟩
theorem MS.mem {m:List (Int×Int)} {s:Nat→Prop} (h:MS m s) (e:Int×Int):e ∈ m↔e.2=1∧∃ i:Nat,e.1=(i:Int)∧s i :=
 ⟨λhe=>h.v e he,λ⟨h1,i,h2,h3⟩=>by
  have:e=((i:Int),(1:Int)):=by rw[← h1,← h2]
  rw[this]
  exact h.i i h3⟩
theorem MS.perm {m m':List (Int×Int)} {s:Nat→Prop} (h:MS m s) (h':MS m' s):m.Perm m':=by
 refine (o8_ (pe_ h.nd) (pe_ h'.nd)).2 λe => ?_
 rw[h.mem,h'.mem]
noncomputable def ouS (s:Nat→Prop) (i:Nat):Bool:=by
 classical exact decide (¬ s i)
theorem cl8 {s:Nat→Prop} {i:Nat} (h:¬ s i):ouS s i=true:=by
 classical
 unfold ouS
 exact b5_ h
theorem cl9 {s:Nat→Prop} {i:Nat} (h:s i):ouS s i=false:=by
 classical
 unfold ouS
 exact b6_ λg=>g h
theorem ouS_not {s:Nat→Prop} {i:Nat} (h:ouS s i=true):¬ s i:=λg=>by rw[cl9 g] at h;cases h
noncomputable def lft (n:Nat) (s:Nat→Prop):Nat:=(List.range n).countP (ouS s)
theorem lft_le (n:Nat) (s:Nat→Prop):lft n s≤n:=by
 unfold lft
 refine c7_ (j2_) ?_
 rw[h9_]
 exact c4_ _
theorem bx6 {n:Nat} {s:Nat→Prop} {i:Nat} (hi:i<n) (hs:¬ s i):lft n (λj=>s j∨j=i)+1≤lft n s:=by
 unfold lft
 have gen:∀ l:List Nat,l.Nodup→i ∈ l→l.countP (ouS λj=>s j∨j=i)+1≤l.countP (ouS s):=by
  intro l
  induction l with
  | nil=>intro _ h;cases h
  | cons x l ih =>
   intro hn hm
   rw[g7_] at hn
   rw[j8_,j8_]
   by_cases hx:x=i
   ·subst hx
    have h1:l.countP (ouS λj=>s j∨j=x)≤l.countP (ouS s) :=
     List.countP_mono_left λy _ hy=>cl8 λh=>ouS_not hy (.inl h)
    rw[cl9 (s:=λj=>s j∨j=x) (i:=x) (.inr rfl),cl8 hs]
    simp only[Bool.false_eq_true,i0_,k9_]
    omega
   ·have hm:i ∈ l:=by
     rcases d8_.1 hm with h | h
     ·exact absurd h.symm hx
     ·exact h
    have:=ih hn.2 hm
    have h4:ouS (λj=>s j∨j=i) x=ouS s x:=by
     by_cases h:s x
     ·rw[cl9 (s:=λj=>s j∨j=i) (.inl h),cl9 h]
     ·rw[cl8 (s:=λj=>s j∨j=i) (λg=>g.elim h hx),cl8 h]
    rw[h4]
    omega
 exact gen _ p7_ (m3_.2 hi)
end
section
set_option maxRecDepth 10000
def shp (es:List (List ad_)) (D:List Int):Nat→Int→List ai_
 | 0,_=>[]
 | k+1,i=>match ((at? es i).getD []).find? (λx=>gi D x.2==(k:Int)) with
  | none=>[]
  | some x=>x.1::shp es D k x.2
theorem ax5 (g:ac_) (p:aa_):∀ (ms:List ai_) (e e':List ad_) (ps ps':List aa_),inn g p ms e ps=some (e',ps')→ps.length≤ps'.length
 | [],e,e',ps,ps',h=>by
  unfold inn at h
  obtain⟨_,rfl⟩:=h3_ (a6_ h)
  exact c4_ _
 | m::ms,e,e',ps,ps',h=>by
  unfold inn at h
  cases hw:wh ps ((stepP g p m).getD eP) with
  | some n =>
   simp only[hw] at h
   exact ax5 g p ms _ _ _ _ h
  | none =>
   simp only[hw] at h
   split at h
   ·cases h
   ·have:=ax5 g p ms _ _ _ _ h
    rw[a8_] at this
    omega
theorem bt6 (g:ac_):∀ (n i:Nat) (ps ps':List aa_) (es es':List (List ad_)),out g n i ps es=some (ps',es')→ps.length≤ps'.length
 | 0,i,ps,ps',es,es',h=>by
  unfold out at h
  obtain⟨rfl,_⟩:=h3_ (a6_ h)
  exact c4_ _
 | n+1,i,ps,ps',es,es',h=>by
  unfold out at h
  cases hp:ps[i]? with
  | none =>
   simp only[hp] at h
   obtain⟨rfl,_⟩:=h3_ (a6_ h)
   exact c4_ _
  | some p =>
   simp only[hp] at h
   cases hin:inn g p (pmv g p) [] ps with
   | none=>simp only[hin] at h;cases h
   | some z =>
    simp only[hin] at h
    exact c7_ (ax5 g p _ _ _ _ _ hin) (bt6 g n _ _ _ _ _ h)
theorem exG_pos {g:ac_} (he:(exG g).2.1=0):1≤(exG g).1.1.length:=by
 unfold exG at he ⊢
 cases hb:(vw_ g).2.1 != 0 with
 | true =>
  rw[hb] at he
  rw[m7_] at hb
  exact absurd he hb
 | false =>
 rw[hb,a2_] at he
 cases ho:out g 3001 0 [(vw_ g).1] [] with
 | none =>
  rw[ho] at he
  exact absurd (show (2:Int)=0 from he) (by decide)
 | some z=>exact bt6 g _ _ _ _ _ _ ho
end
section
set_option maxRecDepth 10000
def Pa (es:List (List ad_)):Nat→List ad_→Nat→Prop
 | i,[],j=>i=j
 | i,x::xs,j=>∃ row,es[i]?=some row∧x ∈ row∧∃ n:Nat,x.2=(n:Int)∧Pa es n xs j
theorem LC_pa {es:List (List ad_)} {fin:Nat→Bool} {D:List Int} (hL:LC es fin D):∀ (xs:List ad_) (i j:Nat),Pa es i xs j→fin j=true→j<D.length→∃ k:Nat,D[i]?=some (k:Int)∧k≤xs.length
 | [],i,j,h,hf,hj=>by
  obtain rfl:i=j:=h
  obtain⟨v,hv⟩:=bc_ hj
  have:=(hL.z i v hv).2 hf
  exact⟨0,by rw[hv,this];rfl,c4_ _⟩
 | x::xs,i,j,h,hf,hj=>by
  obtain⟨row,h1,h2,n,h3,h4⟩:=h
  obtain⟨k,h5,h6⟩:=LC_pa hL xs n j h4 hf hj
  obtain⟨v,h7,h8,h9⟩:=hL.up i row x k h1 h2 (by rw[h3];exact ah_ h5)
  obtain⟨m,rfl⟩:=Int.eq_ofNat_of_zero_le h8
  exact⟨m,h7,by rw[c1_];omega⟩
def RowI (g:ac_) (p:aa_) (ps:List aa_) (row:List ad_):Prop:=∀ x ∈ row,∃ q n,stepP g p x.1=some q∧x.2=((n:Nat):Int)∧ps[n]?=some q
theorem as1 {g:ac_} {p:aa_} {ps ps':List aa_} {row:List ad_} (h:RowI g p ps row) (hp:∀ (n:Nat) q,ps[n]?=some q→ps'[n]?=some q):RowI g p ps' row:=λx hx=>by
 obtain⟨q,n,h1,h2,h3⟩:=h x hx
 exact⟨q,n,h1,h2,hp n q h3⟩
theorem ax4 {g:ac_} {p:aa_}:∀ (ms:List ai_) (e e':List ad_) (ps ps':List aa_),(∀ m ∈ ms,∃ q,stepP g p m=some q)→RowI g p ps e→inn g p ms e ps=some (e',ps') →
  RowI g p ps' e'∧e'.map (·.1)=e.map (·.1)++ms∧∀ (n:Nat) q,ps[n]?=some q→ps'[n]?=some q
 | [],e,e',ps,ps',hm,hr,h=>by
  unfold inn at h
  cases h
  exact⟨hr,by simp,λn q h=>h⟩
 | m::ms,e,e',ps,ps',hm,hr,h=>by
  obtain⟨q,hq⟩:=hm m (by simp)
  unfold inn at h
  rw[hq,f8_] at h
  cases hw:wh ps q with
  | some n =>
   rw[hw] at h
   have hn:=bn9 hw
   obtain⟨h1,h2,h3⟩:=ax4 ms _ e' ps ps' (λx hx=>hm x (by simp[hx])) (λx hx=>by
    rcases b2_.1 hx with hx | hx
    ·exact hr x hx
    ·simp at hx;subst hx;exact⟨q,n,hq,rfl,hn⟩) h
   exact⟨h1,by rw[h2];simp,h3⟩
  | none =>
   rw[hw] at h
   simp only at h
   by_cases hl:ps.length=3000
   ·rw[if_pos hl] at h;cases h
   ·rw[if_neg hl] at h
    have hp:∀ (n:Nat) z,ps[n]?=some z→(ps++[q])[n]?=some z:=λn z hz=>by
     rw[b1_ (a3_.1 hz).1]
     exact hz
    obtain⟨h1,h2,h3⟩:=ax4 ms _ e' _ ps' (λx hx=>hm x (by simp[hx])) (λx hx=>by
     rcases b2_.1 hx with hx | hx
     ·exact as1 hr hp x hx
     ·simp at hx;subst hx;exact⟨q,ps.length,hq,rfl,by simp⟩) h
    exact⟨h1,by rw[h2];simp,λn z hz=>h3 n z (hp n z hz)⟩
def GE (g:ac_) (ps:List aa_) (es:List (List ad_)):Prop:=∀ (i:Nat) row,es[i]?=some row→∃ p,ps[i]?=some p∧row.map (·.1)=pmv g p∧RowI g p ps row
theorem bt5 {g:ac_}:∀ (n i:Nat) (ps ps':List aa_) (es es':List (List ad_)),es.length=i→GE g ps es→out g n i ps es=some (ps',es')→GE g ps' es'∧∀ (k:Nat) q,ps[k]?=some q→ps'[k]?=some q
 | 0,i,ps,ps',es,es',hl,hG,h=>by
  unfold out at h
  cases h
  exact⟨hG,λk q h=>h⟩
 | n+1,i,ps,ps',es,es',hl,hG,h=>by
  unfold out at h
  cases hp:ps[i]? with
  | none =>
   rw[hp] at h
   cases h
   exact⟨hG,λk q h=>h⟩
  | some p =>
   rw[hp] at h
   simp only at h
   cases hi:inn g p (pmv g p) [] ps with
   | none=>rw[hi] at h;cases h
   | some z =>
    obtain⟨e,ps1⟩:=z
    rw[hi] at h
    simp only at h
    obtain⟨h1,h2,h3⟩:=ax4 (pmv g p) [] e ps ps1 (λm hm=>qs_ hm) (λx hx=>by simp at hx) hi
    have hG1:GE g ps1 (es++[e]):=λj row hj=>by
     by_cases hjl:j<es.length
     ·rw[b1_ hjl] at hj
      obtain⟨p',g1,g2,g3⟩:=hG j row hj
      exact⟨p',h3 j p' g1,g2,as1 g3 h3⟩
     ·have hj':j=es.length:=by
       have:=(a3_.1 hj).1
       rw[a8_,c8_] at this
       omega
      subst hj'
      rw[c6_ (c4_ _),k5_] at hj
      obtain rfl:e=row:=a6_ hj
      exact⟨p,h3 _ p (by rw[hl];exact hp),by rw[h2];simp,h1⟩
    obtain⟨k1,k2⟩:=bt5 n (i+1) ps1 ps' (es++[e]) es' (by rw[a8_,c8_,hl]) hG1 h
    exact⟨k1,λk q hq=>k2 k q (h3 k q hq)⟩
theorem exG_GE {g:ac_} (he:(exG g).2.1=0):GE g (exG g).1.1 (exG g).1.2∧(exG g).1.1[0]?=some (vw_ g).1∧(vw_ g).2.1=0:=by
 unfold exG at he ⊢
 cases hb:(vw_ g).2.1 != 0 with
 | true =>
  rw[hb] at he
  have he:(vw_ g).2.1=0:=he
  rw[he] at hb
  cases hb
 | false =>
  rw[hb] at he
  simp only[a2_] at he ⊢
  cases ho:out g 3001 0 [(vw_ g).1] [] with
  | none=>rw[ho] at he;cases he
  | some z =>
   obtain⟨ps,es⟩:=z
   obtain⟨h1,h2⟩:=bt5 3001 0 _ ps [] es rfl (λi row h=>by simp at h) ho
   exact⟨h1,h2 0 _ rfl,by simpa using hb⟩
end
section
set_option maxRecDepth 10000
theorem jz_ {σ ρ υ:Type} {body:σ→Option (σ⊕ρ)} {K:ρ→Option υ} {Q:υ→Prop} (I:σ→Prop) (μ:σ→Nat) {z0:σ} (h0:I z0)
  (st:∀ s,I s→∃ y,body s=some y∧((∃ s',y = .inl s'∧I s'∧μ s'<μ s)∨∃ r z,y = .inr r∧K r=some z∧Q z)):∃ z,(af_ body z0).bind K=some z∧Q z:=by
 have gen:∀ (n:Nat) (s:σ),μ s=n→I s→∃ r,af_ body s=some r∧∃ z,K r=some z∧Q z:=by
  intro n
  induction n using Nat.strongRecOn with
  | _ n ih =>
   intro s hn hs
   obtain⟨y,hy,⟨s',rfl,h2,h3⟩ | ⟨r,z,rfl,h2,h3⟩⟩:=st s hs
   ·obtain⟨r,g1,g2⟩:=ih (μ s') (by omega) s' rfl h2
    exact⟨r,(qd_ hy).trans g1,g2⟩
   ·exact⟨r,ct_ hy,z,h2,h3⟩
 obtain⟨r,h1,z,h2,h3⟩:=gen _ z0 rfl h0
 exact⟨z,by rw[h1,a0_,h2],h3⟩
theorem of_ex {υ:Type} {x:Option υ} {y:υ} (h:∃ z,x=some z∧z=y):x=some y:=by
 obtain⟨z,h1,rfl⟩:=h
 exact h1
theorem sm_ {α:Type} {l:List α} {k:Nat} {x:α} (h:l[k]?=some x):l.take (k+1)=l.take k++[x]:=by
 rw[d9_,h];rfl
def cMx:Int:=1099511627776
end
section
set_option maxRecDepth 10000
theorem nx_ {σ ρ υ:Type} {K:ρ→Option υ} {Q:υ→Prop} {y:σ⊕ρ} {r:ρ} (h:y = .inr r) (h2:∃ z,K r=some z∧Q z):∃ r z,y = .inr r∧K r=some z∧Q z:=by
 obtain⟨z,h3,h4⟩:=h2
 exact⟨r,z,h,h3,h4⟩
theorem md_nat {a b:Nat} (h:0<b):md (a:Int) (b:Int)=some ((a % b:Nat):Int):=by
 rw[bw7 (by omega)]
 rfl
abbrev plr (es:List (List ad_)) (D:List Int) (M t:Int) (at_:Int) (mem:List (Int×Int)):ey_:=((es,D),((M,t),(at_,mem)))
def VM (es:List (List ad_)) (mem:List (Int×Int)):Prop:=∀ e ∈ mem,∃ (i k:Nat) (row:List ad_),e.1=(i:Int)∧e.2=(k:Int)∧es[i]?=some row∧k<row.length
def kn (mem:List (Int×Int)) (a k:Int):Bool:=mem.any λv=>a==v.1&&k==v.2
theorem ay3 {mem:List (Int×Int)} (h:Sm mem.length) (a k:Int):dx_ mem (a,k)=some (kn mem a k,()):=by
  unfold dx_ hm_ kn
  obtain⟨n,h1,h2,h3⟩:=bz3 (l:=mem) h (λv=>a==v.1&&k==v.2) (body:=λ(v0:(Int×Unit)) =>
 (cond (decide (v0.1<(mem.length:Int)))
 ((at? mem v0.1).bind λv1 =>
 (cond ((a==v1.1)&&(k==v1.2))
 (some (inr (inr (v0.1,()))))
 (some (inl ((w64 (v0.1+1)),())))))
 (some (inr (inl ()))))) (λi y hy=>by
    simp only[dlt (am_ hy),a5_,ah_ hy,a0_]
    cases a==y.1&&k==y.2<;>rfl) (by simp only[dnl,a2_])
  refine e6_ (congrArg (λo=>Option.bind o _) h1) ?_
  rw[a0_]
  have:decide (0≤n) = !(decide (n<0)):=by
    by_cases hn:n<0
    · rw[b5_ hn,b6_ (by omega)];rfl
    · rw[b6_ hn,b5_ (by omega)];rfl
  rw[this,h2,Bool.not_not]
theorem bd7 {es:List (List ad_)} {D:List Int} {M t at_:Int} {mem:List (Int×Int)} (h:Sm mem.length) (a k:Int):dd_ (plr es D M t at_ mem) a k=some (kn mem a k,()):=by
 unfold dd_
 rw[ay3 h,a0_]
theorem bf0 {es:List (List ad_)} {D:List Int} {M at_:Int} {t:Nat} {mem:List (Int×Int)} (h:Sm mem.length) (ht:t≤99) (hrl:∀ l ∈ es,l.length≤100) {a:Nat} {row:List ad_} (hr:es[a]?=some row) :
  ∃ r:Int,cn_ (plr es D M (t:Int) at_ mem) (a:Int)=some (r,())∧((r = -1∧(row.length=0∨kn mem (a:Int) ((t % row.length:Nat):Int)=true))∨∃ k:Nat,r=(k:Int)∧k<row.length):=by
 have hl:=hrl row (aw_ hr)
 unfold cn_
 simp only[ah_ hr,a0_,bd7 h]
 suffices hs:∃ z,_=some z∧∃ r:Int,z=(r,())∧((r = -1∧(row.length=0∨kn mem (a:Int) ((t % row.length:Nat):Int)=true))∨∃ k:Nat,r=(k:Int)∧k<row.length) by
  obtain⟨z,h1,r,rfl,h2⟩:=hs
  exact⟨r,h1,h2⟩
 refine jz_ (I:=λ(s:Int×Unit)=>∃ j:Nat,s.1=(j:Int)∧j≤row.length∧(j=0∨kn mem (a:Int) ((t % row.length:Nat):Int)=true)) (μ:=λs=>row.length - s.1.toNat) ⟨0,rfl,h4_ _,.inl rfl⟩ ?_
 rintro⟨sj,u⟩ ⟨j,rfl,hj,hk⟩
 have hj1:w64 ((j:Int)+1)=((j+1:Nat):Int):=ba_ (show j≤1000000000 by omega)
 by_cases hjl:j<row.length
 ·have e1:w64 (((t % row.length:Nat):Int)+(j:Int))=((t % row.length+j:Nat):Int):=by
   have:=q1_ t (show 0<row.length by omega)
   rw[gv_ (by omega) (by omega)];omega
  simp only[dlt hjl,a5_,md_nat (show 0<row.length by omega),a0_,e1]
  have hlt:=q1_ (t % row.length+j) (show 0<row.length by omega)
  cases hc:kn mem (a:Int) (((t % row.length+j) % row.length:Nat):Int) with
  | false=>exact⟨_,rfl,.inr ⟨_,_,rfl,rfl,_,rfl,.inr ⟨_,rfl,hlt⟩⟩⟩
  | true =>
   refine⟨_,rfl,.inl ⟨_,rfl,⟨j+1,hj1,hjl,.inr ?_⟩,by show row.length - (w64 ((j:Int)+1)).toNat<row.length - ((j:Int)).toNat;rw[hj1];omega⟩⟩
   rcases hk with rfl | hk
   ·rw[l7_,Nat.mod_mod] at hc
    exact hc
   ·exact hk
 ·obtain rfl:j=row.length:=by omega
  simp only[dnl,a2_]
  exact⟨_,rfl,.inr ⟨_,_,rfl,rfl,_,rfl,.inl ⟨rfl,hk⟩⟩⟩
theorem bu2 {es:List (List ad_)} {D:List Int} {M t at_:Int} {mem:List (Int×Int)} (h:Sm mem.length) (hx:∃ e ∈ mem,e.1=at_):∃ e ∈ mem,e.1=at_∧dy_ (plr es D M t at_ mem)=some (e.2,()):=by
 unfold dy_
 suffices hs:∃ z,_=some z∧∃ e ∈ mem,e.1=at_∧z=(e.2,()) by
  obtain⟨z,h1,e,h2,h3,rfl⟩:=hs
  exact⟨e,h2,h3,h1⟩
 refine jz_ (I:=λ(s:Int×Unit)=>∃ j:Nat,s.1=(j:Int)∧j≤mem.length∧∀ e ∈ mem.take j,e.1≠at_) (μ:=λs=>mem.length - s.1.toNat) ⟨0,rfl,h4_ _,λe he=>by simp at he⟩ ?_
 rintro⟨sj,u⟩ ⟨j,rfl,hj,hn⟩
 have hj1:w64 ((j:Int)+1)=((j+1:Nat):Int):=ba_ (show j≤1000000000 by unfold Sm at h;omega)
 by_cases hjl:j<mem.length
 ·obtain⟨e,he⟩:=bc_ hjl
  simp only[dlt hjl,a5_,ah_ he,a0_]
  cases hc:e.1==at_ with
  | true=>exact⟨_,rfl,.inr ⟨_,_,rfl,rfl,e,aw_ he,by simpa using hc,rfl⟩⟩
  | false =>
   refine⟨_,rfl,.inl ⟨_,rfl,⟨j+1,hj1,hjl,λy hy => ?_⟩,by show mem.length - (w64 ((j:Int)+1)).toNat<mem.length - ((j:Int)).toNat;rw[hj1];omega⟩⟩
   rw[sm_ he] at hy
   rcases b2_.1 hy with hy | hy
   ·exact hn y hy
   ·obtain rfl:y=e:=by simpa using hy
    simpa using hc
 ·obtain rfl:j=mem.length:=by omega
  obtain⟨e,he,hea⟩:=hx
  exact absurd hea (hn e (by rw[d2_];exact he))
structure WY (es:List (List ad_)) (n a:Nat) (rl:Nat) (q:List Int) (w:List (Int×(Int×Int))):Prop where
 wk:∀ (y:Int) v,mget? w y=some v→∃ i:Nat,y=(i:Int)∧i<n∧(i≠a→∃ k:Nat,v.2=(k:Int)∧k<rl)
 wq:∀ y ∈ q,lu_ w y=true
 wm:lft n (λi=>lu_ w (i:Int)=true)+q.length≤n
theorem id_ {w:List (Int×(Int×Int))} {k y:Int} {v:Int×Int}:lu_ (fh_ w k v) y=true↔y=k∨lu_ w y=true:=by
 unfold lu_
 rw[nj_]
 by_cases h:y=k
 ·rw[if_pos h];simp[h]
 ·rw[if_neg h];simp[h]
theorem ag9 {w:List (Int×(Int×Int))} {y:Int} (h:lu_ w y=true):mget? w y=some (dm_ (0,0) w y):=by
 unfold lu_ at h
 unfold dm_
 cases hg:mget? w y with
 | none=>rw[hg] at h;cases h
 | some v=>rfl
theorem back_ok {es:List (List ad_)} {D:List Int} {M:Int} {t a:Nat} {mem:List (Int×Int)} (h:Sm mem.length) (ht:t≤99) (hes:es.length≤300) (hrl:∀ l ∈ es,l.length≤100) (hxx:∀ l ∈ es,∀ x ∈ l,0≤x.2∧x.2<(es.length:Int)) {row:List ad_} (hr:es[a]?=some row)
  (hf:cn_ (plr es D M (t:Int) (a:Int) mem) (a:Int)=some (-1,())):∃ r:Int,es_ (plr es D M (t:Int) (a:Int) mem)=some (r,())∧(r = -1∨∃ k:Nat,r=(k:Int)∧k<row.length):=by
 have hal:=am_ hr
 unfold es_
 simp only[bd7 h]
 suffices hs:∃ z,_=some z∧∃ r:Int,z=(r,())∧(r = -1∨∃ k:Nat,r=(k:Int)∧k<row.length) by
  obtain⟨z,h1,r,rfl,h2⟩:=hs
  exact⟨r,h1,h2⟩
 refine jz_ (I:=λ(s:List Int×(List (Int×(Int×Int))×Unit))=>WY es es.length a row.length s.1 s.2.1) (μ:=λs=>lft es.length (λi=>lu_ s.2.1 (i:Int)=true)+s.1.length) ?_ ?_
 ·refine⟨λy v hv => ?_,λy hy => ?_,?_⟩
  ·change mget? (fh_ [] (a:Int) ((0:Int),(-1:Int))) y=some v at hv
   rw[nj_] at hv
   split at hv
   ·rename_i e
    exact⟨a,e,hal,λh=>absurd rfl h⟩
   ·cases hv
  ·change y ∈ [(a:Int)] at hy
   exact id_.2 (.inl (by simpa using hy))
  ·show lft es.length (λi=>lu_ (fh_ [] (a:Int) ((0:Int),(-1:Int))) (i:Int)=true)+1≤es.length
   have h1:=bx6 (n:=es.length) (s:=λ_=>False) (i:=a) hal (λh=>h)
   have h2:=lft_le es.length (λ_=>False)
   have e:lft es.length (λi=>lu_ (fh_ [] (a:Int) ((0:Int),(-1:Int))) (i:Int)=true)=lft es.length (λj=>False∨j=a):=by
    congr 1
    funext i
    refine propext ⟨λh=>.inr ?_,λh=>id_.2 (.inl ?_)⟩
    ·rcases id_.1 h with h | h
     ·omega
     ·cases h
    ·rcases h with h | h
     ·exact h.elim
     ·omega
   omega
 ·rintro⟨q,w,u⟩ hW
  have hW:WY es es.length a row.length q w:=hW
  cases q with
  | cons y tl =>
   have hy:=hW.wq y (d5_ ..)
   obtain⟨i,rfl,hi,hv⟩:=hW.wk y _ (ag9 hy)
   obtain⟨ry,hry⟩:=bc_ (l:=es) (i:=i) hi
   have hrm:=aw_ hry
   have hryl:=hrl ry hrm
   have hat:at? ((i:Int)::tl) 0=some (i:Int):=ah_ (i:=0) rfl
   have hm0:=hW.wm
   rw[c1_] at hm0
   simp only[b5_ (show (0:Int)<(((i:Int)::tl).length:Int) by rw[c1_];omega),a5_,hat,a0_,ah_ hry]
   refine jz_ (I:=λ(s:List Int×(Int×(List (Int×(Int×Int))×Unit)))=>∃ (k:Nat) (tl':List Int),s.1=(i:Int)::tl'∧s.2.1=(k:Int)∧k≤ry.length∧WY es es.length a row.length s.1 s.2.2.1∧lft es.length (λi=>lu_ s.2.2.1 (i:Int)=true)+tl'.length≤lft es.length (λi=>lu_ w (i:Int)=true)+tl.length) (μ:=λs=>ry.length - s.2.1.toNat)
    ⟨0,tl,rfl,rfl,h4_ _,hW,c4_ _⟩ ?_
   rintro⟨q',sk,w',u'⟩ ⟨k,tl',hq',rfl,hkn,hW',hms⟩
   obtain rfl:q'=(i:Int)::tl':=hq'
   have hW':WY es es.length a row.length ((i:Int)::tl') w':=hW'
   have hms:lft es.length (λi=>lu_ w' (i:Int)=true)+tl'.length≤lft es.length (λi=>lu_ w (i:Int)=true)+tl.length:=hms
   have hk1:w64 ((k:Int)+1)=((k+1:Nat):Int):=ba_ (show k≤1000000000 by omega)
   by_cases hkl:k<ry.length
   ·obtain⟨x,hx⟩:=bc_ (l:=ry) (i:=k) hkl
    obtain⟨x0,x1⟩:=hxx ry hrm x (aw_ hx)
    obtain⟨j,hj⟩:∃ j:Nat,x.2=(j:Int):=⟨x.2.toNat,by omega⟩
    have hjn:j<es.length:=by omega
    have less:∀ {α:Type} {z:α},ry.length - (w64 ((k:Int)+1)).toNat<ry.length - ((k:Int)).toNat:=λ{_ _}=>by rw[hk1];omega
    simp only[dlt hkl,a5_,ah_ hx,a0_]
    cases hkk:kn mem (i:Int) (k:Int) with
    | false=>exact⟨_,rfl,.inl ⟨_,rfl,⟨k+1,tl',rfl,hk1,hkl,hW',hms⟩,less (z:=())⟩⟩
    | true =>
     simp only[e1_,a2_]
     obtain⟨v7,e7,g7⟩:∃ v7:Int,(cond ((i:Int)==(a:Int)) (some (((k:Int),()),())) (some (((dm_ (0,0) w' (i:Int)).2,()),())):Option ((Int×Unit)×Unit))=some ((v7,()),())∧∃ kk:Nat,v7=(kk:Int)∧kk<row.length:=by
      by_cases hia:i=a
      ·subst hia
       rw[hr] at hry
       obtain rfl:=a6_ hry
       exact⟨(k:Int),by simp,k,rfl,hkl⟩
      ·have hin:=hW'.wq (i:Int) (d5_ ..)
       obtain⟨i',h1,h2,h3⟩:=hW'.wk _ _ (ag9 hin)
       obtain rfl:i=i':=by omega
       refine⟨_,?_,h3 hia⟩
       rw[show ((i:Int)==(a:Int))=false from i9_.2 (by omega)]
       rfl
     rw[e7]
     simp only[a0_]
     cases hm:lu_ w' x.2 with
     | true =>
      simp only[e1_,a2_,a0_]
      have set_ok:∀ s:Int,WY es es.length a row.length ((i:Int)::tl') (fh_ w' x.2 (s,v7))∧lft es.length (λi=>lu_ (fh_ w' x.2 (s,v7)) (i:Int)=true)+tl'.length≤lft es.length (λi=>lu_ w (i:Int)=true)+tl.length:=λs=>by
       have e:(λi:Nat=>lu_ (fh_ w' x.2 (s,v7)) (i:Int)=true)=λi:Nat=>lu_ w' (i:Int)=true:=funext λz=>propext ⟨λh=>by
        rcases id_.1 h with h | h
        ·rw[h];exact hm
        ·exact h,λh=>id_.2 (.inr h)⟩
       refine⟨⟨λy v hv => ?_,λy hy=>id_.2 (.inr (hW'.wq y hy)),by rw[e];exact hW'.wm⟩,by rw[e];exact hms⟩
       rw[nj_] at hv
       split at hv
       ·rename_i ey
        obtain rfl:=a6_ hv
        exact⟨j,by rw[ey,hj],hjn,λ_=>g7⟩
       ·exact hW'.wk y v hv
      cases (dm_ (0,0) w' x.2).1==w64 ((dm_ (0,0) w' (i:Int)).1+1) with
      | false=>exact⟨_,rfl,.inl ⟨_,rfl,⟨k+1,tl',rfl,hk1,hkl,hW',hms⟩,less (z:=())⟩⟩
      | true =>
       simp only[a5_,a0_]
       cases decide (v7<(dm_ (0,0) w' x.2).2) with
       | false=>exact⟨_,rfl,.inl ⟨_,rfl,⟨k+1,tl',rfl,hk1,hkl,hW',hms⟩,less (z:=())⟩⟩
       | true=>exact⟨_,rfl,.inl ⟨_,rfl,⟨k+1,tl',rfl,hk1,hkl,(set_ok _).1,(set_ok _).2⟩,less (z:=())⟩⟩
     | false =>
      simp only[g2_,a5_,a0_]
      have hm':=hW'.wm
      have hll:((i:Int)::tl').length≤1000000000:=by omega
      rw[ci_ hll,a0_]
      simp only[a0_,a5_]
      have hjw:¬ lu_ w' (j:Int)=true:=by rw[← hj,hm];simp
      have e:∀ s:Int,(λi:Nat=>lu_ (fh_ w' x.2 (s,v7)) (i:Int)=true)=λi:Nat=>lu_ w' (i:Int)=true∨i=j:=λs=>funext λz=>propext ⟨λh=>by
       rcases id_.1 h with h | h
       ·exact .inr (by omega)
       ·exact .inl h,λh=>id_.2 (h.elim .inr λh=>.inl (by omega))⟩
      have ha:=bx6 (n:=es.length) (s:=λi:Nat=>lu_ w' (i:Int)=true) hjn hjw
      rw[c1_] at hm'
      refine⟨_,rfl,.inl ⟨_,rfl,⟨k+1,tl'++[x.2],rfl,hk1,hkl,⟨λy v hv => ?_,λy hy => ?_,?_⟩,?_⟩,less (z:=())⟩⟩
      ·change mget? (fh_ w' x.2 (_,v7)) y=some v at hv
       rw[nj_] at hv
       split at hv
       ·rename_i ey
        obtain rfl:=a6_ hv
        exact⟨j,by rw[ey,hj],hjn,λ_=>g7⟩
       ·exact hW'.wk y v hv
      ·change y ∈ ((i:Int)::tl')++[x.2] at hy
       refine id_.2 ?_
       rcases b2_.1 hy with hy | hy
       ·exact .inr (hW'.wq y hy)
       ·exact .inl (by simpa using hy)
      ·show lft es.length (λi=>lu_ (fh_ w' x.2 (_,v7)) (i:Int)=true)+(((i:Int)::tl')++[x.2]).length≤es.length
       rw[e,a8_,c1_,c8_]
       omega
      ·show lft es.length (λi=>lu_ (fh_ w' x.2 (_,v7)) (i:Int)=true)+(tl'++[x.2]).length≤_
       rw[e,a8_,c8_]
       omega
   ·obtain rfl:k=ry.length:=by omega
    have hsub:sub? ((i:Int)::tl') 1 (((i:Int)::tl').length:Int)=some tl':=by
     unfold sub?
     rw[if_pos ⟨by omega,by rw[c1_];omega,j9_ _⟩,b9_,d2_]
     rfl
    simp only[dnl,a2_]
    refine⟨_,rfl,.inr (nx_ rfl ?_)⟩
    simp only[hsub,a0_]
    refine⟨_,rfl,.inl ⟨_,rfl,⟨hW'.wk,λy hy=>hW'.wq y (c9_ _ hy),?_⟩,?_⟩⟩
    ·have:=hW'.wm
     rw[c1_] at this
     show lft es.length (λi=>lu_ w' (i:Int)=true)+tl'.length≤es.length
     omega
    ·show lft es.length (λi=>lu_ w' (i:Int)=true)+tl'.length<lft es.length (λi=>lu_ w (i:Int)=true)+(((i:Int)::tl).length)
     rw[c1_]
     omega
  | nil =>
   simp only[i2_,show decide ((0:Int)<((0:Nat):Int))=false from rfl,a2_]
   refine⟨_,rfl,.inr (nx_ rfl ?_)⟩
   refine jz_ (I:=λ(s:Int×(Int×(Int×Unit)))=>∃ i:Nat,s.2.2.1=(i:Int)∧i≤es.length∧(s.2.1 = -1∨∃ k:Nat,s.2.1=(k:Int)∧k<row.length)) (μ:=λs=>es.length - s.2.2.1.toNat) ⟨0,rfl,h4_ _,.inl rfl⟩ ?_
   rintro⟨best,edge,si,u2⟩ ⟨i,rfl,hin,he⟩
   have hi1:w64 ((i:Int)+1)=((i+1:Nat):Int):=ba_ (show i≤1000000000 by omega)
   by_cases hil:i<es.length
   ·have less:∀ {α:Type} {z:α},es.length - (w64 ((i:Int)+1)).toNat<es.length - ((i:Int)).toNat:=λ{_ _}=>by rw[hi1];omega
    obtain⟨ri,hri⟩:=bc_ hil
    simp only[dlt hil,a5_]
    cases hm:lu_ w (i:Int) with
    | false=>exact⟨_,rfl,.inl ⟨_,rfl,⟨i+1,hi1,hil,he⟩,less (z:=())⟩⟩
    | true =>
     simp only[a5_]
     obtain⟨r,f1,f2⟩:=bf0 (D:=D) (M:=M) (at_:=(a:Int)) h ht hrl hri
     simp only[f1,a0_]
     cases hr0:decide (0≤r) with
     | false=>exact⟨_,rfl,.inl ⟨_,rfl,⟨i+1,hi1,hil,he⟩,less (z:=())⟩⟩
     | true =>
      have hr0:=f0_ hr0
      have hia:i≠a:=by
       rintro rfl
       rw[hf] at f1
       have:=congrArg Prod.fst (a6_ f1)
       have:(-1:Int)=r:=this
       omega
      obtain⟨i',h1,h2,h3⟩:=hW.wk _ _ (ag9 hm)
      obtain rfl:i=i':=by omega
      simp only[a5_]
      cases decide (best<0) with
      | true=>exact⟨_,rfl,.inl ⟨_,rfl,⟨i+1,hi1,hil,.inr (h3 hia)⟩,less (z:=())⟩⟩
      | false =>
       simp only[a2_,a0_]
       cases decide ((dm_ (0,0) w (i:Int)).1<best) with
       | true=>exact⟨_,rfl,.inl ⟨_,rfl,⟨i+1,hi1,hil,.inr (h3 hia)⟩,less (z:=())⟩⟩
       | false=>exact⟨_,rfl,.inl ⟨_,rfl,⟨i+1,hi1,hil,he⟩,less (z:=())⟩⟩
   ·obtain rfl:i=es.length:=by omega
    simp only[dnl,a2_]
    exact⟨_,rfl,.inr ⟨_,_,rfl,rfl,_,rfl,he⟩⟩
end
section
set_option maxRecDepth 10000
theorem cc9 {es:List (List ad_)} {D:List Int} {M:Int} {t a:Nat} {mem:List (Int×Int)} (h:Sm mem.length) (hV:VM es mem) (ht:t≤99) (hes:es.length≤300) (hrl:∀ l ∈ es,l.length≤100) (hxx:∀ l ∈ es,∀ x ∈ l,0≤x.2∧x.2<(es.length:Int)) {row:List ad_} (hr:es[a]?=some row) (h0:0<row.length) :
  ∃ k:Nat,dz_ (plr es D M (t:Int) (a:Int) mem)=some ((k:Int),())∧k<row.length:=by
 unfold dz_
 obtain⟨r,f1,f2⟩:=bf0 (D:=D) (M:=M) (at_:=(a:Int)) h ht hrl hr
 simp only[f1,a0_]
 rcases f2 with ⟨rfl,f2⟩ | ⟨k,rfl,hk⟩
 ·simp only[show decide ((0:Int)≤-1)=false from rfl,a2_]
  obtain⟨r,b1,b2⟩:=back_ok h ht hes hrl hxx hr f1
  simp only[b1,a0_]
  rcases b2 with rfl | ⟨k,rfl,hk⟩
  ·simp only[show decide ((0:Int)≤-1)=false from rfl,a2_]
   have hkn:kn mem (a:Int) ((t % row.length:Nat):Int)=true:=f2.resolve_left (by omega)
   obtain⟨v,hv,hq⟩:=List.any_eq_true.1 hkn
   rw[a1_] at hq
   have e1:v.1=(a:Int):=by have:=hq.1;simp at this;exact this.symm
   obtain⟨e,he,hea,ho⟩:=bu2 (es:=es) (D:=D) (M:=M) (t:=(t:Int)) (at_:=(a:Int)) h ⟨v,hv,e1⟩
   obtain⟨i,k,row',g1,g2,g3,g4⟩:=hV e he
   obtain rfl:i=a:=by omega
   rw[hr] at g3
   obtain rfl:=a6_ g3
   exact⟨k,by simp only[ho,a0_,g2],g4⟩
  ·exact⟨k,by simp only[b5_ (show (0:Int)≤(k:Int) by omega),a5_],hk⟩
 ·exact⟨k,by simp only[b5_ (show (0:Int)≤(k:Int) by omega),a5_],hk⟩
theorem del_ok {es:List (List ad_)} {mem:List (Int×Int)} (hV:VM es mem) (h:mem.length≤1000) (a k:Int):∃ mem',(((((af_ (ρ:=(Unit⊕(Int×Unit))) (λ(v6:(Int×Unit)) =>
 (cond (decide (v6.1<(mem.length:Int)))
 ((at? mem v6.1).bind λv7 =>
 ((at? mem v6.1).bind λv8 =>
 (cond ((v8.1==a)&&(v8.2==k))
 (some (inr (inr (v6.1,()))))
 (some (inl ((w64 (v6.1+1)),()))))))
 (some (inr (inl ()))))) (0,())).bind λv9 =>
 (cd_ v9 (λv10=>(some ((-1),())))
 (λv11=>(some v11))))).bind λv12 =>
 (cond (v12.1==(-1))
 (some ((mem,()),()))
 ((af_ (ρ:=(Int×((List ab_)×Unit))) (λ(v13:(Int×(Int×((List ab_)×Unit)))) =>
 (cond (decide (v13.2.1<(v13.2.2.1.length:Int)))
 ((((at? v13.2.2.1 v13.2.1).bind λv14 =>
 ((at? v13.2.2.1 v13.2.1).bind λv15 =>
 (cond (!((v15.1==a)&&(v15.2==k)))
 ((at? v13.2.2.1 v13.1).bind λv16 =>
 ((at? v13.2.2.1 v13.1).bind λv17 =>
 (some ((w64 (v13.1+1)),((v13.2.2.1.set v13.1.toNat v15),())))))
 (some (v13.1,(v13.2.2.1,()))))))).bind λv18 =>
 (some (inl (v18.1,((w64 (v13.2.1+1)),(v18.2.1,()))))))
 (some (inr (v13.1,(v13.2.2.1,())))))) (v12.1,((w64 (v12.1+1)),(mem,())))).bind λv19 =>
 ((sub? v19.2.1 v19.1 (v19.2.1.length:Int)).bind λv20 =>
 ((sub? ((List.take v19.1.toNat v19.2.1)++(List.replicate (v19.2.1.length - v19.1.toNat) (0,0))) 0 v19.1).bind λv21 =>
 (some ((v21,()),()))))))))=some ((mem',()),())∧VM es mem'∧mem'.length≤mem.length:=by
  obtain⟨n,h1,h2,h3⟩:=bz3 (l:=mem) (show mem.length≤1000000000 by omega) (λv=>v.1==a&&v.2==k) (body:=λ(v6:(Int×Unit)) =>
 (cond (decide (v6.1<(mem.length:Int)))
 ((at? mem v6.1).bind λv7 =>
 ((at? mem v6.1).bind λv8 =>
 (cond ((v8.1==a)&&(v8.2==k))
 (some (inr (inr (v6.1,()))))
 (some (inl ((w64 (v6.1+1)),()))))))
 (some (inr (inl ()))))) (λi y hy=>by
    simp only[dlt (am_ hy),a5_,ah_ hy,a0_]
    cases y.1==a&&y.2==k<;>rfl) (by simp only[dnl,a2_])
  suffices hs:∃ z,(cond (n==(-1)) (some ((mem,()),())) _:Option ((List (Int×Int)×Unit)×Unit))=some z∧∃ mem',z=((mem',()),())∧VM es mem'∧mem'.length≤mem.length by
    obtain⟨z,e1,mem',rfl,e2,e3⟩:=hs
    exact⟨mem',e6_ (congrArg (λo=>Option.bind o _) h1) e1,e2,e3⟩
  rcases h3 with rfl | ⟨i0,rfl,hi0⟩
  · exact⟨_,rfl,mem,rfl,hV,c4_ _⟩
  · rw[show (((i0:Nat):Int)==-1)=false from i9_.2 (by omega)]
    refine jz_ (I:=λ(s:Int×(Int×(List (Int×Int)×Unit)))=>∃ i j:Nat,s.1=(i:Int)∧s.2.1=(j:Int)∧i<j∧j≤mem.length∧s.2.2.1.length=mem.length∧VM es s.2.2.1) (μ:=λs=>mem.length - s.2.1.toNat) ⟨i0,i0+1,rfl,ba_ (show i0≤1000000000 by omega),by omega,by omega,rfl,hV⟩ ?_
    rintro⟨si,sj,m,u⟩ ⟨i,j,rfl,rfl,hij,hjm,hml,hVm⟩
    have hml:m.length=mem.length:=hml
    have hVm:VM es m:=hVm
    have hi1:w64 ((i:Int)+1)=((i+1:Nat):Int):=ba_ (show i≤1000000000 by omega)
    have hj1:w64 ((j:Int)+1)=((j+1:Nat):Int):=ba_ (show j≤1000000000 by omega)
    by_cases hjl:j<m.length
    · have less:mem.length - (w64 ((j:Int)+1)).toNat<mem.length - ((j:Int)).toNat:=by rw[hj1];omega
      obtain⟨y,hy⟩:=bc_ hjl
      obtain⟨z,hz⟩:=bc_ (l:=m) (i:=i) (by omega)
      simp only[dlt hjl,a5_,ah_ hy,a0_]
      cases y.1==a&&y.2==k with
      | true=>exact⟨_,rfl,.inl ⟨_,rfl,⟨i,j+1,rfl,hj1,by omega,by omega,hml,hVm⟩,less⟩⟩
      | false =>
        simp only[g2_,a5_,ah_ hz,a0_,b9_]
        refine⟨_,rfl,.inl ⟨_,rfl,⟨i+1,j+1,hi1,hj1,by omega,by omega,by rw[g1_];exact hml,λe he => ?_⟩,less⟩⟩
        rcases m4_ he with he | rfl
        · exact hVm e he
        · exact hVm e (aw_ hy)
    · obtain rfl:j=m.length:=by omega
      simp only[dnl,a2_]
      refine⟨_,rfl,.inr (nx_ rfl ?_)⟩
      have s1:sub? m (i:Int) (m.length:Int)=some (m.drop i):=by
        unfold sub?
        rw[if_pos ⟨by omega,by omega,j9_ _⟩,b9_,b9_,d2_]
      have s2:sub? (List.take i m++List.replicate (m.length - i) ((0:Int),(0:Int))) 0 (i:Int)=some (List.take i m):=by
        unfold sub?
        rw[if_pos ⟨by omega,by omega,by rw[a8_,c5_,f1_];omega⟩]
        rw[b9_]
        show some (List.drop 0 _)=_
        rw[List.drop_zero,List.take_append_of_le_length (by rw[c5_];omega),List.take_take,Nat.min_self]
      simp only[s1,a0_,b9_,s2]
      exact⟨_,rfl,_,rfl,λe he=>hVm e (k0_ he),by rw[c5_];omega⟩
def Trl (es:List (List ad_)) (D:List Int):Int→List Int→Int→Prop
 | a,[],e=>e=a
 | a,k::l,e=>∃ (i j:Nat) (row:List ad_) (x:ad_),a=(i:Int)∧k=(j:Int)∧es[i]?=some row∧row[j]?=some x∧gi D a≠0∧Trl es D x.2 l e
theorem Trl.snoc {es:List (List ad_)} {D:List Int} {i j:Nat} {row:List ad_} {x:ad_} (h1:es[i]?=some row) (h2:row[j]?=some x) (h3:gi D (i:Int)≠0):∀ (l:List Int) (a:Int),Trl es D a l (i:Int)→Trl es D a (l++[(j:Int)]) x.2
 | [],a,h=>by
  obtain rfl:(i:Int)=a:=h
  exact⟨i,j,row,x,rfl,rfl,h1,h2,h3,rfl⟩
 | k::l,a,h=>by
  obtain⟨i',j',row',x',g1,g2,g3,g4,g5,g6⟩:=h
  exact⟨i',j',row',x',g1,g2,g3,g4,g5,Trl.snoc h1 h2 h3 l x'.2 g6⟩
theorem bq7 {es:List (List ad_)} {D:List Int} {M:Int} {t:Nat} {most:Int} (hD:D.length=es.length) (hes:es.length≤300) (hpos:0<es.length) (hrl:∀ l ∈ es,l.length≤100) (hxx:∀ l ∈ es,∀ x ∈ l,0≤x.2∧x.2<(es.length:Int)) (ht:t≤99) (hM:0≤M∧M≤200) (hmo:most≤2000) :
  ∃ (trail:List Int) (e:Nat),er_ (es,D) (M,(t:Int)) most=some (trail,(gi D (e:Int)==0,()))∧Trl es D 0 trail (e:Int)∧e<es.length∧trail.length≤2000:=by
 unfold er_
 suffices hs:∃ z,_=some z∧∃ (trail:List Int) (e:Nat),z=(trail,(gi D (e:Int)==0,()))∧Trl es D 0 trail (e:Int)∧e<es.length∧trail.length≤2000 by
  obtain⟨z,h1,trail,e,rfl,h2⟩:=hs
  exact⟨trail,e,h1,h2⟩
 refine jz_ (I:=λ(s:List Int×((Int×(List (Int×Int)×Unit))×Unit))=>∃ a:Nat,s.2.1.1=(a:Int)∧a<es.length∧Trl es D 0 s.1 (a:Int)∧VM es s.2.1.2.1∧s.2.1.2.1.length≤200∧s.1.length≤2000) (μ:=λs=>(most - (s.1.length:Int)).toNat) ⟨0,rfl,hpos,rfl,(show VM es [] from λe he=>(by cases he)),h4_ _,h4_ _⟩ ?_
 rintro⟨trail,⟨sa,mem,u1⟩,u2⟩ ⟨a,rfl,hal,hT,hV,hml,htl⟩
 have hT:Trl es D 0 trail (a:Int):=hT
 have hV:VM es mem:=hV
 have hml:mem.length≤200:=hml
 have htl:trail.length≤2000:=htl
 obtain⟨v,hv⟩:=bc_ (l:=D) (i:=a) (by omega)
 obtain⟨row,hrow⟩:=bc_ (l:=es) (i:=a) hal
 have hrm:=aw_ hrow
 have hga:gi D (a:Int)=v:=nz_ (ah_ hv)
 have out:∃ z,(at? D (a:Int)).bind (λv29=>some (trail,((v29==0),())))=some z∧∃ (trail:List Int) (e:Nat),z=(trail,(gi D (e:Int)==0,()))∧Trl es D 0 trail (e:Int)∧e<es.length∧trail.length≤2000:=by
  rw[ah_ hv,a0_]
  exact⟨_,rfl,trail,a,by rw[hga],hT,hal,htl⟩
 simp only[ah_ hv,a0_,ah_ hrow]
 cases hv0:v != 0 with
 | false=>exact⟨_,rfl,.inr (nx_ rfl out)⟩
 | true =>
  simp only[a5_]
  cases hr0:decide ((0:Int)<(row.length:Int)) with
  | false=>exact⟨_,rfl,.inr (nx_ rfl out)⟩
  | true =>
   have hr0:=f0_ hr0
   simp only[a5_,a0_]
   cases hm:decide ((trail.length:Int)<most) with
   | false=>exact⟨_,rfl,.inr (nx_ rfl out)⟩
   | true =>
    have hm:=f0_ hm
    obtain⟨k,hk,hkl⟩:=cc9 (D:=D) (M:=M) (t:=t) (a:=a) (mem:=mem) (show mem.length≤1000000000 by omega) hV ht hes hrl hxx hrow (by omega)
    obtain⟨x,hx⟩:=bc_ hkl
    obtain⟨x0,x1⟩:=hxx row hrm x (aw_ hx)
    obtain⟨j,hj⟩:∃ j:Nat,x.2=(j:Int):=⟨x.2.toNat,by omega⟩
    obtain⟨mem',hd,hV',hml'⟩:=del_ok hV (by omega) (a:Int) (k:Int)
    simp only[a5_,hk,a0_,ci_ (show trail.length≤1000000000 by omega)]
    rw[hd]
    simp only[a0_,ci_ (show mem'.length≤1000000000 by omega)]
    have hV2:VM es (mem'++[((a:Int),(k:Int))]):=λe he=>by
     rcases b2_.1 he with he | he
     ·exact hV' e he
     ·obtain rfl:e=((a:Int),(k:Int)):=by simpa using he
      exact⟨a,k,row,rfl,rfl,hrow,hkl⟩
    obtain⟨m2,e2,hVm,hlm⟩:∃ m2,(cond (decide (M<((mem'++[((a:Int),(k:Int))]).length:Int))) ((sub? (mem'++[((a:Int),(k:Int))]) 1 ((mem'++[((a:Int),(k:Int))]).length:Int)).bind λv24=>(some ((v24,()),()))) (some ((mem'++[((a:Int),(k:Int))],()),())):Option ((List (Int×Int)×Unit)×Unit))=some ((m2,()),())∧VM es m2∧m2.length≤200:=by
     cases hc:decide (M<((mem'++[((a:Int),(k:Int))]).length:Int)) with
     | true =>
      have s1:sub? (mem'++[((a:Int),(k:Int))]) 1 ((mem'++[((a:Int),(k:Int))]).length:Int)=some ((mem'++[((a:Int),(k:Int))]).drop 1):=by
       unfold sub?
       rw[if_pos ⟨by omega,by rw[a8_,c8_];omega,j9_ _⟩,b9_,d2_]
       rfl
      refine⟨(mem'++[((a:Int),(k:Int))]).drop 1,?_,λe he=>hV2 e (o2_ he),?_⟩
      ·rw[a5_,s1];rfl
      ·rw[i7_,a8_,c8_];omega
     | false =>
      have hc:=d1_ hc
      exact⟨_,rfl,hV2,by omega⟩
    rw[e2]
    simp only[a0_,ah_ hx]
    refine⟨_,rfl,.inl ⟨_,rfl,⟨j,hj,by omega,?_,hVm,hlm,by rw[a8_,c8_];omega⟩,?_⟩⟩
    ·rw[← hj]
     exact hT.snoc hrow hx (by rw[hga];simpa using hv0) _ _
    ·show (most - ((trail++[(k:Int)]).length:Int)).toNat<(most - (trail.length:Int)).toNat
     rw[a8_,c8_]
     omega
end
section
set_option maxRecDepth 10000
def mnF (D:List Int) (a:Int) (x:ad_):Int:=cond (gi D x.2 != (-1)) (bl5 a (gi D x.2)) a
theorem mnF_le (D:List Int) (a:Int) (x:ad_):mnF D a x≤a∧(gi D x.2≠-1→mnF D a x≤gi D x.2):=by
 unfold mnF bl5
 cases h:gi D x.2 != (-1) with
 | true=>simp only[a5_];split<;>exact⟨by omega,λ_=>by omega⟩
 | false =>
  have h:gi D x.2 = -1:=by simpa using h
  exact⟨j9_ _,λg=>absurd h g⟩
theorem mn_le (D:List Int):∀ (l:List ad_) (a:Int),l.foldl (mnF D) a≤a∧∀ x ∈ l,gi D x.2≠-1→l.foldl (mnF D) a≤gi D x.2
 | [],a=>⟨j9_ _,λx h=>by cases h⟩
 | y::l,a=>by
  obtain⟨h1,h2⟩:=mn_le D l (mnF D a y)
  obtain⟨g1,g2⟩:=mnF_le D a y
  rw[q0_]
  refine⟨by omega,λx hx hn => ?_⟩
  rcases d8_.1 hx with rfl | hx
  ·have:=g2 hn;omega
  ·exact h2 x hx hn
theorem mn_ge (D:List Int) {k:Int}:∀ (l:List ad_) (a:Int),k≤a→(∀ x ∈ l,gi D x.2≠-1→k≤gi D x.2)→k≤l.foldl (mnF D) a
 | [],a,h,_=>h
 | y::l,a,h,hl=>by
  rw[q0_]
  refine mn_ge D l _ ?_ λx hx=>hl x (c9_ _ hx)
  unfold mnF bl5
  cases hc:gi D y.2 != (-1) with
  | true =>
   have:=hl y (d5_ ..) (by simpa using hc)
   simp only[a5_]
   split<;>omega
  | false=>exact h
theorem mn_id (D:List Int):∀ (l:List ad_) (a:Int),(∀ x ∈ l,gi D x.2 = -1)→l.foldl (mnF D) a=a
 | [],a,_=>rfl
 | y::l,a,hl=>by
  rw[q0_]
  have:mnF D a y=a:=by
   unfold mnF
   rw[hl y (d5_ ..)]
   rfl
  rw[this]
  exact mn_id D l a λx hx=>hl x (c9_ _ hx)
theorem bl4 {es:List (List ad_)} {D:List Int} (hrl:∀ l ∈ es,l.length≤480) (hxx:∀ l ∈ es,∀ x ∈ l,0≤x.2∧x.2<(D.length:Int)) {i:Nat} {row:List ad_} (hr:es[i]?=some row) :
  eg_ (es,D) (i:Int)=some (cond (row.foldl (mnF D) cMx==cMx) (-1) (row.foldl (mnF D) cMx),()):=by
 have hrm:=aw_ hr
 have hl:=hrl row hrm
 unfold eg_
 simp only[ah_ hr,a0_]
 refine of_ex (jz_ (I:=λ(s:Int×(Int×Unit))=>∃ j:Nat,s.2.1=(j:Int)∧j≤row.length∧s.1=(row.take j).foldl (mnF D) cMx) (μ:=λs=>row.length - s.2.1.toNat) ⟨0,rfl,h4_ _,rfl⟩ ?_)
 rintro⟨acc,sj,u⟩ ⟨j,rfl,hj,hacc⟩
 obtain rfl:acc=(row.take j).foldl (mnF D) cMx:=hacc
 have hj1:w64 ((j:Int)+1)=((j+1:Nat):Int):=ba_ (show j≤1000000000 by omega)
 by_cases hjl:j<row.length
 ·obtain⟨x,hx⟩:=bc_ hjl
  obtain⟨x0,x1⟩:=hxx row hrm x (aw_ hx)
  have e:(row.take (j+1)).foldl (mnF D) cMx=mnF D ((row.take j).foldl (mnF D) cMx) x:=by
   rw[sm_ hx,m0_]
   rfl
  have less:row.length - (w64 ((j:Int)+1)).toNat<row.length - ((j:Int)).toNat:=by rw[hj1];omega
  simp only[dlt hjl,a5_,ah_ hx,a0_,us_ x0 x1]
  cases hc:gi D x.2 != (-1) with
  | true =>
   refine⟨_,rfl,.inl ⟨_,rfl,⟨j+1,hj1,hjl,?_⟩,less⟩⟩
   rw[e]
   show bl5 _ _=mnF D _ x
   unfold mnF
   rw[hc]
   rfl
  | false =>
   refine⟨_,rfl,.inl ⟨_,rfl,⟨j+1,hj1,hjl,?_⟩,less⟩⟩
   rw[e]
   show _=mnF D _ x
   unfold mnF
   rw[hc]
   rfl
 ·obtain rfl:j=row.length:=by omega
  simp only[dnl,a2_]
  refine⟨_,rfl,.inr (nx_ rfl ?_)⟩
  rw[d2_]
  show ∃ z,(cond (row.foldl (mnF D) cMx==cMx) (some (-1,())) (some (row.foldl (mnF D) cMx,())):Option (Int×Unit))=some z∧_
  cases row.foldl (mnF D) cMx==cMx<;>exact⟨_,rfl,rfl⟩
theorem near_D {es:List (List ad_)} {fin:Nat→Bool} {D:List Int} (hL:LC es fin D) (hD:∀ (i:Nat) (v:Int),D[i]?=some v→v≤3000) (hxx:∀ l ∈ es,∀ x ∈ l,0≤x.2∧x.2<(D.length:Int)) {i:Nat} {row:List ad_} (hr:es[i]?=some row) {v:Int} (hv:D[i]?=some v) (h0:v≠0) :
  (v = -1∧row.foldl (mnF D) cMx=cMx)∨(row.foldl (mnF D) cMx+1=v∧row.foldl (mnF D) cMx≠cMx∧0≤row.foldl (mnF D) cMx∧v≤3000):=by
 have hrm:=aw_ hr
 have hlo:=hL.lo i v hv
 have hhi:=hD i v hv
 have hval:∀ x ∈ row,∃ w,at? D x.2=some w∧gi D x.2=w∧-1≤w:=λx hx=>by
  obtain⟨x0,x1⟩:=hxx row hrm x hx
  have h:=us_ (l:=D) x0 x1
  obtain⟨j,hj,hjj⟩:=ak8 h
  exact⟨_,h,rfl,hL.lo j _ hjj⟩
 by_cases hneg:v = -1
 ·refine .inl ⟨hneg,mn_id D row cMx λx hx => ?_⟩
  obtain⟨w,h1,h2,h3⟩:=hval x hx
  refine Classical.byContradiction λhc => ?_
  obtain⟨k,hk⟩:∃ k:Nat,w=(k:Int):=⟨w.toNat,by omega⟩
  rw[hk] at h1
  obtain⟨v',g1,g2,_⟩:=hL.up i row x k hr hx h1
  rw[hv] at g1
  have:=a6_ g1
  omega
 ·obtain⟨k,hk⟩:∃ k:Nat,v=((k+1:Nat):Int):=⟨(v - 1).toNat,by omega⟩
  rw[hk] at hv
  obtain⟨l,x,h1,h2,h3⟩:=hL.dn i k hv
  rw[hr] at h1
  obtain rfl:=a6_ h1
  have hgx:gi D x.2=(k:Int):=nz_ h3
  have le1:=(mn_le D row cMx).2 x h2 (by omega)
  have ge1:(k:Int)≤row.foldl (mnF D) cMx:=mn_ge D row cMx (by unfold cMx;omega) λy hy hn=>by
   obtain⟨w,g1,g2,g3⟩:=hval y hy
   obtain⟨j,hj⟩:∃ j:Nat,w=(j:Int):=⟨w.toNat,by omega⟩
   rw[hj] at g1
   obtain⟨v',q1,q2,q3⟩:=hL.up i row y j hr hy g1
   rw[hv] at q1
   have:=a6_ q1
   omega
  rw[hgx] at le1
  have hbig:(3000:Int)<cMx:=by decide
  refine .inr ⟨by omega,by omega,by omega,hhi⟩
theorem bl3 {ps:List aa_} {es:List (List ad_)} {fin:Nat→Bool} {D:List Int} (hL:LC es fin D) (hD:∀ (i:Nat) (v:Int),D[i]?=some v→v≤3000) (h1:es.length=ps.length) (h2:D.length=ps.length) (hp:1≤ps.length) (hn:ps.length≤300) (hrl:∀ l ∈ es,l.length≤480) (hxx:∀ l ∈ es,∀ x ∈ l,0≤x.2∧x.2<(D.length:Int)) :
    (cj_ (ps,es) D=some ((es,D),(0,()))∧∀ l ∈ es,l.length≤100)∨(cj_ (ps,es) D=some ((es,D),(60,()))∧∃ l ∈ es,100<l.length):=by
  suffices hs:∃ z,cj_ (ps,es) D=some z∧((z=((es,D),(0,()))∧∀ l ∈ es,l.length≤100)∨(z=((es,D),(60,()))∧∃ l ∈ es,100<l.length)) by
    obtain⟨z,e,h⟩:=hs
    rcases h with ⟨rfl,h⟩ | ⟨rfl,h⟩
    · exact .inl ⟨e,h⟩
    · exact .inr ⟨e,h⟩
  unfold cj_
  have hw:∀ n:Int,bs_ n 0 (w64 ((ps.length:Int) - 1))=some (decide (0≤n)&&decide (n≤(ps.length:Int) - 1),()):=λn=>by
    unfold bs_
    rw[gv_ (by omega) (by omega)]
    cases decide (0≤n)<;>rfl
  have hw1:bs_ (ps.length:Int) 1 300=some (true,()):=by
    unfold bs_
    rw[b5_ (show (1:Int)≤(ps.length:Int) by omega),b5_ (show (ps.length:Int)≤300 by omega)]
    rfl
  simp only[hw1,a0_,e1_,a2_,h1,h2,e5_,hw]
  refine jz_ (I:=λ(s:Int×(((List (List ad_))×((List Int)×Unit))×Unit))=>∃ i:Nat,s.1=(i:Int)∧i≤ps.length∧∀ l ∈ es.take i,l.length≤100) (μ:=λs=>ps.length - s.1.toNat) ⟨0,rfl,h4_ _,λl hl=>by simp at hl⟩ ?_
  rintro⟨si,⟨⟨c1,c2,c3⟩,c4⟩⟩ ⟨i,rfl,hi,hA⟩
  have hi1:w64 ((i:Int)+1)=((i+1:Nat):Int):=ba_ (show i≤1000000000 by omega)
  by_cases hil:i<ps.length
  · obtain⟨row,hrow⟩:=bc_ (l:=es) (i:=i) (by omega)
    have hrm:=aw_ hrow
    have hl:=hrl row hrm
    have less:ps.length - (w64 ((i:Int)+1)).toNat<ps.length - ((i:Int)).toNat:=by rw[hi1];omega
    simp only[b5_ (show (i:Int)<(ps.length:Int) by omega),a5_,ah_ hrow,a0_]
    cases hc:decide ((100:Int)<(row.length:Int)) with
    | true =>
      have hc:=f0_ hc
      exact⟨_,rfl,.inr ⟨_,_,rfl,rfl,.inr ⟨rfl,row,hrm,by omega⟩⟩⟩
    | false =>
      have hc:=d1_ hc
      have ha:=oo_ (l:=row) (show row.length≤1000000000 by omega) (λx=>!(decide (0≤x.2)&&decide (x.2≤(ps.length:Int) - 1))) (body:=λ(v4:(Int×Unit)) =>
 (cond (decide (v4.1<(row.length:Int)))
 ((at? row v4.1).bind λv5 =>
 (cond (!(decide (0≤v5.2)&&decide (v5.2≤(ps.length:Int) - 1)))
 (some (inr (inr ((decide (0≤v4.1)),()))))
 (some (inl ((w64 (v4.1+1)),())))))
 (some (inr (inl ()))))) (fun j y hy => by
        simp only[dlt (am_ hy),a5_,ah_ hy,a0_]
        cases !(decide (0≤y.2)&&decide (y.2≤(ps.length:Int) - 1))<;>rfl) (by simp only[dnl,a2_])
      have hf:row.any (λx=>!(decide (0≤x.2)&&decide (x.2≤(ps.length:Int) - 1)))=false:=List.any_eq_false.2 λx hx=>by
        obtain⟨x0,x1⟩:=hxx row hrm x hx
        rw[b5_ x0,b5_ (by omega)]
        simp
      rw[hf] at ha
      simp only[a2_]
      refine (λ(h:∃ y,_=some y∧_)=>by
        obtain⟨y,g1,g2⟩:=h
        refine⟨y,?_,g2⟩
        refine e6_ (congrArg (λo=>Option.bind (Option.bind o _) _) ha) ?_
        exact g1) ?_
      refine⟨_,rfl,.inl ⟨_,rfl,⟨i+1,hi1,hil,λl hl' => ?_⟩,less⟩⟩
      rw[sm_ hrow] at hl'
      rcases b2_.1 hl' with h | h
      · exact hA l h
      · obtain rfl:l=row:=by simpa using h
        omega
  · obtain rfl:i=ps.length:=by omega
    simp only[b6_ (show ¬ (ps.length:Int)<(ps.length:Int) by omega),a2_]
    have hA:∀ l ∈ es,l.length≤100:=λl hl=>hA l (by rw[← h1,d2_];exact hl)
    refine⟨_,rfl,.inr (nx_ rfl ?_)⟩
    show ∃ z,(Option.bind (af_ _ _) _)=some z∧_
    refine jz_ (I:=λ(s:Int×(((List (List ad_))×((List Int)×Unit))×Unit))=>∃ i:Nat,s.1=(i:Int)∧i≤ps.length) (μ:=λs=>ps.length - s.1.toNat) ⟨0,rfl,h4_ _⟩ ?_
    rintro⟨si,⟨⟨d1,d2,d3⟩,d4⟩⟩ ⟨i,rfl,hi⟩
    have hi1:w64 ((i:Int)+1)=((i+1:Nat):Int):=ba_ (show i≤1000000000 by omega)
    by_cases hil:i<ps.length
    · obtain⟨row,hrow⟩:=bc_ (l:=es) (i:=i) (by omega)
      obtain⟨v,hv⟩:=bc_ (l:=D) (i:=i) (by omega)
      have less:ps.length - (w64 ((i:Int)+1)).toNat<ps.length - ((i:Int)).toNat:=by rw[hi1];omega
      simp only[b5_ (show (i:Int)<(ps.length:Int) by omega),a5_,ah_ hv,a0_,bl4 hrl hxx hrow]
      cases hv0:v != 0 with
      | false =>
        cases (cond (row.foldl (mnF D) cMx==cMx) (-1) (row.foldl (mnF D) cMx)) != (-1)<;>exact⟨_,rfl,.inl ⟨_,rfl,⟨i+1,hi1,hil⟩,less⟩⟩
      | true =>
        rcases near_D hL hD hxx hrow hv (by simpa using hv0) with ⟨g1,g2⟩ | ⟨g1,g2,g3,g4⟩
        · subst g1
          rw[g2]
          exact⟨_,rfl,.inl ⟨_,rfl,⟨i+1,hi1,hil⟩,less⟩⟩
        · rw[i9_.2 g2]
          simp only[a2_]
          rw[show (row.foldl (mnF D) cMx != (-1))=true from m7_.2 (by omega)]
          simp only[a5_,a0_]
          rw[gv_ (n:=row.foldl (mnF D) cMx+1) (by omega) (by omega),g1]
          simp only[e5_]
          exact⟨_,rfl,.inl ⟨_,rfl,⟨i+1,hi1,hil⟩,less⟩⟩
    · obtain rfl:i=ps.length:=by omega
      simp only[b6_ (show ¬ (ps.length:Int)<(ps.length:Int) by omega),a2_]
      exact⟨_,rfl,.inr ⟨_,_,rfl,rfl,.inl ⟨rfl,hA⟩⟩⟩
end
section
set_option maxRecDepth 10000
theorem Trl.pa {es:List (List ad_)} {D:List Int} (hxx:∀ l ∈ es,∀ x ∈ l,0≤x.2∧x.2<(D.length:Int)) {e:Nat}:∀ (l:List Int) (a:Nat),Trl es D (a:Int) l (e:Int)→∃ xs,Pa es a xs e∧xs.length=l.length
 | [],a,h=>by
  have h:(e:Int)=(a:Int):=h
  obtain rfl:e=a:=by omega
  exact⟨[],rfl,rfl⟩
 | k::l,a,h=>by
  obtain⟨i,j,row,x,h1,h2,h3,h4,h5,h6⟩:=h
  obtain rfl:a=i:=by omega
  have hx:=aw_ h4
  obtain⟨x0,x1⟩:=hxx row (aw_ h3) x hx
  obtain⟨n,hn⟩:∃ n:Nat,x.2=(n:Int):=⟨x.2.toNat,by omega⟩
  rw[hn] at h6
  obtain⟨xs,g1,g2⟩:=Trl.pa hxx l n h6
  exact⟨x::xs,⟨row,h3,hx,n,hn,g1⟩,by simp[g2]⟩
theorem Trl.step {g:ac_} (hge:GE g (exG g).1.1 (exG g).1.2) {D:List Int} (hL:LC (exG g).1.2 (ab9 g (exG g).1.1) D) (hDl:D.length=(exG g).1.1.length) {a:Nat} {p:aa_} (hp:(exG g).1.1[a]?=some p) {k:Int} {l:List Int} {e:Int} (h:Trl (exG g).1.2 D (a:Int) (k::l) e) :
  ∃ (j n:Nat) (row:List ad_) (x:ad_) (q:aa_),k=(j:Int)∧(exG g).1.2[a]?=some row∧row[j]?=some x∧x.2=(n:Int)∧(exG g).1.1[n]?=some q∧stepP g p x.1=some q∧ea_ p.1.1 g.1.2.2.2.2.2.2.2=false∧Trl (exG g).1.2 D (n:Int) l e:=by
 obtain⟨i,j,row,x,h1,h2,h3,h4,h5,h6⟩:=h
 obtain rfl:a=i:=by omega
 obtain⟨p',g1,g2,g3⟩:=hge a row h3
 rw[hp] at g1
 obtain rfl:=a6_ g1
 obtain⟨q,n,q1,q2,q3⟩:=g3 x (aw_ h4)
 obtain⟨v,hv⟩:=bc_ (l:=D) (i:=a) (by have:=am_ hp;omega)
 have hz:=hL.z a v hv
 have hf:ab9 g (exG g).1.1 a=false:=by
  cases hc:ab9 g (exG g).1.1 a with
  | false=>rfl
  | true =>
   rw[nz_ (ah_ hv)] at h5
   exact absurd (hz.2 hc) h5
 rw[ym_ hp] at hf
 exact⟨j,n,row,x,q,h2,h3,h4,q2,q3,q1,hf,by rw[← q2];exact h6⟩
theorem Trl.end {g:ac_} {D:List Int} (hL:LC (exG g).1.2 (ab9 g (exG g).1.1) D) (hDl:D.length=(exG g).1.1.length) {a:Nat} {p:aa_} (hp:(exG g).1.1[a]?=some p):(gi D (a:Int)==0)=ea_ p.1.1 g.1.2.2.2.2.2.2.2:=by
 obtain⟨v,hv⟩:=bc_ (l:=D) (i:=a) (by have:=am_ hp;omega)
 have hz:=hL.z a v hv
 rw[nz_ (ah_ hv),← ym_ hp]
 cases hc:ab9 g (exG g).1.1 a with
 | true=>rw[hz.2 hc];rfl
 | false =>
  refine i9_.2 λe => ?_
  rw[hz.1 e] at hc
  cases hc
end
section
set_option maxRecDepth 10000
theorem af6 {g:ac_} (hg:SmG g):ij_ g=some (exG g):=by
 unfold ij_
 rw[st_ hg,a0_]
theorem dist_eq:gs_=λa0=>(ev_ a0).bind λv0=>cond (v0.2.1 != 0) (cond (v0.2.1 != 0) (some ([],(v0.2.1,()))) none) (meaK a0 v0.1 λv40=>some (v40.1,(0,()))):=by
 kernel_rfl
theorem xm_ {g:ac_} (hg:SmG g):∃ D,gs_ g=some (D,((exG g).2.1,()))∧(((exG g).2.1≠0∧D=[])∨((exG g).2.1=0∧D.length=(exG g).1.1.length∧LC (exG g).1.2 (ab9 g (exG g).1.1) D)):=by
 rw[dist_eq]
 simp only
 rw[st_ hg,a0_]
 cases hE:(exG g).2.1 != 0 with
 | true =>
  rw[m7_] at hE
  exact⟨[],rfl,.inl ⟨hE,rfl⟩⟩
 | false =>
 have hE:(exG g).2.1=0:=by simpa using hE
 obtain⟨h0,hG,hes⟩:=cv8 hg hE
 obtain⟨D,h1,_,h2⟩:=cu5 hg h0 hG hes
 refine⟨D,?_,.inr ⟨hE,h1⟩⟩
 simp only[a2_]
 rw[show (exG g).1=((exG g).1.1,(exG g).1.2) from rfl,h2,hE]
end
end Go.Proofs.YthpilkoeneocmaaGreatDoor.Rx
