/- A part of the proof: what the functions of the program compute, shown over the model. -/
import Derived.KernelRfl
import Derived.Test.YtgeehfnbhbibeaaGreatDoorPart5
set_option linter.unusedSectionVars false
set_option linter.unusedVariables false
set_option linter.unusedSimpArgs false
namespace Go.Proofs.YtgeehfnbhbibeaaGreatDoor.Rx
open Go Pad Rex Sum
section
set_option maxRecDepth 100000
theorem Le.cnd {α:Type} {c:Bool} {x y x' y':Option α} (h:Le x x') (k:Le y y'):Le (cond c x y) (cond c x' y'):=by cases c<;>assumption
theorem Le.sm {σ τ ρ:Type} {o:σ⊕τ} {f f':σ→Option ρ} {g g':τ→Option ρ} (h:∀ s,Le (f s) (f' s)) (k:∀ s,Le (g s) (g' s)):Le (ca_ o f g) (ca_ o f' g'):=by
 cases o with
 | inl s=>exact h s
 | inr s=>exact k s
def itC {σ ρ:Type} (body:σ→Option (σ⊕ρ)) (s:σ):Option ρ:=fk_ body 400 s
theorem Le.itC {σ ρ:Type} {f g:σ→Option (σ⊕ρ)} (h:∀ s,Le (f s) (g s)) (s:σ):Le (itC f s) (af_ g s):=Le.while_ h _ s
noncomputable def jx_ (a0:(List Int)) (a1:(List Int)):Option (Bool×Unit) :=
  (cond ((a0.length:Int) != (a1.length:Int))
 (some (false,()))
 ((itC (ρ:=(Unit⊕(Bool×Unit))) (λ(v0:(Int×Unit)) =>
 (cond (decide (v0.1<(a0.length:Int)))
 ((at? a0 v0.1).bind λv1 =>
 ((at? a1 v0.1).bind λv2 =>
 (cond (v1 != v2)
 (some (inr (inr (false,()))))
 (some (inl ((w64 (v0.1+1)),()))))))
 (some (inr (inl ()))))) (0,())).bind λv3 =>
 (ca_ v3 (λv4=>(some (true,())))
 (λv5=>(some v5)))))
theorem rx_ (a0:(List Int)) (a1:(List Int)):Le (jx_ a0 a1) (db_ a0 a1):=by
 unfold jx_ db_
 repeat' first | with_reducible exact Le.refl _ | (with_reducible apply Le.bind) | (with_reducible apply Le.cnd) | (with_reducible apply Le.sm) | (with_reducible apply Le.itC) | intro
noncomputable def lo_:Option (aw_×(List Int)×Unit) :=
  ((itC (ρ:=(((List (List ae_))×Unit)×Unit)) (λ(v0:(Int×(((List (List ae_))×Unit)×Unit))) =>
 (cond (decide (v0.1<(([[1,2],[0,3],[0],[4,1],[]]:List (List Int)).length:Int)))
 ((itC (ρ:=((List ae_)×Unit)) (λ(v1:((List ae_)×(Int×Unit))) =>
 ((at? ([[1,2],[0,3],[0],[4,1],[]]:List (List Int)) v0.1).bind λv2 =>
 ((at? ([[1,2],[0,3],[0],[4,1],[]]:List (List Int)) v0.1).bind λv3 =>
 (cond (decide (v1.2.1<(v3.length:Int)))
 ((at? ([[1,2],[0,3],[0],[4,1],[]]:List (List Int)) v0.1).bind λv4 =>
 ((at? ([[1,2],[0,3],[0],[4,1],[]]:List (List Int)) v0.1).bind λv5 =>
 ((at? v5 v1.2.1).bind λv6 =>
 ((push? (α:=ae_) v1.1 [((0,(0,0)),v6)]).bind λv7 =>
 (some (inl (v7,((w64 (v1.2.1+1)),()))))))))
 (some (inr (v1.1,()))))))) ([],(0,()))).bind λv8 =>
 ((push? (α:=(List ae_)) v0.2.1.1 ([v8.1]:List (List ae_))).bind λv9 =>
 (some (inl ((w64 (v0.1+1)),((v9,()),()))))))
 (some (inr ((v0.2.1.1,()),()))))) (0,(([],()),()))).bind λv10 =>
 (some (((List.replicate (([[1,2],[0,3],[0],[4,1],[]]:List (List Int)).length:Int).toNat (([],([],[])),[])),v10.1.1),([3,2,4,1,0],()))))
theorem ti_:Le (lo_) (ii_):=by
 unfold lo_ ii_
 repeat' first | with_reducible exact Le.refl _ | (with_reducible apply Le.bind) | (with_reducible apply Le.cnd) | (with_reducible apply Le.sm) | (with_reducible apply Le.itC) | intro
noncomputable def fy_ (a0:bd_) (a1:Int):Option (Int×Unit) :=
  ((at? a0.1 a1).bind λv0 =>
 ((itC (ρ:=(Int×Unit)) (λ(v1:(Int×(Int×Unit))) =>
 (cond (decide (v1.2.1<(v0.length:Int)))
 ((((at? v0 v1.2.1).bind λv2 =>
 ((at? a0.2 v2.2).bind λv3 =>
 (cond (v3 != (-1))
 (some ((cm7 v1.1 v3),()))
 (some (v1.1,())))))).bind λv4 =>
 (some (inl (v4.1,((w64 (v1.2.1+1)),())))))
 (some (inr (v1.1,()))))) (1099511627776,(0,()))).bind λv5 =>
 (cond (v5.1==1099511627776)
 (some ((-1),()))
 (some (v5.1,())))))
theorem nk_ (a0:bd_) (a1:Int):Le (fy_ a0 a1) (dz_ a0 a1):=by
 unfold fy_ dz_
 repeat' first | with_reducible exact Le.refl _ | (with_reducible apply Le.bind) | (with_reducible apply Le.cnd) | (with_reducible apply Le.sm) | (with_reducible apply Le.itC) | intro
noncomputable def hk_ (a0:(List ab_)) (a1:ab_):Option (Int×Unit) :=
  ((itC (ρ:=(Unit⊕(Int×Unit))) (λ(v0:(Int×Unit)) =>
 (cond (decide (v0.1<(a0.length:Int)))
 ((at? a0 v0.1).bind λv1 =>
 (cond ((a1.1==v1.1)&&(a1.2==v1.2))
 (some (inr (inr (v0.1,()))))
 (some (inl ((w64 (v0.1+1)),())))))
 (some (inr (inl ()))))) (0,())).bind λv2 =>
 (ca_ v2 (λv3=>(some ((-1),())))
 (λv4=>(some v4))))
theorem om_ (a0:(List ab_)) (a1:ab_):Le (hk_ a0 a1) (er_ a0 a1):=by
 unfold hk_ er_
 repeat' first | with_reducible exact Le.refl _ | (with_reducible apply Le.bind) | (with_reducible apply Le.cnd) | (with_reducible apply Le.sm) | (with_reducible apply Le.itC) | intro
noncomputable def hl_ (a0:bd_):Option (Int×Unit) :=
  ((itC (ρ:=(Int×Unit)) (λ(v0:(Int×(Int×Unit))) =>
 (cond (decide (v0.2.1<(a0.1.length:Int)))
 ((at? a0.1 v0.2.1).bind λv1 =>
 (some (inl ((maxI v0.1 (v1.length:Int)),((w64 (v0.2.1+1)),())))))
 (some (inr (v0.1,()))))) (1,(0,()))).bind λv2 =>
 (some (v2.1,())))
theorem on_ (a0:bd_):Le (hl_ a0) (es_ a0):=by
 unfold hl_ es_
 repeat' first | with_reducible exact Le.refl _ | (with_reducible apply Le.bind) | (with_reducible apply Le.cnd) | (with_reducible apply Le.sm) | (with_reducible apply Le.itC) | intro
noncomputable def jw_ (a0:Int) (a1:Int):Option (Int×Unit) :=
  ((itC (ρ:=(Int×Unit)) (λ(v0:(Int×(Int×Unit))) =>
 (cond (decide (0<v0.2.1))
 ((md v0.1 v0.2.1).bind λv1 =>
 (some (inl (v0.2.1,(v1,())))))
 (some (inr (v0.1,()))))) (a0,(a1,()))).bind λv2 =>
 (some (v2.1,())))
theorem rw_ (a0:Int) (a1:Int):Le (jw_ a0 a1) (gz_ a0 a1):=by
 unfold jw_ gz_
 repeat' first | with_reducible exact Le.refl _ | (with_reducible apply Le.bind) | (with_reducible apply Le.cnd) | (with_reducible apply Le.sm) | (with_reducible apply Le.itC) | intro
noncomputable def jv_ (a0:aw_) (a1:(List Int)):Option (bd_×Int×Unit) :=
  ((((bz_ (a0.1.length:Int) 1 300).bind λv0 =>
 (cond (!v0.1)
 (some (true,()))
 (cond ((a0.2.length:Int) != (a0.1.length:Int))
 (some (true,()))
 (some (((a1.length:Int) != (a0.1.length:Int)),())))))).bind λv1 =>
 (cond v1.1
 (some ((a0.2,a1),(60,())))
 ((itC (ρ:=((((List (List ae_))×((List Int)×Unit))×Unit)⊕(bd_×(Int×Unit)))) (λ(v2:(Int×(((List (List ae_))×((List Int)×Unit))×Unit))) =>
 (cond (decide (v2.1<(a0.2.length:Int)))
 ((at? a0.2 v2.1).bind λv3 =>
 (((cond (decide (100<(v3.length:Int)))
 (some (true,()))
 ((((itC (ρ:=(Unit⊕(Bool×Unit))) (λ(v4:(Int×Unit)) =>
 (cond (decide (v4.1<(v3.length:Int)))
 ((at? v3 v4.1).bind λv5 =>
 ((bz_ v5.2 0 (w64 ((a0.1.length:Int) - 1))).bind λv6 =>
 (cond (!v6.1)
 (some (inr (inr ((decide (0≤v4.1)),()))))
 (some (inl ((w64 (v4.1+1)),()))))))
 (some (inr (inl ()))))) (0,())).bind λv7 =>
 (ca_ v7 (λv8=>(some ((decide (0≤(-1))),())))
 (λv9=>(some v9))))).bind λv10 =>
 (some (v10.1,()))))).bind λv11 =>
 (cond v11.1
 (some (inr (inr ((a0.2,a1),(60,())))))
 (some (inl ((w64 (v2.1+1)),((v2.2.1.1,(v2.2.1.2.1,())),())))))))
 (some (inr (inl ((v2.2.1.1,(v2.2.1.2.1,())),())))))) (0,(([],([],())),()))).bind λv12 =>
 (ca_ v12 (λv13=>((itC (ρ:=((((List (List ae_))×((List Int)×Unit))×Unit)⊕(bd_×(Int×Unit)))) (λ(v15:(Int×(((List (List ae_))×((List Int)×Unit))×Unit))) =>
 (cond (decide (v15.1<(a1.length:Int)))
 ((at? a1 v15.1).bind λv16 =>
 ((fy_ (a0.2,a1) v15.1).bind λv17 =>
 (((cond (v17.1 != (-1))
 (some ((w64 (v17.1+1)),()))
 (some (v17.1,())))).bind λv18 =>
 (((cond (v16 != 0)
 (some ((v16 != v18.1),()))
 (some (false,())))).bind λv19 =>
 (cond v19.1
 (some (inr (inr ((a0.2,a1),(60,())))))
 (some (inl ((w64 (v15.1+1)),((v15.2.1.1,(v15.2.1.2.1,())),())))))))))
 (some (inr (inl ((v15.2.1.1,(v15.2.1.2.1,())),())))))) (0,((v13.1.1,(v13.1.2.1,())),()))).bind λv20 =>
 (ca_ v20 (λv21=>(some ((a0.2,a1),(0,()))))
 (λv22=>(some v22)))))
 (λv14=>(some v14))))))
theorem rv_ (a0:aw_) (a1:(List Int)):Le (jv_ a0 a1) (gy_ a0 a1):=by
 unfold jv_ gy_
 repeat' first | with_reducible exact Le.refl _ | (with_reducible apply Le.bind) | (with_reducible apply Le.cnd) | (with_reducible apply Le.sm) | (with_reducible apply Le.itC) | (with_reducible apply nk_) | intro
noncomputable def cp_ (a0:(List ab_)) (a1:ab_):Option (Bool×Unit) :=
  ((hk_ a0 a1).bind λv0 =>
 (some ((decide (0≤v0.1)),())))
theorem mu_ (a0:(List ab_)) (a1:ab_):Le (cp_ a0 a1) (ch_ a0 a1):=by
 unfold cp_ ch_
 repeat' first | with_reducible exact Le.refl _ | (with_reducible apply Le.bind) | (with_reducible apply Le.cnd) | (with_reducible apply Le.sm) | (with_reducible apply Le.itC) | (with_reducible apply om_) | intro
noncomputable def fi_ (a0:aw_) (a1:(List Int)) (a2:ab_) (a3:Int):Option (bd_×Int×Unit) :=
  ((jv_ a0 a1).bind λv0 =>
 (cond (v0.2.1 != 0)
 (some (v0.1,(v0.2.1,())))
 ((((bz_ a2.1 0 200).bind λv1 =>
 (cond (!v1.1)
 (some (true,()))
 ((bz_ a2.2 0 99).bind λv2 =>
 (cond (!v2.1)
 (some (true,()))
 ((bz_ a3 0 2000).bind λv3 =>
 (some ((!v3.1),())))))))).bind λv4 =>
 (cond v4.1
 (some (v0.1,(1,())))
 (some (v0.1,(0,())))))))
theorem jo_ (a0:aw_) (a1:(List Int)) (a2:ab_) (a3:Int):Le (fi_ a0 a1 a2 a3) (ea_ a0 a1 a2 a3):=by
 unfold fi_ ea_
 repeat' first | with_reducible exact Le.refl _ | (with_reducible apply Le.bind) | (with_reducible apply Le.cnd) | (with_reducible apply Le.sm) | (with_reducible apply Le.itC) | (with_reducible apply rv_) | intro
noncomputable def eg_ (a0:bd_) (a1:ab_) (a2:Int):Option ((List Int)×Bool×Unit) :=
  ((itC (ρ:=((List Int)×((Int×((List ab_)×Unit))×Unit))) (λ(v0:((List Int)×((Int×((List ab_)×Unit))×Unit))) =>
 ((((at? a0.2 v0.2.1.1).bind λv1 =>
 (cond (v1 != 0)
 ((at? a0.1 v0.2.1.1).bind λv2 =>
 (cond (decide (0<(v2.length:Int)))
 (some ((decide ((v0.1.length:Int)<a2)),()))
 (some (false,()))))
 (some (false,()))))).bind λv3 =>
 (cond v3.1
 ((((((at? a0.1 v0.2.1.1).bind λv4 =>
 ((itC (ρ:=(Unit⊕(Int×Unit))) (λ(v5:(Int×Unit)) =>
 (cond (decide (v5.1<(v4.length:Int)))
 ((md a1.2 (v4.length:Int)).bind λv6 =>
 ((md (w64 (v6+v5.1)) (v4.length:Int)).bind λv7 =>
 ((cp_ v0.2.1.2.1 (v0.2.1.1,v7)).bind λv8 =>
 (cond (!v8.1)
 (some (inr (inr (v7,()))))
 (some (inl ((w64 (v5.1+1)),())))))))
 (some (inr (inl ()))))) (0,())).bind λv9 =>
 (ca_ v9 (λv10=>(some ((-1),())))
 (λv11=>(some v11)))))).bind λv12 =>
 (cond (decide (0≤v12.1))
 (some (v12.1,()))
 ((itC (ρ:=((List ah_)×Unit)) (λ(v13:((List Int)×((List ah_)×Unit))) =>
 (cond (decide (0<(v13.1.length:Int)))
 ((at? v13.1 0).bind λv14 =>
 ((at? v13.1 0).bind λv15 =>
 ((at? a0.1 v15).bind λv16 =>
 ((itC (ρ:=((List Int)×((List ah_)×Unit))) (λ(v17:((List Int)×(Int×((List ah_)×Unit)))) =>
 (cond (decide (v17.2.1<(v16.length:Int)))
 ((((at? v16 v17.2.1).bind λv18 =>
 ((cp_ v0.2.1.2.1 (v15,v17.2.1)).bind λv19 =>
 (cond (!v19.1)
 (some (v17.1,(v17.2.2.1,())))
 (((cond (v15==v0.2.1.1)
 (some ((v17.2.1,()),()))
 (some (((de_ (0,0) v17.2.2.1 v15).2,()),())))).bind λv20 =>
 (((cond (!(ag8 v17.2.2.1 v18.2))
 ((push? (α:=Int) v17.1 [v18.2]).bind λv21 =>
 (some (v21,())))
 (some (v17.1,())))).bind λv22 =>
 (((cond (!(ag8 v17.2.2.1 v18.2))
 (some (true,()))
 (cond ((de_ (0,0) v17.2.2.1 v18.2).1==(w64 ((de_ (0,0) v17.2.2.1 v15).1+1)))
 (some ((decide (v20.1.1<(de_ (0,0) v17.2.2.1 v18.2).2)),()))
 (some (false,()))))).bind λv23 =>
 (cond v23.1
 (some (v22.1,((iq_ v17.2.2.1 v18.2 ((w64 ((de_ (0,0) v17.2.2.1 v15).1+1)),v20.1.1)),())))
 (some (v22.1,(v17.2.2.1,()))))))))))).bind λv24 =>
 (some (inl (v24.1,((w64 (v17.2.1+1)),(v24.2.1,()))))))
 (some (inr (v17.1,(v17.2.2.1,())))))) (v13.1,(0,(v13.2.1,())))).bind λv25 =>
 ((sub? v25.1 1 (v25.1.length:Int)).bind λv26 =>
 (some (inl (v26,(v25.2.1,())))))))))
 (some (inr (v13.2.1,()))))) ([v0.2.1.1],((iq_ [] v0.2.1.1 (0,(-1))),()))).bind λv27 =>
 ((itC (ρ:=(Int×Unit)) (λ(v28:(Int×(Int×(Int×Unit)))) =>
 (cond (decide (v28.2.2.1<(a0.1.length:Int)))
 (((((cond (ag8 v27.1 v28.2.2.1)
 ((at? a0.1 v28.2.2.1).bind λv29 =>
 ((itC (ρ:=(Unit⊕(Bool×Unit))) (λ(v30:(Int×Unit)) =>
 (cond (decide (v30.1<(v29.length:Int)))
 ((md a1.2 (v29.length:Int)).bind λv31 =>
 ((md (w64 (v31+v30.1)) (v29.length:Int)).bind λv32 =>
 ((cp_ v0.2.1.2.1 (v28.2.2.1,v32)).bind λv33 =>
 (cond (!v33.1)
 (((cond (decide (0≤v32))
 (cond (decide (v28.1<0))
 (some (true,()))
 (some ((decide ((de_ (0,0) v27.1 v28.2.2.1).1<v28.1)),())))
 (some (false,())))).bind λv34 =>
 (some (inr (inr v34))))
 (some (inl ((w64 (v30.1+1)),())))))))
 (some (inr (inl ()))))) (0,())).bind λv35 =>
 (ca_ v35 (λv36=>(some (false,())))
 (λv37=>(some v37)))))
 (some (false,())))).bind λv38 =>
 (cond v38.1
 (some ((de_ (0,0) v27.1 v28.2.2.1).1,((de_ (0,0) v27.1 v28.2.2.1).2,())))
 (some (v28.1,(v28.2.1,())))))).bind λv39 =>
 (some (inl (v39.1,(v39.2.1,((w64 (v28.2.2.1+1)),()))))))
 (some (inr (v28.2.1,()))))) ((-1),((-1),(0,())))).bind λv40 =>
 (cond (decide (0≤v40.1))
 (some (v40.1,()))
 none)))))).bind λv41 =>
 ((push? (α:=Int) v0.1 [v41.1]).bind λv42 =>
 ((((((itC (ρ:=(Unit⊕(Int×Unit))) (λ(v43:(Int×Unit)) =>
 (cond (decide (v43.1<(v0.2.1.2.1.length:Int)))
 ((at? v0.2.1.2.1 v43.1).bind λv44 =>
 ((at? v0.2.1.2.1 v43.1).bind λv45 =>
 (cond ((v45.1==v0.2.1.1)&&(v45.2==v41.1))
 (some (inr (inr (v43.1,()))))
 (some (inl ((w64 (v43.1+1)),()))))))
 (some (inr (inl ()))))) (0,())).bind λv46 =>
 (ca_ v46 (λv47=>(some ((-1),())))
 (λv48=>(some v48))))).bind λv49 =>
 (cond (v49.1==(-1))
 (some ((v0.2.1.2.1,()),()))
 ((itC (ρ:=(Int×((List ab_)×Unit))) (λ(v50:(Int×(Int×((List ab_)×Unit)))) =>
 (cond (decide (v50.2.1<(v50.2.2.1.length:Int)))
 ((((at? v50.2.2.1 v50.2.1).bind λv51 =>
 ((at? v50.2.2.1 v50.2.1).bind λv52 =>
 (cond (!((v52.1==v0.2.1.1)&&(v52.2==v41.1)))
 ((at? v50.2.2.1 v50.1).bind λv53 =>
 ((at? v50.2.2.1 v50.1).bind λv54 =>
 (some ((w64 (v50.1+1)),((v50.2.2.1.set v50.1.toNat v52),())))))
 (some (v50.1,(v50.2.2.1,()))))))).bind λv55 =>
 (some (inl (v55.1,((w64 (v50.2.1+1)),(v55.2.1,()))))))
 (some (inr (v50.1,(v50.2.2.1,())))))) (v49.1,((w64 (v49.1+1)),(v0.2.1.2.1,())))).bind λv56 =>
 ((sub? v56.2.1 v56.1 (v56.2.1.length:Int)).bind λv57 =>
 ((sub? ((List.take v56.1.toNat v56.2.1)++(List.replicate (v56.2.1.length - v56.1.toNat) (0,0))) 0 v56.1).bind λv58 =>
 (some ((v58,()),())))))))).bind λv59 =>
 ((push? (α:=ab_) v59.1.1 [(v0.2.1.1,v41.1)]).bind λv60 =>
 (((cond (decide (a1.1<(v60.length:Int)))
 ((sub? v60 1 (v60.length:Int)).bind λv61 =>
 (some ((v61,()),())))
 (some ((v60,()),())))).bind λv62 =>
 ((at? a0.1 v0.2.1.1).bind λv63 =>
 ((at? v63 v41.1).bind λv64 =>
 (some (inl (v42,((v64.2,(v62.1.1,())),())))))))))))
 (some (inr (v0.1,((v0.2.1.1,(v0.2.1.2.1,())),()))))))) ([],((0,([],())),()))).bind λv65 =>
 ((at? a0.2 v65.2.1.1).bind λv66 =>
 (some (v65.1,((v66==0),())))))
theorem im_ (a0:bd_) (a1:ab_) (a2:Int):Le (eg_ a0 a1 a2) (dc_ a0 a1 a2):=by
 unfold eg_ dc_
 repeat' first | with_reducible exact Le.refl _ | (with_reducible apply Le.bind) | (with_reducible apply Le.cnd) | (with_reducible apply Le.sm) | (with_reducible apply Le.itC) | (with_reducible apply mu_) | intro
noncomputable def ln_ (a0:aw_) (a1:(List Int)) (a2:ab_) (a3:Int):Option ((List Int)×Bool×Int×Unit) :=
  ((fi_ a0 a1 a2 a3).bind λv0 =>
 (cond (v0.2.1 != 0)
 (some ([],(false,(v0.2.1,()))))
 ((eg_ v0.1 a2 a3).bind λv1 =>
 (some (v1.1,(v1.2.1,(0,())))))))
theorem tg_ (a0:aw_) (a1:(List Int)) (a2:ab_) (a3:Int):Le (ln_ a0 a1 a2 a3) (ic_ a0 a1 a2 a3):=by
 unfold ln_ ic_
 repeat' first | with_reducible exact Le.refl _ | (with_reducible apply Le.bind) | (with_reducible apply Le.cnd) | (with_reducible apply Le.sm) | (with_reducible apply Le.itC) | (with_reducible apply jo_) | (with_reducible apply im_) | intro
noncomputable def hm_ (a0:bd_) (a1:Int) (a2:Int):Option ((List Int)×Bool×Unit) :=
  ((hl_ a0).bind λv0 =>
 ((itC (ρ:=(((List Int)×Unit)⊕((List Int)×(Bool×Unit)))) (λ(v1:((List Int)×(Int×Unit))) =>
 (cond (decide (v1.2.1<v0.1))
 ((eg_ a0 (a1,v1.2.1) a2).bind λv2 =>
 (cond (!v2.2.1)
 (some (inr (inr ([],(false,())))))
 ((push? (α:=Int) v1.1 [(v2.1.length:Int)]).bind λv3 =>
 (some (inl (v3,((w64 (v1.2.1+1)),())))))))
 (some (inr (inl (v1.1,())))))) ([],(0,()))).bind λv4 =>
 (ca_ v4 (λv5=>(some (v5.1,(true,()))))
 (λv6=>(some v6)))))
theorem oo_ (a0:bd_) (a1:Int) (a2:Int):Le (hm_ a0 a1 a2) (et_ a0 a1 a2):=by
 unfold hm_ et_
 repeat' first | with_reducible exact Le.refl _ | (with_reducible apply Le.bind) | (with_reducible apply Le.cnd) | (with_reducible apply Le.sm) | (with_reducible apply Le.itC) | (with_reducible apply on_) | (with_reducible apply im_) | intro
noncomputable def oh_ (a0:aw_) (a1:(List Int)) (a2:Int) (a3:Int):Option (Int×Int×Int×Unit) :=
  ((fi_ a0 a1 (a2,0) a3).bind λv0 =>
 (cond (v0.2.1 != 0)
 (some (0,(0,(v0.2.1,()))))
 ((hm_ v0.1 a2 a3).bind λv1 =>
 (cond (!v1.2.1)
 (some (0,(0,(3,()))))
 ((itC (ρ:=(Int×Unit)) (λ(v2:(Int×(Int×Unit))) =>
 (cond (decide (v2.2.1<(v1.1.length:Int)))
 ((at? v1.1 v2.2.1).bind λv3 =>
 (some (inl ((w64 (v2.1+v3)),((w64 (v2.2.1+1)),())))))
 (some (inr (v2.1,()))))) (0,(0,()))).bind λv4 =>
 ((jw_ v4.1 (v1.1.length:Int)).bind λv5 =>
 ((dv v4.1 v5.1).bind λv6 =>
 ((dv (v1.1.length:Int) v5.1).bind λv7 =>
 (some (v6,(v7,(0,()))))))))))))
theorem vv_ (a0:aw_) (a1:(List Int)) (a2:Int) (a3:Int):Le (oh_ a0 a1 a2 a3) (kf_ a0 a1 a2 a3):=by
 unfold oh_ kf_
 repeat' first | with_reducible exact Le.refl _ | (with_reducible apply Le.bind) | (with_reducible apply Le.cnd) | (with_reducible apply Le.sm) | (with_reducible apply Le.itC) | (with_reducible apply rw_) | (with_reducible apply jo_) | (with_reducible apply oo_) | intro
noncomputable def th_:Option (Bool×Unit) :=
  ((lo_).bind λv0 =>
 ((ln_ v0.1 v0.2.1 (10,0) 100).bind λv1 =>
 ((oh_ v0.1 v0.2.1 10 100).bind λv2 =>
 (cond (v1.2.2.1==0)
 (cond (v2.2.2.1==0)
 (cond v1.2.1
 ((jx_ v1.1 [0,0,1,0,0,1,0]).bind λv3 =>
 (cond v3.1
 (cond (v2.1==8)
 (some ((v2.2.1==1),()))
 (some (false,())))
 (some (false,()))))
 (some (false,())))
 (some (false,())))
 (some (false,()))))))
theorem vw_:Le (th_) (gi_):=by
 unfold th_ gi_
 repeat' first | with_reducible exact Le.refl _ | (with_reducible apply Le.bind) | (with_reducible apply Le.cnd) | (with_reducible apply Le.sm) | (with_reducible apply Le.itC) | (with_reducible apply rx_) | (with_reducible apply ti_) | (with_reducible apply tg_) | (with_reducible apply vv_) | intro
theorem yb_:gi_=some (true,()):=vw_ _ (by kernel_rfl)
end
section
set_option maxRecDepth 10000
theorem bi4 {l:List Int} (h:Sm l.length):db_ l l=some (true,()):=by
 unfold db_
 simp only[h0_,a2_]
 refine kq_ l.length (λi=>((i:Int),())) rfl (λi hi => ?_) (by simp only[dnl,a2_];rfl) rfl
 obtain⟨x,hx⟩:=bf_ hi
 simp only[dlt hi,a5_,ai_ hx,a0_,h0_,a2_,bb_ (show Sm i by unfold Sm at h ⊢; omega)]
theorem bv8 {g:ac_} (hg:SmG g):∃ (x:aw_) (d:List Int) (e:Int),mc_ g=some (x,(d,(e,())))∧nw_ g=some (x,(d,(e,())))∧d.length≤3000∧x.2.length≤3000∧∀ l ∈ x.2,l.length≤480:=by
 obtain⟨D,e1,e2,hD⟩:=zs_ hg
 unfold mc_ nw_
 rw[af4 hg,a0_,nq_ hg,a0_,e1,e2]
 cases hE:(exG g).2.1 != 0 with
 | true=>exact⟨([],[]),[],(exG g).2.1,rfl,rfl,k4_ _,k4_ _,λl hl=>by cases hl⟩
 | false =>
  have hz:(exG g).2.1=0:=by simpa using hE
  obtain⟨h0,hG,hes⟩:=bf1 hg hz
  simp only[a2_,a0_]
  cases decide (300<((exG g).1.1.length:Int)) with
  | true=>exact⟨([],[]),[],2,rfl,rfl,k4_ _,k4_ _,λl hl=>by cases hl⟩
  | false =>
   refine⟨(exG g).1,D,0,?_,rfl,hD,by have:=hG.pI.n;omega,hG.eL⟩
   simp only[a2_,hz,h0_]
theorem law06_SearchGames (g:ac_):hi_ g=some (true,()):=by
 obtain⟨b,e,hb⟩:=aw9 g
 unfold hi_
 rw[e,a0_]
 cases b with
 | true=>simp only[a5_,yb_,a0_]
 | false =>
 have hg:=hb rfl
 obtain⟨x,d,e,h1,h2,h3,h4,h5⟩:=bv8 hg
 simp only[a2_]
 rw[h1,a0_,h2,a0_]
 simp only[h0_,a2_,bi4 (show Sm d.length by show _≤1000000000;omega),a0_,e2_]
 refine kq_ x.2.length (λi=>((i:Int),())) rfl (λi hi => ?_) (by simp only[dnl,a2_];rfl) (by simp only[ca_,yb_,a0_])
 obtain⟨row,hr⟩:=bf_ hi
 have hrl:=h5 row (bh_ hr)
 simp only[dlt hi,a5_,ai_ hr,a0_,h0_,a2_]
 refine kq_ (r:=inl ()) row.length (λk=>((k:Int),())) rfl (λk hk => ?_) ?_ ?_
 ·obtain⟨y,hy⟩:=bf_ hk
  simp only[dlt hk,a5_,ai_ hy,a0_,d4_,h1_,e2_,a2_,bb_ (show Sm k by show _≤1000000000;omega)]
 ·simp only[dnl,a2_]
 ·simp only[ca_,bb_ (show Sm i by show _≤1000000000;omega)]
end
end Go.Proofs.YtgeehfnbhbibeaaGreatDoor.Rx
