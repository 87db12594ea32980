/- A part of the proof: what the functions of the program compute, shown over the model. -/
import Derived.Test.YtlbfbdbagohinaaGreatDoorPart4
set_option linter.unusedSectionVars false
set_option linter.unusedVariables false
set_option linter.unusedSimpArgs false
namespace Go.Proofs.YtlbfbdbagohinaaGreatDoor.Rx
open Go Pad Rex Sum
section
set_option maxRecDepth 100000
theorem Le.cnd {α:Type} {c:Bool} {x y x' y':Option α} (h:Le x x') (k:Le y y'):Le (cond c x y) (cond c x' y'):=by cases c<;>assumption
theorem Le.sm {σ τ ρ:Type} {o:σ⊕τ} {f f':σ→Option ρ} {g g':τ→Option ρ} (h:∀ s,Le (f s) (f' s)) (k:∀ s,Le (g s) (g' s)):Le (bl_ o f g) (bl_ o f' g'):=by
 cases o with
 | inl s=>exact h s
 | inr s=>exact k s
def itC {σ ρ:Type} (body:σ→Option (σ⊕ρ)) (s:σ):Option ρ:=el_ body 60 s
theorem Le.itC {σ ρ:Type} {f g:σ→Option (σ⊕ρ)} (h:∀ s,Le (f s) (g s)) (s:σ):Le (itC f s) (ad_ g s):=Le.while_ h _ s
theorem Le.atD {α R:Type} {b:Bool} {l:List α} {i:Int} {K K':α→Option R} (h:∀ x,Le (K x) (K' x)):Le (atD b l i K) (atD b l i K'):=by
 unfold Go.Proofs.YtlbfbdbagohinaaGreatDoor.Rx.atD
 exact Le.cnd (Le.bind (Le.refl _) λ_=>Le.bind (Le.refl _) h) (Le.bind (Le.refl _) h)
noncomputable def c_wlE {β Y:Type} (b:Bool) (ts:List ck_) (al:List (List (List Int))) (y:List Int→β→Option (β×Unit)) (ret:β→List Int→Y) (f:β) (w:List Int):Option Y :=
 ((itC (ρ:=(Unit⊕Y)) (λ(v8:(Int×Unit)) =>
 (cond (decide (v8.1<(ts.length:Int)))
 ((at? ts v8.1).bind λv9 =>
 (atD b al v9.1 λv10 =>
 ((at? w v9.1).bind λv11 =>
 ((at? w v9.1).bind λv12 =>
 ((at? v10 v12).bind λv13 =>
 ((at? v13 v9.2.1).bind λv14 =>
 (atD b al v9.2.2.1 λv15 =>
 ((at? w v9.2.2.1).bind λv16 =>
 ((at? w v9.2.2.1).bind λv17 =>
 ((at? v15 v17).bind λv18 =>
 ((at? v18 v9.2.2.2).bind λv19 =>
 (cond (v14 != v19)
 (some (inr (inr (ret f w))))
 (some (inl ((w64 (v8.1+1)),())))))))))))))))
 (some (inr (inl ()))))) (0,())).bind λv20 =>
 (bl_ v20 (λv21=>((y w f).bind λv30=>(some (ret v30.1 w)))) (λv22=>(some v22))))
theorem bs9 {β Y:Type} {b:Bool} {ts:List ck_} {al:List (List (List Int))} {y y':List Int→β→Option (β×Unit)} (hy:∀ w f,Le (y w f) (y' w f)) (ret:β→List Int→Y) (f:β) (w:List Int):Le (c_wlE b ts al y ret f w) (wlE b ts al y' ret f w):=by
 have ih:=True.intro
 unfold c_wlE wlE
 repeat' first | with_reducible exact Le.refl _ | (with_reducible apply Le.bind) | (with_reducible apply Le.cnd) | (with_reducible apply Le.sm) | (with_reducible apply Le.itC) | (with_reducible apply Le.atD) | (with_reducible apply hy) | (with_reducible apply ih) | (intro _)
noncomputable def at3 {β A:Type} (b:Bool) (pk:β→List Int→A) (u1:A→β) (u2:A→List Int) (ts:List ck_) (al:List (List (List Int))) (y:List Int→β→Option (β×Unit)):Nat→(Y:Type)→(β→List Int→Y)→Int→β→List Int→Option Y
 | 0,Y,ret,i,f,w =>
  (cond (i==(w.length:Int))
  ((itC (ρ:=(Unit⊕Y)) (λ(v8:(Int×Unit)) =>
  (cond (decide (v8.1<(ts.length:Int)))
  ((at? ts v8.1).bind λv9=>none)
  (some (inr (inl ()))))) (0,())).bind λv20 =>
  (bl_ v20 (λv21=>none) (λv22=>(some v22))))
  (atD b al i λv31 =>
  ((itC (ρ:=(A⊕Y)) (λ(v32:(Int×A)) =>
  (cond (decide (v32.1<(v31.length:Int)))
  ((((at? (u2 v32.2) i).bind λv33 =>
  ((at? (u2 v32.2) i).bind λv34=>(none:Option (A⊕((Int×A)⊕(A⊕Y)))))).bind λv308 =>
  (bl_ v308 (λv309=>(some (inl ((w64 (v32.1+1)),pk (u1 v309) (u2 v309)))))
  (λv310=>(some v310)))))
  (some (inr (inl (pk (u1 v32.2) (u2 v32.2))))))) (0,pk f w)).bind λv317 =>
  (bl_ v317 (λv318=>(some (ret (u1 v318) (u2 v318)))) (λv319=>(some v319))))))
 | n+1,Y,ret,i,f,w =>
  (cond (i==(w.length:Int))
  (c_wlE b ts al y ret f w)
  (atD b al i λv31 =>
  ((itC (ρ:=(A⊕Y)) (λ(v32:(Int×A)) =>
  (cond (decide (v32.1<(v31.length:Int)))
  ((((at? (u2 v32.2) i).bind λv33 =>
  ((at? (u2 v32.2) i).bind λv34=>(at3 b pk u1 u2 ts al y n (A⊕((Int×A)⊕(A⊕Y))) (λf w=>inl (pk f w)) (w64 (i+1)) (u1 v32.2) ((u2 v32.2).set i.toNat v32.1)))).bind λv308 =>
  (bl_ v308 (λv309=>(some (inl ((w64 (v32.1+1)),pk (u1 v309) (u2 v309)))))
  (λv310=>(some v310)))))
  (some (inr (inl (pk (u1 v32.2) (u2 v32.2))))))) (0,pk f w)).bind λv317 =>
  (bl_ v317 (λv318=>(some (ret (u1 v318) (u2 v318)))) (λv319=>(some v319))))))
theorem bm_ {β A:Type} {b:Bool} {pk:β→List Int→A} {u1:A→β} {u2:A→List Int} {ts:List ck_} {al:List (List (List Int))} {y y':List Int→β→Option (β×Unit)} (hy:∀ w f,Le (y w f) (y' w f)):∀ (n:Nat) (Y:Type) (ret:β→List Int→Y) (i:Int) (f:β) (w:List Int),Le (at3 b pk u1 u2 ts al y n Y ret i f w) (wlP b pk u1 u2 ts al y' n Y ret i f w):=by
 intro n
 induction n with
 | zero =>
  intro Y ret i f w
  have ih:=True.intro
  unfold at3 wlP
  repeat' first | with_reducible exact Le.refl _ | (with_reducible apply Le.bind) | (with_reducible apply Le.cnd) | (with_reducible apply Le.sm) | (with_reducible apply Le.itC) | (with_reducible apply Le.atD) | (with_reducible apply hy) | (with_reducible apply ih) | (intro _)
 | succ n ih =>
  intro Y ret i f w
  unfold at3 wlP
  repeat' first | with_reducible exact Le.refl _ | (with_reducible apply Le.bind) | (with_reducible apply Le.cnd) | (with_reducible apply Le.sm) | (with_reducible apply Le.itC) | (with_reducible apply Le.atD) | (with_reducible apply hy) | (with_reducible apply ih) | (with_reducible apply bs9) | (intro _)
noncomputable def bh8 (w:List Int) (f:List (List Bool)):Option (List (List Bool)×Unit) :=
 (itC (ρ:=((List (List Bool))×Unit)) (λ(v23:(Int×((List (List Bool))×Unit))) =>
 (cond (decide (v23.1<(w.length:Int)))
 ((at? w v23.1).bind λv24 =>
 ((at? w v23.1).bind λv25 =>
 ((at? v23.2.1 v23.1).bind λv26 =>
 ((at? v23.2.1 v23.1).bind λv27 =>
 ((at? v27 v25).bind λv28 =>
 ((at? v27 v25).bind λv29 =>
 (some (inl ((w64 (v23.1+1)),((v23.2.1.set v23.1.toNat (v27.set v25.toNat true)),()))))))))))
 (some (inr (v23.2.1,()))))) (0,(f,())))
theorem bh7 (w:List Int) (f:List (List Bool)):Le (bh8 w f) (fndB w f):=by
 have ih:=True.intro
 have hy:=True.intro
 unfold bh8 fndB
 repeat' first | with_reducible exact Le.refl _ | (with_reducible apply Le.bind) | (with_reducible apply Le.cnd) | (with_reducible apply Le.sm) | (with_reducible apply Le.itC) | (with_reducible apply Le.atD) | (with_reducible apply hy) | (with_reducible apply ih) | (intro _)
noncomputable def bh6 {R:Type} (b:Bool) (m:Int) (ts:List ck_) (al:List (List (List Int))) (K:List (List Bool)×(List (List (List Int))×Unit)→Option R):Option R :=
 ((mk? (α:=(List Bool)) m []).bind λv0 =>
 ((itC (ρ:=((List (List Bool))×Unit)) (λ(v1:(Int×((List (List Bool))×Unit))) =>
 (cond (decide (v1.1<(al.length:Int)))
 (atD b al v1.1 λv2 =>
 ((mk? (α:=Bool) (v2.length:Int) false).bind λv3 =>
 ((at? v1.2.1 v1.1).bind λv4 =>
 ((at? v1.2.1 v1.1).bind λv5 =>
 (some (inl ((w64 (v1.1+1)),((v1.2.1.set v1.1.toNat v3),()))))))))
 (some (inr (v1.2.1,()))))) (0,(v0,()))).bind λv6 =>
 (((mk? (α:=Int) m 0).bind λv7 =>
 (at3 b (λf w=>(f,((),(w,())))) (λa=>a.1) (λa=>a.2.2.1) ts al bh8 9 (List (List Bool)×Unit) (λf w=>(f,())) 0 v6.1 v7)).bind λv320 =>
 ((mk? (α:=(List (List Int))) m []).bind λv321 =>
 ((itC (ρ:=((List (List Bool))×((List (List (List Int)))×Unit))) (λ(v322:(Int×((List (List Bool))×((List (List (List Int)))×Unit)))) =>
 (cond (decide (v322.1<(al.length:Int)))
 (atD b al v322.1 λv323 =>
 ((itC (ρ:=((List (List Bool))×((List (List (List Int)))×Unit))) (λ(v324:(Int×((List (List Bool))×((List (List (List Int)))×Unit)))) =>
 (cond (decide (v324.1<(v323.length:Int)))
 ((((at? v323 v324.1).bind λv325 =>
 ((at? v324.2.1 v322.1).bind λv326 =>
 ((at? v324.2.1 v322.1).bind λv327 =>
 ((at? v327 v324.1).bind λv328 =>
 ((at? v327 v324.1).bind λv329 =>
 (cond v329
 ((at? v324.2.2.1 v322.1).bind λv330 =>
 ((at? v324.2.2.1 v322.1).bind λv331 =>
 ((push? (α:=(List Int)) v331 ([v325]:List (List Int))).bind λv332 =>
 ((at? v324.2.2.1 v322.1).bind λv333 =>
 (cond ((v322.1==v322.1)&&true)
 ((at? v324.2.2.1 v322.1).bind λv334 =>
 (some ((v324.2.1.set v322.1.toNat v327),((v324.2.2.1.set v322.1.toNat v332),()))))
 none)))))
 (some ((v324.2.1.set v322.1.toNat v327),(v324.2.2.1,())))))))))).bind λv335 =>
 (some (inl ((w64 (v324.1+1)),(v335.1,(v335.2.1,()))))))
 (some (inr (v324.2.1,(v324.2.2.1,())))))) (0,(v322.2.1,(v322.2.2.1,())))).bind λv336 =>
 (some (inl ((w64 (v322.1+1)),(v336.1,(v336.2.1,())))))))
 (some (inr (v322.2.1,(v322.2.2.1,())))))) (0,(v320.1,(v321,())))).bind K)))))
theorem bh_ {R:Type} {b:Bool} {m:Int} {ts:List ck_} {al:List (List (List Int))} {K K':List (List Bool)×(List (List (List Int))×Unit)→Option R} (hy:∀ x,Le (K x) (K' x)):Le (bh6 b m ts al K) (psbX b m ts al K'):=by
 have ih:=True.intro
 unfold bh6 psbX
 repeat' first | with_reducible exact Le.refl _ | (with_reducible apply Le.bind) | (with_reducible apply Le.cnd) | (with_reducible apply Le.sm) | (with_reducible apply Le.itC) | (with_reducible apply Le.atD) | (with_reducible apply hy) | (with_reducible apply ih) | (with_reducible apply bm_) | (with_reducible apply bh7) | (intro _)
noncomputable def bt0 (ft:List Int→Option (Int×(Bool×(Int×Unit)))) (S:Int):Nat→Int→List Int→List (List Int)→Option ((List Int)×(((List (List Int))×Unit)×Unit))
 | 0,_,_,_=>none
 | n+1,i,c,o =>
  (cond (i==(c.length:Int))
  ((ft c).bind λv8 =>
  (cond v8.2.1
  ((push? (α:=Int) [] c).bind λv9 =>
  ((push? (α:=(List Int)) o ([v9]:List (List Int))).bind λv10 =>
  (some (c,((v10,()),())))))
  (some (c,((o,()),())))))
  ((at? c i).bind λv3 =>
  ((at? c i).bind λv4 =>
  ((itC (ρ:=((List Int)×(((List (List Int))×Unit)×Unit))) (λ(v5:((List Int)×(((List (List Int))×Unit)×Unit))) =>
  ((at? v5.1 i).bind λv6 =>
  ((at? v5.1 i).bind λv7 =>
  (cond (decide (v7<S))
  ((bt0 ft S n (w64 (i+1)) v5.1 v5.2.1.1).bind λv67 =>
  ((at? v67.1 i).bind λv68 =>
  ((at? v67.1 i).bind λv69 =>
  ((at? v67.1 i).bind λv70 =>
  ((at? v67.1 i).bind λv71 =>
  (some (inl ((v67.1.set i.toNat (w64 (v69+1))),((v67.2.1.1,()),())))))))))
  (some (inr (v5.1,((v5.2.1.1,()),())))))))) ((c.set i.toNat 0),((o,()),()))).bind λv72 =>
  ((at? v72.1 i).bind λv73 =>
  ((at? v72.1 i).bind λv74 =>
  (some ((v72.1.set i.toNat 0),((v72.2.1.1,()),())))))))))
theorem bq_ {ft ft':List Int→Option (Int×(Bool×(Int×Unit)))} (hy:∀ c,Le (ft c) (ft' c)) (S:Int):∀ (n:Nat) (i:Int) (c:List Int) (o:List (List Int)),Le (bt0 ft S n i c o) (rdL ft' S n i c o):=by
 intro n
 induction n with
 | zero=>intro i c o;exact Le.refl _
 | succ n ih =>
  intro i c o
  unfold bt0 rdL
  repeat' first | with_reducible exact Le.refl _ | (with_reducible apply Le.bind) | (with_reducible apply Le.cnd) | (with_reducible apply Le.sm) | (with_reducible apply Le.itC) | (with_reducible apply Le.atD) | (with_reducible apply hy) | (with_reducible apply ih) | (intro _)
end
section
set_option maxRecDepth 100000
noncomputable def kp_ (a0:(List Int)) (a1:(List Int)):Option (Int×Int×Unit) :=
  ((itC (ρ:=(Int×((List Int)×((List Int)×Unit)))) (λ(v0:(Int×(Int×((List Int)×((List Int)×Unit))))) =>
 (cond (decide (v0.2.1<(a0.length:Int)))
 ((at? a0 v0.2.1).bind λv1 =>
 ((((at? a1 v0.2.1).bind λv2 =>
 (cond (v1==v2)
 (some ((w64 (v0.1+1)),()))
 (some (v0.1,()))))).bind λv3 =>
 (cond (decide (v1<(10:Int)))
 ((at? v0.2.2.1 v1).bind λv4 =>
 ((at? v0.2.2.1 v1).bind λv5 =>
 (cond (decide (v1<(10:Int)))
 ((at? v0.2.2.1 v1).bind λv6 =>
 ((at? v0.2.2.1 v1).bind λv7 =>
 ((at? a1 v0.2.1).bind λv8 =>
 (cond (decide (v8<(10:Int)))
 ((at? v0.2.2.2.1 v8).bind λv9 =>
 ((at? v0.2.2.2.1 v8).bind λv10 =>
 (cond (decide (v8<(10:Int)))
 ((at? v0.2.2.2.1 v8).bind λv11 =>
 ((at? v0.2.2.2.1 v8).bind λv12 =>
 (some (inl (v3.1,((w64 (v0.2.1+1)),((v0.2.2.1.set v1.toNat (w64 (v5+1))),((v0.2.2.2.1.set v8.toNat (w64 (v10+1))),()))))))))
 none)))
 none))))
 none)))
 none)))
 (some (inr (v0.1,(v0.2.2.1,(v0.2.2.2.1,()))))))) (0,(0,([0,0,0,0,0,0,0,0,0,0],([0,0,0,0,0,0,0,0,0,0],()))))).bind λv13 =>
 ((itC (ρ:=(Int×Unit)) (λ(v14:(Int×(Int×Unit))) =>
 (cond (decide (v14.2.1<10))
 (cond (decide (v14.2.1<(10:Int)))
 ((at? v13.2.1 v14.2.1).bind λv15 =>
 ((at? v13.2.1 v14.2.1).bind λv16 =>
 (cond (decide (v14.2.1<(10:Int)))
 ((at? v13.2.2.1 v14.2.1).bind λv17 =>
 ((at? v13.2.2.1 v14.2.1).bind λv18 =>
 (some (inl ((w64 (v14.1+(bv8 v16 v18))),((w64 (v14.2.1+1)),()))))))
 none)))
 none)
 (some (inr (v14.1,()))))) (0,(0,()))).bind λv19 =>
 (some (v13.1,((w64 (v19.1 - v13.1)),())))))
theorem ro_ (a0:(List Int)) (a1:(List Int)):Le (kp_ a0 a1) (ea_ a0 a1):=by
 unfold kp_ ea_
 repeat' first | with_reducible exact Le.refl _ | (with_reducible apply Le.bind) | (with_reducible apply Le.cnd) | (with_reducible apply Le.sm) | (with_reducible apply Le.itC) | (with_reducible apply Le.atD) | (with_reducible apply bh_) | (with_reducible apply bm_) | (with_reducible apply bq_) | intro
noncomputable def ds_ (a0:dh_):Option (List Int) :=
   (bh6 false (a0.1.1.length:Int) a0.1.2.2.2 a0.2 λv337 =>
 ((itC (ρ:=((List Int)×Unit)) (λ(v338:((List Int)×(Int×Unit))) =>
 (cond (decide (v338.2.1<(v337.2.1.length:Int)))
 ((at? v337.2.1 v338.2.1).bind λv339 =>
 ((push? (α:=Int) v338.1 [(v339.length:Int)]).bind λv340 =>
 (some (inl (v340,((w64 (v338.2.1+1)),()))))))
 (some (inr (v338.1,()))))) ([],(0,()))).bind λv341 =>
 (some v341.1)))
theorem mc_ (a0:dh_):Le (ds_ a0) (cw_ a0):=by
 unfold ds_ cw_
 repeat' first | with_reducible exact Le.refl _ | (with_reducible apply Le.bind) | (with_reducible apply Le.cnd) | (with_reducible apply Le.sm) | (with_reducible apply Le.itC) | (with_reducible apply Le.atD) | (with_reducible apply bh_) | (with_reducible apply bm_) | (with_reducible apply bq_) | intro
noncomputable def il_ (a0:(List Int)) (a1:(List Int)):Option (Bool×Unit) :=
  (cond ((a0.length:Int) != (a1.length:Int))
 (some (false,()))
 ((itC (ρ:=(Unit⊕(Bool×Unit))) (λ(v0:(Int×Unit)) =>
 (cond (decide (v0.1<(a0.length:Int)))
 ((at? a0 v0.1).bind λv1 =>
 ((at? a1 v0.1).bind λv2 =>
 (cond (v1 != v2)
 (some (inr (inr (false,()))))
 (some (inl ((w64 (v0.1+1)),()))))))
 (some (inr (inl ()))))) (0,())).bind λv3 =>
 (bl_ v3 (λv4=>(some (true,())))
 (λv5=>(some v5)))))
theorem pc_ (a0:(List Int)) (a1:(List Int)):Le (il_ a0 a1) (bw_ a0 a1):=by
 unfold il_ bw_
 repeat' first | with_reducible exact Le.refl _ | (with_reducible apply Le.bind) | (with_reducible apply Le.cnd) | (with_reducible apply Le.sm) | (with_reducible apply Le.itC) | (with_reducible apply Le.atD) | (with_reducible apply bh_) | (with_reducible apply bm_) | (with_reducible apply bq_) | intro
noncomputable def ls_ (a0:ab_) (a1:(List Int)):Option (Bool×Unit) :=
  (cond (a0.1==1)
 ((at? a1 a0.2.1).bind λv0 =>
 (some ((v0==a0.2.2.2.1),())))
 (cond (a0.1==2)
 ((sub? a1 a0.2.1 (w64 (a0.2.2.1+1))).bind λv1 =>
 ((itC (ρ:=(Int×Unit)) (λ(v2:(Int×(Int×Unit))) =>
 (cond (decide (v2.2.1<(v1.length:Int)))
 ((at? v1 v2.2.1).bind λv3 =>
 (some (inl ((w64 (v2.1+v3)),((w64 (v2.2.1+1)),())))))
 (some (inr (v2.1,()))))) (0,(0,()))).bind λv4 =>
 (some ((v4.1==a0.2.2.2.1),()))))
 (cond (a0.1==3)
 ((at? a1 a0.2.1).bind λv5 =>
 ((at? a1 a0.2.2.1).bind λv6 =>
 (some ((decide (v5<v6)),()))))
 (cond (a0.1==4)
 ((at? a1 a0.2.1).bind λv7 =>
 ((at? a1 a0.2.2.1).bind λv8 =>
 (some ((v7==v8),()))))
 (cond (a0.1==5)
 ((itC (ρ:=(Int×Unit)) (λ(v9:(Int×(Int×Unit))) =>
 (cond (decide (v9.2.1<(a1.length:Int)))
 ((((at? a1 v9.2.1).bind λv10 =>
 (cond (v10==a0.2.2.2.1)
 (some ((w64 (v9.1+1)),()))
 (some (v9.1,()))))).bind λv11 =>
 (some (inl (v11.1,((w64 (v9.2.1+1)),())))))
 (some (inr (v9.1,()))))) (0,(0,()))).bind λv12 =>
 (some ((v12.1==a0.2.2.2.2.1),())))
 (cond (a0.1==6)
 ((kp_ a1 a0.2.2.2.2.2.1).bind λv13 =>
 (cond (v13.1==a0.2.2.2.1)
 (some ((v13.2.1==a0.2.2.2.2.1),()))
 (some (false,()))))
 ((at? a1 a0.2.1).bind λv14 =>
 ((md v14 a0.2.2.2.1).bind λv15 =>
 (some ((v15==a0.2.2.2.2.1),()))))))))))
theorem sp_ (a0:ab_) (a1:(List Int)):Le (ls_ a0 a1) (gt_ a0 a1):=by
 unfold ls_ gt_
 repeat' first | with_reducible exact Le.refl _ | (with_reducible apply Le.bind) | (with_reducible apply Le.cnd) | (with_reducible apply Le.sm) | (with_reducible apply Le.itC) | (with_reducible apply Le.atD) | (with_reducible apply bh_) | (with_reducible apply bm_) | (with_reducible apply bq_) | (with_reducible apply ro_) | intro
noncomputable def ic_ (a0:aj_) (a1:hb_):Option (aj_×Unit) :=
  ((push? (α:=aa_) [] a0.1).bind λv0 =>
 ((push? (α:=ck_) [] a0.2.2.2).bind λv1 =>
 ((itC (ρ:=(((List (List Int))×((List (List ab_))×Unit))×Unit)) (λ(v2:(Int×(((List (List Int))×((List (List ab_))×Unit))×Unit))) =>
 (cond (decide (v2.1<(a0.1.length:Int)))
 ((at? a0.2.1 v2.1).bind λv3 =>
 ((push? (α:=Int) [] v3).bind λv4 =>
 ((push? (α:=(List Int)) v2.2.1.1 ([v4]:List (List Int))).bind λv5 =>
 ((at? a0.2.2.1 v2.1).bind λv6 =>
 ((itC (ρ:=((List ab_)×Unit)) (λ(v7:((List ab_)×(Int×Unit))) =>
 (cond (decide (v7.2.1<(v6.length:Int)))
 ((at? v6 v7.2.1).bind λv8 =>
 ((br_ v8).bind λv9 =>
 ((push? (α:=ab_) v7.1 [v9.1]).bind λv10 =>
 (some (inl (v10,((w64 (v7.2.1+1)),())))))))
 (some (inr (v7.1,()))))) ([],(0,()))).bind λv11 =>
 ((push? (α:=(List ab_)) v2.2.1.2.1 ([v11.1]:List (List ab_))).bind λv12 =>
 (some (inl ((w64 (v2.1+1)),((v5,(v12,())),()))))))))))
 (some (inr ((v2.2.1.1,(v2.2.1.2.1,())),()))))) (0,(([],([],())),()))).bind λv13 =>
 ((at? v13.1.2.1 a1.1).bind λv14 =>
 ((at? v13.1.2.1 a1.1).bind λv15 =>
 ((br_ a1.2).bind λv16 =>
 ((push? (α:=ab_) v15 [v16.1]).bind λv17 =>
 ((at? v13.1.2.1 a1.1).bind λv18 =>
 (cond ((a1.1==a1.1)&&true)
 ((at? v13.1.2.1 a1.1).bind λv19 =>
 (some ((v0,(v13.1.1,((v13.1.2.1.set a1.1.toNat v17),v1))),())))
 none)))))))))
theorem uz_ (a0:aj_) (a1:hb_):Le (ic_ a0 a1) (gh_ a0 a1):=by
 unfold ic_ gh_
 repeat' first | with_reducible exact Le.refl _ | (with_reducible apply Le.bind) | (with_reducible apply Le.cnd) | (with_reducible apply Le.sm) | (with_reducible apply Le.itC) | (with_reducible apply Le.atD) | (with_reducible apply bh_) | (with_reducible apply bm_) | (with_reducible apply bq_) | intro
noncomputable def gw_ (a0:dh_) (a1:dh_):Option (List Int) :=
  ((ds_ a1).bind λv0 =>
 ((ds_ a0).bind λv1 =>
 ((itC (ρ:=((List Int)×Unit)) (λ(v2:((List Int)×(Int×Unit))) =>
 (cond (decide (v2.2.1<(v1.length:Int)))
 ((((at? v1 v2.2.1).bind λv3 =>
 ((at? v1 v2.2.1).bind λv4 =>
 ((at? v0 v2.2.1).bind λv5 =>
 ((at? v0 v2.2.1).bind λv6 =>
 (cond (decide (v6<v4))
 ((push? (α:=Int) v2.1 [v2.2.1]).bind λv7 =>
 (some (v7,())))
 (some (v2.1,())))))))).bind λv8 =>
 (some (inl (v8.1,((w64 (v2.2.1+1)),())))))
 (some (inr (v2.1,()))))) ([],(0,()))).bind λv9 =>
 (some v9.1))))
theorem mz_ (a0:dh_) (a1:dh_):Le (gw_ a0 a1) (ej_ a0 a1):=by
 unfold gw_ ej_
 repeat' first | with_reducible exact Le.refl _ | (with_reducible apply Le.bind) | (with_reducible apply Le.cnd) | (with_reducible apply Le.sm) | (with_reducible apply Le.itC) | (with_reducible apply Le.atD) | (with_reducible apply bh_) | (with_reducible apply bm_) | (with_reducible apply bq_) | (with_reducible apply mc_) | intro
noncomputable def fg_ (a0:aa_) (a1:(List Int)):Option (Bool×Unit) :=
  (cond ((a1.length:Int)==a0.1)
 ((((itC (ρ:=(Unit⊕(Bool×Unit))) (λ(v0:(Int×Unit)) =>
 (cond (decide (v0.1<(a1.length:Int)))
 ((at? a1 v0.1).bind λv1 =>
 ((bg_ a0 v1).bind λv2 =>
 (cond (!v2.1)
 (some (inr (inr ((decide (0≤v0.1)),()))))
 (some (inl ((w64 (v0.1+1)),()))))))
 (some (inr (inl ()))))) (0,())).bind λv3 =>
 (bl_ v3 (λv4=>(some ((decide (0≤(-1))),())))
 (λv5=>(some v5))))).bind λv6 =>
 (some ((!v6.1),())))
 (some (false,())))
theorem io_ (a0:aa_) (a1:(List Int)):Le (fg_ a0 a1) (bs_ a0 a1):=by
 unfold fg_ bs_
 repeat' first | with_reducible exact Le.refl _ | (with_reducible apply Le.bind) | (with_reducible apply Le.cnd) | (with_reducible apply Le.sm) | (with_reducible apply Le.itC) | (with_reducible apply Le.atD) | (with_reducible apply bh_) | (with_reducible apply bm_) | (with_reducible apply bq_) | intro
noncomputable def iz_ (a0:ab_) (a1:(List Int)):Option (Bool×Unit) :=
  ((ls_ a0 a1).bind λv0 =>
 (some ((v0.1 != a0.2.2.2.2.2.2),())))
theorem lx_ (a0:ab_) (a1:(List Int)):Le (iz_ a0 a1) (df_ a0 a1):=by
 unfold iz_ df_
 repeat' first | with_reducible exact Le.refl _ | (with_reducible apply Le.bind) | (with_reducible apply Le.cnd) | (with_reducible apply Le.sm) | (with_reducible apply Le.itC) | (with_reducible apply Le.atD) | (with_reducible apply bh_) | (with_reducible apply bm_) | (with_reducible apply bq_) | (with_reducible apply sp_) | intro
noncomputable def gy_ (a0:aa_) (a1:(List (List Int))):Option (Int×Unit) :=
  ((ce_ a0).bind λv0 =>
 (cond (v0.1 != 0)
 (some (v0.1,()))
 ((((itC (ρ:=(Unit⊕(Bool×Unit))) (λ(v1:(Int×Unit)) =>
 (cond (decide (v1.1<(a1.length:Int)))
 ((at? a1 v1.1).bind λv2 =>
 ((fg_ a0 v2).bind λv3 =>
 (cond (!v3.1)
 (some (inr (inr ((decide (0≤v1.1)),()))))
 (some (inl ((w64 (v1.1+1)),()))))))
 (some (inr (inl ()))))) (0,())).bind λv4 =>
 (bl_ v4 (λv5=>(some ((decide (0≤(-1))),())))
 (λv6=>(some v6))))).bind λv7 =>
 (cond v7.1
 (some (12,()))
 (some (0,()))))))
theorem nc_ (a0:aa_) (a1:(List (List Int))):Le (gy_ a0 a1) (dg_ a0 a1):=by
 unfold gy_ dg_
 repeat' first | with_reducible exact Le.refl _ | (with_reducible apply Le.bind) | (with_reducible apply Le.cnd) | (with_reducible apply Le.sm) | (with_reducible apply Le.itC) | (with_reducible apply Le.atD) | (with_reducible apply bh_) | (with_reducible apply bm_) | (with_reducible apply bq_) | (with_reducible apply io_) | intro
noncomputable def fh_ (a0:aa_) (a1:ab_):Option (Bool×Unit) :=
  (((cond (a1.1==1)
 ((ap_ a0 a1.2.1).bind λv0 =>
 (cond v0.1
 ((bg_ a0 a1.2.2.2.1).bind λv1 =>
 (some (v1.1,((a1.2.1,(0,(a1.2.2.2.1,(0,([],()))))),()))))
 (some (false,((a1.2.1,(0,(a1.2.2.2.1,(0,([],()))))),())))))
 (cond (a1.1==2)
 ((ap_ a0 a1.2.1).bind λv2 =>
 (cond v2.1
 ((ap_ a0 a1.2.2.1).bind λv3 =>
 (cond v3.1
 (cond (decide (a1.2.1≤a1.2.2.1))
 ((av_ a1.2.2.2.1 0 100).bind λv4 =>
 (some (v4.1,((a1.2.1,(a1.2.2.1,(a1.2.2.2.1,(0,([],()))))),()))))
 (some (false,((a1.2.1,(a1.2.2.1,(a1.2.2.2.1,(0,([],()))))),()))))
 (some (false,((a1.2.1,(a1.2.2.1,(a1.2.2.2.1,(0,([],()))))),())))))
 (some (false,((a1.2.1,(a1.2.2.1,(a1.2.2.2.1,(0,([],()))))),())))))
 (((cond (a1.1==3)
 (some ((a1.1==3),()))
 (some ((a1.1==4),())))).bind λv5 =>
 (cond v5.1
 ((ap_ a0 a1.2.1).bind λv6 =>
 (cond v6.1
 ((ap_ a0 a1.2.2.1).bind λv7 =>
 (cond v7.1
 (some ((a1.2.1 != a1.2.2.1),((a1.2.1,(a1.2.2.1,(0,(0,([],()))))),())))
 (some (false,((a1.2.1,(a1.2.2.1,(0,(0,([],()))))),())))))
 (some (false,((a1.2.1,(a1.2.2.1,(0,(0,([],()))))),())))))
 (cond (a1.1==5)
 ((bg_ a0 a1.2.2.2.1).bind λv8 =>
 (cond v8.1
 ((av_ a1.2.2.2.2.1 0 a0.1).bind λv9 =>
 (some (v9.1,((0,(0,(a1.2.2.2.1,(a1.2.2.2.2.1,([],()))))),()))))
 (some (false,((0,(0,(a1.2.2.2.1,(a1.2.2.2.2.1,([],()))))),())))))
 (cond (a1.1==6)
 ((av_ a1.2.2.2.1 0 a0.1).bind λv10 =>
 (cond v10.1
 ((av_ a1.2.2.2.2.1 0 a0.1).bind λv11 =>
 (cond v11.1
 ((fg_ a0 a1.2.2.2.2.2.1).bind λv12 =>
 (some (v12.1,((0,(0,(a1.2.2.2.1,(a1.2.2.2.2.1,(a1.2.2.2.2.2.1,()))))),()))))
 (some (false,((0,(0,(a1.2.2.2.1,(a1.2.2.2.2.1,(a1.2.2.2.2.2.1,()))))),())))))
 (some (false,((0,(0,(a1.2.2.2.1,(a1.2.2.2.2.1,(a1.2.2.2.2.2.1,()))))),())))))
 (cond (a1.1==7)
 ((ap_ a0 a1.2.1).bind λv13 =>
 (cond v13.1
 ((av_ a1.2.2.2.1 2 10).bind λv14 =>
 (cond v14.1
 ((av_ a1.2.2.2.2.1 0 (w64 (a1.2.2.2.1 - 1))).bind λv15 =>
 (some (v15.1,((a1.2.1,(0,(a1.2.2.2.1,(a1.2.2.2.2.1,([],()))))),()))))
 (some (false,((a1.2.1,(0,(a1.2.2.2.1,(a1.2.2.2.2.1,([],()))))),())))))
 (some (false,((a1.2.1,(0,(a1.2.2.2.1,(a1.2.2.2.2.1,([],()))))),())))))
 (some (false,((0,(0,(0,(0,([],()))))),()))))))))))).bind λv16 =>
 (cond v16.1
 (cond (a1.2.1==v16.2.1.1)
 (cond (a1.2.2.1==v16.2.1.2.1)
 (cond (a1.2.2.2.1==v16.2.1.2.2.1)
 (cond (a1.2.2.2.2.1==v16.2.1.2.2.2.1)
 (some (((a1.2.2.2.2.2.1.length:Int)==(v16.2.1.2.2.2.2.1.length:Int)),()))
 (some (false,())))
 (some (false,())))
 (some (false,())))
 (some (false,())))
 (some (false,()))))
theorem ip_ (a0:aa_) (a1:ab_):Le (fh_ a0 a1) (bt_ a0 a1):=by
 unfold fh_ bt_
 repeat' first | with_reducible exact Le.refl _ | (with_reducible apply Le.bind) | (with_reducible apply Le.cnd) | (with_reducible apply Le.sm) | (with_reducible apply Le.itC) | (with_reducible apply Le.atD) | (with_reducible apply bh_) | (with_reducible apply bm_) | (with_reducible apply bq_) | (with_reducible apply io_) | intro
noncomputable def ja_ (a0:(List ab_)) (a1:(List Int)):Option (Int×Unit) :=
  ((itC (ρ:=(Unit⊕(Int×Unit))) (λ(v0:(Int×Unit)) =>
 (cond (decide (v0.1<(a0.length:Int)))
 ((at? a0 v0.1).bind λv1 =>
 ((iz_ v1 a1).bind λv2 =>
 (cond (!v2.1)
 (some (inr (inr (v0.1,()))))
 (some (inl ((w64 (v0.1+1)),()))))))
 (some (inr (inl ()))))) (0,())).bind λv3 =>
 (bl_ v3 (λv4=>(some ((-1),())))
 (λv5=>(some v5))))
theorem ly_ (a0:(List ab_)) (a1:(List Int)):Le (ja_ a0 a1) (cp_ a0 a1):=by
 unfold ja_ cp_
 repeat' first | with_reducible exact Le.refl _ | (with_reducible apply Le.bind) | (with_reducible apply Le.cnd) | (with_reducible apply Le.sm) | (with_reducible apply Le.itC) | (with_reducible apply Le.atD) | (with_reducible apply bh_) | (with_reducible apply bm_) | (with_reducible apply bq_) | (with_reducible apply lx_) | intro
noncomputable def dj_ (a0:aa_) (a1:(List Int)):Option (Int×Unit) :=
  ((gy_ a0 ([a1]:List (List Int))).bind λv0 =>
 (some (v0.1,())))
theorem fn_ (a0:aa_) (a1:(List Int)):Le (dj_ a0 a1) (bk_ a0 a1):=by
 unfold dj_ bk_
 repeat' first | with_reducible exact Le.refl _ | (with_reducible apply Le.bind) | (with_reducible apply Le.cnd) | (with_reducible apply Le.sm) | (with_reducible apply Le.itC) | (with_reducible apply Le.atD) | (with_reducible apply bh_) | (with_reducible apply bm_) | (with_reducible apply bq_) | (with_reducible apply nc_) | intro
noncomputable def hh_ (a0:aa_) (a1:ab_):Option (Int×Unit) :=
  ((ce_ a0).bind λv0 =>
 (cond (v0.1 != 0)
 (some (v0.1,()))
 ((fh_ a0 a1).bind λv1 =>
 (cond (!v1.1)
 (some (11,()))
 (some (0,()))))))
theorem og_ (a0:aa_) (a1:ab_):Le (hh_ a0 a1) (ct_ a0 a1):=by
 unfold hh_ ct_
 repeat' first | with_reducible exact Le.refl _ | (with_reducible apply Le.bind) | (with_reducible apply Le.cnd) | (with_reducible apply Le.sm) | (with_reducible apply Le.itC) | (with_reducible apply Le.atD) | (with_reducible apply bh_) | (with_reducible apply bm_) | (with_reducible apply bq_) | (with_reducible apply ip_) | intro
noncomputable def ek_ (a0:aa_) (a1:(List ab_)):Option (Int×Unit) :=
  ((ce_ a0).bind λv0 =>
 (cond (v0.1 != 0)
 (some (v0.1,()))
 (cond (decide (20<(a1.length:Int)))
 (some (2,()))
 ((((itC (ρ:=(Unit⊕(Bool×Unit))) (λ(v1:(Int×Unit)) =>
 (cond (decide (v1.1<(a1.length:Int)))
 ((at? a1 v1.1).bind λv2 =>
 ((fh_ a0 v2).bind λv3 =>
 (cond (!v3.1)
 (some (inr (inr ((decide (0≤v1.1)),()))))
 (some (inl ((w64 (v1.1+1)),()))))))
 (some (inr (inl ()))))) (0,())).bind λv4 =>
 (bl_ v4 (λv5=>(some ((decide (0≤(-1))),())))
 (λv6=>(some v6))))).bind λv7 =>
 (cond v7.1
 (some (11,()))
 (some (0,())))))))
theorem id_ (a0:aa_) (a1:(List ab_)):Le (ek_ a0 a1) (bv_ a0 a1):=by
 unfold ek_ bv_
 repeat' first | with_reducible exact Le.refl _ | (with_reducible apply Le.bind) | (with_reducible apply Le.cnd) | (with_reducible apply Le.sm) | (with_reducible apply Le.itC) | (with_reducible apply Le.atD) | (with_reducible apply bh_) | (with_reducible apply bm_) | (with_reducible apply bq_) | (with_reducible apply ip_) | intro
noncomputable def gx_ (a0:aa_) (a1:(List ab_)):Option (Int×Unit) :=
  ((mk? (α:=Int) a0.1 0).bind λv0 =>
 ((itC (ρ:=((Unit×(Unit×((List Int)×((Int×Unit)×Unit))))⊕(Int×Unit))) (λ(v1:(Unit×(Unit×((List Int)×((Int×Unit)×Unit))))) =>
 ((ja_ a1 v1.2.2.1).bind λv2 =>
 (cond (decide (v2.1<0))
 ((itC (ρ:=(Int×((List Int)×Unit))) (λ(v3:(Int×((List Int)×Unit))) =>
 (((cond (decide (0≤v3.1))
 ((at? v3.2.1 v3.1).bind λv4 =>
 ((at? v3.2.1 v3.1).bind λv5 =>
 (some ((v5==(w64 (a0.2 - 1))),()))))
 (some (false,())))).bind λv6 =>
 (cond v6.1
 ((at? v3.2.1 v3.1).bind λv7 =>
 ((at? v3.2.1 v3.1).bind λv8 =>
 (some (inl ((w64 (v3.1 - 1)),((v3.2.1.set v3.1.toNat 0),()))))))
 (some (inr (v3.1,(v3.2.1,()))))))) ((w64 (a0.1 - 1)),(v1.2.2.1,()))).bind λv9 =>
 (cond (decide (v9.1<0))
 (some (inr (inr ((w64 (v1.2.2.2.1.1+1)),()))))
 ((at? v9.2.1 v9.1).bind λv10 =>
 ((at? v9.2.1 v9.1).bind λv11 =>
 ((at? v9.2.1 v9.1).bind λv12 =>
 ((at? v9.2.1 v9.1).bind λv13 =>
 (some (inl ((),((),((v9.2.1.set v9.1.toNat (w64 (v11+1))),(((w64 (v1.2.2.2.1.1+1)),()),()))))))))))))
 ((itC (ρ:=(Int×((List Int)×Unit))) (λ(v14:(Int×((List Int)×Unit))) =>
 (((cond (decide (0≤v14.1))
 ((at? v14.2.1 v14.1).bind λv15 =>
 ((at? v14.2.1 v14.1).bind λv16 =>
 (some ((v16==(w64 (a0.2 - 1))),()))))
 (some (false,())))).bind λv17 =>
 (cond v17.1
 ((at? v14.2.1 v14.1).bind λv18 =>
 ((at? v14.2.1 v14.1).bind λv19 =>
 (some (inl ((w64 (v14.1 - 1)),((v14.2.1.set v14.1.toNat 0),()))))))
 (some (inr (v14.1,(v14.2.1,()))))))) ((w64 (a0.1 - 1)),(v1.2.2.1,()))).bind λv20 =>
 (cond (decide (v20.1<0))
 (some (inr (inr (v1.2.2.2.1.1,()))))
 ((at? v20.2.1 v20.1).bind λv21 =>
 ((at? v20.2.1 v20.1).bind λv22 =>
 ((at? v20.2.1 v20.1).bind λv23 =>
 ((at? v20.2.1 v20.1).bind λv24 =>
 (some (inl ((),((),((v20.2.1.set v20.1.toNat (w64 (v22+1))),((v1.2.2.2.1.1,()),()))))))))))))))) ((),((),(v0,((0,()),()))))).bind λv25 =>
 (bl_ v25 (λv26=>(some (v26.2.2.2.1.1,())))
 (λv27=>(some v27)))))
theorem nb_ (a0:aa_) (a1:(List ab_)):Le (gx_ a0 a1) (cn_ a0 a1):=by
 unfold gx_ cn_
 repeat' first | with_reducible exact Le.refl _ | (with_reducible apply Le.bind) | (with_reducible apply Le.cnd) | (with_reducible apply Le.sm) | (with_reducible apply Le.itC) | (with_reducible apply Le.atD) | (with_reducible apply bh_) | (with_reducible apply bm_) | (with_reducible apply bq_) | (with_reducible apply ly_) | intro
noncomputable def lt_ (a0:aa_) (a1:ab_) (a2:(List Int)):Option (Bool×Int×Unit) :=
  ((hh_ a0 a1).bind λv0 =>
 (cond (v0.1 != 0)
 (some (false,(v0.1,())))
 ((dj_ a0 a2).bind λv1 =>
 (cond (v1.1 != 0)
 (some (false,(v1.1,())))
 ((iz_ a1 a2).bind λv2 =>
 (some (v2.1,(0,()))))))))
theorem sq_ (a0:aa_) (a1:ab_) (a2:(List Int)):Le (lt_ a0 a1 a2) (dr_ a0 a1 a2):=by
 unfold lt_ dr_
 repeat' first | with_reducible exact Le.refl _ | (with_reducible apply Le.bind) | (with_reducible apply Le.cnd) | (with_reducible apply Le.sm) | (with_reducible apply Le.itC) | (with_reducible apply Le.atD) | (with_reducible apply bh_) | (with_reducible apply bm_) | (with_reducible apply bq_) | (with_reducible apply lx_) | (with_reducible apply fn_) | (with_reducible apply og_) | intro
noncomputable def du_ (a0:aa_) (a1:(List ab_)):Option (Int×Int×Unit) :=
  ((ek_ a0 a1).bind λv0 =>
 (cond (v0.1 != 0)
 (some (0,(v0.1,())))
 ((gx_ a0 a1).bind λv1 =>
 (some (v1.1,(0,()))))))
theorem lz_ (a0:aa_) (a1:(List ab_)):Le (du_ a0 a1) (bp_ a0 a1):=by
 unfold du_ bp_
 repeat' first | with_reducible exact Le.refl _ | (with_reducible apply Le.bind) | (with_reducible apply Le.cnd) | (with_reducible apply Le.sm) | (with_reducible apply Le.itC) | (with_reducible apply Le.atD) | (with_reducible apply bh_) | (with_reducible apply bm_) | (with_reducible apply bq_) | (with_reducible apply id_) | (with_reducible apply nb_) | intro
noncomputable def nd_ (a0:aa_) (a1:(List ab_)) (a2:(List Int)):Option (Int×Bool×Int×Unit) :=
  ((ek_ a0 a1).bind λv0 =>
 (cond (v0.1 != 0)
 (some (0,(false,(v0.1,()))))
 ((dj_ a0 a2).bind λv1 =>
 (cond (v1.1 != 0)
 (some (0,(false,(v1.1,()))))
 ((ja_ a1 a2).bind λv2 =>
 (some (v2.1,((decide (v2.1<0)),(0,())))))))))
theorem va_ (a0:aa_) (a1:(List ab_)) (a2:(List Int)):Le (nd_ a0 a1 a2) (kc_ a0 a1 a2):=by
 unfold nd_ kc_
 repeat' first | with_reducible exact Le.refl _ | (with_reducible apply Le.bind) | (with_reducible apply Le.cnd) | (with_reducible apply Le.sm) | (with_reducible apply Le.itC) | (with_reducible apply Le.atD) | (with_reducible apply bh_) | (with_reducible apply bm_) | (with_reducible apply bq_) | (with_reducible apply ly_) | (with_reducible apply fn_) | (with_reducible apply id_) | intro
noncomputable def ki_ (a0:aj_) (a1:Int) (a2:ab_):Option (Bool×Unit) :=
  ((at? a0.1 a1).bind λv0 =>
 ((at? a0.2.1 a1).bind λv1 =>
 ((lt_ v0 a2 v1).bind λv2 =>
 (cond (v2.2.1==0)
 (some (v2.1,()))
 (some (false,()))))))
theorem na_ (a0:aj_) (a1:Int) (a2:ab_):Le (ki_ a0 a1 a2) (ia_ a0 a1 a2):=by
 unfold ki_ ia_
 repeat' first | with_reducible exact Le.refl _ | (with_reducible apply Le.bind) | (with_reducible apply Le.cnd) | (with_reducible apply Le.sm) | (with_reducible apply Le.itC) | (with_reducible apply Le.atD) | (with_reducible apply bh_) | (with_reducible apply bm_) | (with_reducible apply bq_) | (with_reducible apply sq_) | intro
noncomputable def co_ (a0:aa_) (a1:(List ab_)):Option ((List (List Int))×Unit) :=
  ((mk? (α:=Int) a0.1 0).bind λv0 =>
 ((bt0 (nd_ a0 a1) a0.2 5 0 v0 []).bind λv75 =>
 (some (v75.2.1.1,()))))
theorem jp_ (a0:aa_) (a1:(List ab_)):Le (co_ a0 a1) (bx_ a0 a1):=by
 unfold co_ bx_
 repeat' first | with_reducible exact Le.refl _ | (with_reducible apply Le.bind) | (with_reducible apply Le.cnd) | (with_reducible apply Le.sm) | (with_reducible apply Le.itC) | (with_reducible apply Le.atD) | (with_reducible apply bh_) | (with_reducible apply bm_) | (with_reducible apply bq_) | (with_reducible apply va_) | intro
noncomputable def dt_ (a0:aj_):Option (Int×Unit) :=
  ((((cd_ (a0.1.length:Int) 1 8).bind λv0 =>
 (cond (!v0.1)
 (some (true,()))
 (cond ((a0.2.1.length:Int) != (a0.1.length:Int))
 (some (true,()))
 (cond ((a0.2.2.1.length:Int) != (a0.1.length:Int))
 (some (true,()))
 (some ((decide (10<(a0.2.2.2.length:Int))),()))))))).bind λv1 =>
 (cond v1.1
 (some (70,()))
 ((itC (ρ:=(Unit⊕(Int×Unit))) (λ(v2:(Int×Unit)) =>
 (cond (decide (v2.1<(a0.1.length:Int)))
 ((at? a0.1 v2.1).bind λv3 =>
 ((((at? a0.2.1 v2.1).bind λv4 =>
 ((dj_ v3 v4).bind λv5 =>
 (cond (v5.1 != 0)
 (some (true,()))
 ((at? a0.2.2.1 v2.1).bind λv6 =>
 (some ((decide (20<(v6.length:Int))),()))))))).bind λv7 =>
 (cond v7.1
 (some (inr (inr (70,()))))
 ((at? a0.2.2.1 v2.1).bind λv8 =>
 ((((itC (ρ:=(Unit⊕(Bool×Unit))) (λ(v9:(Int×Unit)) =>
 (cond (decide (v9.1<(v8.length:Int)))
 ((at? v8 v9.1).bind λv10 =>
 ((ki_ a0 v2.1 v10).bind λv11 =>
 (cond (!v11.1)
 (some (inr (inr ((decide (0≤v9.1)),()))))
 (some (inl ((w64 (v9.1+1)),()))))))
 (some (inr (inl ()))))) (0,())).bind λv12 =>
 (bl_ v12 (λv13=>(some ((decide (0≤(-1))),())))
 (λv14=>(some v14))))).bind λv15 =>
 (cond v15.1
 (some (inr (inr (70,()))))
 (some (inl ((w64 (v2.1+1)),())))))))))
 (some (inr (inl ()))))) (0,())).bind λv16 =>
 (bl_ v16 (λv17=>((((itC (ρ:=(Unit⊕(Bool×Unit))) (λ(v19:(Int×Unit)) =>
 (cond (decide (v19.1<(a0.2.2.2.length:Int)))
 ((at? a0.2.2.2 v19.1).bind λv20 =>
 ((mr_ a0 v20).bind λv21 =>
 (cond (!v21.1)
 (some (inr (inr ((decide (0≤v19.1)),()))))
 (some (inl ((w64 (v19.1+1)),()))))))
 (some (inr (inl ()))))) (0,())).bind λv22 =>
 (bl_ v22 (λv23=>(some ((decide (0≤(-1))),())))
 (λv24=>(some v24))))).bind λv25 =>
 (cond v25.1
 (some (70,()))
 (some (0,())))))
 (λv18=>(some v18))))))
theorem lw_ (a0:aj_):Le (dt_ a0) (de_ a0):=by
 unfold dt_ de_
 repeat' first | with_reducible exact Le.refl _ | (with_reducible apply Le.bind) | (with_reducible apply Le.cnd) | (with_reducible apply Le.sm) | (with_reducible apply Le.itC) | (with_reducible apply Le.atD) | (with_reducible apply bh_) | (with_reducible apply bm_) | (with_reducible apply bq_) | (with_reducible apply fn_) | (with_reducible apply na_) | intro
noncomputable def gv_ (a0:aj_) (a1:hb_):Option (Bool×Unit) :=
  ((cd_ a1.1 0 (w64 ((a0.1.length:Int) - 1))).bind λv0 =>
 (cond v0.1
 ((ki_ a0 a1.1 a1.2).bind λv1 =>
 (some (v1.1,())))
 (some (false,()))))
theorem so_ (a0:aj_) (a1:hb_):Le (gv_ a0 a1) (ff_ a0 a1):=by
 unfold gv_ ff_
 repeat' first | with_reducible exact Le.refl _ | (with_reducible apply Le.bind) | (with_reducible apply Le.cnd) | (with_reducible apply Le.sm) | (with_reducible apply Le.itC) | (with_reducible apply Le.atD) | (with_reducible apply bh_) | (with_reducible apply bm_) | (with_reducible apply bq_) | (with_reducible apply na_) | intro
noncomputable def kn_ (a0:aj_):Option (Int×Int×Unit) :=
  ((dt_ a0).bind λv0 =>
 (cond (v0.1 != 0)
 (cond (v0.1 != 0)
 (some (0,(v0.1,())))
 none)
 ((itC (ρ:=(Unit⊕(Int×(Int×Unit)))) (λ(v1:(Int×(Int×Unit))) =>
 (cond (decide (v1.2.1<(a0.1.length:Int)))
 ((at? a0.1 v1.2.1).bind λv2 =>
 ((at? a0.2.2.1 v1.2.1).bind λv3 =>
 ((du_ v2 v3).bind λv4 =>
 (cond (v4.2.1 != 0)
 (((cond (v4.2.1 != 0)
 (some (0,(v4.2.1,())))
 none)).bind λv5 =>
 (some (inr (inr v5))))
 (cond (decide (20000<(w64 (v1.1 * v4.1))))
 (some (inr (inr (0,(2,())))))
 (some (inl ((w64 (v1.1 * v4.1)),((w64 (v1.2.1+1)),())))))))))
 (some (inr (inl ()))))) (1,(0,()))).bind λv6 =>
 (bl_ v6 (λv7=>((itC (ρ:=(((List (List (List Int)))×Unit)×Unit)) (λ(v9:(Int×(((List (List (List Int)))×Unit)×Unit))) =>
 (cond (decide (v9.1<(a0.1.length:Int)))
 ((at? a0.1 v9.1).bind λv10 =>
 ((at? a0.2.2.1 v9.1).bind λv11 =>
 ((co_ v10 v11).bind λv12 =>
 ((push? (α:=(List (List Int))) v9.2.1.1 ([v12.1]:List (List (List Int)))).bind λv13 =>
 (some (inl ((w64 (v9.1+1)),((v13,()),()))))))))
 (some (inr ((v9.2.1.1,()),()))))) (0,(([],()),()))).bind λv14 =>
 (((mk? (α:=Int) (a0.1.length:Int) 0).bind λv15 =>
 (at3 true (λn w=>((),(w,((n,()),())))) (λa=>a.2.2.1.1) (λa=>a.2.1) a0.2.2.2 v14.1.1 (λw n=>some (w64 (n+1),())) 3 ((Int×Unit)×Unit) (λn w=>((n,()),())) 0 0 v15)).bind λv116 =>
 (some (v116.1.1,(0,()))))))
 (λv8=>(some v8))))))
theorem rm_ (a0:aj_):Le (kn_ a0) (hp_ a0):=by
 unfold kn_ hp_
 repeat' first | with_reducible exact Le.refl _ | (with_reducible apply Le.bind) | (with_reducible apply Le.cnd) | (with_reducible apply Le.sm) | (with_reducible apply Le.itC) | (with_reducible apply Le.atD) | (with_reducible apply bh_) | (with_reducible apply bm_) | (with_reducible apply bq_) | (with_reducible apply lz_) | (with_reducible apply jp_) | (with_reducible apply lw_) | intro
noncomputable def ko_ (a0:aj_) (a1:hb_):Option ((List Int)×Int×Unit) :=
  ((dt_ a0).bind λv0 =>
 (cond (v0.1 != 0)
 (cond (v0.1 != 0)
 (cond (v0.1 != 0)
 (some ([],(v0.1,())))
 none)
 ((gv_ a0 a1).bind λv1 =>
 (cond (!v1.1)
 (some ([],(70,())))
 ((es_ a0 a1.1).bind λv2 =>
 (cond v2.1
 (some ([],(2,())))
 ((ic_ a0 a1).bind λv3 =>
 ((dt_ v3.1).bind λv4 =>
 (cond (v4.1 != 0)
 (cond (v4.1 != 0)
 (some ([],(v4.1,())))
 none)
 ((itC (ρ:=(Unit⊕((List Int)×(Int×Unit)))) (λ(v5:(Int×(Int×Unit))) =>
 (cond (decide (v5.2.1<(v3.1.1.length:Int)))
 ((at? v3.1.1 v5.2.1).bind λv6 =>
 ((at? v3.1.2.2.1 v5.2.1).bind λv7 =>
 ((du_ v6 v7).bind λv8 =>
 (cond (v8.2.1 != 0)
 (((cond (v8.2.1 != 0)
 (some ([],(v8.2.1,())))
 none)).bind λv9 =>
 (some (inr (inr v9))))
 (cond (decide (20000<(w64 (v5.1 * v8.1))))
 (some (inr (inr ([],(2,())))))
 (some (inl ((w64 (v5.1 * v8.1)),((w64 (v5.2.1+1)),())))))))))
 (some (inr (inl ()))))) (1,(0,()))).bind λv10 =>
 (bl_ v10 (λv11=>((itC (ρ:=(((List (List (List Int)))×Unit)×Unit)) (λ(v13:(Int×(((List (List (List Int)))×Unit)×Unit))) =>
 (cond (decide (v13.1<(v3.1.1.length:Int)))
 ((at? v3.1.1 v13.1).bind λv14 =>
 ((at? v3.1.2.2.1 v13.1).bind λv15 =>
 ((co_ v14 v15).bind λv16 =>
 ((push? (α:=(List (List Int))) v13.2.1.1 ([v16.1]:List (List (List Int)))).bind λv17 =>
 (some (inl ((w64 (v13.1+1)),((v17,()),()))))))))
 (some (inr ((v13.2.1.1,()),()))))) (0,(([],()),()))).bind λv18 =>
 none))
 (λv12=>(some v12))))))))))))
 ((itC (ρ:=(Unit⊕((List Int)×(Int×Unit)))) (λ(v19:(Int×(Int×Unit))) =>
 (cond (decide (v19.2.1<(a0.1.length:Int)))
 ((at? a0.1 v19.2.1).bind λv20 =>
 ((at? a0.2.2.1 v19.2.1).bind λv21 =>
 ((du_ v20 v21).bind λv22 =>
 (cond (v22.2.1 != 0)
 (((cond (v22.2.1 != 0)
 (cond (v22.2.1 != 0)
 (some ([],(v22.2.1,())))
 none)
 ((gv_ a0 a1).bind λv23 =>
 (cond (!v23.1)
 (some ([],(70,())))
 ((es_ a0 a1.1).bind λv24 =>
 (cond v24.1
 (some ([],(2,())))
 ((ic_ a0 a1).bind λv25 =>
 ((dt_ v25.1).bind λv26 =>
 (cond (v26.1 != 0)
 (cond (v26.1 != 0)
 (some ([],(v26.1,())))
 none)
 ((itC (ρ:=(Unit⊕((List Int)×(Int×Unit)))) (λ(v27:(Int×(Int×Unit))) =>
 (cond (decide (v27.2.1<(v25.1.1.length:Int)))
 ((at? v25.1.1 v27.2.1).bind λv28 =>
 ((at? v25.1.2.2.1 v27.2.1).bind λv29 =>
 ((du_ v28 v29).bind λv30 =>
 (cond (v30.2.1 != 0)
 (((cond (v30.2.1 != 0)
 (some ([],(v30.2.1,())))
 none)).bind λv31 =>
 (some (inr (inr v31))))
 (cond (decide (20000<(w64 (v27.1 * v30.1))))
 (some (inr (inr ([],(2,())))))
 (some (inl ((w64 (v27.1 * v30.1)),((w64 (v27.2.1+1)),())))))))))
 (some (inr (inl ()))))) (1,(0,()))).bind λv32 =>
 (bl_ v32 (λv33=>((itC (ρ:=(((List (List (List Int)))×Unit)×Unit)) (λ(v35:(Int×(((List (List (List Int)))×Unit)×Unit))) =>
 (cond (decide (v35.1<(v25.1.1.length:Int)))
 ((at? v25.1.1 v35.1).bind λv36 =>
 ((at? v25.1.2.2.1 v35.1).bind λv37 =>
 ((co_ v36 v37).bind λv38 =>
 ((push? (α:=(List (List Int))) v35.2.1.1 ([v38.1]:List (List (List Int)))).bind λv39 =>
 (some (inl ((w64 (v35.1+1)),((v39,()),()))))))))
 (some (inr ((v35.2.1.1,()),()))))) (0,(([],()),()))).bind λv40 =>
 none))
 (λv34=>(some v34))))))))))))).bind λv41 =>
 (some (inr (inr v41))))
 (cond (decide (20000<(w64 (v19.1 * v22.1))))
 (some (inr (inr ([],(2,())))))
 (some (inl ((w64 (v19.1 * v22.1)),((w64 (v19.2.1+1)),())))))))))
 (some (inr (inl ()))))) (1,(0,()))).bind λv42 =>
 (bl_ v42 (λv43=>((itC (ρ:=(((List (List (List Int)))×Unit)×Unit)) (λ(v45:(Int×(((List (List (List Int)))×Unit)×Unit))) =>
 (cond (decide (v45.1<(a0.1.length:Int)))
 ((at? a0.1 v45.1).bind λv46 =>
 ((at? a0.2.2.1 v45.1).bind λv47 =>
 ((co_ v46 v47).bind λv48 =>
 ((push? (α:=(List (List Int))) v45.2.1.1 ([v48.1]:List (List (List Int)))).bind λv49 =>
 (some (inl ((w64 (v45.1+1)),((v49,()),()))))))))
 (some (inr ((v45.2.1.1,()),()))))) (0,(([],()),()))).bind λv50 =>
 ((gv_ a0 a1).bind λv51 =>
 (cond (!v51.1)
 (some ([],(70,())))
 ((es_ a0 a1.1).bind λv52 =>
 (cond v52.1
 (some ([],(2,())))
 ((ic_ a0 a1).bind λv53 =>
 ((dt_ v53.1).bind λv54 =>
 (cond (v54.1 != 0)
 (cond (v54.1 != 0)
 (some ([],(v54.1,())))
 none)
 ((itC (ρ:=(Unit⊕((List Int)×(Int×Unit)))) (λ(v55:(Int×(Int×Unit))) =>
 (cond (decide (v55.2.1<(v53.1.1.length:Int)))
 ((at? v53.1.1 v55.2.1).bind λv56 =>
 ((at? v53.1.2.2.1 v55.2.1).bind λv57 =>
 ((du_ v56 v57).bind λv58 =>
 (cond (v58.2.1 != 0)
 (((cond (v58.2.1 != 0)
 (some ([],(v58.2.1,())))
 none)).bind λv59 =>
 (some (inr (inr v59))))
 (cond (decide (20000<(w64 (v55.1 * v58.1))))
 (some (inr (inr ([],(2,())))))
 (some (inl ((w64 (v55.1 * v58.1)),((w64 (v55.2.1+1)),())))))))))
 (some (inr (inl ()))))) (1,(0,()))).bind λv60 =>
 (bl_ v60 (λv61=>((itC (ρ:=(((List (List (List Int)))×Unit)×Unit)) (λ(v63:(Int×(((List (List (List Int)))×Unit)×Unit))) =>
 (cond (decide (v63.1<(v53.1.1.length:Int)))
 ((at? v53.1.1 v63.1).bind λv64 =>
 ((at? v53.1.2.2.1 v63.1).bind λv65 =>
 ((co_ v64 v65).bind λv66 =>
 ((push? (α:=(List (List Int))) v63.2.1.1 ([v66.1]:List (List (List Int)))).bind λv67 =>
 (some (inl ((w64 (v63.1+1)),((v67,()),()))))))))
 (some (inr ((v63.2.1.1,()),()))))) (0,(([],()),()))).bind λv68 =>
 ((gw_ (a0,v50.1.1) (v53.1,v68.1.1)).bind λv69 =>
 ((((itC (ρ:=(Unit⊕(Int×Unit))) (λ(v70:(Int×Unit)) =>
 (cond (decide (v70.1<(v69.length:Int)))
 ((at? v69 v70.1).bind λv71 =>
 ((at? v69 v70.1).bind λv72 =>
 (cond (v72==a1.1)
 (some (inr (inr (v70.1,()))))
 (some (inl ((w64 (v70.1+1)),()))))))
 (some (inr (inl ()))))) (0,())).bind λv73 =>
 (bl_ v73 (λv74=>(some ((-1),())))
 (λv75=>(some v75))))).bind λv76 =>
 (cond (v76.1==(-1))
 (some (v69,(0,())))
 ((itC (ρ:=(Int×((List Int)×Unit))) (λ(v77:(Int×(Int×((List Int)×Unit)))) =>
 (cond (decide (v77.2.1<(v77.2.2.1.length:Int)))
 ((((at? v77.2.2.1 v77.2.1).bind λv78 =>
 ((at? v77.2.2.1 v77.2.1).bind λv79 =>
 (cond (!(v79==a1.1))
 ((at? v77.2.2.1 v77.1).bind λv80 =>
 ((at? v77.2.2.1 v77.1).bind λv81 =>
 (some ((w64 (v77.1+1)),((v77.2.2.1.set v77.1.toNat v79),())))))
 (some (v77.1,(v77.2.2.1,()))))))).bind λv82 =>
 (some (inl (v82.1,((w64 (v77.2.1+1)),(v82.2.1,()))))))
 (some (inr (v77.1,(v77.2.2.1,())))))) (v76.1,((w64 (v76.1+1)),(v69,())))).bind λv83 =>
 ((sub? v83.2.1 v83.1 (v83.2.1.length:Int)).bind λv84 =>
 ((sub? ((List.take v83.1.toNat v83.2.1)++(List.replicate (v83.2.1.length - v83.1.toNat) 0)) 0 v83.1).bind λv85 =>
 (some (v85,(0,())))))))))))
 (λv62=>(some v62)))))))))))))
 (λv44=>(some v44))))))
theorem rn_ (a0:aj_) (a1:hb_):Le (ko_ a0 a1) (hq_ a0 a1):=by
 unfold ko_ hq_
 repeat' first | with_reducible exact Le.refl _ | (with_reducible apply Le.bind) | (with_reducible apply Le.cnd) | (with_reducible apply Le.sm) | (with_reducible apply Le.itC) | (with_reducible apply Le.atD) | (with_reducible apply bh_) | (with_reducible apply bm_) | (with_reducible apply bq_) | (with_reducible apply uz_) | (with_reducible apply mz_) | (with_reducible apply lz_) | (with_reducible apply jp_) | (with_reducible apply lw_) | (with_reducible apply so_) | intro
noncomputable def qf_:Option (Bool×Unit) :=
  ((kn_ ([(2,4),(1,4)],(([[3,1],[1]]:List (List Int)),(([[(2,(0,(1,(4,(0,([],false))))))],[]]:List (List ab_)),[(0,(1,(1,0)))])))).bind λv0 =>
 ((ko_ ([(2,4),(1,4)],(([[3,1],[1]]:List (List Int)),(([[(2,(0,(1,(4,(0,([],false))))))],[]]:List (List ab_)),[(0,(1,(1,0)))]))) (0,(1,(0,(0,(3,(0,([],false)))))))).bind λv1 =>
 (cond (v0.2.1==0)
 (cond (v1.2.1==0)
 (cond (v0.1==3)
 ((il_ v1.1 [1]).bind λv2 =>
 (some (v2.1,())))
 (some (false,())))
 (some (false,())))
 (some (false,())))))
theorem sn_:Le (qf_) (dq_):=by
 unfold qf_ dq_
 repeat' first | with_reducible exact Le.refl _ | (with_reducible apply Le.bind) | (with_reducible apply Le.cnd) | (with_reducible apply Le.sm) | (with_reducible apply Le.itC) | (with_reducible apply Le.atD) | (with_reducible apply bh_) | (with_reducible apply bm_) | (with_reducible apply bq_) | (with_reducible apply pc_) | (with_reducible apply rm_) | (with_reducible apply rn_) | intro
theorem ai6:dq_=some (true,()):=sn_ _ (by kernel_rfl)
theorem law07_HintsFrom (g:ac_) (p:ai_):fe_ g p=some (true,()):=ad6 ai6 g p
end
end Go.Proofs.YtlbfbdbagohinaaGreatDoor.Rx
