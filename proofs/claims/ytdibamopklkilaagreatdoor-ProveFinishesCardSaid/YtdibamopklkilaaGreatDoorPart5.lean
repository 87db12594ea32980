/- A part of the proof: what the functions of the program compute, shown over the model. -/
import Derived.KernelRfl
import Derived.Test.YtdibamopklkilaaGreatDoorPart4
set_option linter.unusedSectionVars false
set_option linter.unusedVariables false
set_option linter.unusedSimpArgs false
namespace Go.Proofs.YtdibamopklkilaaGreatDoor.Rx
open Go Pad Rex Sum
section
theorem ly_ (a b c:Int):bz_ a b c=some (wi a b c,()):=bg1 a b c
theorem nx_ (a b c:Int):bm_ a b c=some (wi a b c,()):=bg1 a b c
def okL (l:ac_):Bool:=wi l.1 1 4&&wi l.2 2 10
structure Lk (l:ac_):Prop where
  w1:1≤l.1
  w2:l.1≤4
  s1:2≤l.2
  s2:l.2≤10
theorem oc_ {l:ac_}:okL l=true↔Lk l:=by
  unfold okL
  rw[a2_,ch_,ch_]
  exact⟨λh=>⟨h.1.1,h.1.2,h.2.1,h.2.2⟩,λh=>⟨⟨h.w1,h.w2⟩,h.s1,h.s2⟩⟩
theorem ll_ (l:ac_):ep_ l=some (if okL l then 0 else 10,()):=by
  unfold ep_ okL
  simp only[nx_,a0_]
  cases wi l.1 1 4<;>cases wi l.2 2 10<;>rfl
theorem lz_ (l:ac_):et_ l=some (if okL l then 0 else 10,()):=by
  unfold et_ okL
  simp only[ly_,a0_]
  cases wi l.1 1 4<;>cases wi l.2 2 10<;>rfl
def de_ (l:ac_) (c:List Int):Bool:=decide ((c.length:Int)=l.1)&&c.all λn=>wi n 0 (l.2 - 1)
theorem Lk.ws {l:ac_} (h:Lk l):w64 (l.2 - 1)=l.2 - 1:=by have:=h.s1;have:=h.s2;exact lh_ (by omega) (by omega)
theorem Lk.ww {l:ac_} (h:Lk l):w64 (l.1 - 1)=l.1 - 1:=by have:=h.w1;have:=h.w2;exact lh_ (by omega) (by omega)
theorem ms_ {l:ac_} (h:Lk l) (n:Int):cp_ l n=some (wi n 0 (l.2 - 1),()):=by
  unfold cp_
  rw[ly_,h.ws]
  rfl
theorem ut_ {l:ac_} (h:Lk l) (n:Int):bu_ l n=some (wi n 0 (l.1 - 1),()):=by
  unfold bu_
  rw[ly_,h.ww]
  rfl
theorem all_any {α:Type} (l:List α) (q:α→Bool):(!(l.any λx=>!(q x)))=l.all q:=tt_ l q
theorem tz_ {l:ac_} (h:Lk l) (c:List Int):gu_ l c=some (de_ l c,()):=by
  have w2:=h.w2
  unfold gu_ de_
  by_cases he:(c.length:Int)=l.1
  · have hb:((c.length:Int) != l.1)=false:=by simp[he]
    rw[hb,b4_ he,b7_,a1_]
    refine bo_ c (λ_ y=>cond (wi y 0 (l.2 - 1)) none (some (inr (false,()):Unit⊕(Bool×Unit)))) (λi=>((i:Int),())) (r0:=inl ()) (λi y hy => ?_) ?_ ?_
    · have hi:=ak_ hy
      simp only[dlt hi,a4_,ah_ hy,a0_,nx_,h.ws,az_ (show Sm i by unfold Sm;omega)]
      cases wi y 0 (l.2 - 1)<;>rfl
    · simp only[dnl,a1_]
    · rw[jq_ (q:=λy=>wi y 0 (l.2 - 1))]
      cases c.all λy=>wi y 0 (l.2 - 1)<;>rfl
  · have hb:((c.length:Int) != l.1)=true:=by simp[he]
    rw[hb,b1_ he]
    rfl
theorem os_ {l:ac_} (h:Lk l) (c:List Int):di_ l c=some (de_ l c,()):=by
  have w2:=h.w2
  unfold di_ de_
  by_cases he:(c.length:Int)=l.1
  · have hb:((c.length:Int)==l.1)=true:=by simp[he]
    rw[hb,b4_ he,b7_,a4_,ou_ (l:=c) (by unfold Sm;omega) (λn=>!(wi n 0 (l.2 - 1))) (λi y hy=>by
      simp only[dlt (ak_ hy),a4_,ah_ hy,a0_,ms_ h]
      cases wi y 0 (l.2 - 1)<;>rfl) (by simp only[dnl,a1_]),a0_,all_any]
  · have hb:((c.length:Int)==l.1)=false:=by simp[he]
    rw[hb,b1_ he]
    rfl
theorem un_ (l:ac_) (c:List Int):gd_ l c=some (if okL l then (if de_ l c then 0 else 12) else 10,()):=by
  unfold gd_
  rw[ll_,a0_]
  cases h:okL l with
  | true =>
    rw[if_pos rfl,tz_ (oc_.1 h)]
    cases de_ l c<;>rfl
  | false=>rfl
theorem nr_ (l:ac_) (c:List Int):eh_ l c=some (if okL l then (if de_ l c then 0 else 12) else 10,()):=by
  unfold eh_ ib_
  rw[lz_,a0_]
  cases h:okL l with
  | true =>
    have hl:=oc_.1 h
    have:=ou_ (l:=[c]) (by unfold Sm;simp) (λc=>!(de_ l c)) (body:=λ(v1:(Int×Unit)) =>
      (cond (decide (v1.1<(([c]:List (List Int)).length:Int)))
      ((at? [c] v1.1).bind λv2 =>
      ((di_ l v2).bind λv3 =>
      (cond (!v3.1)
      (some (inr (inr ((decide (0≤v1.1)),()))))
      (some (inl ((w64 (v1.1+1)),()))))))
      (some (inr (inl ()))))) (λi y hy=>by
      simp only[dlt (ak_ hy),a4_,ah_ hy,a0_,os_ hl]
      cases de_ l y<;>rfl) (by simp only[dnl,a1_])
    rw[this]
    simp only[p1_,List.any_nil,i7_]
    cases de_ l c<;>rfl
  | false=>rfl
theorem bo1 {α:Type} [BEq α] [LawfulBEq α] [DecidableEq α] {a b:List α} (ha:Sm a.length) (he:a.length=b.length) {body:(Int×Unit)→Option ((Int×Unit)⊕(Unit⊕(Bool×Unit)))} {K:(Unit⊕(Bool×Unit))→Option (Bool×Unit)}
    (h:∀ (i:Nat) x y,a[i]?=some x→b[i]?=some y→body ((i:Int),())=some (cond (x != y) (.inr (.inr (false,()))) (.inl (w64 ((i:Int)+1),())))) (e:body ((a.length:Int),())=some (.inr (.inl ()))) (k1:K (.inl ())=some (true,())) (k2:K (.inr (false,()))=some (false,())) :
    (ag_ body (0,())).bind K=some (decide (a=b),()):=by
  refine bo_ (a.zip b) (λ_ p=>cond (p.1==p.2) none (some (inr (false,()):Unit⊕(Bool×Unit)))) (λi=>((i:Int),())) (r0:=inl ()) (λi p hp => ?_) ?_ ?_
  · obtain⟨h1,h2⟩:=f8_.1 hp
    rw[h i p.1 p.2 h1 h2,az_ (show Sm i by have:=ak_ h1;unfold Sm at *; omega)]
    cases hq:p.1==p.2<;>simp[bne,hq]
  · rw[m6_,← he,Nat.min_self]
    exact e
  · rw[jq_ (q:=λp:α×α=>p.1==p.2)]
    have hk:((a.zip b).all λp=>p.1==p.2)=decide (a=b):=by
      refine k7_.2 ?_
      rw[e6_,h0_]
      constructor
      · intro hz
        refine f1_ λi => ?_
        by_cases hi:i<a.length
        · obtain⟨x,hx⟩:=aw_ hi
          obtain⟨y,hy⟩:=aw_ (l:=b) (i:=i) (by omega)
          have:=hz (x,y) (b9_ (f8_.2 ⟨hx,hy⟩))
          rw[hx,hy,show x=y from eq_of_beq this]
        · rw[b3_ (by omega),b3_ (by omega)]
      · rintro rfl p hp
        obtain⟨i,hi⟩:=e7_ hp
        obtain⟨h1,h2⟩:=f8_.1 hi
        rw[h1] at h2
        exact f2_.2 (a5_ h2)
    rw[hk]
    cases decide (a=b)
    · exact k2
    · exact k1
theorem yl_ {a b:List Int} (ha:Sm a.length):hb_ a b=some (decide (a=b),()):=by
  unfold hb_
  by_cases he:a.length=b.length
  · have hb:((a.length:Int) != (b.length:Int))=false:=by simp[he]
    rw[hb,a1_]
    refine bo1 ha he (λi x y hx hy => ?_) ?_ rfl rfl
    · simp only[dlt (ak_ hx),a4_,ah_ hx,ah_ hy,a0_]
      cases x != y<;>rfl
    · simp only[dnl,a1_]
  · have hb:((a.length:Int) != (b.length:Int))=true:=by simp;omega
    rw[hb,b1_ (λe=>he (by rw[e]))]
    rfl
def df_ (l:ac_) (c:al_):Bool :=
  if c.1=1 then wi c.2.1 0 (l.1 - 1)&&(wi c.2.2.2.1 0 (l.2 - 1)&&(c.2.2.1==0&&(c.2.2.2.2.1==0&&decide (c.2.2.2.2.2.1=[]))))
  else if c.1=2 then wi c.2.1 0 (l.1 - 1)&&(wi c.2.2.1 0 (l.1 - 1)&&(decide (c.2.1≤c.2.2.1)&&(wi c.2.2.2.1 0 100&&(c.2.2.2.2.1==0&&decide (c.2.2.2.2.2.1=[])))))
  else if c.1=3∨c.1=4 then wi c.2.1 0 (l.1 - 1)&&(wi c.2.2.1 0 (l.1 - 1)&&(c.2.1 != c.2.2.1&&(c.2.2.2.1==0&&(c.2.2.2.2.1==0&&decide (c.2.2.2.2.2.1=[])))))
  else if c.1=5 then wi c.2.2.2.1 0 (l.2 - 1)&&(wi c.2.2.2.2.1 0 l.1&&(c.2.1==0&&(c.2.2.1==0&&decide (c.2.2.2.2.2.1=[]))))
  else if c.1=6 then de_ l c.2.2.2.2.2.1&&(wi c.2.2.2.1 0 l.1&&(wi c.2.2.2.2.1 0 l.1&&(c.2.1==0&&c.2.2.1==0)))
  else if c.1=7 then wi c.2.1 0 (l.1 - 1)&&(wi c.2.2.2.1 2 10&&(wi c.2.2.2.2.1 0 (c.2.2.2.1 - 1)&&(c.2.2.1==0&&decide (c.2.2.2.2.2.1=[]))))
  else false
theorem len0 (l:List Int):((l.length:Int)==((([]:List Int)).length:Int))=decide (l=[]):=by cases l<;>simp<;>omega
theorem ua_ {l:ac_} (h:Lk l) {c:al_} (hs:Sm c.2.2.2.2.2.1.length):gv_ l c=some (df_ l c,()):=by
  unfold gv_ df_ jm_
  simp only[nx_,tz_ h,yl_ hs,a0_,h.ww,h.ws,d5_,a4_]
  by_cases h1:c.1=1
  · simp only[h1]
    cases wi c.2.1 0 (l.1 - 1)<;>cases wi c.2.2.2.1 0 (l.2 - 1)<;>simp only[a4_,a1_,a0_,d5_,b7_,e0_,Int.reduceBEq,l9_,i3_,Int.reduceEq,o4_,o3_,n9_]<;>cases c.2.2.1==0<;>cases c.2.2.2.2.1==0<;>rfl
  by_cases h2:c.1=2
  · simp only[h2]
    cases wi c.2.1 0 (l.1 - 1)<;>cases wi c.2.2.1 0 (l.1 - 1)<;>cases decide (c.2.1≤c.2.2.1)<;>cases wi c.2.2.2.1 0 100<;>simp only[a4_,a1_,a0_,d5_,b7_,e0_,Int.reduceBEq,l9_,i3_,Int.reduceEq,o4_,o3_,n9_]<;>cases c.2.2.2.2.1==0<;>rfl
  by_cases h3:c.1=3
  · simp only[h3]
    cases wi c.2.1 0 (l.1 - 1)<;>cases wi c.2.2.1 0 (l.1 - 1)<;>cases c.2.1 != c.2.2.1<;>simp only[a4_,a1_,a0_,d5_,b7_,e0_,Int.reduceBEq,l9_,i3_,Int.reduceEq,o4_,o3_,n9_]<;>cases c.2.2.2.1==0<;>cases c.2.2.2.2.1==0<;>rfl
  by_cases h4:c.1=4
  · simp only[h4]
    cases wi c.2.1 0 (l.1 - 1)<;>cases wi c.2.2.1 0 (l.1 - 1)<;>cases c.2.1 != c.2.2.1<;>simp only[a4_,a1_,a0_,d5_,b7_,e0_,Int.reduceBEq,l9_,i3_,Int.reduceEq,o4_,o3_,n9_]<;>cases c.2.2.2.1==0<;>cases c.2.2.2.2.1==0<;>rfl
  by_cases h5:c.1=5
  · simp only[h5]
    cases wi c.2.2.2.1 0 (l.2 - 1)<;>cases wi c.2.2.2.2.1 0 l.1<;>simp only[a4_,a1_,a0_,d5_,b7_,e0_,Int.reduceBEq,l9_,i3_,Int.reduceEq,o4_,o3_,n9_]<;>cases c.2.1==0<;>cases c.2.2.1==0<;>rfl
  by_cases h6:c.1=6
  · simp only[h6]
    cases de_ l c.2.2.2.2.2.1<;>cases wi c.2.2.2.1 0 l.1<;>cases wi c.2.2.2.2.1 0 l.1<;>simp only[a4_,a1_,a0_,d5_,b7_,e0_,Int.reduceBEq,l9_,i3_,Int.reduceEq,o4_,o3_,n9_]<;>cases c.2.1==0<;>cases c.2.2.1==0<;>simp
  by_cases h7:c.1=7
  · simp only[h7]
    cases wi c.2.1 0 (l.1 - 1)
    · rfl
    cases hn:wi c.2.2.2.1 2 10
    · rfl
    have:=ch_.1 hn
    rw[lh_ (n:=c.2.2.2.1 - 1) (by omega) (by omega)]
    cases wi c.2.2.2.2.1 0 (c.2.2.2.1 - 1)<;>simp only[a4_,a1_,a0_,d5_,b7_,e0_,Int.reduceBEq,l9_,i3_,Int.reduceEq,o4_,o3_,n9_]<;>cases c.2.2.1==0<;>rfl
  have b1:(c.1==1)=false:=by simp[h1]
  have b2:(c.1==2)=false:=by simp[h2]
  have b3:(c.1==3)=false:=by simp[h3]
  have b4:(c.1==4)=false:=by simp[h4]
  have b5:(c.1==5)=false:=by simp[h5]
  have b6:(c.1==6)=false:=by simp[h6]
  have b7:(c.1==7)=false:=by simp[h7]
  simp only[b1,b2,b3,b4,b5,b6,b7,h1,h2,h3,h4,h5,h6,h7,a1_,a0_,i3_,n9_]
theorem ot_ {l:ac_} (h:Lk l) (c:al_):dj_ l c=some (df_ l c,()):=by
  unfold dj_ df_
  simp only[ly_,ut_ h,ms_ h,os_ h,a0_]
  by_cases h1:c.1=1
  · simp only[h1]
    cases wi c.2.1 0 (l.1 - 1)<;>cases wi c.2.2.2.1 0 (l.2 - 1)<;>simp only[a4_,a1_,a0_,d5_,b7_,e0_,Int.reduceBEq,l9_,i3_,Int.reduceEq,o4_,o3_,n9_,len0]<;>cases c.2.2.1==0<;>cases c.2.2.2.2.1==0<;>rfl
  by_cases h2:c.1=2
  · simp only[h2]
    cases wi c.2.1 0 (l.1 - 1)<;>cases wi c.2.2.1 0 (l.1 - 1)<;>cases decide (c.2.1≤c.2.2.1)<;>cases wi c.2.2.2.1 0 100<;>simp only[a4_,a1_,a0_,d5_,b7_,e0_,Int.reduceBEq,l9_,i3_,Int.reduceEq,o4_,o3_,n9_,len0]<;>cases c.2.2.2.2.1==0<;>rfl
  by_cases h3:c.1=3
  · simp only[h3]
    cases wi c.2.1 0 (l.1 - 1)<;>cases wi c.2.2.1 0 (l.1 - 1)<;>cases c.2.1 != c.2.2.1<;>simp only[a4_,a1_,a0_,d5_,b7_,e0_,Int.reduceBEq,l9_,i3_,Int.reduceEq,o4_,o3_,n9_,len0]<;>cases c.2.2.2.1==0<;>cases c.2.2.2.2.1==0<;>rfl
  by_cases h4:c.1=4
  · simp only[h4]
    cases wi c.2.1 0 (l.1 - 1)<;>cases wi c.2.2.1 0 (l.1 - 1)<;>cases c.2.1 != c.2.2.1<;>simp only[a4_,a1_,a0_,d5_,b7_,e0_,Int.reduceBEq,l9_,i3_,Int.reduceEq,o4_,o3_,n9_,len0]<;>cases c.2.2.2.1==0<;>cases c.2.2.2.2.1==0<;>rfl
  by_cases h5:c.1=5
  · simp only[h5]
    cases wi c.2.2.2.1 0 (l.2 - 1)<;>cases wi c.2.2.2.2.1 0 l.1<;>simp only[a4_,a1_,a0_,d5_,b7_,e0_,Int.reduceBEq,l9_,i3_,Int.reduceEq,o4_,o3_,n9_,len0]<;>cases c.2.1==0<;>cases c.2.2.1==0<;>rfl
  by_cases h6:c.1=6
  · simp only[h6]
    cases de_ l c.2.2.2.2.2.1<;>cases wi c.2.2.2.1 0 l.1<;>cases wi c.2.2.2.2.1 0 l.1<;>simp only[a4_,a1_,a0_,d5_,b7_,e0_,Int.reduceBEq,l9_,i3_,Int.reduceEq,o4_,o3_,n9_,len0]<;>cases c.2.1==0<;>cases c.2.2.1==0<;>rfl
  by_cases h7:c.1=7
  · simp only[h7]
    cases wi c.2.1 0 (l.1 - 1)
    · rfl
    cases hn:wi c.2.2.2.1 2 10
    · rfl
    have:=ch_.1 hn
    rw[lh_ (n:=c.2.2.2.1 - 1) (by omega) (by omega)]
    cases wi c.2.2.2.2.1 0 (c.2.2.2.1 - 1)<;>simp only[a4_,a1_,a0_,d5_,b7_,e0_,Int.reduceBEq,l9_,i3_,Int.reduceEq,o4_,o3_,n9_,len0]<;>cases c.2.2.1==0<;>rfl
  have b1:(c.1==1)=false:=by simp[h1]
  have b2:(c.1==2)=false:=by simp[h2]
  have b3:(c.1==3)=false:=by simp[h3]
  have b4:(c.1==4)=false:=by simp[h4]
  have b5:(c.1==5)=false:=by simp[h5]
  have b6:(c.1==6)=false:=by simp[h6]
  have b7:(c.1==7)=false:=by simp[h7]
  simp only[b1,b2,b3,b4,b5,b6,b7,h1,h2,h3,h4,h5,h6,h7,a1_,a0_,i3_,n9_]
theorem uo_ {l:ac_} (hl:Lk l) {c:al_} (hs:Sm c.2.2.2.2.2.1.length):ge_ l c=some (cond (df_ l c) 0 11,()):=by
  unfold ge_
  rw[ll_,oc_.2 hl,if_pos rfl,a0_,ua_ hl hs]
  cases df_ l c<;>rfl
theorem uu_ {l:ac_} (hl:Lk l) (c:al_):gj_ l c=some (cond (df_ l c) 0 11,()):=by
  unfold gj_
  rw[lz_,oc_.2 hl,if_pos rfl,a0_,ot_ hl]
  cases df_ l c<;>rfl
end
section
theorem zr_ {α τ σ ρ:Type} (l:List α) (f:τ→α→τ) (F:Nat→τ→σ) (R:τ→ρ) (t0:τ) {body:σ→Option (σ⊕ρ)}
    (h:∀ i x t,l[i]?=some x→body (F i t)=some (.inl (F (i+1) (f t x)))) (e:∀ t,body (F l.length t)=some (.inr (R t))):ag_ body (F 0 t0)=some (R (l.foldl f t0)):=by
  obtain⟨t,h1,h2⟩:=kt_ l (λ_=>f) F R t0 (λi t=>t=(l.take i).foldl f t0) rfl (λi x t hx ht=>⟨h i x t hx,by
    rw[ht,d3_,hx,o8_]
    rfl⟩) (λt _=>e t)
  rw[h2,h1,d7_]
theorem mt_ {α τ σ ρ υ:Type} (l:List α) (f:τ→α→τ) (F:Nat→τ→σ) (R:τ→ρ) (t0:τ) {body:σ→Option (σ⊕ρ)} {K:ρ→Option υ} {x:Option υ}
    (h:∀ i x t,l[i]?=some x→body (F i t)=some (.inl (F (i+1) (f t x)))) (e:∀ t,body (F l.length t)=some (.inr (R t))) (hk:K (R (l.foldl f t0))=x):(ag_ body (F 0 t0)).bind K=x:=by
  rw[zr_ l f F R t0 h e,a0_,hk]
theorem aj3 {α β:Type}:∀ (l:List α) (m:List β) (i:Nat),(l.zip m).take i=(l.take i).zip (m.take i)
  | [],m,i=>by simp
  | x::l,[],i=>by cases i<;>simp
  | x::l,y::m,0=>rfl
  | x::l,y::m,i+1=>by simp[aj3 l m i]
theorem kh_ {l:ac_} {c:List Int}:de_ l c=true↔(c.length:Int)=l.1∧∀ n ∈ c,0≤n∧n≤l.2 - 1:=by
  unfold de_
  rw[a2_,h0_,e6_]
  exact⟨λh=>⟨h.1,λn hn=>ch_.1 (h.2 n hn)⟩,λh=>⟨h.1,λn hn=>ch_.2 (h.2 n hn)⟩⟩
def zu_ (l:List Int) (k:Int):Int:=l.foldl (λs x=>cond (x==k) (w64 (s+1)) s) 0
def ce3 (code guess:List Int):Int:=(code.zip guess).foldl (λs p=>cond (p.1==p.2) (w64 (s+1)) s) 0
def comW (code guess:List Int):Int:=(List.range 10).foldl (λs (k:Nat)=>w64 (s+minI (zu_ code k) (zu_ guess k))) 0
theorem ao8 {l:List Int} {j:Nat} {x k:Int} (h:l[j]?=some x):zu_ (l.take (j+1)) k=cond (x==k) (w64 (zu_ (l.take j) k+1)) (zu_ (l.take j) k):=by
  unfold zu_
  rw[d3_,h,o8_]
  rfl
theorem qp_ {l:List Int} {k:Int} (hl:Sm l.length):eo_ l k=some (zu_ l k,()):=by
  unfold eo_ zu_
  refine mt_ l (λs x=>cond (x==k) (w64 (s+1)) s) (λi s=>(s,((i:Int),()))) (λs=>(s,())) 0 (λi x s hx=>by
    have hi:=ak_ hx
    simp only[dlt hi,a4_,ah_ hx,a0_,az_ (show Sm i by unfold Sm at *; omega)]
    cases x==k<;>rfl) (λs=>by simp only[dnl,a1_]) rfl
theorem al0 {l:ac_} (hl:Lk l) {code guess:List Int} (hc:de_ l code=true) (hg:de_ l guess=true):iv_ code guess=some (ce3 code guess,(w64 (comW code guess - ce3 code guess),())):=by
  obtain⟨c1,_⟩:=kh_.1 hc
  obtain⟨g1,_⟩:=kh_.1 hg
  have w2:=hl.w2
  have sc:Sm code.length:=by unfold Sm;omega
  have sg:Sm guess.length:=by unfold Sm;omega
  have hz:(code.zip guess).length=code.length:=by rw[m6_];omega
  unfold iv_
  refine mt_ (code.zip guess) (λs p=>cond (p.1==p.2) (w64 (s+1)) s) (λi s=>(s,((i:Int),()))) (λs=>(s,())) 0 (λi p s hp=>by
    obtain⟨h1,h2⟩:=f8_.1 hp
    simp only[dlt (ak_ h1),a4_,ah_ h1,ah_ h2,a0_,az_ (show Sm i by have:=ak_ h1;unfold Sm at *; omega)]
    cases p.1==p.2<;>rfl) (λs=>by rw[hz];simp only[dnl,a1_]) ?_
  refine mt_ (List.range 10) (λs (k:Nat)=>w64 (s+minI (zu_ code k) (zu_ guess k))) (λi s=>(s,((i:Int),()))) (λs=>(s,())) 0 (λi k s hk=>by
    have hi:=ak_ hk
    rw[h3_] at hi
    rw[m3_ hi] at hk
    obtain rfl:=a5_ hk
    simp only[show decide ((i:Int)<10)=true from b4_ (by omega),a4_,qp_ sc,qp_ sg,a0_,az_ (show Sm i by unfold Sm;omega)]) (λs=>by
    rw[h3_]
    rfl) rfl
theorem ao5 {l:ac_} (hl:Lk l) {code guess:List Int} (hc:de_ l code=true) (hg:de_ l guess=true):ix_ code guess=some (ce3 code guess,(w64 (comW code guess - ce3 code guess),())):=by
  obtain⟨c1,c2⟩:=kh_.1 hc
  obtain⟨g1,g2⟩:=kh_.1 hg
  have w2:=hl.w2
  have s2:=hl.s2
  have hz:(code.zip guess).length=code.length:=by rw[m6_];omega
  have tk:∀ i,(code.zip guess).take i=(code.take i).zip (guess.take i):=λi=>aj3 _ _ i
  let I:Nat→(Int×(List Int×List Int))→Prop:=λi t=>t.1=ce3 (code.take i) (guess.take i)∧t.2.1.length=10∧t.2.2.length=10∧∀ k:Nat,k<10→t.2.1[k]?=some (zu_ (code.take i) k)∧t.2.2[k]?=some (zu_ (guess.take i) k)
  have h1:=kt_ (code.zip guess) (λ_ (t:Int×(List Int×List Int)) p=>(cond (p.1==p.2) (w64 (t.1+1)) t.1,(t.2.1.set p.1.toNat (w64 ((t.2.1[p.1.toNat]?).getD 0+1)),t.2.2.set p.2.toNat (w64 ((t.2.2[p.2.toNat]?).getD 0+1)))))
    (λi t=>(t.1,((i:Int),(t.2.1,(t.2.2,()))))) (λt=>(t.1,(t.2.1,(t.2.2,())))) (0,([0,0,0,0,0,0,0,0,0,0],[0,0,0,0,0,0,0,0,0,0])) I
    (body:=λ(v0:(Int×(Int×((List Int)×((List Int)×Unit))))) =>
 (cond (decide (v0.2.1<(code.length:Int)))
 ((at? code v0.2.1).bind λv1 =>
 ((((at? guess v0.2.1).bind λv2 =>
 (cond (v1==v2)
 (some ((w64 (v0.1+1)),()))
 (some (v0.1,()))))).bind λv3 =>
 (cond (decide (v1<(10:Int)))
 ((at? v0.2.2.1 v1).bind λv4 =>
 ((at? v0.2.2.1 v1).bind λv5 =>
 (cond (decide (v1<(10:Int)))
 ((at? v0.2.2.1 v1).bind λv6 =>
 ((at? v0.2.2.1 v1).bind λv7 =>
 ((at? guess v0.2.1).bind λv8 =>
 (cond (decide (v8<(10:Int)))
 ((at? v0.2.2.2.1 v8).bind λv9 =>
 ((at? v0.2.2.2.1 v8).bind λv10 =>
 (cond (decide (v8<(10:Int)))
 ((at? v0.2.2.2.1 v8).bind λv11 =>
 ((at? v0.2.2.2.1 v8).bind λv12 =>
 (some (inl (v3.1,((w64 (v0.2.1+1)),((v0.2.2.1.set v1.toNat (w64 (v5+1))),((v0.2.2.2.1.set v8.toNat (w64 (v10+1))),()))))))))
 none)))
 none))))
 none)))
 none)))
 (some (inr (v0.1,(v0.2.2.1,(v0.2.2.2.1,())))))))
    ⟨rfl,rfl,rfl,λk hk=>⟨by
      match k,hk with
      | 0,_ | 1,_ | 2,_ | 3,_ | 4,_ | 5,_ | 6,_ | 7,_ | 8,_ | 9,_=>rfl,by
      match k,hk with
      | 0,_ | 1,_ | 2,_ | 3,_ | 4,_ | 5,_ | 6,_ | 7,_ | 8,_ | 9,_=>rfl⟩⟩ (λi p t hp ht=>by
      obtain⟨x,y⟩:=p
      obtain⟨hx,hy⟩:=f8_.1 hp
      obtain⟨t1,t2,t3,t4⟩:=ht
      have hx':=c2 x (b9_ hx)
      have hy':=g2 y (b9_ hy)
      have ax:at? t.2.1 x=some (zu_ (code.take i) x):=by
        have:=(t4 x.toNat (by omega)).1
        rw[show ((x.toNat:Nat):Int)=x by omega] at this
        unfold at?
        rw[if_pos hx'.1]
        exact this
      have ay:at? t.2.2 y=some (zu_ (guess.take i) y):=by
        have:=(t4 y.toNat (by omega)).2
        rw[show ((y.toNat:Nat):Int)=y by omega] at this
        unfold at?
        rw[if_pos hy'.1]
        exact this
      have gx:t.2.1[x.toNat]?=some (zu_ (code.take i) x):=by
        have:=(t4 x.toNat (by omega)).1
        rwa [show ((x.toNat:Nat):Int)=x by omega] at this
      have gy:t.2.2[y.toNat]?=some (zu_ (guess.take i) y):=by
        have:=(t4 y.toNat (by omega)).2
        rwa [show ((y.toNat:Nat):Int)=y by omega] at this
      refine⟨?_,?_,?_,?_,λk hk => ?_⟩
      · simp only[dlt (ak_ hx),a4_,ah_ hx,ah_ hy,a0_,ax,ay,show decide (x<10)=true from b4_ (by omega),show decide (y<10)=true from b4_ (by omega),az_ (show Sm i by have:=ak_ hx;unfold Sm;omega),gx,gy,e5_]
        cases x==y<;>rfl
      · show cond (x==y) (w64 (t.1+1)) t.1=ce3 (code.take (i+1)) (guess.take (i+1))
        unfold ce3
        rw[← tk,d3_,hp,o8_,tk,t1]
        rfl
      · simp[t2]
      · simp[t3]
      · obtain⟨q1,q2⟩:=t4 k hk
        constructor
        · show (t.2.1.set x.toNat (w64 ((t.2.1[x.toNat]?).getD 0+1)))[k]?=_
          rw[ao8 hx,gx,e5_,i2_]
          by_cases e:x.toNat=k
          · have e2:x=(k:Int):=by omega
            rw[if_pos e,if_pos (by omega),e2,d5_,a4_]
          · have e2:(x==(k:Int))=false:=by simp;omega
            rw[if_neg e,q1,e2,a1_]
        · show (t.2.2.set y.toNat (w64 ((t.2.2[y.toNat]?).getD 0+1)))[k]?=_
          rw[ao8 hy,gy,e5_,i2_]
          by_cases e:y.toNat=k
          · have e2:y=(k:Int):=by omega
            rw[if_pos e,if_pos (by omega),e2,d5_,a4_]
          · have e2:(y==(k:Int))=false:=by simp;omega
            rw[if_neg e,q2,e2,a1_]) (λt _=>by rw[hz];simp only[dnl,a1_])
  obtain⟨t,⟨t1,t2,t3,t4⟩,h2⟩:=h1
  rw[hz] at t1 t4
  rw[d7_,show guess.take code.length=guess by rw[g9_ (by omega)]] at t1
  unfold ix_
  refine (congrArg (λo=>Option.bind o _) h2).trans ?_
  rw[a0_]
  refine mt_ (List.range 10) (λs (k:Nat)=>w64 (s+minI (zu_ code k) (zu_ guess k))) (λi s=>(s,((i:Int),()))) (λs=>(s,())) 0 (λi k s hk=>by
    have hi:=ak_ hk
    rw[h3_] at hi
    rw[m3_ hi] at hk
    obtain rfl:=a5_ hk
    obtain⟨q1,q2⟩:=t4 i hi
    rw[d7_] at q1
    rw[show guess.take code.length=guess by rw[g9_ (by omega)]] at q2
    simp only[show decide ((i:Int)<10)=true from b4_ (by omega),a4_,ah_ q1,ah_ q2,a0_,az_ (show Sm i by unfold Sm;omega)]) (λs=>by
    rw[h3_]
    rfl) ?_
  rw[t1]
  rfl
end
section
def wp_ (code:List Int) (a b:Int):List Int:=(code.take (b+1).toNat).drop a.toNat
def sumW (l:List Int):Int:=l.foldl (λs x=>w64 (s+x)) 0
def gt0 (code:List Int) (i:Int):Int:=(at? code i).getD 0
def plV (c:al_) (code:List Int):Bool :=
  cond (c.1==1) (gt0 code c.2.1==c.2.2.2.1) <|
  cond (c.1==2) (sumW (wp_ code c.2.1 c.2.2.1)==c.2.2.2.1) <|
  cond (c.1==3) (decide (gt0 code c.2.1<gt0 code c.2.2.1)) <|
  cond (c.1==4) (gt0 code c.2.1==gt0 code c.2.2.1) <|
  cond (c.1==5) (zu_ code c.2.2.2.1==c.2.2.2.2.1) <|
  cond (c.1==6) (cond (ce3 code c.2.2.2.2.2.1==c.2.2.2.1) (w64 (comW code c.2.2.2.2.2.1 - ce3 code c.2.2.2.2.2.1)==c.2.2.2.2.1) false) <|
  cond (c.1==7) ((gt0 code c.2.1).tmod c.2.2.2.1==c.2.2.2.2.1) false
def tr (c:al_) (code:List Int):Bool:=plV c code != c.2.2.2.2.2.2
theorem gt0_at {code:List Int} {i x:Int} (h:at? code i=some x):gt0 code i=x:=by unfold gt0;rw[h];rfl
theorem ps_ {l:ac_} (hl:Lk l) {c:al_} {code:List Int} (hc:df_ l c=true) (hk:de_ l code=true):fp_ c code=some (tr c code,())∧gh_ c code=some (tr c code,()):=by
  obtain⟨c1,c2⟩:=kh_.1 hk
  have w1:=hl.w1;have w2:=hl.w2;have s1:=hl.s1;have s2:=hl.s2
  have sc:Sm code.length:=by unfold Sm;omega
  unfold df_ at hc
  have hat:∀ i,wi i 0 (l.1 - 1)=true→at? code i=some (gt0 code i):=by
    intro i hi
    obtain⟨a,b⟩:=ch_.1 hi
    obtain⟨x,h1⟩:=aw_ (l:=code) (i:=i.toNat) (by omega)
    have h2:at? code i=some x:=by unfold at?; rw[if_pos a];exact h1
    rw[h2,gt0_at h2]
  unfold fp_ gh_ nk_ tr plV
  by_cases h1:c.1=1
  · simp only[h1,l9_,a2_] at hc
    have hx:=hat _ hc.1
    simp only[h1,hx,d5_,a4_,a0_,and_self]
  have b1:(c.1==1)=false:=by simp[h1]
  simp only[b1,a1_]
  by_cases h2:c.1=2
  · simp only[h2,l9_,a2_,show ¬ ((2:Int)=1) by omega,i3_] at hc
    obtain⟨hA,hB,hAB,_⟩:=hc
    obtain⟨a1,a2⟩:=ch_.1 hA
    obtain⟨d1,d2⟩:=ch_.1 hB
    have hab:c.2.1≤c.2.2.1:=by simpa using hAB
    have hsub:sub? code c.2.1 (w64 (c.2.2.1+1))=some (wp_ code c.2.1 c.2.2.1):=by
      rw[lh_ (by omega) (by omega)]
      unfold sub? wp_
      rw[if_pos ⟨a1,by omega,by omega⟩]
    have hsl:(wp_ code c.2.1 c.2.2.1).length=(c.2.2.1 - c.2.1+1).toNat:=by
      unfold wp_
      rw[k9_,c6_]
      omega
    have hsg:∀ (j:Nat) x,(wp_ code c.2.1 c.2.2.1)[j]?=some x→at? code (c.2.1+(j:Int))=some x:=by
      intro j x hj
      have hlt:=ak_ hj
      unfold wp_ at hj
      rw[List.getElem?_drop,j2_,if_pos (by omega)] at hj
      unfold at?
      rw[if_pos (by omega),show (c.2.1+(j:Int)).toNat=c.2.1.toNat+j by omega]
      exact hj
    simp only[h2,d5_,a4_,hsub,a0_]
    constructor
    · have:=zr_ (wp_ code c.2.1 c.2.2.1) (λs x=>w64 (s+x)) (λi s=>(s,(c.2.1+(i:Int),()))) (λs=>(s,())) 0 (body:=λ(v1:(Int×(Int×Unit))) =>
        (cond (decide (v1.2.1≤c.2.2.1))
        ((at? code v1.2.1).bind λv2 =>
        (some (inl ((w64 (v1.1+v2)),((w64 (v1.2.1+1)),())))))
        (some (inr (v1.1,()))))) (λi x s hx=>by
        have hi:=ak_ hx
        simp only[show decide (c.2.1+(i:Int)≤c.2.2.1)=true from b4_ (by omega),a4_,hsg i x hx,a0_,lh_ (n:=c.2.1+(i:Int)+1) (by omega) (by omega)]
        rw[show c.2.1+(i:Int)+1=c.2.1+((i+1:Nat):Int) by omega]) (λs=>by
        simp only[show decide (c.2.1+((wp_ code c.2.1 c.2.2.1).length:Int)≤c.2.2.1)=false from b1_ (by omega),a1_])
      simp only[Int.natCast_zero,Int.add_zero] at this
      rw[this]
      rfl
    · refine congrArg (λo=>Option.bind o _) (?_:_=some (sumW (wp_ code c.2.1 c.2.2.1)==c.2.2.2.1,())) |>.trans rfl
      refine mt_ (wp_ code c.2.1 c.2.2.1) (λs x=>w64 (s+x)) (λi s=>(s,((i:Int),()))) (λs=>(s,())) 0 (λi x s hx=>by
        have hi:=ak_ hx
        simp only[dlt hi,a4_,ah_ hx,a0_,az_ (show Sm i by unfold Sm;omega)]) (λs=>by simp only[dnl,a1_]) rfl
  have b2:(c.1==2)=false:=by simp[h2]
  simp only[b2,a1_]
  by_cases h3:c.1=3
  · simp only[h3,l9_,a2_,show ¬ ((3:Int)=1) by omega,show ¬ ((3:Int)=2) by omega,i3_,o3_] at hc
    simp only[h3,hat _ hc.1,hat _ hc.2.1,d5_,a4_,a0_,and_self]
  have b3:(c.1==3)=false:=by simp[h3]
  simp only[b3,a1_]
  by_cases h4:c.1=4
  · simp only[h4,l9_,a2_,show ¬ ((4:Int)=1) by omega,show ¬ ((4:Int)=2) by omega,i3_,o4_] at hc
    simp only[h4,hat _ hc.1,hat _ hc.2.1,d5_,a4_,a0_,and_self]
  have b4:(c.1==4)=false:=by simp[h4]
  simp only[b4,a1_]
  by_cases h5:c.1=5
  · have hs:=qp_ (k:=c.2.2.2.1) sc
    simp only[h5,d5_,a4_,hs,a0_,true_and]
    have:=hs
    unfold eo_ at this
    obtain⟨y,h6,h7⟩:=bnd this
    rw[h6]
    have e:y.1=zu_ code c.2.2.2.1:=congrArg Prod.fst (a5_ h7)
    rw[a0_,a0_,e]
  have b5:(c.1==5)=false:=by simp[h5]
  simp only[b5,a1_]
  by_cases h6:c.1=6
  · simp only[h6,l9_,a2_,show ¬ ((6:Int)=1) by omega,show ¬ ((6:Int)=2) by omega,show ¬ ((6:Int)=3∨(6:Int)=4) by omega,show ¬ ((6:Int)=5) by omega,i3_] at hc
    simp only[h6,d5_,a4_,al0 hl hk hc.1,ao5 hl hk hc.1,a0_]
    cases ce3 code c.2.2.2.2.2.1==c.2.2.2.1<;>exact⟨rfl,rfl⟩
  have b6:(c.1==6)=false:=by simp[h6]
  simp only[b6,a1_]
  by_cases h7:c.1=7
  · simp only[h7,l9_,a2_,show ¬ ((7:Int)=1) by omega,show ¬ ((7:Int)=2) by omega,show ¬ ((7:Int)=3∨(7:Int)=4) by omega,show ¬ ((7:Int)=5) by omega,show ¬ ((7:Int)=6) by omega,i3_] at hc
    obtain⟨n1,n2⟩:=ch_.1 hc.2.1
    have hm:md (gt0 code c.2.1) c.2.2.2.1=some ((gt0 code c.2.1).tmod c.2.2.2.1):=ct3 (by omega)
    simp only[h7,hat _ hc.1,hm,d5_,a4_,a0_,and_self]
  · simp[h1,h2,h3,h4,h5,h6,h7] at hc
end
section
def je_ (S:Nat):Nat→List (List Int)
  | 0=>[[]]
  | W+1=>(List.range S).flatMap λ(x:Nat)=>(je_ S W).map λc=>(x:Int)::c
theorem bc4 {α β:Type} {f:α→List β} {m:Nat}:∀ (l:List α),(∀ x ∈ l,(f x).length=m)→(l.flatMap f).length=l.length * m
  | [],_=>by simp
  | x::l,h=>by
    rw[q3_,a8_,h x (by simp),bc4 l (λy hy=>h y (by simp[hy])),c5_,j6_]
    omega
theorem bc5 {α β:Type} {f:α→List β} {m:Nat}:∀ (l:List α) (q r:Nat) (x:α),(∀ x ∈ l,(f x).length=m)→r<m→l[q]?=some x→(l.flatMap f)[q * m+r]?=(f x)[r]?
  | [],q,r,x,h,hr,hq=>by simp at hq
  | y::l,0,r,x,h,hr,hq=>by
    have e:y=x:=by simpa using hq
    subst e
    rw[q3_,Nat.zero_mul,b0_,b2_ (by rw[h y (by simp)];exact hr)]
  | y::l,q+1,r,x,h,hr,hq=>by
    have hq':l[q]?=some x:=by simpa using hq
    have hl:=h y (by simp)
    rw[q3_,d0_ (by rw[hl,j6_];omega),hl,show (q+1) * m+r - m=q * m+r by rw[j6_];omega]
    exact bc5 l q r x (λz hz=>h z (by simp[hz])) hr hq'
theorem pv_ (S:Nat):∀ W,(je_ S W).length=S ^ W
  | 0=>rfl
  | W+1=>by
    unfold je_
    rw[bc4 (m:=S ^ W) _ (λx _=>by rw[d2_,pv_ S W]),h3_,k3_,l2_]
theorem tk_ (S:Nat):∀ W c,c ∈ je_ S W↔c.length=W∧∀ n ∈ c,0≤n∧n<(S:Int)
  | 0,c=>by
    unfold je_
    rw[e8_]
    constructor
    · rintro rfl;exact⟨rfl,by simp⟩
    · rintro⟨h,_⟩;exact q4_.1 h
  | W+1,c=>by
    unfold je_
    rw[List.mem_flatMap]
    constructor
    · rintro⟨x,hx,hc⟩
      obtain⟨d,hd,rfl⟩:=d8_.1 hc
      obtain⟨h1,h2⟩:=(tk_ S W d).1 hd
      have:=k5_.1 hx
      refine⟨by rw[c5_,h1],λn hn => ?_⟩
      rcases e1_.1 hn with rfl | hn
      · omega
      · exact h2 n hn
    · rintro⟨h1,h2⟩
      cases c with
      | nil=>simp at h1
      | cons x c =>
        obtain⟨a,b⟩:=h2 x (by simp)
        refine⟨x.toNat,k5_.2 (by omega),d8_.2 ⟨c,(tk_ S W c).2 ⟨by simpa using h1,λn hn=>h2 n (by simp[hn])⟩,?_⟩⟩
        rw[show ((x.toNat:Nat):Int)=x by omega]
def dig (S:Nat):Nat→Nat→List Int
  | 0,_=>[]
  | W+1,i=>dig S W (i / S)++[((i % S:Nat):Int)]
theorem bz2 (S:Nat):∀ W i,(dig S W i).length=W
  | 0,_=>rfl
  | W+1,i=>by unfold dig;rw[a8_,bz2 S W];rfl
theorem bd7 {S:Nat} (hS:0<S):∀ (W q r:Nat),q<S→r<S ^ W→dig S (W+1) (q * S ^ W+r)=(q:Int)::dig S W r
  | 0,q,r,hq,hr=>by
    have:r=0:=by simpa using hr
    subst this
    simp[dig,k8_ hq]
  | W+1,q,r,hq,hr=>by
    have e1:(q * S ^ (W+1)+r) / S=q * S ^ W+r / S:=by
      rw[k3_,← Nat.mul_assoc,l2_ (q * S ^ W) S,Nat.mul_add_div hS]
    have e2:(q * S ^ (W+1)+r) % S=r % S:=by
      rw[k3_,← Nat.mul_assoc,l2_ (q * S ^ W) S,Nat.mul_add_mod]
    have hr':r / S<S ^ W:=Nat.div_lt_of_lt_mul (by rw[l2_,← k3_];exact hr)
    rw[dig,e1,e2,bd7 hS W q (r / S) hq hr']
    rfl
theorem pw_ {S:Nat} (hS:0<S):∀ (W i:Nat),i<S ^ W→(je_ S W)[i]?=some (dig S W i)
  | 0,i,h=>by
    have:i=0:=by simpa using h
    subst this;rfl
  | W+1,i,h=>by
    have hP:0<S ^ W:=Nat.pow_pos hS
    have hr:i % S ^ W<S ^ W:=Nat.mod_lt _ hP
    have hq:i / S ^ W<S:=Nat.div_lt_of_lt_mul (by rw[← k3_];exact h)
    have he:i=i / S ^ W * S ^ W+i % S ^ W:=by rw[l2_];exact (Nat.div_add_mod i (S ^ W)).symm
    rw[he,bd7 hS W _ _ hq hr]
    unfold je_
    rw[bc5 (m:=S ^ W) _ _ _ (i / S ^ W) (λx _=>by rw[d2_,pv_]) hr (by rw[m3_ hq]),d6_,pw_ hS W _ hr]
    rfl
def rdg (l:ac_) (cl:List al_):List (List Int):=(je_ l.2.toNat l.1.toNat).filter λc=>cl.all (tr · c)
theorem bd9 {l:ac_} (hl:Lk l) {c:List Int}:c ∈ je_ l.2.toNat l.1.toNat↔de_ l c=true:=by
  have:=hl.w1;have:=hl.s1
  rw[tk_,kh_]
  constructor
  · rintro⟨a,b⟩;exact⟨by omega,λn hn=>by have:=b n hn;omega⟩
  · rintro⟨a,b⟩;exact⟨by omega,λn hn=>by have:=b n hn;omega⟩
theorem cr6 {l:ac_} (hl:Lk l):l.2.toNat ^ l.1.toNat≤10000:=by
  have:=hl.w1;have:=hl.w2;have:=hl.s1;have:=hl.s2
  have h1:l.2.toNat ^ l.1.toNat≤10 ^ l.1.toNat:=Nat.pow_le_pow_left (by omega) _
  have h2:10 ^ l.1.toNat≤10 ^ 4:=Nat.pow_le_pow_right (by omega) (by omega)
  omega
theorem cc8 (cl:List al_) (code:List Int):(!(cl.any λc=>!(tr c code)))=cl.all (tr · code):=tt_ cl λc=>tr c code
theorem as4 {l:ac_} (hl:Lk l) {cl:List al_} (hn:cl.length≤20) {code:List Int} (hc:∀ c ∈ cl,df_ l c=true) (hk:de_ l code=true):∃ r,jz_ cl code=some (r,())∧decide (r<0)=cl.all (tr · code):=by
  obtain⟨n,h1,h2,_⟩:=if_lt (l:=cl) (by unfold Sm;omega) (λc=>!(tr c code)) (body:=λ(v0:(Int×Unit)) =>
    (cond (decide (v0.1<(cl.length:Int)))
    ((at? cl v0.1).bind λv1 =>
    ((fp_ v1 code).bind λv2 =>
    (cond (!v2.1)
    (some (inr (inr (v0.1,()))))
    (some (inl ((w64 (v0.1+1)),()))))))
    (some (inr (inl ()))))) (λi c hi=>by
    simp only[dlt (ak_ hi),a4_,ah_ hi,a0_,(ps_ hl (hc c (b9_ hi)) hk).1]
    cases tr c code<;>rfl) (by simp only[dnl,a1_])
  exact⟨n,h1,by rw[h2,cc8]⟩
theorem av6 {l:ac_} (hl:Lk l) {cl:List al_} (hn:cl.length≤20) {code:List Int} (hc:∀ c ∈ cl,df_ l c=true) (hk:de_ l code=true):∃ r,gi_ cl code=some (r,())∧decide (r<0)=cl.all (tr · code):=by
  obtain⟨n,h1,h2,_⟩:=if_lt (l:=cl) (by unfold Sm;omega) (λc=>!(tr c code)) (body:=λ(v0:(Int×Unit)) =>
    (cond (decide (v0.1<(cl.length:Int)))
    ((at? cl v0.1).bind λv1 =>
    ((gh_ v1 code).bind λv2 =>
    (cond (!v2.1)
    (some (inr (inr (v0.1,()))))
    (some (inl ((w64 (v0.1+1)),()))))))
    (some (inr (inl ()))))) (λi c hi=>by
    simp only[dlt (ak_ hi),a4_,ah_ hi,a0_,(ps_ hl (hc c (b9_ hi)) hk).2]
    cases tr c code<;>rfl) (by simp only[dnl,a1_])
  exact⟨n,h1,by rw[h2,cc8]⟩
theorem rep_set {p:Nat} {x:Int} {t:List Int}:(List.replicate (p+1) (0:Int)++t).set p x=List.replicate p 0++(x::t):=by
  rw[List.set_append_left _ _ (by rw[f5_];omega),r0_,q8_ _ _ (by rw[f5_];omega),f5_,k2_]
  simp
theorem cn7 {l:ac_} (hl:Lk l) {S:Nat} (hS:l.2=(S:Int)):∀ (p n:Nat) (t:List Int),p≤4→n≤10000→ag_ (ρ:=((List Int)×Unit)) (λ(v4:(Int×(Int×((List Int)×Unit)))) =>
 (cond (decide (0≤v4.2.1))
 ((md v4.1 l.2).bind λv5 =>
 ((at? v4.2.2.1 v4.2.1).bind λv6 =>
 ((at? v4.2.2.1 v4.2.1).bind λv7 =>
 ((dv v4.1 l.2).bind λv8 =>
 (some (inl (v8,((w64 (v4.2.1 - 1)),((v4.2.2.1.set v4.2.1.toNat v5),())))))))))
 (some (inr (v4.2.2.1,()))))) ((n:Int),((p:Int) - 1,(List.replicate p 0++t,())))=some (dig S p n++t,()):=by
  have s1:=hl.s1;have s2:=hl.s2
  intro p
  induction p with
  | zero =>
    intro n t _ _
    refine mg_ ?_
    simp[dig]
  | succ p ih =>
    intro n t hp hn
    have hd:dv (n:Int) l.2=some ((n / S:Nat):Int):=by
      unfold dv
      have:n / S≤n:=Nat.div_le_self n S
      rw[hS,if_neg (by omega),show (n:Int).tdiv (S:Int)=((n / S:Nat):Int) from (Int.ofNat_tdiv ..).symm]
      generalize n / S=q at this
      rw[lh_ (by omega) (by omega)]
    have hm:md (n:Int) l.2=some ((n % S:Nat):Int):=by
      rw[hS,ct3 (by omega),show (n:Int).tmod (S:Int)=((n % S:Nat):Int) from (Int.ofNat_tmod ..).symm]
    obtain⟨y,hy⟩:=aw_ (l:=List.replicate (p+1) (0:Int)++t) (i:=p) (by simp;omega)
    have e:((p+1:Nat):Int) - 1=((p:Nat):Int):=by omega
    refine (sn_ (s':=(((n / S:Nat):Int),((p:Int) - 1,(List.replicate p 0++(((n % S:Nat):Int)::t),())))) ?_).trans ?_
    · simp only[e,show decide (0≤(p:Int))=true from b4_ (by omega),a4_,hm,hd,ah_ hy,a0_,c3_,rep_set,lh_ (n:=(p:Int) - 1) (by omega) (by omega)]
    · rw[ih (n / S) _ (by omega) (c7_ (Nat.div_le_self n S) hn)]
      simp[dig]
theorem bp6 {l:ac_} (hl:Lk l) {cl:List al_} (hn:cl.length≤20) (hc:∀ c ∈ cl,df_ l c=true):nh_ l cl=some (rdg l cl,()):=by
  have w1:=hl.w1;have w2:=hl.w2;have s1:=hl.s1;have s2:=hl.s2
  obtain⟨W,hW⟩:∃ W:Nat,l.1=(W:Int):=⟨l.1.toNat,by omega⟩
  obtain⟨S,hS⟩:∃ S:Nat,l.2=(S:Int):=⟨l.2.toNat,by omega⟩
  have hpow:S ^ W≤10000:=by have:=cr6 hl;rwa [hW,hS,c3_,c3_] at this
  have hSp:0<S:=by omega
  have hlen:=pv_ S W
  have e1:ag_ (ρ:=(Int×Unit)) (λ(v0:(Int×(Int×Unit))) =>
      (cond (decide (v0.2.1<l.1))
      (some (inl ((w64 (v0.1 * l.2)),((w64 (v0.2.1+1)),()))))
      (some (inr (v0.1,()))))) (1,(0,()))=some (((S ^ W:Nat):Int),()):=by
    obtain⟨t,rfl,h2⟩:=kt_ (List.range W) (λi t x=>t * S) (λi (t:Nat)=>((t:Int),((i:Int),()))) (λt=>((t:Int),())) 1 (λi t=>t=S ^ i) (body:=λ(v0:(Int×(Int×Unit))) =>
      (cond (decide (v0.2.1<l.1))
      (some (inl ((w64 (v0.1 * l.2)),((w64 (v0.2.1+1)),()))))
      (some (inr (v0.1,()))))) rfl (λi x t hi ht=>by
      have hi2:=ak_ hi
      rw[h3_] at hi2
      have:S ^ (i+1)≤10000:=c7_ (Nat.pow_le_pow_right hSp (by omega)) hpow
      refine⟨?_,by rw[ht,k3_]⟩
      simp only[show decide ((i:Int)<l.1)=true from b4_ (by omega),a4_,az_ (show Sm i by unfold Sm;omega)]
      rw[hS,← Int.natCast_mul,ht,show S ^ i * S=S ^ (i+1) from (k3_ ..).symm,lh_ (by omega) (by omega)]) (λt _=>by
      rw[h3_]
      simp only[show decide ((W:Int)<l.1)=false from b1_ (by omega),a1_])
    rw[h3_] at h2
    exact h2
  unfold nh_
  refine (congrArg (λo=>Option.bind o _) e1).trans ?_
  rw[a0_]
  obtain⟨t,h1,h2⟩:=kt_ (je_ S W) (λj t c=>cond (cl.all (tr · c)) (t++[c]) t) (λj (t:List (List Int))=>(t,((j:Int),()))) (λt=>(t,())) [] (λj t=>t=((je_ S W).take j).filter λc=>cl.all (tr · c)) (body:=λ(v2:((List (List Int))×(Int×Unit))) =>
 (cond (decide (v2.2.1<((S ^ W:Nat):Int)))
 ((((mk? (α:=Int) l.1 0).bind λv3 =>
 ((ag_ (ρ:=((List Int)×Unit)) (λ(v4:(Int×(Int×((List Int)×Unit)))) =>
 (cond (decide (0≤v4.2.1))
 ((md v4.1 l.2).bind λv5 =>
 ((at? v4.2.2.1 v4.2.1).bind λv6 =>
 ((at? v4.2.2.1 v4.2.1).bind λv7 =>
 ((dv v4.1 l.2).bind λv8 =>
 (some (inl (v8,((w64 (v4.2.1 - 1)),((v4.2.2.1.set v4.2.1.toNat v5),())))))))))
 (some (inr (v4.2.2.1,()))))) (v2.2.1,((w64 (l.1 - 1)),(v3,())))).bind λv9 =>
 ((jz_ cl v9.1).bind λv10 =>
 (cond (decide (v10.1<0))
 ((push? (α:=(List Int)) v2.1 [v9.1]).bind λv11 =>
 (some (v11,())))
 (some (v2.1,()))))))).bind λv12 =>
 (some (inl (v12.1,((w64 (v2.2.1+1)),())))))
 (some (inr (v2.1,()))))) rfl (λj c t hj ht=>by
    have hj2:=ak_ hj
    rw[hlen] at hj2
    have hg:=pw_ hSp W j hj2
    rw[hj] at hg
    obtain rfl:=a5_ hg
    have hok:de_ l (dig S W j)=true:=(bd9 hl (c:=dig S W j)).1 (by rw[hW,hS,c3_,c3_];exact b9_ hj)
    obtain⟨r,r1,r2⟩:=as4 hl hn hc hok
    have hdig:=cn7 hl hS W j [] (by omega) (by omega)
    rw[e3_,e3_] at hdig
    have hb:=l3_ (λc=>cl.all (tr · c)) ((je_ S W).take j)
    rw[c6_] at hb
    refine⟨?_,?_⟩
    · simp only[show decide ((j:Int)<((S ^ W:Nat):Int))=true from b4_ (by omega),a4_,ud_ (show 0≤l.1 by omega) (show l.1≤2147483648 by omega),a0_,hl.ww,show l.1.toNat=W by omega,az_ (show Sm j by unfold Sm;omega)]
      rw[show l.1 - 1=(W:Int) - 1 by omega]
      have:∀ (K:(List Int×Unit)→Option ((List (List Int)×(Int×Unit))⊕(List (List Int)×Unit))),Option.bind (some (dig S W j,())) K=K (dig S W j,()):=λK=>rfl
      rw[hdig,a0_,r1,a0_,r2]
      cases hp:cl.all (tr · (dig S W j)) with
      | false=>rfl
      | true =>
        rw[a4_,ac5 (by rw[ht];simp only[c8_];omega)]
        rfl
    · rw[ht,d3_,hj,o0_]
      cases hp:cl.all (tr · (dig S W j))<;>simp[hp]) (λt _=>by
    rw[hlen]
    simp only[dnl,a1_])
  refine (congrArg (λo=>Option.bind o _) h2).trans ?_
  rw[a0_,h1,d7_]
  unfold rdg
  rw[hW,hS,c3_,c3_]
end
section
theorem bl1 {σ ρ:Type} {body:σ→Option (σ⊕ρ)} (F:Nat→σ) {n:Nat} {r:ρ} (h:∀ j,j<n→body (F j)=some (.inl (F (j+1)))) (e:body (F n)=some (.inr r)):ag_ body (F 0)=some r:=by
  have:=ih_ (body:=body) (λj s=>s=F j) (λx=>x=r) n 0 (F 0) rfl (λj s _ hj q=>by subst q;exact .inl ⟨_,h j (by omega),rfl⟩) (λs q=>by subst q;rw[b0_];exact⟨_,e,rfl⟩)
  obtain⟨x,h1,rfl⟩:=this
  exact h1
theorem ch3 {p:List Int} {x y:Int} {t:List Int}:(p++x::t).set p.length y=p++y::t:=by
  rw[q8_ _ _ (c4_ _),k2_]
  rfl
theorem cm4 {p:List Int} {x:Int} {t:List Int}:at? (p++x::t) ((p.length:Nat):Int)=some x:=by
  rw[aw3,d0_ (c4_ _),k2_]
  rfl
def odoB (l:ac_):(Int×(List Int×Unit))→Option ((Int×(List Int×Unit))⊕(Int×(List Int×Unit))):=(λ(v3:(Int×((List Int)×Unit))) =>
 (((cond (decide (0≤v3.1))
 ((at? v3.2.1 v3.1).bind λv4 =>
 ((at? v3.2.1 v3.1).bind λv5 =>
 (some ((v5==(w64 (l.2 - 1))),()))))
 (some (false,())))).bind λv6 =>
 (cond v6.1
 ((at? v3.2.1 v3.1).bind λv7 =>
 ((at? v3.2.1 v3.1).bind λv8 =>
 (some (inl ((w64 (v3.1 - 1)),((v3.2.1.set v3.1.toNat 0),()))))))
 (some (inr (v3.1,(v3.2.1,())))))))
theorem odo {l:ac_} (hl:Lk l) {S:Nat} (hS:l.2=(S:Int)):∀ (W j k:Nat),W≤4→∃ (i:Int) (c:List Int),
    ag_ (odoB l) ((W:Int) - 1,(dig S W j++List.replicate k 0,()))=some (i,(c,())) ∧
    (j+1=S ^ W→i<0)∧(j+1<S ^ W→0≤i∧∃ x,at? c i=some x∧c.set i.toNat (w64 (x+1))=dig S W (j+1)++List.replicate k 0):=by
  have s1:=hl.s1;have s2:=hl.s2
  intro W
  induction W with
  | zero =>
    intro j k _
    refine⟨_,_,mg_ (r:=((0:Int) - 1,(dig S 0 j++List.replicate k 0,()))) rfl,λ_=>by omega,λh => ?_⟩
    simp at h
  | succ W ih =>
    intro j k hW
    have hd:dig S (W+1) j++List.replicate k 0=dig S W (j / S)++((j % S:Nat):Int)::List.replicate k 0:=by rw[dig,b5_];rfl
    have hlen:=bz2 S W (j / S)
    have hg:at? (dig S W (j / S)++((j % S:Nat):Int)::List.replicate k 0) ((W:Nat):Int)=some ((j % S:Nat):Int):=by
      have:=cm4 (p:=dig S W (j / S)) (x:=((j % S:Nat):Int)) (t:=List.replicate k 0)
      rwa [hlen] at this
    have hse:∀ y:Int,(dig S W (j / S)++((j % S:Nat):Int)::List.replicate k 0).set W y=dig S W (j / S)++y::List.replicate k 0:=λy=>by
      have:=ch3 (p:=dig S W (j / S)) (x:=((j % S:Nat):Int)) (y:=y) (t:=List.replicate k 0)
      rwa [hlen] at this
    have hmod:j % S<S:=Nat.mod_lt _ (by omega)
    have hdm:=Nat.div_add_mod j S
    have hpos:decide (0≤(W:Int))=true:=b4_ (by omega)
    rw[hd,show ((W+1:Nat):Int) - 1=(W:Int) by omega]
    by_cases h9:j % S=S - 1
    · obtain⟨i,c,e1,e2,e3⟩:=ih (j / S) (k+1) (by omega)
      have hj1:j+1=S * (j / S+1):=by rw[Nat.mul_add,Nat.mul_one];omega
      have hb:(((j % S:Nat):Int)==w64 (l.2 - 1))=true:=by rw[hl.ws,hS];simp;omega
      refine⟨i,c,?_,λh=>e2 ?_,λh => ?_⟩
      · rw[← e1]
        refine sn_ ?_
        unfold odoB
        simp only[hpos,a4_,hg,a0_,hb,c3_,hse,lh_ (n:=(W:Int) - 1) (by omega) (by omega)]
        rfl
      · rw[k3_,l2_] at h
        rw[hj1] at h
        exact Nat.eq_of_mul_eq_mul_left (by omega) h
      · have:j / S+1<S ^ W:=by
          rw[k3_,l2_,hj1] at h
          exact Nat.lt_of_mul_lt_mul_left h
        obtain⟨f1,x,f2,f3⟩:=e3 this
        refine⟨f1,x,f2,?_⟩
        rw[f3,dig,hj1,Nat.mul_div_cancel_left _ (by omega),Nat.mul_mod_right,b5_]
        rfl
    · have hb:(((j % S:Nat):Int)==w64 (l.2 - 1))=false:=by rw[hl.ws,hS];simp;omega
      refine⟨_,_,mg_ (r:=((W:Int),(dig S W (j / S)++((j % S:Nat):Int)::List.replicate k 0,()))) (by
        unfold odoB
        simp only[hpos,a4_,hg,a0_,hb,a1_]),λh => ?_,λh=>⟨by omega,_,hg,?_⟩⟩
      · exfalso
        have:(j+1) % S=0:=by rw[h,k3_];exact Nat.mul_mod_left _ _
        have h2:(j+1) % S=j % S+1:=by rw[Nat.add_mod,k8_ (show 1<S by omega),k8_ (by omega)]
        omega
      · simp only[c3_]
        rw[hse,lh_ (by omega) (by omega),dig,b5_]
        have h2:(j+1) % S=j % S+1:=by rw[Nat.add_mod,k8_ (show 1<S by omega),k8_ (by omega)]
        have h3:(j+1) / S=j / S:=by
          refine Nat.div_eq_of_lt_le ?_ ?_
          · rw[l2_];omega
          · rw[l2_,Nat.mul_add];omega
        rw[h2,h3]
        simp
theorem bd6 (S:Nat):∀ W,List.replicate W (0:Int)=dig S W 0
  | 0=>rfl
  | W+1=>by rw[dig,Nat.zero_div,Nat.zero_mod,← bd6 S W,r0_];rfl
noncomputable def bs6 (l:ac_) (n:Int) (c:List Int):Option ((Unit×(Unit×((List Int)×((Int×Unit)×Unit))))⊕((Unit×(Unit×((List Int)×((Int×Unit)×Unit))))⊕(Int×Unit))) :=
 ((ag_ (odoB l) ((w64 (l.1 - 1)),(c,()))).bind λv9 =>
 (cond (decide (v9.1<0))
 (some (inr (inr (n,()))))
 ((at? v9.2.1 v9.1).bind λv10 =>
 ((at? v9.2.1 v9.1).bind λv11 =>
 ((at? v9.2.1 v9.1).bind λv12 =>
 ((at? v9.2.1 v9.1).bind λv13 =>
 (some (inl ((),((),((v9.2.1.set v9.1.toNat (w64 (v11+1))),((n,()),()))))))))))))
noncomputable def cntX (a0:ac_) (a1:List al_):Option (Int×Unit) :=
 ((mk? (α:=Int) a0.1 0).bind λv0 =>
 ((ag_ (ρ:=((Unit×(Unit×((List Int)×((Int×Unit)×Unit))))⊕(Int×Unit))) (λ(v1:(Unit×(Unit×((List Int)×((Int×Unit)×Unit))))) =>
 ((gi_ a1 v1.2.2.1).bind λv2 =>
 (cond (decide (v2.1<0)) (bs6 a0 (w64 (v1.2.2.2.1.1+1)) v1.2.2.1) (bs6 a0 v1.2.2.2.1.1 v1.2.2.1)))) ((),((),(v0,((0,()),()))))).bind λv25 =>
 (bx_ v25 (λv26=>(some (v26.2.2.2.1.1,())))
 (λv27=>(some v27)))))
theorem cntX_eq:fb_=cntX:=by kernel_rfl
theorem bi8 {l:ac_} (hl:Lk l) {cl:List al_} (hn:cl.length≤20) (hc:∀ c ∈ cl,df_ l c=true):fb_ l cl=some (((rdg l cl).length:Int),()):=by
  have w1:=hl.w1;have w2:=hl.w2;have s1:=hl.s1;have s2:=hl.s2
  obtain⟨W,hW⟩:∃ W:Nat,l.1=(W:Int):=⟨l.1.toNat,by omega⟩
  obtain⟨S,hS⟩:∃ S:Nat,l.2=(S:Int):=⟨l.2.toNat,by omega⟩
  have hpow:S ^ W≤10000:=by have:=cr6 hl;rwa [hW,hS,c3_,c3_] at this
  have hSp:0<S:=by omega
  have hN:0<S ^ W:=Nat.pow_pos hSp
  have hlen:=pv_ S W
  have hok:∀ j,j<S ^ W→de_ l (dig S W j)=true:=λj hj=>(bd9 hl).1 (by rw[hW,hS,c3_,c3_];exact b9_ (pw_ hSp W j hj))
  let cn:Nat→Nat:=λj=>(((je_ S W).take j).filter λc=>cl.all (tr · c)).length
  have hcn:∀ j,j<S ^ W→cn j≤j∧cn (j+1)=cond (cl.all (tr · (dig S W j))) (cn j+1) (cn j):=by
    intro j hj
    constructor
    · have hb:=l3_ (λc=>cl.all (tr · c)) ((je_ S W).take j)
      rw[c6_] at hb
      exact c7_ hb (Nat.min_le_left _ _)
    · show (((je_ S W).take (j+1)).filter _).length=_
      rw[d3_,pw_ hSp W j hj,o0_,a8_]
      cases hp:cl.all (tr · (dig S W j))<;>simp[hp,cn]
  have step:∀ j,j<S ^ W→∀ m:Int,(j+1<S ^ W→bs6 l m (dig S W j)=some (inl ((),((),(dig S W (j+1),((m,()),()))))))∧(j+1=S ^ W→bs6 l m (dig S W j)=some (inr (inr (m,())))):=by
    intro j hj m
    obtain⟨i,c,o1,o2,o3⟩:=odo hl hS W j 0 (by omega)
    simp only[List.replicate_zero,e3_] at o1 o3
    rw[← hW,← hl.ww] at o1
    constructor
    · intro h
      obtain⟨p1,x,p2,p3⟩:=o3 h
      unfold bs6
      rw[o1,a0_]
      simp only[show decide (i<0)=false from b1_ (by omega),a1_,p2,a0_,p3]
    · intro h
      unfold bs6
      rw[o1,a0_]
      simp only[show decide (i<0)=true from b4_ (o2 h),a4_]
  have body:∀ j,j<S ^ W→(((gi_ cl (dig S W j)).bind λv2=>(cond (decide (v2.1<0)) (bs6 l (w64 ((cn j:Int)+1)) (dig S W j)) (bs6 l (cn j) (dig S W j)))))=bs6 l ((cn (j+1):Nat):Int) (dig S W j):=by
    intro j hj
    obtain⟨r,r1,r2⟩:=av6 hl hn hc (hok j hj)
    obtain⟨q1,q2⟩:=hcn j hj
    rw[r1,a0_,r2,q2]
    cases cl.all (tr · (dig S W j)) with
    | false=>rfl
    | true=>rw[a4_,a4_,az_ (show Sm (cn j) by unfold Sm;omega)]
  rw[cntX_eq]
  unfold cntX
  rw[ud_ (by omega) (by omega),a0_,show l.1.toNat=W by omega,bd6 S W]
  have hw:=bl1 (n:=S ^ W - 1) (F:=λj=>((),((),(dig S W j,(((cn j:Int),()),()))))) (r:=inr ((cn (S ^ W):Int),())) (body:=λ(v1:(Unit×(Unit×((List Int)×((Int×Unit)×Unit))))) =>
 ((gi_ cl v1.2.2.1).bind λv2 =>
 (cond (decide (v2.1<0)) (bs6 l (w64 (v1.2.2.2.1.1+1)) v1.2.2.1) (bs6 l v1.2.2.2.1.1 v1.2.2.1)))) (λj hj=>(body j (by omega)).trans ((step j (by omega) _).1 (by omega))) ((body (S ^ W - 1) (by omega)).trans (by
    rw[show S ^ W - 1+1=S ^ W by omega]
    exact (step (S ^ W - 1) (by omega) _).2 (by omega)))
  refine (congrArg (λo=>Option.bind o _) (show ag_ _ _=_ from hw)).trans ?_
  have e:cn (S ^ W)=(rdg l cl).length:=by
    show (((je_ S W).take (S ^ W)).filter _).length=_
    rw[← hlen,d7_]
    unfold rdg
    rw[hW,hS,c3_,c3_]
  rw[a0_,← e]
  rfl
theorem tj_ {l:ac_} (hl:Lk l) {cl:List al_} (hn:cl.length≤20) (hc:∀ c ∈ cl,df_ l c=true):fc_ l cl=some (0,()):=by
  unfold fc_
  rw[lz_,oc_.2 hl,if_pos rfl,a0_]
  have:=ou_ (l:=cl) (by unfold Sm;omega) (λc=>!(df_ l c)) (body:=λ(v1:(Int×Unit)) =>
 (cond (decide (v1.1<(cl.length:Int)))
 ((at? cl v1.1).bind λv2 =>
 ((dj_ l v2).bind λv3 =>
 (cond (!v3.1)
 (some (inr (inr ((decide (0≤v1.1)),()))))
 (some (inl ((w64 (v1.1+1)),()))))))
 (some (inr (inl ()))))) (λi y hy=>by
    simp only[dlt (ak_ hy),a4_,ah_ hy,a0_,ot_ hl]
    cases df_ l y<;>rfl) (by simp only[dnl,a1_])
  have ha:(cl.any λc=>!(df_ l c))=false:=by
    rw[List.any_eq_false]
    intro c h
    simp[hc c h]
  rw[ha] at this
  simp only[show decide ((20:Int)<(cl.length:Int))=false from b1_ (by omega),h9_,a1_,this,a0_]
theorem ao7 {l:ac_} (hl:Lk l) {cl:List al_} (hn:cl.length≤20) (hc:∀ c ∈ cl,df_ l c=true):dc_ l cl=some (((rdg l cl).length:Int),(0,())):=by
  unfold dc_
  rw[tj_ hl hn hc,a0_]
  simp only[h9_,a1_,bi8 hl hn hc,a0_]
theorem su_ {l:ac_} (hl:Lk l) {cl:List al_} (hn:cl.length≤20) (hc:∀ c ∈ cl,df_ l c=true) (hs:∀ c ∈ cl,Sm c.2.2.2.2.2.1.length):fa_ l cl=some (0,()):=by
  unfold fa_
  rw[ll_,oc_.2 hl,if_pos rfl,a0_]
  simp only[show decide ((20:Int)<(cl.length:Int))=false from b1_ (by omega),h9_,a1_]
  refine bo_ cl (λ_ c=>cond (df_ l c) none (some (inr (11,()):Unit⊕(Int×Unit)))) (λi=>((i:Int),())) (r0:=inl ()) (λi c hi => ?_) ?_ ?_
  · simp only[dlt (ak_ hi),a4_,ah_ hi,a0_,ua_ hl (hs c (b9_ hi)),az_ (show Sm i by have:=ak_ hi;unfold Sm;omega)]
    cases df_ l c<;>rfl
  · simp only[dnl,a1_]
  · rw[jq_ (q:=λc=>df_ l c),e6_.2 hc]
    rfl
theorem al1 {l:ac_} (hl:Lk l) {cl:List al_} (hn:cl.length≤20) (hc:∀ c ∈ cl,df_ l c=true) (hs:∀ c ∈ cl,Sm c.2.2.2.2.2.1.length):ka_ l cl=some (((rdg l cl).length:Int),(0,())):=by
  unfold ka_
  rw[su_ hl hn hc hs,a0_]
  simp only[h9_,a1_,bp6 hl hn hc,a0_]
theorem ao6 {l:ac_} (hl:Lk l) (c:al_) {k:List Int} (hk:de_ l k=true):kc_ l c k=some (cond (df_ l c) (tr c k) false,(cond (df_ l c) 0 11,())):=by
  unfold kc_
  rw[uu_ hl,a0_]
  cases hc:df_ l c with
  | false=>rfl
  | true =>
    simp only[a4_,h9_,a1_]
    rw[nr_,oc_.2 hl,if_pos rfl,hk,if_pos rfl,a0_]
    simp only[h9_,a1_,(ps_ hl hc hk).2,a0_]
theorem as5 {l:ac_} (hl:Lk l) {c:al_} {k:List Int} (hc:df_ l c=true) (hk:de_ l k=true):fp_ c k=some (tr c k,()):=(ps_ hl hc hk).1
end
section
theorem zero_eq:kw_=ln_:=rfl
def clOk (l:ac_) (c:al_) (k:List Int):Bool:=df_ l c&&tr c k
end
section
set_option maxRecDepth 10000
def cf5 (c:al_):Bool:=c.1==0&&(c.2.1==0&&(c.2.2.1==0&&(c.2.2.2.1==0&&(c.2.2.2.2.1==0&&(((c.2.2.2.2.2.1.length:Int)==0)&&!c.2.2.2.2.2.2)))))
theorem am0 (c:al_):kw_ c=some (cf5 c,()):=by
  unfold kw_ cf5
  cases c.1==0 with
  | false=>rfl
  | true =>
  cases c.2.1==0 with
  | false=>rfl
  | true =>
  cases c.2.2.1==0 with
  | false=>rfl
  | true =>
  cases c.2.2.2.1==0 with
  | false=>rfl
  | true =>
  cases c.2.2.2.2.1==0 with
  | false=>rfl
  | true=>cases (c.2.2.2.2.2.1.length:Int)==0<;>rfl
theorem bh3 (c:al_):ln_ c=some (cf5 c,()):=by rw[← zero_eq];exact am0 c
def twNt (g:ab_) (i:Nat) (n:cr_):Bool:=(g.2.2.2.1.take i).any λy=>y.1==n.1
def cdOk (g:ab_) (i:Nat) (l:ac_):Bool:=match g.2.2.1[i]? with
  | some k=>de_ l k
  | none=>false
noncomputable def bs9 (g:ab_) (i:Nat) (n:cr_):Bool:=okN n.1&&(!(twNt g i n)&&(wi n.2.1 0 (w64 ((g.1.1.length:Int) - 1))&&(wi n.2.2.1 (-1) (w64 ((g.2.1.length:Int) - 1))&&(cond (decide (n.2.2.1<0)) (cf5 n.2.2.2.2) (match at? g.2.1 n.2.2.1,at? g.2.2.1 n.2.2.1 with
  | some l,some k=>clOk l n.2.2.2.2 k
  | _,_=>false)))))
def LkAll (g:ab_):Prop:=∀ (i:Nat) l,g.2.1[i]?=some l→Lk l∧∃ k,g.2.2.1[i]?=some k∧de_ l k=true
theorem LkAll.at {g:ab_} (hg:SmG g) (h:LkAll g) {i:Int} (h0:¬ i<0) (hw:wi i (-1) (w64 ((g.2.1.length:Int) - 1))=true):∃ l k,at? g.2.1 i=some l∧at? g.2.2.1 i=some k∧Lk l∧de_ l k=true:=by
  have hlk:=hg.lk
  rw[ei_ (by omega) (by omega)] at hw
  have hw:=ch_.1 hw
  obtain⟨l,hl⟩:=aw_ (l:=g.2.1) (i:=i.toNat) (by omega)
  obtain⟨h1,k,hk,h2⟩:=h _ l hl
  have hi:i=((i.toNat:Nat):Int):=by omega
  exact⟨l,k,by rw[hi];exact ah_ hl,by rw[hi];exact ah_ hk,h1,h2⟩
theorem bi4 {g:ab_} (hg:SmG g) (hL:LkAll g) {i:Nat} {n:cr_} (hn:g.2.2.2.1[i]?=some n):lv_ g (i:Int) n=some (bs9 g i n,()):=by
  have hi:=ak_ hn
  have hs:=hg.nt
  have hnm:=(hg.ntn n (au_ hn)).1
  have ht:Sm (g.2.2.2.1.take i).length:=by rw[c6_];show _≤1000000000;omega
  unfold lv_
  rw[ph_ (g4_ hi),a0_]
  refine e4_ (congrArg (λo=>Option.bind o _) (ou_ ht (λy=>y.1==n.1) (λk y hy => ?_) ?_)) ?_
  · simp only[dlt (ak_ hy),a4_,ah_ hy,a0_]
    cases y.1==n.1<;>rfl
  · simp only[dnl,a1_]
  rw[a0_]
  simp only[br1 (show Sm n.1.length by show _≤1000000000;omega),kp_,a0_]
  unfold bs9 okN twNt
  cases okW n.1 with
  | false=>simp only[f9_,e0_];rfl
  | true =>
  by_cases h12:(n.1.length:Int)≤12
  · rw[b4_ h12,b1_ (by omega:¬ 12<(n.1.length:Int))]
    cases (g.2.2.2.1.take i).any λy=>y.1==n.1 with
    | true=>rfl
    | false =>
    cases wi n.2.1 0 (w64 ((g.1.1.length:Int) - 1)) with
    | false=>rfl
    | true =>
    cases hw:wi n.2.2.1 (-1) (w64 ((g.2.1.length:Int) - 1)) with
    | false=>rfl
    | true =>
    cases hz:decide (n.2.2.1<0) with
    | true=>simp only[am0];rfl
    | false =>
    obtain⟨l,k,e1,e2,h1,h2⟩:=hL.at hg (c1_ hz) hw
    simp only[e1,e2,d9_,g3_,a1_,a0_,ao6 h1 _ h2,b7_]
    unfold clOk
    cases df_ l n.2.2.2.2<;>rfl
  · rw[b1_ h12,b4_ (by omega:12<(n.1.length:Int))]
    rfl
theorem ar9 {g:ab_} (hg:SmG g) (hL:LkAll g) {i:Nat} {n:cr_} (hn:g.2.2.2.1[i]?=some n):jt_ g (i:Int)=some (bs9 g i n,()):=by
  have hi:=ak_ hn
  have hs:=hg.nt
  have hnm:=(hg.ntn n (au_ hn)).1
  have hgs:Sm n.2.2.2.2.2.2.2.2.2.1.length:=c7_ (hg.ntn n (au_ hn)).2.2 (by decide)
  have hle:(g.2.2.2.1.take i).length=i:=by rw[c6_];omega
  unfold jt_
  rw[ah_ hn,a0_]
  refine bo_ (g.2.2.2.1.take i) (λ_ y=>cond (y.1==n.1) (some (inr (false,()):Unit⊕(Bool×Unit))) none) (λi=>((i:Int),())) (r0:=inl ()) (λk y hy => ?_) ?_ ?_
  · have hk:=ak_ hy
    have hy':g.2.2.2.1[k]?=some y:=by
      rw[j2_] at hy
      split at hy
      · exact hy
      · cases hy
    simp only[dlt (show k<i by omega),a4_,ah_ hy',a0_,az_ (show Sm k by show _≤1000000000;omega)]
    cases y.1==n.1<;>rfl
  · rw[hle]
    simp only[dnl,a1_]
  rw[gy_ (q:=λy:cr_=>y.1==n.1)]
  unfold bs9 twNt
  cases (g.2.2.2.1.take i).any λy=>y.1==n.1 with
  | true=>simp only[d9_,e0_,f9_];rfl
  | false =>
  simp only[a1_,j4_]
  unfold bx_
  simp only[ko_ (show Sm n.1.length by show _≤1000000000;omega),yz_,a0_]
  cases okN n.1 with
  | false=>rfl
  | true =>
  cases wi n.2.1 0 (w64 ((g.1.1.length:Int) - 1)) with
  | false=>rfl
  | true =>
  cases hw:wi n.2.2.1 (-1) (w64 ((g.2.1.length:Int) - 1)) with
  | false=>rfl
  | true =>
  cases hz:decide (n.2.2.1<0) with
  | true =>
    have hz:=f6_ hz
    have:=ch_.1 hw
    rw[show (n.2.2.1==-1)=true by rw[f2_];omega]
    simp only[bh3]
    rfl
  | false =>
    have hz:=c1_ hz
    obtain⟨l,k,e1,e2,h1,h2⟩:=hL.at hg hz hw
    rw[show (n.2.2.1==-1)=false by rw[p2_];omega]
    simp only[e1,e2,d9_,g3_,a1_,a0_,uo_ h1 hgs,b7_]
    unfold clOk
    cases hc:df_ l n.2.2.2.2 with
    | false=>rfl
    | true =>
      simp only[a4_,show ((0:Int)==0)=true from rfl,as5 h1 hc h2]
      rfl
noncomputable def br_ (g:ab_):Int :=
  cond (db_ g.1 != 0) (db_ g.1) (cond (decide (8<(g.2.1.length:Int))||decide (16<(g.2.2.2.1.length:Int))) 2
   ((fu_ (λ_ l=>ky_ (okL l) 10) 0 g.2.1).getD
    (cond ((g.2.2.1.length:Int) != (g.2.1.length:Int)) 12
     ((fu_ (λi l=>ky_ (cdOk g i l) 12) 0 g.2.1).getD
      ((fu_ (λ_ (a:cv_)=>ky_ (!(decide ((g.2.1.length:Int)≤a.2.2.1))) 26) 0 g.1.2.2.2.2.1).getD
       ((fu_ (λi n=>sm_ (bs9 g i n) 40 (cOk g.1.2.1 n.2.2.2.1) 25) 0 g.2.2.2.1).getD
        (cond (wi g.2.2.2.2 1 100) 0 1)))))))
theorem ma_ {o:Option Int} {K:Unit→Option (Int×Unit)} {k:Int} (h:o=none→K ()=some (k,())):bx_ (left o) K (λy=>some y)=some (o.getD k,()):=by
  cases o with
  | none=>exact h rfl
  | some e=>rfl
theorem bu5 {g:ab_} (h1:fu_ (λ_ l=>ky_ (okL l) 10) 0 g.2.1=none) (h2:fu_ (λi l=>ky_ (cdOk g i l) 12) 0 g.2.1=none):LkAll g:=by
  intro i l hl
  refine⟨oc_.1 (gx_ (cl_ h1 hl)),?_⟩
  have:=gx_ (cl_ h2 hl)
  unfold cdOk at this
  cases hk:g.2.2.1[i]? with
  | none=>rw[hk] at this;cases this
  | some k=>rw[hk] at this;exact⟨k,rfl,this⟩
theorem mn_of (g:ab_):(cond (decide (8<(g.2.1.length:Int))) (some (true,())) (some ((decide (16<(g.2.2.2.1.length:Int))),())))=some (decide (8<(g.2.1.length:Int))||decide (16<(g.2.2.2.1.length:Int)),()):=by
  cases decide (8<(g.2.1.length:Int))<;>rfl
theorem zd_ {g:ab_} (hg:SmG g):hm_ g=some (br_ g,()):=by
  have hlk:=hg.lk
  have hac:=hg.ac
  have hnt:=hg.nt
  unfold hm_ br_
  rw[ss_ hg.room,a0_]
  cases hr:db_ g.1 != 0 with
  | true=>rfl
  | false =>
  simp only[a1_]
  refine e4_ (congrArg (λo=>Option.bind o _) (mn_of g)) ?_
  rw[a0_]
  cases hm:(decide (8<(g.2.1.length:Int))||decide (16<(g.2.2.2.1.length:Int))) with
  | true=>rfl
  | false =>
  simp only[a1_]
  refine bw_ g.2.1 (λ_ l=>ky_ (okL l) 10) (λi y hy => ?_) ?_ (ma_ λhA => ?_)
  · have hi:=ak_ hy
    simp only[dlt hi,a4_,ah_ hy,a0_,az_ (show Sm i by show _≤1000000000;omega),lz_]
    unfold ky_
    cases okL y<;>rfl
  · simp only[dnl,a1_]
  cases hcl:((g.2.2.1.length:Int) != (g.2.1.length:Int)) with
  | true=>rfl
  | false =>
  have hcl:(g.2.2.1.length:Int)=(g.2.1.length:Int):=by simpa using hcl
  simp only[a1_]
  refine bw_ g.2.1 (λi l=>ky_ (cdOk g i l) 12) (λi y hy => ?_) ?_ (ma_ λhB => ?_)
  · have hi:=ak_ hy
    obtain⟨k,hk⟩:=aw_ (l:=g.2.2.1) (i:=i) (by omega)
    have hy1:=gx_ (cl_ hA hy)
    simp only[dlt hi,a4_,ah_ hy,ah_ hk,a0_,az_ (show Sm i by show _≤1000000000;omega),nr_,hy1]
    unfold ky_ cdOk
    rw[hk]
    simp only
    cases de_ y k<;>rfl
  · simp only[dnl,a1_]
  refine bw_ g.1.2.2.2.2.1 (λ_ (a:cv_)=>ky_ (!(decide ((g.2.1.length:Int)≤a.2.2.1))) 26) (λi y hy => ?_) ?_ (ma_ λhC => ?_)
  · have hi:=ak_ hy
    simp only[dlt hi,a4_,ah_ hy,a0_,az_ (show Sm i by show _≤1000000000;omega)]
    unfold ky_
    cases decide ((g.2.1.length:Int)≤y.2.2.1)<;>rfl
  · simp only[dnl,a1_]
  have hL:=bu5 hA hB
  refine bw_ g.2.2.2.1 (λi n=>sm_ (bs9 g i n) 40 (cOk g.1.2.1 n.2.2.2.1) 25) (λi y hy => ?_) ?_ (ma_ λhD => ?_)
  · have hi:=ak_ hy
    simp only[dlt hi,a4_,ah_ hy,a0_,az_ (show Sm i by show _≤1000000000;omega),bi4 hg hL hy,bi3 hg.room.th]
    unfold sm_
    cases bs9 g i y with
    | false=>rfl
    | true=>cases cOk g.1.2.1 y.2.2.2.1<;>rfl
  · simp only[dnl,a1_]
  rw[kp_,a0_]
  cases wi g.2.2.2.2 1 100<;>rfl
theorem qm_ {g:ab_} (hg:SmG g):fy_ g=some (br_ g,()):=by
  have hlk:=hg.lk
  have hac:=hg.ac
  have hnt:=hg.nt
  unfold fy_ br_
  rw[qo_ hg.room,a0_]
  cases hr:db_ g.1 != 0 with
  | true=>rfl
  | false =>
  simp only[a1_]
  refine e4_ (congrArg (λo=>Option.bind o _) (mn_of g)) ?_
  rw[a0_]
  cases hm:(decide (8<(g.2.1.length:Int))||decide (16<(g.2.2.2.1.length:Int))) with
  | true=>rfl
  | false =>
  simp only[a1_]
  refine bw_ g.2.1 (λ_ l=>ky_ (okL l) 10) (λi y hy => ?_) ?_ (ma_ λhA => ?_)
  · have hi:=ak_ hy
    simp only[dlt hi,a4_,ah_ hy,a0_,az_ (show Sm i by show _≤1000000000;omega),ll_]
    unfold ky_
    cases okL y<;>rfl
  · simp only[dnl,a1_]
  cases hcl:((g.2.2.1.length:Int) != (g.2.1.length:Int)) with
  | true=>rfl
  | false =>
  have hcl:(g.2.2.1.length:Int)=(g.2.1.length:Int):=by simpa using hcl
  simp only[a1_]
  refine bw_ g.2.1 (λi l=>ky_ (cdOk g i l) 12) (λi y hy => ?_) ?_ (ma_ λhB => ?_)
  · have hi:=ak_ hy
    obtain⟨k,hk⟩:=aw_ (l:=g.2.2.1) (i:=i) (by omega)
    have hy1:=gx_ (cl_ hA hy)
    simp only[dlt (show i<g.2.2.1.length by omega),a4_,ah_ hy,ah_ hk,a0_,az_ (show Sm i by show _≤1000000000;omega),un_,hy1]
    unfold ky_ cdOk
    rw[hk]
    simp only
    cases de_ y k<;>rfl
  · rw[← hcl]
    simp only[dnl,a1_]
  refine bw_ g.1.2.2.2.2.1 (λ_ (a:cv_)=>ky_ (!(decide ((g.2.1.length:Int)≤a.2.2.1))) 26) (λi y hy => ?_) ?_ (ma_ λhC => ?_)
  · have hi:=ak_ hy
    simp only[dlt hi,a4_,ah_ hy,a0_,az_ (show Sm i by show _≤1000000000;omega)]
    unfold ky_
    cases decide ((g.2.1.length:Int)≤y.2.2.1)<;>rfl
  · simp only[dnl,a1_]
  have hL:=bu5 hA hB
  refine bw_ g.2.2.2.1 (λi n=>sm_ (bs9 g i n) 40 (cOk g.1.2.1 n.2.2.2.1) 25) (λi y hy => ?_) ?_ (ma_ λhD => ?_)
  · have hi:=ak_ hy
    have hw:=(hg.ntn y (au_ hy)).2.1
    simp only[dlt hi,a4_,ah_ hy,a0_,az_ (show Sm i by show _≤1000000000;omega),ar9 hg hL hy,hh_ hg.room.th (show Sm y.2.2.2.1.length by show _≤1000000000;omega)]
    unfold sm_
    cases bs9 g i y with
    | false=>rfl
    | true=>cases cOk g.1.2.1 y.2.2.2.1<;>rfl
  · simp only[dnl,a1_]
  rw[yz_,a0_]
  cases wi g.2.2.2.2 1 100<;>rfl
structure OkG (g:ab_):Prop where
  room:db_ g.1=0
  n8:g.2.1.length≤8
  n16:g.2.2.2.1.length≤16
  lk:LkAll g
  cd:g.2.2.1.length=g.2.1.length
  ac:∀ (i:Nat) (a:cv_),g.1.2.2.2.2.1[i]?=some a→a.2.2.1<(g.2.1.length:Int)
  nt:∀ (i:Nat) n,g.2.2.2.1[i]?=some n→bs9 g i n=true∧cOk g.1.2.1 n.2.2.2.1=true
  tr:wi g.2.2.2.2 1 100=true
theorem cd_ {g:ab_} (h:br_ g=0):OkG g:=by
  unfold br_ at h
  cases hr:db_ g.1 != 0 with
  | true =>
    rw[hr] at h
    rw[o5_] at hr
    exact absurd h hr
  | false =>
  rw[hr,a1_] at h
  cases hm:(decide (8<(g.2.1.length:Int))||decide (16<(g.2.2.2.1.length:Int))) with
  | true=>rw[hm] at h;exact absurd (show (2:Int)=0 from h) (by decide)
  | false =>
  rw[hm,a1_] at h
  rw[c2_] at hm
  have m1:=c1_ hm.1
  have m2:=c1_ hm.2
  obtain⟨hA,h⟩:=eg_ h (ht_ (λi x=>oo_ (by decide)) _ _)
  cases hcl:((g.2.2.1.length:Int) != (g.2.1.length:Int)) with
  | true=>rw[hcl] at h;exact absurd (show (12:Int)=0 from h) (by decide)
  | false =>
  rw[hcl,a1_] at h
  have hcl:(g.2.2.1.length:Int)=(g.2.1.length:Int):=by simpa using hcl
  obtain⟨hB,h⟩:=eg_ h (ht_ (λi x=>oo_ (by decide)) _ _)
  obtain⟨hC,h⟩:=eg_ h (ht_ (λi x=>oo_ (by decide)) _ _)
  obtain⟨hD,h⟩:=eg_ h (ht_ (λi x=>xr_ (by decide) (by decide)) _ _)
  refine⟨by simpa using hr,by omega,by omega,bu5 hA hB,by omega,λi a ha => ?_,λi n hn=>on_ (cl_ hD hn),?_⟩
  · have:=gx_ (cl_ hC ha)
    simpa using this
  · cases hw:wi g.2.2.2.2 1 100 with
    | true=>rfl
    | false=>rw[hw] at h;exact absurd (show (1:Int)=0 from h) (by decide)
end
section
set_option maxRecDepth 10000
theorem bg_ {σ ρ:Type} {body:σ→Option (σ⊕ρ)} {s t:σ} {r:ρ} (h:body s=some (.inl t)) (e:ag_ body t=some r):ag_ body s=some r:=by
  obtain⟨k,hk⟩:=ii_.1 e
  exact pa_ (k:=k+1) (by rw[au5 h];exact hk)
theorem bi_ {σ ρ:Type} {body:σ→Option (σ⊕ρ)} {s:σ} {r:ρ} (h:body s=some (.inr r)):ag_ body s=some r:=pa_ (k:=1) (ve_ h)
theorem ap5 {α τ σ ρ υ:Type} (l:List α) (f:Nat→τ→α→τ) (F:Nat→τ→σ) (R:τ→ρ) (t0:τ) {body:σ→Option (σ⊕ρ)} (I:Nat→τ→Prop) {K:ρ→Option υ} {x:Option υ} (h0:I 0 t0)
    (h:∀ i x t,l[i]?=some x→I i t→body (F i t)=some (.inl (F (i+1) (f i t x)))∧I (i+1) (f i t x)) (e:∀ t,I l.length t→body (F l.length t)=some (.inr (R t))) (hk:∀ t,I l.length t→K (R t)=x) :
    (ag_ body (F 0 t0)).bind K=x:=by
  obtain⟨t,h1,h2⟩:=kt_ l f F R t0 I h0 h e
  rw[h2,a0_]
  exact hk t h1
theorem cc3 {np:Nat} {l:List Int} (h:ld_ np l=true):∀ x ∈ l,0≤x∧x<(np:Int):=by
  intro x hx
  obtain⟨i,hi⟩:=e7_ hx
  rw[← cv9] at h
  have:=(ab2 l).1 h i x hi
  unfold badQ at this
  rw[c2_] at this
  have h1:wi x 0 ((np:Int) - 1)=true:=by simpa using this.1
  have:=ch_.1 h1
  omega
structure ActIn (r:af_) (a:cv_):Prop where
  us:∀ p ∈ a.2.2.2.1,0≤p∧p<(r.2.2.1.length:Int)
  sp:∀ p ∈ a.2.2.2.2.2.2.1,0≤p∧p<(r.2.2.1.length:Int)
  br:∀ p ∈ a.2.2.2.2.2.2.2,0≤p∧p<(r.2.2.1.length:Int)
  st:∀ x ∈ a.2.2.2.2.2.1,nu_ r.2.1 x.1 x.2=true
theorem bf6 {r:af_} {i:Nat} {a:cv_} (h:uv_ r i a=true):ActIn r a:=by
  unfold uv_ at h
  simp only[a2_] at h
  obtain⟨_,_,_,h1,h2,h3,_,_,_,h4⟩:=h
  refine⟨cc3 h1,cc3 h2,cc3 h3,λx hx => ?_⟩
  obtain⟨j,hj⟩:=e7_ hx
  rw[Option.isNone_iff_eq_none] at h4
  have:=cl_ h4 hj
  cases hs:ri_ r a.2.2.2.2.2.1 j x with
  | false=>rw[hs] at this;cases this
  | true =>
    unfold ri_ at hs
    rw[a2_] at hs
    exact hs.1
theorem cs_ {α:Type} {l:List α} (hl:Sm l.length) (i:Int):(wi i 0 (w64 ((l.length:Int) - 1))=false∧at? l i=none)∨∃ (j:Nat) (x:α),i=(j:Int)∧l[j]?=some x∧wi i 0 (w64 ((l.length:Int) - 1))=true∧at? l i=some x:=by
  rw[ei_ (by omega) (by omega)]
  by_cases h:0≤i∧i<(l.length:Int)
  · obtain⟨x,hx⟩:=aw_ (l:=l) (i:=i.toNat) (by omega)
    have hi:i=((i.toNat:Nat):Int):=by omega
    exact .inr ⟨i.toNat,x,hi,hx,ch_.2 (by omega),by rw[hi];exact ah_ hx⟩
  · refine .inl ⟨?_,?_⟩
    · cases hw:wi i 0 ((l.length:Int) - 1) with
      | false=>rfl
      | true=>have:=ch_.1 hw;omega
    · unfold at?
      split
      · exact b3_ (by omega)
      · rfl
def me_ (pr:List Int) (h:Int):Nat:=pr.countP (· == h)
theorem vg_ (pr:List Int) (h:Int):me_ pr h≤pr.length:=l5_
theorem bg4 {t:hr_} (h:Sm t.2.2.1.length) (p:Int):dg_ t p=some ((me_ t.2.2.1 (w64 ((-2) - p)):Int),()):=by
  unfold dg_
  refine ap5 t.2.2.1 (λ_ (c:Nat) x=>cond (x==w64 ((-2) - p)) (c+1) c) (λi c=>((c:Int),((i:Int),()))) (λc=>((c:Int),())) 0 (λi c=>c=me_ (t.2.2.1.take i) (w64 ((-2) - p))) rfl (λi x c hx hc => ?_) (λc hc => ?_) (λc hc => ?_)
  · have hi:=ak_ hx
    have hcl:c≤i:=by rw[hc];refine c7_ (vg_ _ _) ?_;rw[c6_];omega
    have hn:me_ (t.2.2.1.take (i+1)) (w64 ((-2) - p))=cond (x==w64 ((-2) - p)) (c+1) c:=by
      unfold me_
      rw[d3_,hx,hc,List.countP_append]
      unfold me_
      cases hq:x==w64 ((-2) - p) with
      | true=>simp[hq]
      | false=>simp[hq]
    refine⟨?_,hn.symm⟩
    simp only[dlt hi,a4_,ah_ hx,a0_,az_ (show Sm i by omega)]
    cases hq:x==w64 ((-2) - p) with
    | true=>simp only[a4_,a0_,az_ (show Sm c by omega)]
    | false=>rfl
  · simp only[dnl,a1_]
  · rw[d7_] at hc
    rw[hc]
abbrev hdl (m:ae_):Int:=w64 ((-2) - m.1)
def lgl (r:af_) (s:ai_) (m:ae_):Bool :=
  wi m.1 0 (w64 ((s.2.2.length:Int) - 1)) &&
  cond (m.2.1==1) ((at? r.2.2.2.1 m.2.2).elim false λw=>(w.1==gi s.2.2 m.1||w.2.1==gi s.2.2 m.1)&&co_ s.1 w.2.2)
  (cond (m.2.1==2) ((at? r.2.2.1 m.2.2).elim false λx=>gi s.2.1 m.2.2==gi s.2.2 m.1&&(co_ s.1 x.2.2&&decide ((me_ s.2.1 (hdl m):Int)<3)))
  (cond (m.2.1==3) ((at? s.2.1 m.2.2).elim false λp=>p==hdl m)
  (cond (m.2.1==4) ((at? r.2.2.2.2.1 m.2.2).elim false λa=>a.2.1==gi s.2.2 m.1&&((a.2.2.2.1.all λp=>gi s.2.1 p==hdl m)&&(co_ s.1 a.2.2.2.2.1&&((a.2.2.2.2.2.2.2.all λp=>gi s.2.1 p==-1)&&decide ((me_ s.2.1 (hdl m):Int) - (a.2.2.2.2.2.2.1.length:Int)+(a.2.2.2.2.2.2.2.length:Int)≤3)))))
   false)))
theorem bf3 {l t:List Int} (hl:Sm l.length) (hi:∀ p ∈ l,0≤p∧p<(t.length:Int)) (h:Int) :
    ((ag_ (ρ:=(Unit⊕(Bool×Unit))) (λ(v15:(Int×Unit)) =>
 (cond (decide (v15.1<(l.length:Int)))
 ((at? l v15.1).bind λv16 =>
 ((at? t v16).bind λv17 =>
 (cond (!(v17==h))
 (some (inr (inr ((decide (0≤v15.1)),()))))
 (some (inl ((w64 (v15.1+1)),()))))))
 (some (inr (inl ()))))) (0,())).bind λv18 =>
 (bx_ v18 (λv19=>(some ((decide ((0:Int)≤(-1))),())))
 (λv20=>(some v20))))=some (!(l.all λp=>gi t p==h),()):=by
  refine e4_ (ou_ hl (λp=>!(gi t p==h)) (λi y hy => ?_) ?_) ?_
  · have:=hi y (au_ hy)
    simp only[dlt (ak_ hy),a4_,ah_ hy,a0_,mu_ this.1 this.2]
    cases gi t y==h<;>rfl
  · simp only[dnl,a1_]
  · rw[← tt_,Bool.not_not]
theorem vx_ {r:af_} (h:SmR r) (ok:OkR r) {s:ai_} (hv:VS r s) (m:ae_):da_ (r,s) m=some (lgl r s m,()):=by
  obtain⟨m1,m2,m3⟩:=qa_ h ok hv
  have hl1:=hv.l1
  have hl2:=hv.l2
  have hH:∀ {c:List bd_},cOk r.2.1 c=true→bb_ (r,s) c=some (co_ s.1 c,()):=λ{c} hc=>by
    obtain⟨c1,c2⟩:=sh_ h.th hc
    exact mw_ (t:=(r,s)) (show c.length≤1000000000 by omega) (by show InC s.1.length c;rw[hl1];exact c1)
  have hD:dg_ (r,s) m.1=some ((me_ s.2.1 (hdl m):Int),()):=bg4 (t:=(r,s)) m2 m.1
  have hDl:=vg_ s.2.1 (hdl m)
  unfold da_ lgl
  simp only[ea_,a0_]
  rcases cs_ m3 m.1 with ⟨e1,_⟩ | ⟨pj,px,hpj,hp,e1,e2⟩
  · rw[e1];rfl
  · have eg:gi s.2.2 m.1=px:=ji_ e2
    simp only[e1,e2,eg,d9_,a1_,a0_,b7_]
    cases hk1:m.2.1==1 with
    | true =>
      simp only[a4_]
      rcases cs_ h.wy m.2.2 with ⟨f1,f2⟩ | ⟨j,w,hj,hw,f1,f2⟩
      · simp only[f1,f2];rfl
      · simp only[f1,f2,d9_,a1_,a0_,hH (ok.wy j w hw).2]
        show _=some ((w.1==px||w.2.1==px)&&co_ s.1 w.2.2,())
        cases w.1==px with
        | true=>rfl
        | false=>cases w.2.1==px<;>rfl
    | false =>
    simp only[a1_]
    cases hk2:m.2.1==2 with
    | true =>
      simp only[a4_]
      rcases cs_ m2 m.2.2 with ⟨f1,f2⟩ | ⟨j,p,hj,hp,f1,f2⟩
      · have f3:at? r.2.2.1 m.2.2=none:=by
          rcases cs_ h.pr m.2.2 with ⟨_,g2⟩ | ⟨j,x,hj,hx,g1,g2⟩
          · exact g2
          · rw[← hl2,f1] at g1;cases g1
        simp only[f1,f3,a1_];rfl
      · obtain⟨x,hx⟩:=aw_ (l:=r.2.2.1) (i:=j) (by have:=ak_ hp;omega)
        have f3:at? r.2.2.1 m.2.2=some x:=by rw[hj];exact ah_ hx
        have f4:gi s.2.1 m.2.2=p:=ji_ f2
        simp only[f1,f2,f3,f4,a4_,a0_,hH (ok.pr j x hx).2,hD]
        show _=some (p==px&&(co_ s.1 x.2.2&&decide ((me_ s.2.1 (hdl m):Int)<3)),())
        cases p==px with
        | false=>rfl
        | true=>cases co_ s.1 x.2.2<;>rfl
    | false =>
    simp only[a1_]
    cases hk3:m.2.1==3 with
    | true =>
      simp only[a4_]
      rcases cs_ m2 m.2.2 with ⟨f1,f2⟩ | ⟨j,p,hj,hp,f1,f2⟩
      · simp only[f1,f2];rfl
      · simp only[f1,f2,a4_,a0_];rfl
    | false =>
    simp only[a1_]
    cases hk4:m.2.1==4 with
    | false=>rfl
    | true =>
      simp only[a4_]
      rcases cs_ h.ac m.2.2 with ⟨f1,f2⟩ | ⟨j,a,hj,ha,f1,f2⟩
      · simp only[f1,f2];rfl
      · obtain⟨oa,oc⟩:=ok.ac j a ha
        have ai:=bf6 oa
        obtain⟨s1,s2,s3,s4,s5,s6⟩:=h.acn a (au_ ha)
        simp only[f1,f2,d9_,a1_,a0_]
        show _=some (a.2.1==px&&((a.2.2.2.1.all λp=>gi s.2.1 p==hdl m)&&(co_ s.1 a.2.2.2.2.1&&((a.2.2.2.2.2.2.2.all λp=>gi s.2.1 p==-1)&&decide ((me_ s.2.1 (hdl m):Int) - (a.2.2.2.2.2.2.1.length:Int)+(a.2.2.2.2.2.2.2.length:Int)≤3)))),())
        cases a.2.1==px with
        | false=>rfl
        | true =>
        simp only[a4_,b7_]
        refine e4_ (congrArg (λo=>Option.bind o _) (bf3 s2 (λp hp=>by have:=ai.us p hp;omega) (hdl m))) ?_
        rw[a0_]
        cases a.2.2.2.1.all λp=>gi s.2.1 p==hdl m with
        | false=>rfl
        | true =>
        simp only[d9_,g3_,a4_,hH oc,a0_,b7_]
        cases co_ s.1 a.2.2.2.2.1 with
        | false=>rfl
        | true =>
        simp only[a4_,b7_]
        refine e4_ (congrArg (λo=>Option.bind o _) (bf3 s6 (λp hp=>by have:=ai.br p hp;omega) (-1))) ?_
        rw[a0_]
        cases a.2.2.2.2.2.2.2.all λp=>gi s.2.1 p==-1 with
        | false=>rfl
        | true =>
        simp only[d9_,g3_,a4_,hD,a0_,b7_]
        rw[ei_ (n:=(me_ s.2.1 (hdl m):Int) - _) (by omega) (by omega),ei_ (by omega) (by omega)]
theorem ab0 {α:Type} (l:List α) (hl:Sm l.length) (ix vl:α→Int) (t:List Int) (hi:∀ x ∈ l,0≤ix x∧ix x<(t.length:Int)) {body:(Int×(List Int×Unit))→Option ((Int×(List Int×Unit))⊕(List Int×Unit))}
    (hb:∀ (i:Nat) (x:α) (t':List Int) (y:Int),l[i]?=some x→at? t' (ix x)=some y→body ((i:Int),(t',()))=some (.inl (w64 ((i:Int)+1),(t'.set (ix x).toNat (vl x),())))) (e:∀ t',body ((l.length:Int),(t',()))=some (.inr (t',()))) :
    ag_ body (0,(t,()))=some (l.foldl (λt x=>t.set (ix x).toNat (vl x)) t,()):=by
  obtain⟨z,⟨_,hz⟩,e⟩:=kt_ l (λ_ t x=>t.set (ix x).toNat (vl x)) (λi t=>((i:Int),(t,()))) (λt=>(t,())) t (body:=body) (λi t'=>t'.length=t.length∧t'=(l.take i).foldl (λt x=>t.set (ix x).toNat (vl x)) t) ⟨rfl,rfl⟩ (λi x t' hx ht=>by
    obtain⟨h1,h2⟩:=ht
    have hil:=ak_ hx
    have:=hi x (au_ hx)
    refine⟨?_,by rw[g2_,h1],?_⟩
    · rw[hb i x t' _ hx (mu_ this.1 (by omega)),az_ (show Sm i by omega)]
    · rw[d3_,hx,o8_,← h2]
      rfl) (λt' _=>e t')
  rw[d7_] at hz
  rw[← hz]
  exact e
def mvP (r:af_) (s:ai_) (m:ae_):ai_ :=
  cond (m.2.1==1) ((at? r.2.2.2.1 m.2.2).elim s λw=>(s.1,(s.2.1,s.2.2.set m.1.toNat (w.1+w.2.1 - gi s.2.2 m.1))))
  (cond (m.2.1==2) (s.1,(s.2.1.set m.2.2.toNat (hdl m),s.2.2))
  (cond (m.2.1==3) (s.1,(s.2.1.set m.2.2.toNat (gi s.2.2 m.1),s.2.2))
  (cond (m.2.1==4) ((at? r.2.2.2.2.1 m.2.2).elim s λa=>(a.2.2.2.2.2.1.foldl (λt x=>t.set x.1.toNat x.2) s.1,(a.2.2.2.2.2.2.2.foldl (λt p=>t.set p.toNat (hdl m)) (a.2.2.2.2.2.2.1.foldl (λt p=>t.set p.toNat (-1)) s.2.1),s.2.2)))
   s)))
theorem xz_ {α:Type} {l:List α} {P:α→Prop} (h:∀ (i:Nat) x,l[i]?=some x→P x) {j:Nat} {v:α} (hv:P v):∀ (i:Nat) x,(l.set j v)[i]?=some x→P x:=by
  intro i x hx
  rw[i2_] at hx
  split at hx
  · split at hx
    · obtain rfl:=a5_ hx
      exact hv
    · cases hx
  · exact h i x hx
theorem ol_ {α τ:Type} {f:τ→α→τ} {P:τ→Prop}:∀ (l:List α) (t:τ),P t→(∀ t x,x ∈ l→P t→P (f t x))→P (l.foldl f t)
  | [],t,h,_=>h
  | x::l,t,h,hf=>ol_ l (f t x) (hf t x (f4_ ..) h) λt y hy=>hf t y (f3_ _ hy)
theorem aa9 {α:Type} (ix vl:α→Int) (l:List α) (t:List Int):(l.foldl (λt x=>t.set (ix x).toNat (vl x)) t).length=t.length :=
  ol_ (P:=λt'=>t'.length=t.length) l t rfl λt' x _ h=>by rw[g2_,h]
theorem lm_ {r:af_} (h:SmR r) {p:Int}:rw_ r p=true↔0≤p∧p<(r.1.length:Int):=by
  have:=h.pl
  unfold rw_
  rw[ch_,ei_ (by omega) (by omega)]
  omega
theorem ae9 {r:af_} (h:SmR r) (ok:OkR r) {p:Int}:inR r p=true↔(-2) - r.2.2.2.2.2.2.1<p∧p<(r.1.length:Int):=by
  have:=h.pl
  have hp:=ch_.1 ok.py
  unfold inR
  rw[ch_,ei_ (n:=(-2) - r.2.2.2.2.2.2.1) (by omega) (by omega),ei_ (by omega) (by omega),ei_ (by omega) (by omega)]
  omega
theorem pl_pos {r:af_} (ok:OkR r):0<r.1.length:=by
  have hne:r.1.length≠0:=λe=>ok.ne (q4_.1 e)
  omega
theorem hdl_eq {r:af_} (ok:OkR r) {s:ai_} (hv:VS r s) {m:ae_} {j:Nat} {x:Int} (hj:m.1=(j:Int)) (hx:s.2.2[j]?=some x):hdl m=(-2) - m.1∧m.1<r.2.2.2.2.2.2.1:=by
  have hp:=ch_.1 ok.py
  have:=ak_ hx
  have:=hv.l3
  exact⟨ei_ (by omega) (by omega),by omega⟩
theorem bu7 {r:af_} {s:ai_} {m:ae_} (m3:Sm s.2.2.length) (hl:lgl r s m=true):∃ (j:Nat) (x:Int),m.1=(j:Int)∧s.2.2[j]?=some x∧at? s.2.2 m.1=some x:=by
  unfold lgl at hl
  rw[a2_] at hl
  rcases cs_ m3 m.1 with ⟨e1,_⟩ | ⟨pj,px,hpj,hp,e1,e2⟩
  · rw[e1] at hl;cases hl.1
  · exact⟨pj,px,hpj,hp,e2⟩
theorem VS_mv {r:af_} (h:SmR r) (ok:OkR r) {s:ai_} (hv:VS r s) {m:ae_} (hl:lgl r s m=true):VS r (mvP r s m):=by
  obtain⟨m1,m2,m3⟩:=qa_ h ok hv
  obtain⟨pj,px,hpj,hp,e2⟩:=bu7 m3 hl
  obtain⟨d1,d2⟩:=hdl_eq ok hv hpj hp
  have hpy:=ch_.1 ok.py
  have hpos:=pl_pos ok
  have hhd:inR r (hdl m)=true:=(ae9 h ok).2 (by omega)
  have hm1:inR r (-1)=true:=(ae9 h ok).2 (by omega)
  unfold lgl at hl
  rw[a2_] at hl
  have hl:=hl.2
  have eg:gi s.2.2 m.1=px:=ji_ e2
  have hpx:=hv.py _ _ hp
  unfold mvP
  cases hk1:m.2.1==1 with
  | true =>
    rw[hk1] at hl
    simp only[a4_] at hl ⊢
    cases hw:at? r.2.2.2.1 m.2.2 with
    | none=>exact hv
    | some w =>
      rw[hw] at hl
      have hl:((w.1==gi s.2.2 m.1||w.2.1==gi s.2.2 m.1)&&co_ s.1 w.2.2)=true:=hl
      rw[a2_,c9_,f2_,f2_] at hl
      rcases cs_ h.wy m.2.2 with ⟨f1,f2⟩ | ⟨j,w',hj,hw',f1,f2⟩
      · rw[f2] at hw;cases hw
      · rw[f2] at hw
        obtain rfl:=a5_ hw
        have ow:=(ok.wy j w' hw').1
        unfold ce1 at ow
        simp only[a2_] at ow
        have o1:=(lm_ h).1 ow.1
        have o2:=(lm_ h).1 ow.2.1
        refine⟨hv.l1,hv.l2,by show ((s.2.2.set _ _).length:Int)=_;rw[g2_];exact hv.l3,hv.th,hv.pr,xz_ hv.py ((lm_ h).2 ?_)⟩
        rcases hl.1 with e | e<;>omega
  | false =>
  rw[hk1] at hl
  simp only[a1_] at hl ⊢
  cases hk2:m.2.1==2 with
  | true=>exact⟨hv.l1,by show (s.2.1.set _ _).length=_;rw[g2_];exact hv.l2,hv.l3,hv.th,xz_ hv.pr hhd,hv.py⟩
  | false =>
  rw[hk2] at hl
  simp only[a1_] at hl ⊢
  cases hk3:m.2.1==3 with
  | true =>
    refine⟨hv.l1,by show (s.2.1.set _ _).length=_;rw[g2_];exact hv.l2,hv.l3,hv.th,xz_ hv.pr ?_,hv.py⟩
    rw[eg]
    have:=(lm_ h).1 hpx
    exact (ae9 h ok).2 (by omega)
  | false =>
  rw[hk3] at hl
  simp only[a1_] at hl ⊢
  cases hk4:m.2.1==4 with
  | false=>exact hv
  | true =>
    simp only[a4_]
    rcases cs_ h.ac m.2.2 with ⟨f1,f2⟩ | ⟨j,a,hj,ha,f1,f2⟩
    · rw[f2];exact hv
    · rw[f2]
      have ai:=bf6 (ok.ac j a ha).1
      have hth:VT r (a.2.2.2.2.2.1.foldl (λt x=>t.set x.1.toNat x.2) s.1):=ol_ (P:=VT r) _ _ ⟨hv.l1,hv.th⟩ λt x hx ht=>cd0 h ok ht (ai.st x hx)
      have hpr:∀ (i:Nat) p,(a.2.2.2.2.2.2.2.foldl (λt p=>t.set p.toNat (hdl m)) (a.2.2.2.2.2.2.1.foldl (λt p=>t.set p.toNat (-1)) s.2.1))[i]?=some p→inR r p=true:=by
        refine ol_ (P:=λt=>∀ (i:Nat) p,t[i]?=some p→inR r p=true) _ _ ?_ λt x hx ht=>xz_ ht hhd
        exact ol_ (P:=λt=>∀ (i:Nat) p,t[i]?=some p→inR r p=true) _ _ hv.pr λt x hx ht=>xz_ ht hm1
      refine⟨hth.1,?_,hv.l3,hth.2,hpr,hv.py⟩
      show (a.2.2.2.2.2.2.2.foldl (λt p=>t.set p.toNat (hdl m)) (a.2.2.2.2.2.2.1.foldl (λt p=>t.set p.toNat (-1)) s.2.1)).length=_
      rw[aa9 (λp=>p) (λ_=>hdl m),aa9 (λp=>p) (λ_=>-1)]
      exact hv.l2
end
end Go.Proofs.YtdibamopklkilaaGreatDoor.Rx
namespace Go.Proofs.YtdibamopklkilaaGreatDoor.Rx
open Go Pad Rex Go.Proofs Go.Proofs.Tryz Sum
section
set_option maxRecDepth 100000
noncomputable def mvX (a0:af_) (a2:ae_) (v1 v2 v3:List Int):Option (List Int×(List Int×(List Int×Unit))) :=
 (cond (a2.2.1==1)
 ((at? a0.2.2.2.1 a2.2.2).bind λv5 =>
 ((at? v3 a2.1).bind λv6 =>
 ((at? v3 a2.1).bind λv7 =>
 ((at? v3 a2.1).bind λv8 =>
 ((at? v3 a2.1).bind λv9 =>
 (some (v1,(v2,((v3.set a2.1.toNat (w64 ((w64 (v5.1+v5.2.1)) - v7))),())))))))))
 (cond (a2.2.1==2)
 ((at? v2 a2.2.2).bind λv10 =>
 ((at? v2 a2.2.2).bind λv11 =>
 (some (v1,((v2.set a2.2.2.toNat (w64 ((-2) - a2.1))),(v3,()))))))
 (cond (a2.2.1==3)
 ((at? v3 a2.1).bind λv12 =>
 ((at? v3 a2.1).bind λv13 =>
 ((at? v2 a2.2.2).bind λv14 =>
 ((at? v2 a2.2.2).bind λv15 =>
 (some (v1,((v2.set a2.2.2.toNat v13),(v3,()))))))))
 (cond (a2.2.1==4)
 ((at? a0.2.2.2.2.1 a2.2.2).bind λv16 =>
 ((ag_ (ρ:=((List Int)×Unit)) (λ(v17:(Int×((List Int)×Unit))) =>
 (cond (decide (v17.1<(v16.2.2.2.2.2.2.1.length:Int)))
 ((at? v16.2.2.2.2.2.2.1 v17.1).bind λv18 =>
 ((at? v17.2.1 v18).bind λv19 =>
 ((at? v17.2.1 v18).bind λv20 =>
 (some (inl ((w64 (v17.1+1)),((v17.2.1.set v18.toNat (-1)),())))))))
 (some (inr (v17.2.1,()))))) (0,(v2,()))).bind λv21 =>
 ((ag_ (ρ:=((List Int)×Unit)) (λ(v22:(Int×((List Int)×Unit))) =>
 (cond (decide (v22.1<(v16.2.2.2.2.2.2.2.length:Int)))
 ((at? v16.2.2.2.2.2.2.2 v22.1).bind λv23 =>
 ((at? v22.2.1 v23).bind λv24 =>
 ((at? v22.2.1 v23).bind λv25 =>
 (some (inl ((w64 (v22.1+1)),((v22.2.1.set v23.toNat (w64 ((-2) - a2.1))),())))))))
 (some (inr (v22.2.1,()))))) (0,(v21.1,()))).bind λv26 =>
 ((ag_ (ρ:=((List Int)×Unit)) (λ(v27:(Int×((List Int)×Unit))) =>
 (cond (decide (v27.1<(v16.2.2.2.2.2.1.length:Int)))
 ((at? v16.2.2.2.2.2.1 v27.1).bind λv28 =>
 ((at? v27.2.1 v28.1).bind λv29 =>
 ((at? v27.2.1 v28.1).bind λv30 =>
 (some (inl ((w64 (v27.1+1)),((v27.2.1.set v28.1.toNat v28.2),())))))))
 (some (inr (v27.2.1,()))))) (0,(v1,()))).bind λv31 =>
 (some (v31.1,(v26.1,(v3,()))))))))
 (some (v1,(v2,(v3,()))))))))
noncomputable def rstX (a0:af_) (a1:ai_) (a2:ae_):Option (ai_×(Int×Unit)) :=
 ((ca_ a0 a1).bind λv0 =>
 (cond (v0.1 != 0)
 (some (([],([],[])),(v0.1,())))
 ((push? (α:=Int) [] a1.1).bind λv1 =>
 ((push? (α:=Int) [] a1.2.1).bind λv2 =>
 ((push? (α:=Int) [] a1.2.2).bind λv3 =>
 ((da_ (a0,(v1,(v2,v3))) a2).bind λv4 =>
 (cond (!v4.1)
 (some (([],([],[])),(29,())))
 ((mvX a0 a2 v1 v2 v3).bind λv32 =>
 ((((ag_ (ρ:=(((List Int)×Unit)⊕(Bool×((List Int)×Unit)))) (setB a0 v32.2.1 v32.2.2.1) (0,(v32.1,()))).bind λv48 =>
 (bx_ v48 (λv49=>(some ((!false),(v49.1,()))))
 (λv50=>(some v50))))).bind λv51 =>
 (cond v51.1
 (some (([],([],[])),(27,())))
 (some ((v51.2.1,(v32.2.1,v32.2.2.1)),(0,())))))))))))))
theorem rstX_eq:fi_=rstX:=by kernel_rfl
theorem ct0 {r:af_} (h:SmR r) (ok:OkR r) {s:ai_} (hv:VS r s) {m:ae_} (hl:lgl r s m=true):mvX r m s.1 s.2.1 s.2.2=some ((mvP r s m).1,((mvP r s m).2.1,((mvP r s m).2.2,()))):=by
  obtain⟨m1,m2,m3⟩:=qa_ h ok hv
  have hl1:=hv.l1
  have hl2:=hv.l2
  obtain⟨pj,px,hpj,hp,e2⟩:=bu7 m3 hl
  have eg:gi s.2.2 m.1=px:=ji_ e2
  have hpx:=(lm_ h).1 (hv.py _ _ hp)
  have hpl:=h.pl
  unfold lgl at hl
  rw[a2_] at hl
  have hl:=hl.2
  unfold mvX mvP
  cases hk1:m.2.1==1 with
  | true =>
    rw[hk1] at hl
    simp only[a4_] at hl ⊢
    rcases cs_ h.wy m.2.2 with ⟨f1,f2⟩ | ⟨j,w,hj,hw,f1,f2⟩
    · rw[f2] at hl;cases hl
    · have ow:=(ok.wy j w hw).1
      unfold ce1 at ow
      simp only[a2_] at ow
      have o1:=(lm_ h).1 ow.1
      have o2:=(lm_ h).1 ow.2.1
      simp only[f2,e2,eg,a0_,Option.elim]
      rw[ei_ (n:=w.1+w.2.1) (by omega) (by omega),ei_ (by omega) (by omega)]
  | false =>
  rw[hk1] at hl
  simp only[a1_] at hl ⊢
  cases hk2:m.2.1==2 with
  | true =>
    rw[hk2] at hl
    simp only[a4_] at hl ⊢
    rcases cs_ h.pr m.2.2 with ⟨f1,f2⟩ | ⟨j,x,hj,hx,f1,f2⟩
    · rw[f2] at hl;cases hl
    · have:=ak_ hx
      rw[mu_ (l:=s.2.1) (i:=m.2.2) (by omega) (by omega)]
      rfl
  | false =>
  rw[hk2] at hl
  simp only[a1_] at hl ⊢
  cases hk3:m.2.1==3 with
  | true =>
    rw[hk3] at hl
    simp only[a4_] at hl ⊢
    rcases cs_ m2 m.2.2 with ⟨f1,f2⟩ | ⟨j,x,hj,hx,f1,f2⟩
    · rw[f2] at hl;cases hl
    · simp only[f2,e2,eg,a0_]
  | false =>
  rw[hk3] at hl
  simp only[a1_] at hl ⊢
  cases hk4:m.2.1==4 with
  | false=>rfl
  | true =>
    rw[hk4] at hl
    simp only[a4_] at hl ⊢
    rcases cs_ h.ac m.2.2 with ⟨f1,f2⟩ | ⟨j,a,hj,ha,f1,f2⟩
    · rw[f2] at hl;cases hl
    · have ai:=bf6 (ok.ac j a ha).1
      obtain⟨s1,s2,s3,s4,s5,s6⟩:=h.acn a (au_ ha)
      simp only[f2,a0_,Option.elim]
      have hA:=ab0 a.2.2.2.2.2.2.1 s5 (λp=>p) (λ_=>-1) s.2.1 (λp hp=>by have:=ai.sp p hp;omega) (body:=(λ(v17:(Int×((List Int)×Unit))) =>
 (cond (decide (v17.1<(a.2.2.2.2.2.2.1.length:Int)))
 ((at? a.2.2.2.2.2.2.1 v17.1).bind λv18 =>
 ((at? v17.2.1 v18).bind λv19 =>
 ((at? v17.2.1 v18).bind λv20 =>
 (some (inl ((w64 (v17.1+1)),((v17.2.1.set v18.toNat (-1)),())))))))
 (some (inr (v17.2.1,())))))) (λi x t' y hx hy=>by simp only[dlt (ak_ hx),a4_,ah_ hx,a0_,hy]) (λt'=>by simp only[dnl,a1_])
      rw[hA,a0_]
      have hl3:(a.2.2.2.2.2.2.1.foldl (λt p=>t.set p.toNat (-1)) s.2.1).length=s.2.1.length:=aa9 (λp=>p) (λ_=>-1) _ _
      have hB:=ab0 a.2.2.2.2.2.2.2 s6 (λp=>p) (λ_=>hdl m) (a.2.2.2.2.2.2.1.foldl (λt p=>t.set p.toNat (-1)) s.2.1) (λp hp=>by have:=ai.br p hp;omega) (body:=(λ(v22:(Int×((List Int)×Unit))) =>
 (cond (decide (v22.1<(a.2.2.2.2.2.2.2.length:Int)))
 ((at? a.2.2.2.2.2.2.2 v22.1).bind λv23 =>
 ((at? v22.2.1 v23).bind λv24 =>
 ((at? v22.2.1 v23).bind λv25 =>
 (some (inl ((w64 (v22.1+1)),((v22.2.1.set v23.toNat (w64 ((-2) - m.1))),())))))))
 (some (inr (v22.2.1,())))))) (λi x t' y hx hy=>by simp only[dlt (ak_ hx),a4_,ah_ hx,a0_,hy]) (λt'=>by simp only[dnl,a1_])
      simp only
      rw[hB,a0_]
      have hC:=ab0 a.2.2.2.2.2.1 s4 (λx:Int×Int=>x.1) (λx=>x.2) s.1 (λx hx=>by have:=(my_ h ok (ai.st x hx)).1;omega) (body:=(λ(v27:(Int×((List Int)×Unit))) =>
 (cond (decide (v27.1<(a.2.2.2.2.2.1.length:Int)))
 ((at? a.2.2.2.2.2.1 v27.1).bind λv28 =>
 ((at? v27.2.1 v28.1).bind λv29 =>
 ((at? v27.2.1 v28.1).bind λv30 =>
 (some (inl ((w64 (v27.1+1)),((v27.2.1.set v28.1.toNat v28.2),())))))))
 (some (inr (v27.2.1,())))))) (λi x t' y hx hy=>by simp only[dlt (ak_ hx),a4_,ah_ hx,a0_,hy]) (λt'=>by simp only[dnl,a1_])
      rw[hC,a0_]
def fstA (r:af_) (th:List Int):Option (List bd_×ac_):=r.2.2.2.2.2.1.find? λy=>(gi th y.2.1 != y.2.2)&&co_ th y.1
def stl (r:af_):Nat→List Int→Option (List Int)
  | 0,_=>none
  | n+1,th=>match fstA r th with
    | none=>some th
    | some y=>stl r n (th.set y.2.1.toNat y.2.2)
theorem ak0 {α ρ:Type} {q:α→Bool} {f:Nat→ρ}:∀ (m:List α) (k:Nat),(fu_ (λi y=>cond (q y) (some (f i)) none) k m=none∧m.find? q=none)∨∃ (i:Nat) (y:α),m[i]?=some y∧m.find? q=some y∧fu_ (λi y=>cond (q y) (some (f i)) none) k m=some (f (k+i))
  | [],_=>.inl ⟨rfl,rfl⟩
  | x::m,k=>by
    unfold fu_
    cases hq:q x with
    | true=>exact .inr ⟨0,x,rfl,by simp[hq],rfl⟩
    | false =>
      rcases ak0 (q:=q) (f:=f) m (k+1) with ⟨h1,h2⟩ | ⟨i,y,h1,h2,h3⟩
      · exact .inl ⟨h1,by simp[hq,h2]⟩
      · exact .inr ⟨i+1,y,by simpa using h1,by simp[hq,h2],by rw[show k+(i+1)=k+1+i by omega];exact h3⟩
theorem if_find {α:Type} {l:List α} (hl:Sm l.length) (q:α→Bool) {body:(Int×Unit)→Option ((Int×Unit)⊕(Unit⊕(Int×Unit)))}
    (h:∀ (i:Nat) y,l[i]?=some y→body ((i:Int),())=some (cond (q y) (.inr (.inr ((i:Int),()))) (.inl (w64 ((i:Int)+1),())))) (e:body ((l.length:Int),())=some (.inr (.inl ()))) :
    ∃ n:Int,((ag_ body (0,())).bind λv=>bx_ v (λ_=>some ((-1:Int),())) (λw=>some w))=some (n,())∧((n = -1∧l.find? q=none)∨∃ (i:Nat) (y:α),n=(i:Int)∧l[i]?=some y∧l.find? q=some y):=by
  have hrun:=mo_ l (λi y=>cond (q y) (some (inr ((i:Int),()):Unit⊕(Int×Unit))) none) (λi=>((i:Int),())) (r0:=inl ()) (body:=body) (λi y hy=>by
    have hi:=ak_ hy
    rw[h i y hy,az_ (show Sm i by omega)]
    cases q y<;>rfl) e
  have hr2:ag_ body (0,())=some ((fu_ (λi y=>cond (q y) (some (inr ((i:Int),()):Unit⊕(Int×Unit))) none) 0 l).getD (inl ())):=hrun
  rw[hr2]
  rcases ak0 (q:=q) (f:=λi=>(inr ((i:Int),()):Unit⊕(Int×Unit))) l 0 with ⟨h1,h2⟩ | ⟨i,y,h1,h2,h3⟩
  · exact⟨-1,by rw[h1];rfl,.inl ⟨rfl,h2⟩⟩
  · exact⟨(i:Int),by rw[h3,b0_];rfl,.inr ⟨i,y,rfl,h1,h2⟩⟩
theorem cp0 {r:af_} (h:SmR r) (ok:OkR r) {th pr py:List Int} (hv:VT r th) :
    ∃ n:Int,((ag_ (autB r th pr py) (0,())).bind λv=>bx_ v (λ_=>some ((-1:Int),())) (λw=>some w))=some (n,())∧((n = -1∧fstA r th=none)∨∃ (i:Nat) (y:List bd_×ac_),n=(i:Int)∧r.2.2.2.2.2.1[i]?=some y∧fstA r th=some y) :=
  if_find (l:=r.2.2.2.2.2.1) h.au (λy=>(gi th y.2.1 != y.2.2)&&co_ th y.1) (body:=autB r th pr py) (λi y hy=>by
    obtain⟨g1,g2⟩:=ok.au i y hy
    have hi:=(my_ h ok g1).1
    obtain⟨c1,c2⟩:=sh_ h.th g2
    have hl:=hv.1
    unfold autB
    have ht:bb_ (r,(th,(pr,py))) y.1=some (co_ th y.1,()):=mw_ (t:=(r,(th,(pr,py)))) (by omega) (by show InC th.length y.1;rw[hl];exact c1)
    simp only[dlt (ak_ hy),a4_,ah_ hy,a0_,mu_ hi.1 (show y.2.1<th.length by omega),ht]
    cases gi th y.2.1 != y.2.2 with
    | false=>rfl
    | true=>cases co_ th y.1<;>rfl) (by
    unfold autB
    simp only[dnl,a1_])
theorem nv_ {r:af_} (h:SmR r) (ok:OkR r) {pr py:List Int}:∀ (n i:Nat) (th:List Int),i+n=101→VT r th →
    ∃ z,ag_ (setB r pr py) ((i:Int),(th,()))=some z∧match stl r n th with
      | some th'=>z = .inr (false,(th',()))∧VT r th'
      | none=>∃ w,z = .inl w
  | 0,i,th,hi,hv=>by
    obtain rfl:i=101:=by omega
    exact⟨.inl (th,()),bi_ (by unfold setB;rfl),_,rfl⟩
  | n+1,i,th,hi,hv=>by
    obtain⟨k,e,hc⟩:=cp0 h ok hv (pr:=pr) (py:=py)
    have hd:decide ((i:Int)<101)=true:=b4_ (by omega)
    unfold stl
    rcases hc with ⟨rfl,hf⟩ | ⟨j,y,rfl,hy,hf⟩
    · rw[hf]
      refine⟨.inr (false,(th,())),bi_ ?_,rfl,hv⟩
      unfold setB
      simp only[hd,a4_]
      refine e4_ (congrArg (λo=>Option.bind o _) e) rfl
    · rw[hf]
      have g1:=(ok.au j y hy).1
      have hi2:=(my_ h ok g1).1
      have hl:=hv.1
      obtain⟨z,ez,hz⟩:=nv_ h ok (pr:=pr) (py:=py) n (i+1) (th.set y.2.1.toNat y.2.2) (by omega) (cd0 h ok hv g1)
      refine⟨z,bg_ ?_ ez,hz⟩
      unfold setB
      simp only[hd,a4_]
      refine e4_ (congrArg (λo=>Option.bind o _) e) ?_
      simp only[a0_,show decide ((j:Int)<0)=false from b1_ (by omega),a1_,ah_ hy,mu_ hi2.1 (show y.2.1<th.length by omega),az_ (show Sm i by show _≤1000000000;omega)]
def yf_ (r:af_) (s:ai_) (m:ae_):Option ai_:=(stl r 101 (mvP r s m).1).map λth=>(th,(mvP r s m).2)
abbrev eS:ai_:=([],([],[]))
theorem ak2 {r:af_} (h:SmR r) (h0:db_ r=0) {s:ai_} (hv:VS r s) (m:ae_) :
    fi_ r s m=some (cond (lgl r s m) ((yf_ r s m).elim (eS,(27,())) λt=>(t,(0,()))) (eS,(29,()))):=by
  have ok:=bn_ h0
  obtain⟨m1,m2,m3⟩:=qa_ h ok hv
  rw[rstX_eq]
  unfold rstX
  rw[ff_ h,a0_,el_ h0 hv]
  simp only[show ((0:Int) != 0)=false from rfl,a1_]
  rw[ay_ m1,a0_,ay_ m2,a0_,ay_ m3,a0_]
  refine e4_ (congrArg (λo=>Option.bind o _) (vx_ h ok hv m)) ?_
  rw[a0_]
  cases hl:lgl r s m with
  | false=>rfl
  | true =>
  simp only[d9_,a1_,a4_]
  rw[ct0 h ok hv hl,a0_]
  simp only
  have hv2:=VS_mv h ok hv hl
  obtain⟨z,ez,hz⟩:=nv_ h ok (pr:=(mvP r s m).2.1) (py:=(mvP r s m).2.2) 101 0 (mvP r s m).1 rfl ⟨hv2.l1,hv2.th⟩
  refine e4_ (congrArg (λo=>Option.bind (Option.bind o _) _) ez) ?_
  unfold yf_
  cases hs:stl r 101 (mvP r s m).1 with
  | none =>
    rw[hs] at hz
    obtain⟨w,rfl⟩:=hz
    rfl
  | some th' =>
    rw[hs] at hz
    obtain⟨rfl,_⟩:=hz
    rfl
theorem uz_ {r:af_} (h:SmR r) (h0:db_ r=0) {s t:ai_} (hv:VS r s) {m:ae_} (hl:lgl r s m=true) (ht:yf_ r s m=some t):VS r t:=by
  have ok:=bn_ h0
  have hv2:=VS_mv h ok hv hl
  unfold yf_ at ht
  obtain⟨th,hs,rfl⟩:=f7_.1 ht
  obtain⟨z,ez,hz⟩:=nv_ h ok (pr:=(mvP r s m).2.1) (py:=(mvP r s m).2.2) 101 0 (mvP r s m).1 rfl ⟨hv2.l1,hv2.th⟩
  rw[hs] at hz
  exact⟨hz.2.1,hv2.l2,hv2.l3,hz.2.2,hv2.pr,hv2.py⟩
end
section
set_option maxRecDepth 100000
theorem ar4 {r:af_} (h:SmR r) (h0:db_ r=0) {s:ai_} (hv:VS r s) {c:List bd_} (hc:cOk r.2.1 c=true):fk_ r s c=some (co_ s.1 c,(0,())):=by
  have ok:=bn_ h0
  obtain⟨m1,m2,m3⟩:=qa_ h ok hv
  unfold fk_
  rw[ff_ h,a0_,el_ h0 hv]
  simp only[show ((0:Int) != 0)=false from rfl,a1_]
  rw[kf_ h.th,a0_,hc]
  obtain⟨c1,c2⟩:=sh_ h.th hc
  have hl:=hv.l1
  simp only[d9_,a1_]
  rw[ay_ m1,a0_,ay_ m2,a0_,ay_ m3,a0_,mw_ (t:=(r,(s.1,(s.2.1,s.2.2)))) (show c.length≤1000000000 by omega) (by show InC s.1.length c;rw[hl];exact c1)]
  rfl
def rdB (s:ai_) (n:cr_) (b:Bool):Bool:=b||(co_ s.1 n.2.2.2.1&&s.2.2.contains n.2.1)
def rdN (g:ab_) (s:ai_) (d:List Bool):List Bool:=List.zipWith (rdB s) g.2.2.2.1 d
theorem sv_ {g:ab_} {s:ai_} {d:List Bool} (hd:d.length=g.2.2.2.1.length):(rdN g s d).length=g.2.2.2.1.length:=by
  unfold rdN
  rw[List.length_zipWith]
  omega
theorem bp7 {g:ab_} {s:ai_} {d:List Bool} {i:Nat} {n:cr_} {b:Bool} (hn:g.2.2.2.1[i]?=some n) (hb:d[i]?=some b):(rdN g s d)[i]?=some (rdB s n b):=by
  unfold rdN
  rw[List.getElem?_zipWith,hn,hb]
theorem wn_ {g:ab_} (hg:SmG g) (ok:OkG g) {s:ai_} (hv:VS g.1 s) {d:List Bool} (hd:d.length=g.2.2.2.1.length) (m:List ac_) :
    ∃ z,ag_ (pbgB g s) (0,(d,(m,())))=some z∧z.1=rdN g s d:=by
  have h0:=ok.room
  have okr:=bn_ h0
  obtain⟨m1,m2,m3⟩:=qa_ hg.room okr hv
  have hn:=hg.nt
  have hrl:=sv_ (s:=s) hd
  refine ih_ (λ(i:Nat) (z:Int×(List Bool×(List ac_×Unit)))=>∃ d' m',z=((i:Int),(d',(m',())))∧∀ j,d'[j]?=if j<i then (rdN g s d)[j]? else d[j]?) _ g.2.2.2.1.length 0 _ ⟨d,m,rfl,λj=>by simp⟩ (λj z h1 h2 hz=>.inl ?_) (λz hz => ?_)
  · obtain⟨d',m',rfl,hd'⟩:=hz
    obtain⟨x,hx⟩:=aw_ (l:=g.2.2.2.1) (i:=j) (by omega)
    obtain⟨y,hy⟩:=aw_ (l:=d) (i:=j) (by omega)
    have hy':d'[j]?=some y:=by rw[hd' j,if_neg (by omega)];exact hy
    have hr:=bp7 (s:=s) hx hy
    have hH:=ar4 hg.room h0 hv (ok.nt j x hx).2
    have keep:rdB s x y=y→∀ k,d'[k]?=if k<j+1 then (rdN g s d)[k]? else d[k]?:=λe k=>by
      rw[hd' k]
      by_cases hk:k=j
      · subst hk
        rw[if_neg (by omega),if_pos (by omega),hr,hy,e]
      · by_cases hk2:k<j
        · rw[if_pos hk2,if_pos (by omega)]
        · rw[if_neg hk2,if_neg (by omega)]
    have turn:rdB s x y=true→∀ k,(d'.set ((j:Int)).toNat true)[k]?=if k<j+1 then (rdN g s d)[k]? else d[k]?:=λe k=>by
      rw[c3_,i2_]
      by_cases hk:j=k
      · subst hk
        rw[if_pos rfl,if_pos (ak_ hy'),if_pos (by omega),hr,e]
      · rw[if_neg hk,hd' k]
        by_cases hk2:k<j
        · rw[if_pos hk2,if_pos (by omega)]
        · rw[if_neg hk2,if_neg (by omega)]
    unfold pbgB
    simp only[dlt (ak_ hx),a4_,ah_ hx,ah_ hy',a0_,hH,oz_ m3,az_ (show Sm j by omega)]
    unfold rdB at keep turn
    cases hb:co_ s.1 x.2.2.2.1 with
    | false=>exact⟨_,rfl,_,_,rfl,keep (by rw[hb];simp)⟩
    | true =>
    cases hc:s.2.2.contains x.2.1 with
    | false =>
      refine⟨_,?_,d',m',rfl,keep (by rw[hc];simp)⟩
      simp only[a4_,a1_,a0_]
    | true =>
    cases y with
    | true=>exact⟨_,rfl,_,_,rfl,keep rfl⟩
    | false=>exact⟨_,rfl,_,_,rfl,turn (by rw[hb,hc];rfl)⟩
  · obtain⟨d',m',rfl,hd'⟩:=hz
    rw[b0_]
    unfold pbgB
    simp only[dnl,a1_]
    refine⟨_,rfl,f1_ λk => ?_⟩
    rw[hd' k]
    split
    · rfl
    · rw[b3_ (by omega),b3_ (by omega)]
def bj8 (g:ab_) (d:List Bool) (lock:Int):List al_:=(g.2.2.2.1.zip d).filterMap λx=>cond (x.1.2.2.1==lock&&x.2) (some x.1.2.2.2.2) none
theorem ah6 {g:ab_} {d:List Bool} {lock:Int} {c:al_} (h:c ∈ bj8 g d lock):∃ (i:Nat) (n:cr_),g.2.2.2.1[i]?=some n∧n.2.2.1=lock∧n.2.2.2.2=c:=by
  unfold bj8 at h
  obtain⟨x,hx,he⟩:=List.mem_filterMap.1 h
  obtain⟨i,hi⟩:=e7_ (List.of_mem_zip hx).1
  cases hq:(x.1.2.2.1==lock&&x.2) with
  | false=>rw[hq] at he;cases he
  | true =>
    rw[hq] at he
    rw[a2_,f2_] at hq
    exact⟨i,x.1,hi,hq.1,a5_ he⟩
theorem be0 {g:ab_} (hg:SmG g) (d:List Bool) (lock:Int):(bj8 g d lock).length≤20:=by
  unfold bj8
  refine c7_ (n8_ ..) ?_
  rw[m6_]
  have:=hg.nt
  omega
theorem bs8 {g:ab_} (ok:OkG g) {i:Nat} {n:cr_} (hn:g.2.2.2.1[i]?=some n) {l:ac_} (h0:0≤n.2.2.1) (hl:at? g.2.1 n.2.2.1=some l):df_ l n.2.2.2.2=true:=by
  have h:=(ok.nt i n hn).1
  unfold bs9 at h
  simp only[a2_] at h
  have h5:=h.2.2.2.2
  rw[b1_ (by omega),hl] at h5
  simp only[a1_] at h5
  cases hk:at? g.2.2.1 n.2.2.1 with
  | none=>rw[hk] at h5;cases h5
  | some k =>
    rw[hk] at h5
    have h5:clOk l n.2.2.2.2 k=true:=h5
    unfold clOk at h5
    rw[a2_] at h5
    exact h5.1
noncomputable def rdC (g:ab_) (d:List Bool) (lock:Int) (l:ac_):Int:=((rdg l ((bj8 g d lock))).length:Int)
theorem ao4 {g:ab_} (hg:SmG g) (ok:OkG g) (d:List Bool) {lock:Int} (h0:0≤lock) {l:ac_} (hl:at? g.2.1 lock=some l):dc_ l (bj8 g d lock)=some (rdC g d lock l,(0,())):=by
  obtain⟨_,_,l1⟩:=dd_ hl
  refine ao7 (ok.lk _ l l1).1 (be0 hg d lock) λc hc => ?_
  obtain⟨i,n,hn,rfl,rfl⟩:=ah6 hc
  exact bs8 ok hn h0 hl
noncomputable def opn (g:ab_) (d:List Bool) (lock:Int):Bool:=cond (decide (lock<0)) true ((at? g.2.1 lock).elim false λl=>decide (rdC g d lock l≤g.2.2.2.2))
noncomputable def abB (a0:ab_) (v1:List Bool) (lock:Int):(List Int×(List al_×(Int×Unit)))→Option ((List Int×(List al_×(Int×Unit)))⊕(List Int×(List al_×Unit))) :=
 (λ(v4:((List Int)×((List al_)×(Int×Unit)))) =>
 (cond (decide (v4.2.2.1<(a0.2.2.2.1.length:Int)))
 ((((at? a0.2.2.2.1 v4.2.2.1).bind λv5 =>
 (((cond (v5.2.2.1==lock)
 ((at? v1 v4.2.2.1).bind λv6 =>
 ((at? v1 v4.2.2.1).bind λv7 =>
 (some (v7,()))))
 (some (false,())))).bind λv8 =>
 (cond v8.1
 ((push? (α:=Int) v4.1 [v4.2.2.1]).bind λv9 =>
 ((push? (α:=al_) v4.2.1 [v5.2.2.2.2]).bind λv10 =>
 (some (v9,(v10,())))))
 (some (v4.1,(v4.2.1,()))))))).bind λv11 =>
 (some (inl (v11.1,(v11.2.1,((w64 (v4.2.2.1+1)),()))))))
 (some (inr (v4.1,(v4.2.1,()))))))
theorem cc9 {g:ab_} (hg:SmG g) {d:List Bool} (hd:d.length=g.2.2.2.1.length) (lock:Int):∃ q,ag_ (abB g d lock) ([],([],(0,())))=some (q,(bj8 g d lock,())):=by
  have hn:=hg.nt
  suffices hk:∃ r,ag_ (abB g d lock) ([],([],(0,())))=some r∧∃ q,r=(q,(bj8 g d lock,())) by
    obtain⟨z,ez,q,rfl⟩:=hk
    exact⟨q,ez⟩
  refine ih_ (λ(i:Nat) (z:List Int×(List al_×(Int×Unit)))=>∃ q,z=(q,(((g.2.2.2.1.zip d).take i).filterMap (λx=>cond (x.1.2.2.1==lock&&x.2) (some x.1.2.2.2.2) none),((i:Int),())))∧q.length≤i) (λw=>∃ q,w=(q,(bj8 g d lock,()))) g.2.2.2.1.length 0 ([],([],(0,()))) ⟨[],rfl,c4_ _⟩ (λj z h1 h2 hz=>.inl ?_) (λz hz => ?_)
  · obtain⟨q,rfl,hq⟩:=hz
    obtain⟨x,hx⟩:=aw_ (l:=g.2.2.2.1) (i:=j) (by omega)
    obtain⟨y,hy⟩:=aw_ (l:=d) (i:=j) (by omega)
    have hzip:(g.2.2.2.1.zip d)[j]?=some (x,y):=by rw[f8_];exact⟨hx,hy⟩
    have hlen:(((g.2.2.2.1.zip d).take j).filterMap (λx=>cond (x.1.2.2.1==lock&&x.2) (some x.1.2.2.2.2) none)).length≤j:=by
      refine c7_ (n8_ ..) ?_
      rw[c6_];omega
    have hstep:((g.2.2.2.1.zip d).take (j+1)).filterMap (λx=>cond (x.1.2.2.1==lock&&x.2) (some x.1.2.2.2.2) none)=((g.2.2.2.1.zip d).take j).filterMap (λx=>cond (x.1.2.2.1==lock&&x.2) (some x.1.2.2.2.2) none)++cond (x.2.2.1==lock&&y) [x.2.2.2.2] []:=by
      rw[d3_,hzip,l4_]
      cases hc:(x.2.2.1==lock&&y) with
      | false=>simp[hc]
      | true=>simp[hc]
    unfold abB
    simp only[dlt (ak_ hx),a4_,ah_ hx,ah_ hy,a0_,az_ (show Sm j by omega)]
    cases h1:x.2.2.1==lock with
    | false =>
      refine⟨_,rfl,q,?_,by omega⟩
      rw[hstep,h1,e0_,a1_,e3_]
    | true =>
    cases y with
    | false =>
      refine⟨_,rfl,q,?_,by omega⟩
      rw[hstep,f9_,a1_,e3_]
    | true =>
      simp only[a4_,a0_,ci_ (show Sm q.length by show _≤1000000000;omega),ci_ (show Sm _ from c7_ hlen (by omega))]
      refine⟨_,rfl,q++[(j:Int)],?_,by rw[a8_,c8_];omega⟩
      rw[hstep,h1,h4_,a4_]
  · obtain⟨q,rfl,hq⟩:=hz
    rw[b0_]
    unfold abB
    simp only[dnl,a1_]
    refine⟨_,rfl,q,?_⟩
    unfold bj8
    rw[g9_ (by rw[m6_];omega)]
end
section
set_option maxRecDepth 100000
noncomputable def opX (a0:ab_) (v1:List Bool) (a2:ae_):Option (Bool×(List ac_×Unit)) :=
 (cond (a2.2.1==4)
 ((cb_ a2.2.2 0 (w64 ((a0.1.2.2.2.2.1.length:Int) - 1))).bind λv2 =>
 (cond v2.1
 ((at? a0.1.2.2.2.2.1 a2.2.2).bind λv3 =>
 (cond (decide (v3.2.2.1<0))
 (some ((!true),([],())))
 ((((ag_ (abB a0 v1 v3.2.2.1) ([],([],(0,())))).bind λv12 =>
 ((at? a0.2.1 v3.2.2.1).bind λv13 =>
 ((dc_ v13 v12.2.1).bind λv14 =>
 (((cond (v14.2.1==0)
 (some ((decide (v14.1≤a0.2.2.2.2)),()))
 (some (false,())))).bind λv15 =>
 (cond v15.1
 (some ((hv_ (hv_ [] v3.2.2.1 2) v3.2.2.1 1),()))
 (some ((hv_ [] v3.2.2.1 2),())))))))).bind λv16 =>
 (some ((!((ef_ 0 v16.1 v3.2.2.1)==1)),(v16.1,()))))))
 (some (false,([],())))))
 (some (false,([],()))))
noncomputable def pstX (a0:ab_) (a1:aa_) (a2:ae_):Option (aa_×(Int×Unit)) :=
 ((dy_ a0 a1).bind λv0 =>
 (cond (v0.1 != 0)
 (cond (v0.1 != 0)
 (some ((([],([],[])),[]),(v0.1,())))
 none)
 ((push? (α:=Bool) [] a1.2).bind λv1 =>
 ((((opX a0 v1 a2).bind λv17 =>
 (cond v17.1
 (some ((!false),(v1,(v17.2.1,((a1.1.1,(a1.1.2.1,(a1.1.2.2,()))),())))))
 ((fi_ a0.1 a1.1 a2).bind λv18 =>
 (cond (v18.2.1 != 0)
 (some ((!false),(v1,(v17.2.1,((a1.1.1,(a1.1.2.1,(a1.1.2.2,()))),())))))
 ((ag_ (ρ:=((List Bool)×((List ac_)×Unit))) (pbgB a0 v18.1) (0,(v1,(v17.2.1,())))).bind λv29 =>
 (some ((!true),(v29.1,(v29.2.1,((v18.1.1,(v18.1.2.1,(v18.1.2.2,()))),()))))))))))).bind λv30 =>
 (cond v30.1
 (some ((([],([],[])),[]),(29,())))
 ((push? (α:=Int) [] v30.2.2.2.1.1).bind λv31 =>
 ((push? (α:=Int) [] v30.2.2.2.1.2.1).bind λv32 =>
 ((push? (α:=Int) [] v30.2.2.2.1.2.2.1).bind λv33 =>
 ((push? (α:=Bool) [] v30.2.1).bind λv34 =>
 (some (((v31,(v32,v33)),v34),(0,()))))))))))))
theorem bq7:eb_=pstX:=by kernel_rfl
noncomputable def okM (g:ab_) (d:List Bool) (m:ae_):Bool:=cond (m.2.1==4) ((at? g.1.2.2.2.2.1 m.2.2).elim true λa=>opn g d a.2.2.1) true
noncomputable def stepP (g:ab_) (p:aa_) (m:ae_):Option aa_ :=
  cond (okM g p.2 m&&lgl g.1 p.1 m) ((yf_ g.1 p.1 m).map λs=>(s,rdN g s p.2)) none
abbrev eP:aa_:=(eS,[])
theorem zc_ {g:ab_} (hg:SmG g) (p:aa_):dy_ g p=some (cond (br_ g != 0) (br_ g) (cond (he_ g.1 p.1 != 0) (he_ g.1 p.1) (cond ((p.2.length:Int) != (g.2.2.2.1.length:Int)) 28 0)),()):=by
  unfold dy_
  rw[zd_ hg,a0_]
  cases br_ g != 0 with
  | true=>rfl
  | false =>
  simp only[a1_]
  rw[ff_ hg.room,a0_]
  cases he_ g.1 p.1 != 0 with
  | true=>rfl
  | false =>
  simp only[a1_]
  cases (p.2.length:Int) != (g.2.2.2.1.length:Int)<;>rfl
structure VP (g:ab_) (p:aa_):Prop where
  st:VS g.1 p.1
  rd:p.2.length=g.2.2.2.1.length
theorem wl_ {g:ab_} (hg:SmG g) (h0:br_ g=0) {p:aa_} (hv:VP g p):dy_ g p=some (0,()):=by
  rw[zc_ hg,h0,el_ (cd_ h0).room hv.st,hv.rd,show ((g.2.2.2.1.length:Int) != (g.2.2.2.1.length:Int))=false by simp]
  rfl
theorem opX_eq {g:ab_} (hg:SmG g) (ok:OkG g) {d:List Bool} (hd:d.length=g.2.2.2.1.length) (m:ae_):∃ x,opX g d m=some (!(okM g d m),(x,())):=by
  have hac:=hg.ac
  unfold opX okM
  cases hk:m.2.1==4 with
  | false=>exact⟨[],rfl⟩
  | true =>
  simp only[a4_,kp_,a0_]
  rcases cs_ (l:=g.1.2.2.2.2.1) (by show _≤1000000000;omega) m.2.2 with ⟨f1,f2⟩ | ⟨j,a,hj,ha,f1,f2⟩
  · rw[f1,f2];exact⟨[],rfl⟩
  · rw[f1,f2]
    simp only[a4_,a0_,Option.elim]
    unfold opn
    cases hz:decide (a.2.2.1<0) with
    | true=>exact⟨[],rfl⟩
    | false =>
    have hz:=c1_ hz
    have hlt:=ok.ac j a ha
    obtain⟨l,hl⟩:=aw_ (l:=g.2.1) (i:=a.2.2.1.toNat) (by omega)
    have hl2:at? g.2.1 a.2.2.1=some l:=by rw[show a.2.2.1=((a.2.2.1.toNat:Nat):Int) by omega];exact ah_ hl
    obtain⟨q,e⟩:=cc9 hg hd a.2.2.1
    rw[e]
    simp only[a1_,a0_,hl2,ao4 hg ok d (by omega) hl2,Option.elim]
    simp only[show ((0:Int)==0)=true from rfl,a4_,a0_]
    cases decide (rdC g d a.2.2.1 l≤g.2.2.2.2) with
    | true=>exact⟨_,by simp[hv_,ef_,mget?];rfl⟩
    | false=>exact⟨_,by simp[hv_,ef_,mget?];rfl⟩
theorem rq_ {g:ab_} (hg:SmG g) (h0:br_ g=0) {p:aa_} (hv:VP g p) (m:ae_) :
    eb_ g p m=some ((stepP g p m).elim (eP,(29,())) λq=>(q,(0,()))):=by
  have ok:=cd_ h0
  have hn:=hg.nt
  have hrd:=hv.rd
  rw[bq7]
  unfold pstX
  rw[wl_ hg h0 hv,a0_]
  simp only[show ((0:Int) != 0)=false from rfl,a1_]
  rw[ay_ (show Sm p.2.length by show _≤1000000000;omega),a0_]
  obtain⟨x,ex⟩:=opX_eq hg ok hv.rd m
  rw[ex,a0_]
  unfold stepP
  cases okM g p.2 m with
  | false=>rfl
  | true =>
  simp only[d9_,a1_,b7_]
  rw[ak2 hg.room ok.room hv.st m,a0_]
  cases hl:lgl g.1 p.1 m with
  | false=>rfl
  | true =>
  simp only[a4_]
  cases hs:yf_ g.1 p.1 m with
  | none=>rfl
  | some s =>
  have hv2:=uz_ hg.room ok.room hv.st hl hs
  obtain⟨m1,m2,m3⟩:=qa_ hg.room (bn_ ok.room) hv2
  have hrl:=sv_ (s:=s) hv.rd
  obtain⟨z,ez,hz⟩:=wn_ hg ok hv2 hv.rd x
  simp only[Option.elim,show ((0:Int) != 0)=false from rfl,a1_]
  rw[ez,a0_,a0_]
  simp only[d9_,a1_]
  rw[ay_ m1,a0_,ay_ m2,a0_,ay_ m3,a0_,hz,ay_ (show Sm (rdN g s p.2).length by show _≤1000000000;omega),a0_]
  rfl
theorem rg_ {g:ab_} (hg:SmG g) (h0:br_ g=0) {p q:aa_} (hv:VP g p) {m:ae_} (h:stepP g p m=some q):VP g q:=by
  have ok:=cd_ h0
  unfold stepP at h
  cases hc:(okM g p.2 m&&lgl g.1 p.1 m) with
  | false=>rw[hc] at h;cases h
  | true =>
  rw[hc,a4_] at h
  obtain⟨s,hs,rfl⟩:=f7_.1 h
  rw[a2_] at hc
  exact⟨uz_ hg.room ok.room hv.st hc.2 hs,sv_ hv.rd⟩
end
end Go.Proofs.YtdibamopklkilaaGreatDoor.Rx
namespace Go.Proofs.YtdibamopklkilaaGreatDoor.Rx
open Go Pad Rex Sum
section
set_option maxRecDepth 10000
theorem ak3 {r:af_} (h:SmR r) (h0:db_ r=0) {s:ai_} (hv:VS r s):fl_ r s=some (co_ s.1 r.2.2.2.2.2.2.2,(0,())):=by
  have ok:=bn_ h0
  obtain⟨m1,m2,m3⟩:=qa_ h ok hv
  unfold fl_
  rw[ff_ h,a0_,el_ h0 hv]
  simp only[show ((0:Int) != 0)=false from rfl,a1_]
  obtain⟨c1,c2⟩:=sh_ h.th ok.go
  have hl:=hv.l1
  rw[ay_ m1,ay_ m2,ay_ m3]
  simp only[a0_]
  rw[mw_ (t:=(r,(s.1,(s.2.1,s.2.2)))) (show r.2.2.2.2.2.2.2.length≤1000000000 by omega) (by show InC s.1.length r.2.2.2.2.2.2.2;rw[hl];exact c1)]
  rfl
end
section
set_option maxRecDepth 10000
theorem bh7 {s:ai_} (h:Sm s.2.1.length) (p:Int):hk_ s p=some ((me_ s.2.1 (w64 ((-2) - p)):Int),()):=by
  unfold hk_
  refine ap5 s.2.1 (λ_ (c:Nat) x=>cond (x==w64 ((-2) - p)) (c+1) c) (λi c=>((c:Int),((i:Int),()))) (λc=>((c:Int),())) 0 (λi c=>c=me_ (s.2.1.take i) (w64 ((-2) - p))) rfl (λi x c hx hc => ?_) (λc hc => ?_) (λc hc => ?_)
  · have hi:=ak_ hx
    have hcl:c≤i:=by rw[hc];refine c7_ (vg_ _ _) ?_;rw[c6_];omega
    have hn:me_ (s.2.1.take (i+1)) (w64 ((-2) - p))=cond (x==w64 ((-2) - p)) (c+1) c:=by
      unfold me_
      rw[d3_,hx,hc,List.countP_append]
      unfold me_
      cases hq:x==w64 ((-2) - p) with
      | true=>simp[hq]
      | false=>simp[hq]
    refine⟨?_,hn.symm⟩
    simp only[dlt hi,a4_,ah_ hx,a0_,az_ (show Sm i by omega)]
    cases hq:x==w64 ((-2) - p) with
    | true=>simp only[a4_,a0_,az_ (show Sm c by omega)]
    | false=>rfl
  · simp only[dnl,a1_]
  · rw[d7_] at hc
    rw[hc]
theorem vn_ (a b:Int):(a != b) = !(a==b):=rfl
theorem as3 {r:af_} (h:SmR r) (ok:OkR r) {s:ai_} (hv:VS r s) (m:ae_):jx_ r s m=some (lgl r s m,()):=by
  obtain⟨m1,m2,m3⟩:=qa_ h ok hv
  have hl1:=hv.l1
  have hl2:=hv.l2
  have hl3:=hv.l3
  have hH:∀ {c:List bd_},cOk r.2.1 c=true→bh_ s c=some (co_ s.1 c,()):=λ{c} hc=>by
    obtain⟨c1,c2⟩:=sh_ h.th hc
    exact hu_ (show c.length≤1000000000 by omega) (by show InC s.1.length c;rw[hl1];exact c1)
  have hD:hk_ s m.1=some ((me_ s.2.1 (hdl m):Int),()):=bh7 m2 m.1
  have hDl:=vg_ s.2.1 (hdl m)
  unfold jx_ lgl
  rw[← hl3]
  simp only[fv_,a0_]
  rcases cs_ m3 m.1 with ⟨e1,_⟩ | ⟨pj,px,hpj,hp,e1,e2⟩
  · rw[e1];rfl
  · have eg:gi s.2.2 m.1=px:=ji_ e2
    simp only[e1,e2,eg,d9_,a1_,a0_,b7_]
    cases hk1:m.2.1==1 with
    | true =>
      simp only[a4_]
      rcases cs_ h.wy m.2.2 with ⟨f1,f2⟩ | ⟨j,w,hj,hw,f1,f2⟩
      · simp only[f1,f2];rfl
      · simp only[f1,f2,a4_,a0_,hH (ok.wy j w hw).2]
        show _=some ((w.1==px||w.2.1==px)&&co_ s.1 w.2.2,())
        cases w.1==px with
        | true=>rfl
        | false=>cases w.2.1==px<;>rfl
    | false =>
    simp only[a1_]
    cases hk2:m.2.1==2 with
    | true =>
      simp only[a4_]
      rcases cs_ h.pr m.2.2 with ⟨f1,f2⟩ | ⟨j,x,hj,hx,f1,f2⟩
      · simp only[f1,f2];rfl
      · obtain⟨p,hp⟩:=aw_ (l:=s.2.1) (i:=j) (by have:=ak_ hx;omega)
        have f3:at? s.2.1 m.2.2=some p:=by rw[hj];exact ah_ hp
        have f4:gi s.2.1 m.2.2=p:=ji_ f3
        simp only[f1,f2,f3,f4,a4_,a0_,hH (ok.pr j x hx).2,hD]
        show _=some (p==px&&(co_ s.1 x.2.2&&decide ((me_ s.2.1 (hdl m):Int)<3)),())
        cases p==px with
        | false=>rfl
        | true=>cases co_ s.1 x.2.2<;>rfl
    | false =>
    simp only[a1_]
    cases hk3:m.2.1==3 with
    | true =>
      simp only[a4_]
      rcases cs_ m2 m.2.2 with ⟨f1,f2⟩ | ⟨j,p,hj,hp,f1,f2⟩
      · rw[hl2] at f1
        simp only[f1,f2];rfl
      · rw[hl2] at f1
        simp only[f1,f2,a4_,a0_];rfl
    | false =>
    simp only[a1_]
    cases hk4:m.2.1==4 with
    | false=>rfl
    | true =>
      simp only[a4_]
      rcases cs_ h.ac m.2.2 with ⟨f1,f2⟩ | ⟨j,a,hj,ha,f1,f2⟩
      · simp only[f1,f2];rfl
      · obtain⟨oa,oc⟩:=ok.ac j a ha
        have ai:=bf6 oa
        obtain⟨s1,s2,s3,s4,s5,s6⟩:=h.acn a (au_ ha)
        simp only[f1,f2,d9_,a1_,a0_]
        show _=some (a.2.1==px&&((a.2.2.2.1.all λp=>gi s.2.1 p==hdl m)&&(co_ s.1 a.2.2.2.2.1&&((a.2.2.2.2.2.2.2.all λp=>gi s.2.1 p==-1)&&decide ((me_ s.2.1 (hdl m):Int) - (a.2.2.2.2.2.2.1.length:Int)+(a.2.2.2.2.2.2.2.length:Int)≤3)))),())
        refine bo_ a.2.2.2.1 (λ_ p=>cond (gi s.2.1 p==hdl m) none (some (inr (false,()):Unit⊕(Bool×Unit)))) (λi=>((i:Int),())) (r0:=inl ()) (λi y hy => ?_) ?_ ?_
        · have:=ai.us y (au_ hy)
          simp only[dlt (ak_ hy),a4_,ah_ hy,a0_,mu_ this.1 (show y<(s.2.1.length:Int) by omega),az_ (show Sm i by have:=ak_ hy;omega),vn_]
          cases gi s.2.1 y==hdl m<;>rfl
        · simp only[dnl,a1_]
        rw[jq_ (q:=λp=>gi s.2.1 p==hdl m)]
        cases a.2.2.2.1.all λp=>gi s.2.1 p==hdl m with
        | false=>simp only[e0_,f9_];rfl
        | true =>
        simp only[a4_,j4_]
        unfold bx_
        refine bo_ a.2.2.2.2.2.2.2 (λ_ p=>cond (gi s.2.1 p==-1) none (some (inr (false,()):Unit⊕(Bool×Unit)))) (λi=>((i:Int),())) (r0:=inl ()) (λi y hy => ?_) ?_ ?_
        · have:=ai.br y (au_ hy)
          simp only[dlt (ak_ hy),a4_,ah_ hy,a0_,mu_ this.1 (show y<(s.2.1.length:Int) by omega),az_ (show Sm i by have:=ak_ hy;omega),vn_]
          cases gi s.2.1 y==-1<;>rfl
        · simp only[dnl,a1_]
        rw[jq_ (q:=λp=>gi s.2.1 p==-1)]
        cases a.2.2.2.2.2.2.2.all λp=>gi s.2.1 p==-1 with
        | false=>simp only[e0_,f9_];rfl
        | true =>
        simp only[a4_,j4_]
        cases a.2.1==px with
        | false=>rfl
        | true =>
        simp only[a4_,hH oc,a0_,b7_]
        cases co_ s.1 a.2.2.2.2.1 with
        | false=>rfl
        | true =>
        simp only[a4_,hD,a0_,b7_]
        rw[ei_ (n:=(me_ s.2.1 (hdl m):Int) - _) (by omega) (by omega),ei_ (by omega) (by omega)]
end
section
set_option maxRecDepth 10000
theorem bo5 {σ ρ:Type} (n:Nat) (S:Nat→σ) {body:σ→Option (σ⊕ρ)} {r:ρ} (h:∀ i,i<n→body (S i)=some (.inl (S (i+1)))) (e:body (S n)=some (.inr r)):ag_ body (S 0)=some r:=by
  have gen:∀ (k i:Nat),i+k=n→ag_ body (S i)=some r:=by
    intro k
    induction k with
    | zero =>
      intro i hi
      obtain rfl:i=n:=by omega
      exact bi_ e
    | succ k ih =>
      intro i hi
      exact bg_ (h i (by omega)) (ih (i+1) (by omega))
  exact gen n 0 (by omega)
theorem mb_ {σ ρ υ:Type} (n:Nat) (S:Nat→σ) {body:σ→Option (σ⊕ρ)} {r:ρ} {s0:σ} {K:ρ→Option υ} {x:Option υ} (h0:S 0=s0) (h:∀ i,i<n→body (S i)=some (.inl (S (i+1)))) (e:body (S n)=some (.inr r)) (hk:K r=x):(ag_ body s0).bind K=x:=by
  rw[← h0,bo5 n S h e,a0_,hk]
section
variable (q:ae_→Bool)
def mvK (i k:Int):Nat→List ae_→List ae_
  | 0,l=>l
  | n+1,l=>cond (q (i,(k,(n:Int)))) (mvK i k n l++[(i,(k,(n:Int)))]) (mvK i k n l)
def mvJ (i:Int) (c:Nat→Nat):Nat→List ae_→List ae_
  | 0,l=>l
  | k+1,l=>mvK q i (k:Int) (c k) (mvJ i c k l)
def mvs (c:Nat→Nat):Nat→List ae_
  | 0=>[]
  | n+1=>mvJ q (n:Int) c 5 (mvs c n)
theorem ad6 (i k:Int):∀ n l,(mvK q i k n l).length≤l.length+n
  | 0,l=>c4_ _
  | n+1,l=>by
    have:=ad6 i k n l
    unfold mvK
    cases q (i,(k,(n:Int))) with
    | true=>simp only[a4_,a8_,c5_,j1_];omega
    | false=>simp only[a1_];omega
theorem ad7 (i:Int) {c:Nat→Nat} (hc:∀ k,c k≤24):∀ k l,(mvJ q i c k l).length≤l.length+k * 24
  | 0,l=>c4_ _
  | k+1,l=>by
    have h1:=ad7 i hc k l
    have h2:=ad6 q i (k:Int) (c k) (mvJ q i c k l)
    have h3:=hc k
    unfold mvJ
    omega
theorem ad5 {c:Nat→Nat} (hc:∀ k,c k≤24):∀ n,(mvs q c n).length≤n * 120
  | 0=>c4_ _
  | n+1=>by
    have h1:=ad5 hc n
    have h2:=ad7 q (n:Int) hc 5 (mvs q c n)
    unfold mvs
    omega
theorem bt6 (i k:Int) {n:Nat} (l:List ae_):∀ m,n≤m→(∀ j:Nat,n≤j→j<m→q (i,(k,(j:Int)))=false)→mvK q i k m l=mvK q i k n l
  | 0, h, _ => by obtain rfl : n = 0 := by omega
                  rfl
  | m+1,h,hf=>by
    rcases m0_ m n with hm | hm
    · obtain rfl:n=m+1:=by omega
      rfl
    · show cond (q (i,(k,(m:Int)))) _ (mvK q i k m l)=_
      rw[hf m hm (by omega),a1_]
      exact bt6 i k l m hm λj a b=>hf j a (by omega)
theorem bt8 (i:Int) {c d:Nat→Nat} (K:Nat) (l:List ae_) (hc:∀ k,k<K→c k≤d k) (hf:∀ k,k<K→∀ j:Nat,c k≤j→j<d k→q (i,((k:Int),(j:Int)))=false):∀ k,k≤K→mvJ q i d k l=mvJ q i c k l
  | 0,_=>rfl
  | k+1,hk=>by
    unfold mvJ
    rw[bt8 i K l hc hf k (by omega)]
    exact bt6 q i (k:Int) _ (d k) (hc k (by omega)) (hf k (by omega))
theorem bt5 {c d:Nat→Nat} (hc:∀ k,k<5→c k≤d k) (hf:∀ i k,k<5→∀ j:Nat,c k≤j→j<d k→q (i,((k:Int),(j:Int)))=false):∀ n,mvs q d n=mvs q c n
  | 0=>rfl
  | n+1=>by
    unfold mvs
    rw[bt5 hc hf n]
    exact bt8 q (n:Int) 5 _ hc (hf (n:Int)) 5 (c4_ _)
end
def ao9 (r:af_) (k:Nat):Nat:=[0,r.2.2.2.1.length,r.2.2.1.length,r.2.2.1.length,r.2.2.2.2.1.length].getD k 0
def tl_ (k:Nat):Nat:=match k with
  | 0=>0
  | _+1=>24
theorem at5 (a b c d:Nat):∀ {k:Nat},k<5→decide ((k:Int)<(([0,(a:Int),(b:Int),(c:Int),(d:Int)]:List Int).length:Int))=true∧at? [0,(a:Int),(b:Int),(c:Int),(d:Int)] (k:Int)=some ((([0,a,b,c,d]:List Nat).getD k 0:Nat):Int)
  | 0,_=>⟨rfl,rfl⟩
  | 1,_=>⟨rfl,rfl⟩
  | 2,_=>⟨rfl,rfl⟩
  | 3,_=>⟨rfl,rfl⟩
  | 4,_=>⟨rfl,rfl⟩
  | _+5,h=>absurd h (by omega)
theorem cnt_le {r:af_} (ok:OkR r):∀ k,ao9 r k≤tl_ k:=by
  have hm:=ok.many
  unfold ae1 at hm
  simp only[c2_,m1_] at hm
  intro k
  match k with
  | 0=>exact c4_ _
  | 1=>show r.2.2.2.1.length≤24;omega
  | 2=>show r.2.2.1.length≤24;omega
  | 3=>show r.2.2.1.length≤24;omega
  | 4=>show r.2.2.2.2.1.length≤24;omega
  | k+5=>exact p3_ _
theorem ah5:∀ k,tl_ k≤24
  | 0=>p3_ _
  | _+1=>c4_ _
theorem ap6 {α:Type} {l:List α} {j:Nat} (h:l.length≤j):at? l (j:Int)=none:=by
  rw[bf0]
  exact b3_ h
theorem bu8 {r:af_} {s:ai_} (hv:VS r s) (i:Int) {k:Nat} (hk:k<5) {j:Nat} (hj:ao9 r k≤j):lgl r s (i,((k:Int),(j:Int)))=false:=by
  unfold lgl
  match k,hk with
  | 0,_ =>
    show (_&&false)=false
    rw[f9_]
  | 1,_ =>
    show (_&&(at? r.2.2.2.1 (j:Int)).elim false _)=false
    rw[ap6 (show r.2.2.2.1.length≤j from hj)]
    exact f9_ _
  | 2,_ =>
    show (_&&(at? r.2.2.1 (j:Int)).elim false _)=false
    rw[ap6 (show r.2.2.1.length≤j from hj)]
    exact f9_ _
  | 3,_ =>
    show (_&&(at? s.2.1 (j:Int)).elim false _)=false
    have hl:=hv.l2
    have hj:r.2.2.1.length≤j:=hj
    rw[ap6 (show s.2.1.length≤j by omega)]
    exact f9_ _
  | 4,_ =>
    show (_&&(at? r.2.2.2.2.1 (j:Int)).elim false _)=false
    rw[ap6 (show r.2.2.2.2.1.length≤j from hj)]
    exact f9_ _
  | k+5,h=>exact absurd h (by omega)
def lmv (r:af_) (s:ai_):List ae_:=mvs (lgl r s) (ao9 r) r.2.2.2.2.2.2.1.toNat
theorem bh1 {r:af_} (h:SmR r) (h0:db_ r=0) {s:ai_} (hv:VS r s):fj_ r s=some (lmv r s,(0,())):=by
  have ok:=bn_ h0
  obtain⟨m1,m2,m3⟩:=qa_ h ok hv
  have hpy:=ch_.1 ok.py
  obtain⟨P,hP⟩:∃ P:Nat,r.2.2.2.2.2.2.1=(P:Int):=⟨_,(Int.toNat_of_nonneg (by omega)).symm⟩
  have hc:∀ k,ao9 r k≤24:=λk=>c7_ (cnt_le ok k) (ah5 k)
  unfold fj_ lmv
  rw[ff_ h,a0_,el_ h0 hv]
  simp only[show ((0:Int) != 0)=false from rfl,a1_,ay_ m1,ay_ m2,ay_ m3,a0_,hP,c3_]
  refine mb_ P (λi=>((i:Int),((),((mvs (lgl r s) (ao9 r) i,()),())))) rfl (λi hi => ?_) (by simp only[dnl,a1_];rfl) rfl
  simp only[dlt hi,a4_]
  have l1:=ad5 (lgl r s) hc i
  refine mb_ 5 (λk=>((k:Int),((),((mvJ (lgl r s) (i:Int) (ao9 r) k (mvs (lgl r s) (ao9 r) i),()),())))) rfl (λk hk => ?_) rfl ?_
  · have l2:=ad7 (lgl r s) (i:Int) hc k (mvs (lgl r s) (ao9 r) i)
    obtain⟨a1,a2⟩:=at5 r.2.2.2.1.length r.2.2.1.length r.2.2.1.length r.2.2.2.2.1.length hk
    simp only[a1,a2,a4_,a0_]
    refine mb_ (ao9 r k) (λj=>((j:Int),((),((mvK (lgl r s) (i:Int) (k:Int) j (mvJ (lgl r s) (i:Int) (ao9 r) k (mvs (lgl r s) (ao9 r) i)),()),())))) rfl (λj hj => ?_) (by exact congrArg (λb=>cond b _ _) (dnl (ao9 r k))) ?_
    · have l3:=ad6 (lgl r s) (i:Int) (k:Int) j (mvJ (lgl r s) (i:Int) (ao9 r) k (mvs (lgl r s) (ao9 r) i))
      have hk24:=hc k
      have hp:=ci_ (x:=((i:Int),((k:Int),(j:Int)))) (show Sm (mvK (lgl r s) (i:Int) (k:Int) j (mvJ (lgl r s) (i:Int) (ao9 r) k (mvs (lgl r s) (ao9 r) i))).length by show _≤1000000000;omega)
      have hd:decide ((j:Int)<((([0,r.2.2.2.1.length,r.2.2.1.length,r.2.2.1.length,r.2.2.2.2.1.length]:List Nat).getD k 0:Nat):Int))=true:=dlt hj
      simp only[hd,a4_,show ((r,(s.1,(s.2.1,s.2.2))):hr_)=(r,s) from rfl,vx_ h ok hv,a0_,az_ (show Sm j by show j≤1000000000;omega),mvK]
      cases hq:lgl r s ((i:Int),((k:Int),(j:Int))) with
      | true=>simp only[a4_,hp,a0_]
      | false=>simp only[a1_,a0_]
    · simp only[az_ (show Sm k by show k≤1000000000;omega)]
      rfl
  · simp only[az_ (show Sm i by show i≤1000000000;omega)]
    rfl
theorem um_ {r:af_} (h:SmR r) (ok:OkR r) {s:ai_} (hv:VS r s):ez_ r s=some (lmv r s,()):=by
  have hpy:=ch_.1 ok.py
  obtain⟨P,hP⟩:∃ P:Nat,r.2.2.2.2.2.2.1=(P:Int):=⟨_,(Int.toNat_of_nonneg (by omega)).symm⟩
  have hc:=ah5
  have hE:lmv r s=mvs (lgl r s) tl_ P:=by
    unfold lmv
    rw[hP,c3_]
    exact (bt5 (lgl r s) (λk _=>cnt_le ok k) (λi k hk j a _=>bu8 hv i hk a) P).symm
  unfold ez_
  rw[hE]
  simp only[hP]
  refine mb_ P (λi=>(mvs (lgl r s) tl_ i,((i:Int),()))) rfl (λi hi => ?_) (by simp only[dnl,a1_];rfl) rfl
  simp only[dlt hi,a4_]
  have l1:=ad5 (lgl r s) hc i
  refine mb_ 4 (λk=>(mvJ (lgl r s) (i:Int) tl_ (k+1) (mvs (lgl r s) tl_ i),(((k+1:Nat):Int),()))) rfl (λk hk => ?_) rfl ?_
  · have l2:=ad7 (lgl r s) (i:Int) hc (k+1) (mvs (lgl r s) tl_ i)
    simp only[show decide (((k+1:Nat):Int)≤4)=true from b4_ (by omega),a4_]
    refine mb_ 24 (λj=>(mvK (lgl r s) (i:Int) ((k+1:Nat):Int) j (mvJ (lgl r s) (i:Int) tl_ (k+1) (mvs (lgl r s) tl_ i)),((j:Int),()))) rfl (λj hj => ?_) rfl ?_
    · have l3:=ad6 (lgl r s) (i:Int) ((k+1:Nat):Int) j (mvJ (lgl r s) (i:Int) tl_ (k+1) (mvs (lgl r s) tl_ i))
      have hp:=ci_ (x:=((i:Int),(((k+1:Nat):Int),(j:Int)))) (show Sm (mvK (lgl r s) (i:Int) ((k+1:Nat):Int) j (mvJ (lgl r s) (i:Int) tl_ (k+1) (mvs (lgl r s) tl_ i))).length by show _≤1000000000;omega)
      simp only[show decide ((j:Int)<24)=true from b4_ (by omega),a4_,as3 h ok hv,a0_,az_ (show Sm j by show j≤1000000000;omega),mvK]
      cases hq:lgl r s ((i:Int),(((k+1:Nat):Int),(j:Int))) with
      | true=>simp only[a4_,hp,a0_]
      | false=>simp only[a1_,a0_]
    · simp only[az_ (show Sm (k+1) by show k+1≤1000000000;omega)]
      rfl
  · simp only[az_ (show Sm i by show i≤1000000000;omega)]
    rfl
end
section
set_option maxRecDepth 10000
theorem bk3 {α υ:Type} (l:List α) (hl:Sm l.length) (q:α→Bool) {body:(Int×(Int×Unit))→Option ((Int×(Int×Unit))⊕(Int×Unit))} {K:(Int×Unit)→Option υ} {x:Option υ}
    (hq:∀ (i:Nat) y,l[i]?=some y→body (-1,((i:Int),()))=some (.inl (cond (q y) (i:Int) (-1),(w64 ((i:Int)+1),()))))
    (he:body (-1,((l.length:Int),()))=some (.inr (-1,())))
    (hx:∀ i j:Nat,body ((i:Int),((j:Int),()))=some (.inr ((i:Int),())))
    (hk:∀ n:Int,((n = -1∧l.find? q=none)∨∃ (i:Nat) (y:α),n=(i:Int)∧l[i]?=some y∧l.find? q=some y)→K (n,())=x) :
    (ag_ body (-1,(0,()))).bind K=x:=by
  have gen:∀ (k i:Nat),i+k=l.length→∃ n:Int,ag_ body (-1,((i:Int),()))=some (n,())∧((n = -1∧(l.drop i).find? q=none)∨∃ (j:Nat) (y:α),n=(j:Int)∧l[j]?=some y∧(l.drop i).find? q=some y):=by
    intro k
    induction k with
    | zero =>
      intro i hi
      obtain rfl:i=l.length:=by omega
      exact⟨-1,bi_ he,.inl ⟨rfl,by rw[l0_];rfl⟩⟩
    | succ k ih =>
      intro i hi
      have hil:i<l.length:=by omega
      obtain⟨y,hy⟩:=aw_ hil
      have hd:l.drop i=y::l.drop (i+1):=by
        rw[g8_ hil]
        rw[a7_ hil] at hy
        rw[a5_ hy]
      have hb:=hq i y hy
      rw[az_ (show Sm i by unfold Sm at hl ⊢; omega)] at hb
      cases hqy:q y with
      | true =>
        rw[hqy] at hb
        exact⟨(i:Int),bg_ hb (bi_ (hx i (i+1))),.inr ⟨i,y,rfl,hy,by rw[hd,o1_ hqy]⟩⟩
      | false =>
        rw[hqy] at hb
        obtain⟨n,e,c⟩:=ih (i+1) (by omega)
        refine⟨n,bg_ hb e,?_⟩
        rw[hd,o2_ (by rw[hqy];decide)]
        exact c
  obtain⟨n,e,c⟩:=gen l.length 0 (by omega)
  have e:ag_ body (-1,(0,()))=some (n,()):=e
  rw[e,a0_]
  exact hk n c
theorem ba5 {r:af_} (h:SmR r) (ok:OkR r) {σ ρ:Type} (F:Nat→List Int→σ) (G E:List Int→ρ) {body:σ→Option (σ⊕ρ)}
    (hb:∀ (i:Nat) th,i<101→VT r th→body (F i th)=some (match fstA r th with
      | none=>.inr (G th)
      | some y=>.inl (F (i+1) (th.set y.2.1.toNat y.2.2))))
    (he:∀ th,body (F 101 th)=some (.inr (E th))) :
    ∀ (n i:Nat) (th:List Int),i+n=101→VT r th→∃ z,ag_ body (F i th)=some z∧match stl r n th with
      | some th'=>z=G th'∧VT r th'
      | none=>∃ w,z=E w
  | 0,i,th,hi,hv=>by
    obtain rfl:i=101:=by omega
    exact⟨_,bi_ (he th),th,rfl⟩
  | n+1,i,th,hi,hv=>by
    have hb1:=hb i th (by omega) hv
    unfold stl
    cases hf:fstA r th with
    | none =>
      rw[hf] at hb1
      exact⟨_,bi_ hb1,rfl,hv⟩
    | some y =>
      rw[hf] at hb1
      have hm:y ∈ r.2.2.2.2.2.1:=n1_ hf
      obtain⟨j,hj⟩:=e7_ hm
      obtain⟨z,ez,hz⟩:=ba5 h ok F G E hb he n (i+1) (th.set y.2.1.toNat y.2.2) (by omega) (cd0 h ok hv (ok.au j y hj).1)
      exact⟨z,bg_ hb1 ez,hz⟩
theorem tx_ {r:af_} (h:SmR r) (ok:OkR r) {s:ai_} (hv:VT r s.1) (m1:Sm s.1.length) (m2:Sm s.2.1.length) (m3:Sm s.2.2.length) :
    gs_ r s=some ((stl r 101 s.1).elim (eS,(false,())) λth=>((th,s.2),(true,()))):=by
  unfold gs_
  simp only[ay_ m1,ay_ m2,ay_ m3,a0_]
  obtain⟨z,ez,hz⟩:=ba5 h ok (F:=λi th=>((i:Int),(th,((([]:List Int),(([]:List Int),(([]:List Int),()))),())))) (G:=λth=>(inr ((th,(s.2.1,s.2.2)),(true,())):((List Int)×(((List Int)×((List Int)×((List Int)×Unit)))×Unit))⊕(ai_×(Bool×Unit)))) (E:=λth=>inl (th,(([],([],([],()))),())))
    (body:=(λ(v3:(Int×((List Int)×(((List Int)×((List Int)×((List Int)×Unit)))×Unit)))) =>
 (cond (decide (v3.1≤100))
 ((ag_ (ρ:=(Int×Unit)) (λ(v4:(Int×(Int×Unit))) =>
 (((cond (decide (v4.2.1<(r.2.2.2.2.2.1.length:Int)))
 (some ((decide (v4.1<0)),()))
 (some (false,())))).bind λv5 =>
 (cond v5.1
 ((((at? r.2.2.2.2.2.1 v4.2.1).bind λv6 =>
 ((((bh_ (v3.2.1,(s.2.1,s.2.2)) v6.1).bind λv7 =>
 (cond v7.1
 ((at? v3.2.1 v6.2.1).bind λv8 =>
 ((at? v3.2.1 v6.2.1).bind λv9 =>
 (some ((v9 != v6.2.2),()))))
 (some (false,()))))).bind λv10 =>
 (cond v10.1
 (some (v4.2.1,()))
 (some (v4.1,())))))).bind λv11 =>
 (some (inl (v11.1,((w64 (v4.2.1+1)),())))))
 (some (inr (v4.1,())))))) ((-1),(0,()))).bind λv12 =>
 (cond (decide (v12.1<0))
 (some (inr (inr ((v3.2.1,(s.2.1,s.2.2)),(true,())))))
 ((at? r.2.2.2.2.2.1 v12.1).bind λv13 =>
 ((at? r.2.2.2.2.2.1 v12.1).bind λv14 =>
 ((at? v3.2.1 v13.2.1).bind λv15 =>
 ((at? v3.2.1 v13.2.1).bind λv16 =>
 (some (inl ((w64 (v3.1+1)),((v3.2.1.set v13.2.1.toNat v14.2.2),((v3.2.2.1.1,(v3.2.2.1.2.1,(v3.2.2.1.2.2.1,()))),())))))))))))
 (some (inr (inl (v3.2.1,((v3.2.2.1.1,(v3.2.2.1.2.1,(v3.2.2.1.2.2.1,()))),())))))))) (λi th hi hvt=>by
      simp only[show decide ((i:Int)≤100)=true from b4_ (by omega),a4_]
      have hl:=hvt.1
      refine bk3 r.2.2.2.2.2.1 h.au (λy=>(gi th y.2.1 != y.2.2)&&co_ th y.1) (λj y hy => ?_) ?_ (λa b => ?_) (λn hc => ?_)
      · obtain⟨g1,g2⟩:=ok.au j y hy
        have hi:=(my_ h ok g1).1
        obtain⟨c1,c2⟩:=sh_ h.th g2
        simp only[dlt (ak_ hy),a4_,show decide ((-1:Int)<0)=true from rfl,a0_,ah_ hy,hu_ (s:=(th,(s.2.1,s.2.2))) (show y.1.length≤1000000000 by omega) (by show InC th.length y.1;rw[hl];exact c1),mu_ hi.1 (show y.2.1<th.length by omega)]
        cases co_ th y.1 with
        | false=>rw[f9_];rfl
        | true=>cases gi th y.2.1 != y.2.2<;>rfl
      · simp only[dnl,a1_,a0_]
      · simp only[show decide ((a:Int)<0)=false from b1_ (by omega)]
        cases decide ((b:Int)<(r.2.2.2.2.2.1.length:Int))<;>rfl
      · rcases hc with ⟨rfl,hf⟩ | ⟨j,y,rfl,hy,hf⟩
        · rw[show fstA r th=none from hf]
          rfl
        · rw[show fstA r th=some y from hf]
          obtain⟨g1,g2⟩:=ok.au j y hy
          have hi2:=(my_ h ok g1).1
          simp only[a0_,show decide ((j:Int)<0)=false from b1_ (by omega),a1_,ah_ hy,mu_ hi2.1 (show y.2.1<th.length by omega),az_ (show Sm i by show _≤1000000000;omega)])
    (λth=>rfl) 101 0 s.1 rfl hv
  refine e4_ (congrArg (λo=>Option.bind o _) ez) ?_
  cases hs:stl r 101 s.1 with
  | none =>
    rw[hs] at hz
    obtain⟨w,rfl⟩:=hz
    rfl
  | some th' =>
    rw[hs] at hz
    obtain⟨rfl,_⟩:=hz
    rfl
noncomputable def mwX (a0:af_) (a2:ae_) (v0 v1 v2:List Int) (v3:Int):Option (List Int×(List Int×(List Int×Unit))) :=
 (cond (a2.2.1==1)
 ((at? a0.2.2.2.1 a2.2.2).bind λv4 =>
 ((at? a0.2.2.2.1 a2.2.2).bind λv5 =>
 ((at? v2 a2.1).bind λv6 =>
 ((at? v2 a2.1).bind λv7 =>
 (some (v0,(v1,((v2.set a2.1.toNat (w64 ((w64 (v4.1+v5.2.1)) - v3))),()))))))))
 (cond (a2.2.1==2)
 ((at? v1 a2.2.2).bind λv8 =>
 ((at? v1 a2.2.2).bind λv9 =>
 (some (v0,((v1.set a2.2.2.toNat (w64 ((-2) - a2.1))),(v2,()))))))
 (cond (a2.2.1==3)
 ((at? v1 a2.2.2).bind λv10 =>
 ((at? v1 a2.2.2).bind λv11 =>
 (some (v0,((v1.set a2.2.2.toNat v3),(v2,()))))))
 (cond (a2.2.1==4)
 ((at? a0.2.2.2.2.1 a2.2.2).bind λv12 =>
 ((ag_ (ρ:=((List Int)×Unit)) (λ(v13:(Int×((List Int)×Unit))) =>
 (cond (decide (v13.1<(v12.2.2.2.2.2.2.1.length:Int)))
 ((at? v12.2.2.2.2.2.2.1 v13.1).bind λv14 =>
 ((at? v13.2.1 v14).bind λv15 =>
 ((at? v13.2.1 v14).bind λv16 =>
 (some (inl ((w64 (v13.1+1)),((v13.2.1.set v14.toNat (-1)),())))))))
 (some (inr (v13.2.1,()))))) (0,(v1,()))).bind λv17 =>
 ((ag_ (ρ:=((List Int)×Unit)) (λ(v18:(Int×((List Int)×Unit))) =>
 (cond (decide (v18.1<(v12.2.2.2.2.2.2.2.length:Int)))
 ((at? v12.2.2.2.2.2.2.2 v18.1).bind λv19 =>
 ((at? v18.2.1 v19).bind λv20 =>
 ((at? v18.2.1 v19).bind λv21 =>
 (some (inl ((w64 (v18.1+1)),((v18.2.1.set v19.toNat (w64 ((-2) - a2.1))),())))))))
 (some (inr (v18.2.1,()))))) (0,(v17.1,()))).bind λv22 =>
 ((ag_ (ρ:=((List Int)×Unit)) (λ(v23:(Int×((List Int)×Unit))) =>
 (cond (decide (v23.1<(v12.2.2.2.2.2.1.length:Int)))
 ((at? v12.2.2.2.2.2.1 v23.1).bind λv24 =>
 ((at? v12.2.2.2.2.2.1 v23.1).bind λv25 =>
 ((at? v23.2.1 v24.1).bind λv26 =>
 ((at? v23.2.1 v24.1).bind λv27 =>
 (some (inl ((w64 (v23.1+1)),((v23.2.1.set v24.1.toNat v25.2),()))))))))
 (some (inr (v23.2.1,()))))) (0,(v0,()))).bind λv28 =>
 (some (v28.1,(v22.1,(v2,()))))))))
 (some (v0,(v1,(v2,()))))))))
theorem dup {α β:Type} (o:Option α) (f:α→α→Option β):(o.bind λa=>o.bind λb=>f a b)=o.bind λa=>f a a:=by cases o<;>rfl
theorem mwX_eq {r:af_} {m:ae_} {th pr py:List Int} {x:Int} (hx:at? py m.1=some x) {z} (h:mvX r m th pr py=some z):mwX r m th pr py x=some z:=by
  unfold mvX at h
  unfold mwX
  cases hk1:m.2.1==1 with
  | true =>
    rw[hk1] at h
    simp only[a4_,hx,a0_] at h ⊢
    cases hw:at? r.2.2.2.1 m.2.2 with
    | none=>rw[hw] at h;cases h
    | some w=>rw[hw] at h;exact h
  | false =>
  rw[hk1] at h
  simp only[a1_] at h ⊢
  cases hk2:m.2.1==2 with
  | true=>rw[hk2] at h;exact h
  | false =>
  rw[hk2] at h
  simp only[a1_] at h ⊢
  cases hk3:m.2.1==3 with
  | true =>
    rw[hk3] at h
    simp only[a4_,hx,a0_] at h ⊢
    exact h
  | false =>
  rw[hk3] at h
  simp only[a1_,dup] at h ⊢
  exact h
theorem ty_ {r:af_} (h:SmR r) (ok:OkR r) {s:ai_} (hv:VS r s) {m:ae_} (hl:lgl r s m=true) :
    gt_ r s m=some ((yf_ r s m).elim (eS,(false,())) λt=>(t,(true,()))):=by
  obtain⟨m1,m2,m3⟩:=qa_ h ok hv
  obtain⟨pj,px,hpj,hp,e2⟩:=bu7 m3 hl
  have hv2:=VS_mv h ok hv hl
  obtain⟨n1,n2,n3⟩:=qa_ h ok hv2
  unfold gt_
  simp only[ay_ m1,ay_ m2,ay_ m3,a0_]
  refine e4_ (congrArg (λo=>Option.bind o _) e2) ?_
  rw[a0_]
  refine e4_ (congrArg (λo=>Option.bind o _) (mwX_eq e2 (ct0 h ok hv hl))) ?_
  rw[a0_]
  simp only
  rw[tx_ (s:=((mvP r s m).1,((mvP r s m).2.1,(mvP r s m).2.2))) h ok ⟨hv2.l1,hv2.th⟩ n1 n2 n3,a0_]
  unfold yf_
  cases stl r 101 (mvP r s m).1<;>rfl
theorem ak8 {r:af_} (h:SmR r) (h0:db_ r=0) {s:ai_} (hv:VS r s) :
    iu_ r s=some ((stl r 101 s.1).elim (eS,(27,())) λth=>((th,s.2),(0,()))):=by
  have ok:=bn_ h0
  obtain⟨m1,m2,m3⟩:=qa_ h ok hv
  unfold iu_
  rw[nn_ h,a0_,el_ h0 hv]
  simp only[show ((0:Int) != 0)=false from rfl,a1_]
  rw[tx_ h ok ⟨hv.l1,hv.th⟩ m1 m2 m3,a0_]
  cases stl r 101 s.1<;>rfl
def bk4 (r:af_):ai_:=(r.2.1.map (·.2.2.2),(r.2.2.1.map (·.2.1),List.replicate r.2.2.2.2.2.2.1.toNat 0))
theorem aw1 {r:af_} (h:SmR r) (h0:db_ r=0):VS r (bk4 r):=by
  have ok:=bn_ h0
  have hpy:=ch_.1 ok.py
  have hth:=h.th
  refine⟨d2_ _,d2_ _,?_,λi n hn => ?_,λi p hp => ?_,λi p hp => ?_⟩
  · show ((List.replicate _ (0:Int)).length:Int)=_
    rw[f5_]
    omega
  · have hn:(r.2.1.map (·.2.2.2))[i]?=some n:=hn
    rw[d6_] at hn
    obtain⟨x,hx,rfl⟩:=f7_.1 hn
    have hk:=ok.th i x hx
    unfold bm6 at hk
    simp only[a2_] at hk
    have hi:=ak_ hx
    unfold nu_
    rw[ah_ hx,a2_]
    exact⟨ch_.2 (by rw[ei_ (by omega) (by omega)];omega),hk.2.2.2⟩
  · have hp:(r.2.2.1.map (·.2.1))[i]?=some p:=hp
    rw[d6_] at hp
    obtain⟨x,hx,rfl⟩:=f7_.1 hp
    have hk:=(ok.pr i x hx).1
    unfold cj3 at hk
    simp only[a2_,c9_] at hk
    rw[ct6 h ok.py,c9_,c9_]
    rcases hk.2 with hk | hk
    · exact .inl hk
    · exact .inr (.inl hk)
  · have hp:(List.replicate r.2.2.2.2.2.2.1.toNat (0:Int))[i]?=some p:=hp
    rw[j9_] at hp
    split at hp
    · obtain rfl:=a5_ hp
      have hpl:=h.pl
      have hne:r.1.length≠0:=λe=>ok.ne (q4_.1 e)
      unfold rw_
      exact ch_.2 (by rw[ei_ (by omega) (by omega)];omega)
    · cases hp
def begS (r:af_):Option ai_:=(stl r 101 (bk4 r).1).map λth=>(th,(bk4 r).2)
theorem begS_VS {r:af_} (h:SmR r) (h0:db_ r=0) {t:ai_} (ht:begS r=some t):VS r t:=by
  have ok:=bn_ h0
  have hv:=aw1 h h0
  unfold begS at ht
  obtain⟨th,hs,rfl⟩:=f7_.1 ht
  obtain⟨z,ez,hz⟩:=nv_ h ok (pr:=(bk4 r).2.1) (py:=(bk4 r).2.2) 101 0 (bk4 r).1 rfl ⟨hv.l1,hv.th⟩
  rw[hs] at hz
  exact⟨hz.2.1,hv.l2,hv.l3,hz.2.2,hv.pr,hv.py⟩
def ai4 (r:af_):ai_×(Int×Unit):=cond (db_ r != 0) (eS,(db_ r,())) ((begS r).elim (eS,(27,())) λs=>(s,(0,())))
theorem ar5 {r:af_} (h:SmR r):jb_ r=some (ai4 r):=by
  rw[ci6]
  unfold rbegX ai4
  rw[ss_ h,a0_]
  cases hr:db_ r != 0 with
  | true=>rfl
  | false =>
  have h0:db_ r=0:=by simpa using hr
  have ok:=bn_ h0
  have hpy:=ch_.1 ok.py
  have hv:=aw1 h h0
  obtain⟨m1,m2,m3⟩:=qa_ h ok hv
  simp only[a1_]
  have hplayers:mk? (α:=Int) r.2.2.2.2.2.2.1 0=some (List.replicate r.2.2.2.2.2.2.1.toNat 0):=ud_ (by omega) (by omega)
  rw[hplayers,a0_,ax7 h,a0_,az1 h,a0_]
  simp only
  refine e4_ (congrArg (λo=>Option.bind o _) (ay_ m1)) ?_
  rw[a0_]
  refine e4_ (congrArg (λo=>Option.bind o _) (ay_ m2)) ?_
  rw[a0_]
  refine e4_ (congrArg (λo=>Option.bind o _) (ay_ m3)) ?_
  rw[a0_]
  obtain⟨z,ez,hz⟩:=nv_ h ok (pr:=(bk4 r).2.1) (py:=(bk4 r).2.2) 101 0 (bk4 r).1 rfl ⟨hv.l1,hv.th⟩
  refine e4_ (congrArg (λo=>Option.bind (Option.bind o _) _) ez) ?_
  unfold begS
  cases hs:stl r 101 (bk4 r).1 with
  | none =>
    rw[hs] at hz
    obtain⟨w,rfl⟩:=hz
    rfl
  | some th' =>
    rw[hs] at hz
    obtain⟨rfl,_⟩:=hz
    rfl
theorem ak9 {r:af_} (h:SmR r):jy_ r=some (ai4 r):=by
  unfold jy_ ai4
  rw[qo_ h,a0_]
  cases hr:db_ r != 0 with
  | true=>rfl
  | false =>
  have h0:db_ r=0:=by simpa using hr
  have ok:=bn_ h0
  have hpy:=ch_.1 ok.py
  have hv:=aw1 h h0
  simp only[a1_]
  have hplayers:mk? (α:=Int) r.2.2.2.2.2.2.1 0=some (List.replicate r.2.2.2.2.2.2.1.toNat 0):=ud_ (by omega) (by omega)
  rw[hplayers,a0_]
  refine e4_ (congrArg (λo=>Option.bind o _) (ax7 h)) ?_
  rw[a0_]
  refine e4_ (congrArg (λo=>Option.bind o _) (az1 h)) ?_
  rw[a0_]
  refine e4_ (congrArg (λo=>Option.bind o _) (ak8 h h0 hv)) ?_
  unfold begS
  show ((some ((stl r 101 (bk4 r).1).elim (eS,(27,())) λth=>((th,(bk4 r).2),((0:Int),())))).bind λv10=>some (v10.1,(v10.2.1,())))=_
  cases stl r 101 (bk4 r).1<;>rfl
end
section
set_option maxRecDepth 10000
theorem kd_ {σ ρ υ:Type} (n:Nat) (Inv:Nat→σ→Prop) {body:σ→Option (σ⊕ρ)} {z0:σ} {K:ρ→Option υ} {x:Option υ} (h0:Inv 0 z0)
    (hs:∀ j z,j<n→Inv j z→∃ z',body z=some (.inl z')∧Inv (j+1) z') (he:∀ z,Inv n z→∃ r,body z=some (.inr r)∧K r=x):(ag_ body z0).bind K=x:=by
  have gen:∀ (k i:Nat) (z:σ),i+k=n→Inv i z→∃ r,ag_ body z=some r∧K r=x:=by
    intro k
    induction k with
    | zero =>
      intro i z hi hz
      obtain rfl:i=n:=by omega
      obtain⟨r,e,hr⟩:=he z hz
      exact⟨r,bi_ e,hr⟩
    | succ k ih =>
      intro i z hi hz
      obtain⟨z',e,hz'⟩:=hs i z (by omega) hz
      obtain⟨r,er,hr⟩:=ih (i+1) z' (by omega) hz'
      exact⟨r,bg_ e er,hr⟩
  obtain⟨r,e,hr⟩:=gen n 0 z0 (by omega) h0
  rw[e,a0_]
  exact hr
theorem wg_ {s:ai_} (m1:Sm s.1.length) (m2:Sm s.2.1.length) (m3:Sm s.2.2.length):gb_ s=some (s,()):=by
  unfold gb_
  simp only[ay_ m1,ay_ m2,ay_ m3,a0_]
theorem ah3 {l:List Int} {j:Nat} {x p:Int} (hx:l[j]?=some x):(l.take (j+1)).contains p=((l.take j).contains p||x==p):=by
  rw[d3_,hx]
  have:(x==p)=(p==x):=k7_.2 (by rw[f2_,f2_];exact eq_comm)
  rw[this,List.contains_eq_any_beq,List.contains_eq_any_beq,List.any_append]
  simp
theorem yy_ {g:ab_} (hg:SmG g) (ok:OkG g) {p:aa_} (hv:VP g p):jc_ g p=some ((p.1,rdN g p.1 p.2),()):=by
  have h0:=ok.room
  have okr:=bn_ h0
  obtain⟨m1,m2,m3⟩:=qa_ hg.room okr hv.st
  have hn:=hg.nt
  have hd:=hv.rd
  have hrl:=sv_ (s:=p.1) hd
  have hl1:=hv.st.l1
  unfold jc_
  rw[wg_ m1 m2 m3,a0_,ay_ (show Sm p.2.length by show _≤1000000000;omega),a0_]
  refine kd_ g.2.2.2.1.length (λ(i:Nat) (z:Int×(List Bool×Unit))=>∃ d',z=((i:Int),(d',()))∧∀ j,d'[j]?=if j<i then (rdN g p.1 p.2)[j]? else p.2[j]?) ⟨p.2,rfl,λj=>by simp⟩ (λi z hi hz => ?_) (λz hz => ?_)
  · obtain⟨d',rfl,hd'⟩:=hz
    obtain⟨x,hx⟩:=aw_ (l:=g.2.2.2.1) (i:=i) hi
    obtain⟨y,hy⟩:=aw_ (l:=p.2) (i:=i) (by omega)
    have hy':d'[i]?=some y:=by rw[hd' i,if_neg (by omega)];exact hy
    have hr:=bp7 (s:=p.1) hx hy
    obtain⟨c1,c2⟩:=sh_ hg.room.th (ok.nt i x hx).2
    have hH:bh_ p.1 x.2.2.2.1=some (co_ p.1.1 x.2.2.2.1,()):=hu_ (show x.2.2.2.1.length≤1000000000 by omega) (by show InC p.1.1.length x.2.2.2.1;rw[hl1];exact c1)
    simp only[dlt (ak_ hx),a4_,ah_ hx,a0_]
    refine⟨?z',?_,?_⟩
    case z'=>exact (((i+1:Nat):Int),(cond (co_ p.1.1 x.2.2.2.1&&p.1.2.2.contains x.2.1) (d'.set i true) d',()))
    · refine kd_ p.1.2.2.length (λ(j:Nat) (z:Int×(List Bool×Unit))=>z=((j:Int),(cond (co_ p.1.1 x.2.2.2.1&&(p.1.2.2.take j).contains x.2.1) (d'.set i true) d',()))) ?_ (λj z hj hz => ?_) (λz hz => ?_)
      · rw[k4_]
        show _=((0:Int),(cond (co_ p.1.1 x.2.2.2.1&&false) (d'.set i true) d',()))
        rw[f9_]
        rfl
      · subst hz
        obtain⟨a,ha⟩:=aw_ hj
        refine⟨_,?_,rfl⟩
        simp only[dlt hj,a4_,ah_ ha,a0_,az_ (show Sm j by unfold Sm at m3 ⊢; omega),ah3 ha]
        cases hq:a==x.2.1 with
        | false=>simp only[a1_,a0_,i7_]
        | true =>
          simp only[a4_,hH,a0_,p0_,h4_]
          cases hb:co_ p.1.1 x.2.2.2.1 with
          | false=>simp only[a1_,a0_,e0_]
          | true =>
            simp only[a4_,a0_,b7_]
            cases hc:(p.1.2.2.take j).contains x.2.1 with
            | false=>simp only[a1_,ah_ hy',a0_,c3_]
            | true =>
              have:(d'.set i true)[i]?=some true:=by rw[e9_ (ak_ hy')]
              simp only[a4_,ah_ this,a0_,c3_,List.set_set]
      · subst hz
        refine⟨_,by simp only[dnl,a1_];rfl,?_⟩
        simp only[d7_,az_ (show Sm i by show i≤1000000000;omega)]
    · refine⟨_,rfl,λk => ?_⟩
      unfold rdB at hr
      cases hb:(co_ p.1.1 x.2.2.2.1&&p.1.2.2.contains x.2.1) with
      | false =>
        rw[hb,i7_] at hr
        rw[a1_,hd' k]
        by_cases hk:k=i
        · subst hk
          rw[if_neg (by omega),if_pos (by omega),hr,hy]
        · by_cases hk2:k<i
          · rw[if_pos hk2,if_pos (by omega)]
          · rw[if_neg hk2,if_neg (by omega)]
      | true =>
        rw[hb,p0_] at hr
        rw[a4_,i2_]
        by_cases hk:i=k
        · subst hk
          rw[if_pos rfl,if_pos (ak_ hy'),if_pos (by omega),hr]
        · rw[if_neg hk,hd' k]
          by_cases hk2:k<i
          · rw[if_pos hk2,if_pos (by omega)]
          · rw[if_neg hk2,if_neg (by omega)]
  · obtain⟨d',rfl,hd'⟩:=hz
    simp only[dnl,a1_]
    refine⟨_,rfl,?_⟩
    have:d'=rdN g p.1 p.2:=f1_ λk=>by
      rw[hd' k]
      split
      · rfl
      · rw[b3_ (by omega),b3_ (by omega)]
    simp only[this]
theorem bh5 {g:ab_} (hg:SmG g) (h0:br_ g=0) {p q:aa_} (hv:VP g p) {m:ae_} (hq:stepP g p m=some q):lp_ g p m=some (q,()):=by
  have ok:=cd_ h0
  have okr:=bn_ ok.room
  unfold stepP at hq
  cases hc:(okM g p.2 m&&lgl g.1 p.1 m) with
  | false=>rw[hc] at hq;cases hq
  | true =>
  rw[hc,a4_] at hq
  obtain⟨s,hs,rfl⟩:=f7_.1 hq
  rw[a2_] at hc
  unfold lp_
  rw[ty_ hg.room okr hv.st hc.2,a0_,hs]
  simp only[Option.elim]
  rw[yy_ hg ok (p:=(s,p.2)) ⟨uz_ hg.room ok.room hv.st hc.2 hs,hv.rd⟩]
  rfl
noncomputable def lb_ (g:ab_):aa_×(Int×Unit):=cond (br_ g != 0) (eP,(br_ g,())) (cond ((ai4 g.1).2.1 != 0) (eP,((ai4 g.1).2.1,())) (((ai4 g.1).1,rdN g (ai4 g.1).1 (List.replicate g.2.2.2.1.length false)),(0,())))
theorem aw0 {r:af_} (h:SmR r) (he:(ai4 r).2.1=0):VS r (ai4 r).1:=by
  unfold ai4 at he ⊢
  cases hr:db_ r != 0 with
  | true =>
    rw[hr] at he
    rw[o5_] at hr
    exact absurd he hr
  | false =>
  have h0:db_ r=0:=by simpa using hr
  rw[hr,a1_] at he
  cases hb:begS r with
  | none =>
    rw[hb] at he
    exact absurd (show (27:Int)=0 from he) (by decide)
  | some t=>exact begS_VS h h0 hb
theorem qy_ {g:ab_} (hg:SmG g) (he:(lb_ g).2.1=0):br_ g=0∧VP g (lb_ g).1:=by
  unfold lb_ at he ⊢
  cases hr:br_ g != 0 with
  | true =>
    rw[hr] at he
    rw[o5_] at hr
    exact absurd he hr
  | false =>
  rw[hr,a1_] at he
  have h0:br_ g=0:=by simpa using hr
  cases hb:(ai4 g.1).2.1 != 0 with
  | true =>
    rw[hb] at he
    rw[o5_] at hb
    exact absurd he hb
  | false =>
  have hb:(ai4 g.1).2.1=0:=by simpa using hb
  exact⟨h0,aw0 hg.room hb,sv_ f5_⟩
theorem mk_nt {g:ab_} (hg:SmG g):mk? (α:=Bool) (g.2.2.2.1.length:Int) false=some (List.replicate g.2.2.2.1.length false):=by
  have:=hg.nt
  rw[ud_ (by omega) (by omega),c3_]
theorem ak7 {g:ab_} (hg:SmG g):jw_ g=some (lb_ g):=by
  unfold jw_ lb_
  rw[qm_ hg,a0_]
  cases hr:br_ g != 0 with
  | true=>rfl
  | false =>
  have h0:br_ g=0:=by simpa using hr
  have ok:=cd_ h0
  simp only[a1_]
  rw[ak9 hg.room,a0_]
  cases hb:(ai4 g.1).2.1 != 0 with
  | true=>rfl
  | false =>
  have hb:(ai4 g.1).2.1=0:=by simpa using hb
  simp only[a1_]
  rw[mk_nt hg,a0_,yy_ hg ok (p:=((ai4 g.1).1,List.replicate g.2.2.2.1.length false)) ⟨aw0 hg.room hb,f5_⟩]
  rfl
theorem qr_ {g:ab_} (hg:SmG g):hn_ g=some (lb_ g):=by
  rw[cj5]
  unfold pbegX lb_
  rw[zd_ hg,a0_]
  cases hr:br_ g != 0 with
  | true=>rfl
  | false =>
  have h0:br_ g=0:=by simpa using hr
  have ok:=cd_ h0
  have hn:=hg.nt
  simp only[a1_]
  rw[ar5 hg.room,a0_]
  cases hb:(ai4 g.1).2.1 != 0 with
  | true=>rfl
  | false =>
  have hb:(ai4 g.1).2.1=0:=by simpa using hb
  have hv:=aw0 hg.room hb
  obtain⟨m1,m2,m3⟩:=qa_ hg.room (bn_ ok.room) hv
  simp only[a1_]
  rw[mk_nt hg,a0_]
  obtain⟨z,ez,hz⟩:=wn_ hg ok hv (d:=List.replicate g.2.2.2.1.length false) f5_ []
  have hrl:=sv_ (g:=g) (s:=(ai4 g.1).1) (d:=List.replicate g.2.2.2.1.length false) f5_
  rw[ez,a0_,ay_ m1,a0_,ay_ m2,a0_,ay_ m3,a0_,hz,ay_ (show Sm (rdN g _ _).length by show _≤1000000000;omega),a0_]
def cf0 (g:ab_) (q:List Nat):List al_:=q.filterMap λe=>(g.2.2.2.1[e]?).map (·.2.2.2.2)
theorem as0 {g:ab_} (hg:SmG g) {p:aa_} (hd:p.2.length=g.2.2.2.1.length) (lock:Int) :
    ∃ q:List Nat,hy_ g p lock=some (q.map (λe:Nat=>(e:Int)),())∧q.length≤20∧(∀ e ∈ q,e<g.2.2.2.1.length)∧cf0 g q=bj8 g p.2 lock:=by
  have hn:=hg.nt
  suffices hk:∃ r,hy_ g p lock=some r∧∃ q:List Nat,r=(q.map (λe:Nat=>(e:Int)),())∧q.length≤20∧(∀ e ∈ q,e<g.2.2.2.1.length)∧cf0 g q=bj8 g p.2 lock by
    obtain⟨r,e,q,rfl,h⟩:=hk
    exact⟨q,e,h⟩
  unfold hy_
  have key:∀ (k i:Nat) (q:List Nat),i+k=g.2.2.2.1.length→q.length≤i→(∀ e ∈ q,e<g.2.2.2.1.length)→cf0 g q=((g.2.2.2.1.zip p.2).take i).filterMap (λx=>cond (x.1.2.2.1==lock&&x.2) (some x.1.2.2.2.2) none) →
      ∃ q':List Nat,ag_ (ρ:=((List Int)×Unit)) (λ(v0:((List Int)×(Int×Unit))) =>
 (cond (decide (v0.2.1<(g.2.2.2.1.length:Int)))
 ((((((at? p.2 v0.2.1).bind λv1 =>
 (cond v1
 ((at? g.2.2.2.1 v0.2.1).bind λv2 =>
 (some ((v2.2.2.1==lock),())))
 (some (false,()))))).bind λv3 =>
 (cond v3.1
 ((push? (α:=Int) v0.1 [v0.2.1]).bind λv4 =>
 (some (v4,())))
 (some (v0.1,()))))).bind λv5 =>
 (some (inl (v5.1,((w64 (v0.2.1+1)),())))))
 (some (inr (v0.1,()))))) (q.map (λe:Nat=>(e:Int)),((i:Int),()))=some (q'.map (λe:Nat=>(e:Int)),())∧q'.length≤20∧(∀ e ∈ q',e<g.2.2.2.1.length)∧cf0 g q'=bj8 g p.2 lock:=by
    intro k
    induction k with
    | zero =>
      intro i q hi hq hb hc
      obtain rfl:i=g.2.2.2.1.length:=by omega
      refine⟨q,bi_ (by simp only[dnl,a1_]),by omega,hb,?_⟩
      rw[hc,g9_ (by rw[m6_];omega)]
      rfl
    | succ k ih =>
      intro i q hi hq hb hc
      obtain⟨x,hx⟩:=aw_ (l:=g.2.2.2.1) (i:=i) (by omega)
      obtain⟨y,hy⟩:=aw_ (l:=p.2) (i:=i) (by omega)
      have hzip:(g.2.2.2.1.zip p.2)[i]?=some (x,y):=by rw[f8_];exact⟨hx,hy⟩
      have hstep:((g.2.2.2.1.zip p.2).take (i+1)).filterMap (λx=>cond (x.1.2.2.1==lock&&x.2) (some x.1.2.2.2.2) none)=((g.2.2.2.1.zip p.2).take i).filterMap (λx=>cond (x.1.2.2.1==lock&&x.2) (some x.1.2.2.2.2) none)++cond (x.2.2.1==lock&&y) [x.2.2.2.2] []:=by
        rw[d3_,hzip,l4_]
        cases hc:(x.2.2.1==lock&&y) with
        | false=>simp[hc]
        | true=>simp[hc]
      cases hcc:(x.2.2.1==lock&&y) with
      | false =>
        obtain⟨q',e,r1⟩:=ih (i+1) q (by omega) (by omega) hb (by rw[hstep,hcc,a1_,e3_];exact hc)
        refine⟨q',bg_ ?_ e,r1⟩
        simp only[dlt (ak_ hx),a4_,ah_ hx,ah_ hy,a0_,az_ (show Sm i by show i≤1000000000;omega)]
        cases y with
        | false=>rfl
        | true =>
          rw[h4_] at hcc
          simp only[a4_,hcc,a0_,a1_]
      | true =>
        have hcc2:=hcc
        rw[a2_] at hcc2
        obtain⟨h1,rfl⟩:=hcc2
        obtain⟨q',e,r1⟩:=ih (i+1) (q++[i]) (by omega) (by rw[a8_,c8_];omega) (λe he=>by
          rcases b8_.1 he with he | he
          · exact hb e he
          · rw[e8_] at he
            omega) (by
          rw[hstep,hcc,a4_,← hc]
          unfold cf0
          rw[l4_]
          simp[hx])
        refine⟨q',bg_ ?_ e,r1⟩
        simp only[dlt (ak_ hx),a4_,ah_ hx,ah_ hy,a0_,az_ (show Sm i by show i≤1000000000;omega),h1,ci_ (show Sm (q.map (λe:Nat=>(e:Int))).length by rw[d2_];show _≤1000000000;omega),j0_,j8_,q9_]
  obtain⟨q',e,r1⟩:=key g.2.2.2.1.length 0 [] (by omega) (p3_ _) (λe he=>by cases he) rfl
  refine⟨_,?_,q',rfl,r1⟩
  refine e4_ (congrArg (λo=>Option.bind o _) e) rfl
theorem as1 {g:ab_} {q:List Nat} (hq:q.length≤20) (hb:∀ e ∈ q,e<g.2.2.2.1.length):ju_ g (q.map (λe:Nat=>(e:Int)))=some (cf0 g q,()):=by
  unfold ju_
  refine kd_ q.length (λ(i:Nat) (z:List al_×(Int×Unit))=>z=(cf0 g (q.take i),((i:Int),()))) (by rw[k4_];rfl) (λi z hi hz => ?_) (λz hz => ?_)
  · subst hz
    obtain⟨e,he⟩:=aw_ hi
    obtain⟨n,hn⟩:=aw_ (hb e (au_ he))
    have hm:(q.map (λe:Nat=>(e:Int)))[i]?=some (e:Int):=by rw[d6_,he];rfl
    have hl:(cf0 g (q.take i)).length≤20:=by
      unfold cf0
      refine c7_ (n8_ ..) ?_
      rw[c6_];omega
    refine⟨_,?_,rfl⟩
    simp only[d2_,dlt hi,a4_,ah_ hm,ah_ hn,a0_,ci_ (show Sm _ from c7_ hl (by omega)),az_ (show Sm i by show i≤1000000000;omega)]
    rw[d3_,he]
    unfold cf0
    rw[l4_]
    simp[hn]
  · subst hz
    refine⟨_,by simp only[d2_,dnl,a1_];rfl,?_⟩
    simp only[d7_]
theorem bh4 {g:ab_} (hg:SmG g) (ok:OkG g) {p:aa_} (hd:p.2.length=g.2.2.2.1.length) {lock:Int} (h0:0≤lock) {l:ac_} (hl:at? g.2.1 lock=some l):lo_ g p lock=some (opn g p.2 lock,()):=by
  obtain⟨_,_,l1⟩:=dd_ hl
  obtain⟨q,e,hq,hb,hc⟩:=as0 hg hd lock
  unfold lo_
  rw[e,a0_]
  unfold jl_
  rw[hl,a0_,as1 hq hb,a0_,hc,al1 (ok.lk _ l l1).1 (be0 hg p.2 lock) (λc hc=>by
    obtain⟨i,n,hn,rfl,rfl⟩:=ah6 hc
    exact bs8 ok hn h0 hl) (λc hc=>by
    obtain⟨i,n,hn,rfl,rfl⟩:=ah6 hc
    exact c7_ (hg.ntn n (au_ hn)).2.2 (by omega))]
  unfold opn rdC
  rw[b1_ (by omega),hl]
  rfl
theorem yj_ {g:ab_} (hg:SmG g) (h0:br_ g=0) {p:aa_} (hv:VP g p) {m:ae_} (hl:lgl g.1 p.1 m=true):gz_ g p m=some ((stepP g p m).isSome,()):=by
  have ok:=cd_ h0
  have okr:=bn_ ok.room
  have hac:=hg.ac
  unfold gz_ stepP okM
  rw[ty_ hg.room okr hv.st hl,a0_,hl,h4_]
  cases hs:yf_ g.1 p.1 m with
  | none =>
    rw[Option.map_none]
    simp only[Option.elim,g3_,a4_]
    generalize (cond (m.2.1==4) _ true:Bool)=b
    cases b<;>rfl
  | some s =>
  simp only[Option.elim,d9_,a1_,g6_]
  rw[vn_]
  cases hk:m.2.1==4 with
  | false=>rfl
  | true =>
  simp only[d9_,a1_,a4_]
  unfold lgl at hl
  rw[a2_] at hl
  have hl:=hl.2
  have hk':m.2.1=4:=f2_.1 hk
  rw[hk'] at hl
  simp only[show ((4:Int)==1)=false from rfl,show ((4:Int)==2)=false from rfl,show ((4:Int)==3)=false from rfl,show ((4:Int)==4)=true from rfl,a1_,a4_] at hl
  rcases cs_ (l:=g.1.2.2.2.2.1) (by show _≤1000000000;omega) m.2.2 with ⟨f1,f2⟩ | ⟨j,a,hj,ha,f1,f2⟩
  · rw[f2] at hl;cases hl
  · rw[f2]
    simp only[a0_]
    cases hz:decide (a.2.2.1<0) with
    | true =>
      unfold opn
      rw[hz]
      rfl
    | false =>
    have hz':=c1_ hz
    have hlt:=ok.ac j a ha
    obtain⟨l,hl⟩:=aw_ (l:=g.2.1) (i:=a.2.2.1.toNat) (by omega)
    have hl2:at? g.2.1 a.2.2.1=some l:=by rw[show a.2.2.1=((a.2.2.1.toNat:Nat):Int) by omega];exact ah_ hl
    simp only[a1_]
    rw[bh4 hg ok hv.rd (by omega) hl2,a0_]
    cases opn g p.2 a.2.2.1<;>rfl
theorem at8 {q:ae_→Bool} {i k:Int} {m:ae_}:∀ (n:Nat) (l:List ae_),m ∈ mvK q i k n l→m ∈ l∨q m=true
  | 0,l,h=>.inl h
  | n+1,l,h=>by
    unfold mvK at h
    cases hq:q (i,(k,(n:Int))) with
    | false=>rw[hq] at h;exact at8 n l h
    | true =>
      rw[hq,a4_] at h
      rcases b8_.1 h with h | h
      · exact at8 n l h
      · rw[e8_] at h
        exact .inr (by rw[h];exact hq)
theorem bt7 {q:ae_→Bool} {i:Int} {c:Nat→Nat} {m:ae_}:∀ (k:Nat) (l:List ae_),m ∈ mvJ q i c k l→m ∈ l∨q m=true
  | 0,l,h=>.inl h
  | k+1,l,h=>(at8 (c k) _ h).elim (λh=>bt7 k l h) .inr
theorem bt4 {q:ae_→Bool} {c:Nat→Nat} {m:ae_}:∀ n,m ∈ mvs q c n→q m=true
  | 0,h=>by cases h
  | n+1,h=>(bt7 5 _ h).elim (λh=>bt4 n h) id
theorem au1 {r:af_} {s:ai_} {m:ae_} (h:m ∈ lmv r s):lgl r s m=true:=bt4 _ h
theorem au2 {r:af_} (ok:OkR r) (s:ai_):(lmv r s).length≤480:=by
  have hpy:=ch_.1 ok.py
  have:=ad5 (lgl r s) (λk=>c7_ (cnt_le ok k) (ah5 k)) r.2.2.2.2.2.2.1.toNat
  unfold lmv
  omega
noncomputable def pmv (g:ab_) (p:aa_):List ae_:=(lmv g.1 p.1).filter λm=>(stepP g p m).isSome
theorem xk_ {α:Type} {l:List α} {i:Nat} {x:α} (q:α→Bool) (hx:l[i]?=some x):(l.take (i+1)).filter q=cond (q x) ((l.take i).filter q++[x]) ((l.take i).filter q):=by
  rw[d3_,hx,o0_]
  cases hq:q x with
  | true=>simp[hq]
  | false=>simp[hq]
theorem as2 {g:ab_} (hg:SmG g) (h0:br_ g=0) {p:aa_} (hv:VP g p):jv_ g p=some (pmv g p,()):=by
  have ok:=cd_ h0
  have okr:=bn_ ok.room
  have hll:=au2 okr p.1
  unfold jv_
  rw[um_ hg.room okr hv.st,a0_]
  refine kd_ (lmv g.1 p.1).length (λ(i:Nat) (z:List ae_×(Int×Unit))=>z=(((lmv g.1 p.1).take i).filter (λm=>(stepP g p m).isSome),((i:Int),()))) (by rw[k4_];rfl) (λi z hi hz => ?_) (λz hz => ?_)
  · subst hz
    obtain⟨m,hm⟩:=aw_ hi
    have hfl:(((lmv g.1 p.1).take i).filter (λm=>(stepP g p m).isSome)).length≤480:=by
      refine c7_ (l3_ ..) ?_
      rw[c6_];omega
    refine⟨_,?_,rfl⟩
    simp only[dlt hi,a4_,ah_ hm,a0_,yj_ hg h0 hv (au1 (au_ hm)),xk_ _ hm,az_ (show Sm i by show i≤1000000000;omega)]
    cases (stepP g p m).isSome with
    | false=>rfl
    | true=>simp only[a4_,ci_ (show Sm _ from c7_ hfl (by omega)),a0_]
  · subst hz
    refine⟨_,by simp only[dnl,a1_];rfl,?_⟩
    simp only[d7_]
    rfl
end
section
set_option maxRecDepth 10000
theorem ru_ {K V:Type} [DecidableEq K] (m:List (K×V)) (k k':K) (v:V):mget? (hv_ m k v) k'=if k'=k then some v else mget? m k':=by
  induction m with
  | nil=>simp[hv_,mget?]
  | cons x m ih =>
    obtain⟨a,u⟩:=x
    unfold hv_
    by_cases h:k=a
    · subst h
      rw[if_pos rfl]
      unfold mget?
      by_cases h2:k'=k
      · rw[if_pos h2,if_pos h2]
      · rw[if_neg h2,if_neg h2,if_neg h2]
    · rw[if_neg h]
      unfold mget?
      by_cases h2:k'=a
      · rw[if_pos h2,if_pos h2,if_neg (λe=>h (by rw[← e,h2]))]
      · rw[if_neg h2,if_neg h2,ih]
theorem ki_ {K V:Type} [DecidableEq K] (z:V) (m:List (K×V)) (k k':K) (v:V):ef_ z (hv_ m k v) k'=if k'=k then v else ef_ z m k':=by
  unfold ef_
  rw[ru_]
  split<;>rfl
noncomputable def cmpX (a0:ab_) (d:List Bool) (mm:List ac_) (lock:Int):Option (List ac_×Unit) :=
 (cond ((ef_ 0 mm lock)==0)
 ((ag_ (abB a0 d lock) ([],([],(0,())))).bind λv18 =>
 ((at? a0.2.1 lock).bind λv19 =>
 ((dc_ v19 v18.2.1).bind λv20 =>
 (((cond (v20.2.1==0)
 (some ((decide (v20.1≤a0.2.2.2.2)),()))
 (some (false,())))).bind λv21 =>
 (cond v21.1
 (some ((hv_ (hv_ mm lock 2) lock 1),()))
 (some ((hv_ mm lock 2),())))))))
 (some (mm,())))
noncomputable def canX (a0:ab_) (a1:aa_) (v2:List Bool) (mm:List ac_) (v5:ae_):Option (Bool×(List ac_×Unit)) :=
 (((push? (α:=Bool) [] v2).bind λv6 =>
 (((((cond (v5.2.1==4)
 ((cb_ v5.2.2 0 (w64 ((a0.1.2.2.2.2.1.length:Int) - 1))).bind λv7 =>
 (some (v7.1,())))
 (some (false,())))).bind λv8 =>
 (cond v8.1
 ((at? a0.1.2.2.2.2.1 v5.2.2).bind λv9 =>
 (((cond (decide (v9.2.2.1<0))
 (some (mm,()))
 ((cmpX a0 v2 mm v9.2.2.1).bind λv22 =>
 (some (v22.1,()))))).bind λv23 =>
 (some (v23.1,((hv_ [] v9.2.2.1 (ef_ 0 v23.1 v9.2.2.1)),())))))
 (some (mm,([],())))))).bind λv24 =>
 (((((cond (v5.2.1==4)
 ((cb_ v5.2.2 0 (w64 ((a0.1.2.2.2.2.1.length:Int) - 1))).bind λv25 =>
 (cond v25.1
 ((at? a0.1.2.2.2.2.1 v5.2.2).bind λv26 =>
 (cond (decide (v26.2.2.1<0))
 (some ((!true),(v24.2.1,())))
 ((cmpX a0 v6 v24.2.1 v26.2.2.1).bind λv39 =>
 (some ((!((ef_ 0 v39.1 v26.2.2.1)==1)),(v39.1,()))))))
 (some (false,(v24.2.1,())))))
 (some (false,(v24.2.1,()))))).bind λv40 =>
 (cond v40.1
 (some ((!false),(v6,(v40.2.1,((a1.1.1,(a1.1.2.1,(a1.1.2.2,()))),())))))
 ((fi_ a0.1 a1.1 v5).bind λv41 =>
 (cond (v41.2.1 != 0)
 (some ((!false),(v6,(v40.2.1,((a1.1.1,(a1.1.2.1,(a1.1.2.2,()))),())))))
 ((ag_ (pbgB a0 v41.1) (0,(v6,(v40.2.1,())))).bind λv52 =>
 (some ((!true),(v52.1,(v52.2.1,((v41.1.1,(v41.1.2.1,(v41.1.2.2,()))),()))))))))))).bind λv53 =>
 (cond v53.1
 (some (false,(v24.1,())))
 (some (true,(v24.1,()))))))))
noncomputable def canL (a0:ab_) (a1:aa_):Option (List ae_×(Int×Unit)) :=
 ((dy_ a0 a1).bind λv0 =>
 (cond (v0.1 != 0)
 (cond (v0.1 != 0)
 (some ([],(v0.1,())))
 ((fj_ a0.1 a1.1).bind λv1 =>
 (cond (v1.2.1 != 0)
 (some ([],(v1.2.1,())))
 none)))
 ((push? (α:=Bool) [] a1.2).bind λv2 =>
 ((fj_ a0.1 a1.1).bind λv3 =>
 (cond (v3.2.1 != 0)
 (some ([],(v3.2.1,())))
 ((ag_ (ρ:=((List ae_)×((List ac_)×Unit))) (λ(v4:((List ae_)×(Int×((List ac_)×Unit)))) =>
 (cond (decide (v4.2.1<(v3.1.length:Int)))
 ((((at? v3.1 v4.2.1).bind λv5 =>
 ((canX a0 a1 v2 v4.2.2.1 v5).bind λv54 =>
 (cond v54.1
 ((push? (α:=ae_) v4.1 [v5]).bind λv55 =>
 (some (v55,(v54.2.1,()))))
 (some (v4.1,(v54.2.1,()))))))).bind λv56 =>
 (some (inl (v56.1,((w64 (v4.2.1+1)),(v56.2.1,()))))))
 (some (inr (v4.1,(v4.2.2.1,())))))) ([],(0,([],())))).bind λv57 =>
 (some (v57.1,(0,())))))))))
theorem ca7:kj_=canL:=by
  kernel_rfl
def Mem (g:ab_) (d:List Bool) (mm:List ac_):Prop:=∀ lock,0≤lock→(ef_ 0 mm lock=(0:Int)∨ef_ 0 mm lock=cond (opn g d lock) 1 2)
theorem bz8 {g:ab_} (hg:SmG g) (ok:OkG g) {d:List Bool} (hd:d.length=g.2.2.2.1.length) {mm:List ac_} {lock:Int} (hz:0≤lock) {l:ac_} (hl:at? g.2.1 lock=some l)
    (hm:ef_ 0 mm lock=(0:Int)∨ef_ 0 mm lock=cond (opn g d lock) 1 2) :
    ∃ m',cmpX g d mm lock=some (m',())∧ef_ 0 m' lock=cond (opn g d lock) 1 2∧∀ k,k≠lock→ef_ 0 m' k=ef_ 0 mm k:=by
  unfold cmpX
  cases h0:(ef_ 0 mm lock:Int)==0 with
  | false =>
    have h0:ef_ 0 mm lock≠(0:Int):=by simpa using h0
    exact⟨mm,rfl,hm.resolve_left h0,λ_ _=>rfl⟩
  | true =>
    obtain⟨q,e⟩:=cc9 hg hd lock
    have ho:opn g d lock=decide (rdC g d lock l≤g.2.2.2.2):=by
      unfold opn
      rw[b1_ (by omega),hl]
      rfl
    rw[a4_,e]
    simp only[a0_,hl,ao4 hg ok d hz hl]
    simp only[show ((0:Int)==0)=true from rfl,a4_,a0_]
    rw[ho]
    cases decide (rdC g d lock l≤g.2.2.2.2) with
    | true=>exact⟨_,rfl,by rw[ki_,if_pos rfl];rfl,λk hk=>by rw[ki_,if_neg hk,ki_,if_neg hk]⟩
    | false=>exact⟨_,rfl,by rw[ki_,if_pos rfl];rfl,λk hk=>by rw[ki_,if_neg hk]⟩
theorem canX_eq {g:ab_} (hg:SmG g) (h0:br_ g=0) {p:aa_} (hv:VP g p) {m:ae_} (hl:lgl g.1 p.1 m=true) {mm:List ac_} (hM:Mem g p.2 mm) :
    ∃ m',canX g p p.2 mm m=some ((stepP g p m).isSome,(m',()))∧Mem g p.2 m':=by
  have ok:=cd_ h0
  have okr:=bn_ ok.room
  have hac:=hg.ac
  have hnt:=hg.nt
  have hrd:=hv.rd
  have fin:∀ (b:Bool) (u:List ac_) (m':List ac_),okM g p.2 m = !b →
      (((((some (b,(u,())):Option (Bool×(List ac_×Unit)))).bind λv40 =>
 (cond v40.1
 (some ((!false),(p.2,(v40.2.1,((p.1.1,(p.1.2.1,(p.1.2.2,()))),())))))
 ((fi_ g.1 p.1 m).bind λv41 =>
 (cond (v41.2.1 != 0)
 (some ((!false),(p.2,(v40.2.1,((p.1.1,(p.1.2.1,(p.1.2.2,()))),())))))
 ((ag_ (pbgB g v41.1) (0,(p.2,(v40.2.1,())))).bind λv52 =>
 (some ((!true),(v52.1,(v52.2.1,((v41.1.1,(v41.1.2.1,(v41.1.2.2,()))),()))))))))))).bind λv53 =>
 (cond v53.1
 (some (false,(m',())))
 (some (true,(m',())))))=some ((stepP g p m).isSome,(m',())):=by
    intro b u m' hb
    unfold stepP
    rw[hb,hl,h4_,a0_]
    cases b with
    | true=>rfl
    | false =>
    simp only[a1_,g3_,a4_]
    rw[ak2 hg.room ok.room hv.st m,a0_,hl,a4_]
    cases hs:yf_ g.1 p.1 m with
    | none=>rfl
    | some s =>
    have hv2:=uz_ hg.room ok.room hv.st hl hs
    obtain⟨z,ez,hz⟩:=wn_ hg ok hv2 hv.rd u
    simp only[Option.elim,show ((0:Int) != 0)=false from rfl,a1_]
    rw[ez,a0_,a0_]
    rfl
  unfold canX
  rw[ay_ (show Sm p.2.length by show _≤1000000000;omega),a0_]
  simp only[kp_]
  cases hk:m.2.1==4 with
  | false =>
    refine⟨mm,?_,hM⟩
    simp only[a1_,a0_]
    refine fin false [] mm ?_
    unfold okM
    rw[hk]
    rfl
  | true =>
  simp only[a4_,a0_]
  have hl':=hl
  unfold lgl at hl'
  rw[a2_] at hl'
  have hl':=hl'.2
  have hk':m.2.1=4:=f2_.1 hk
  rw[hk'] at hl'
  simp only[show ((4:Int)==1)=false from rfl,show ((4:Int)==2)=false from rfl,show ((4:Int)==3)=false from rfl,show ((4:Int)==4)=true from rfl,a1_,a4_] at hl'
  rcases cs_ (l:=g.1.2.2.2.2.1) (by show _≤1000000000;omega) m.2.2 with ⟨f1,f2⟩ | ⟨j,a,hj,ha,f1,f2⟩
  · rw[f2] at hl';cases hl'
  · have ho:okM g p.2 m=opn g p.2 a.2.2.1:=by
      unfold okM
      rw[hk,a4_,f2]
      rfl
    simp only[f1,f2,a4_,a0_]
    cases hz:decide (a.2.2.1<0) with
    | true =>
      refine⟨mm,?_,hM⟩
      simp only[a4_,a0_]
      refine fin (!true) _ mm ?_
      rw[ho]
      unfold opn
      rw[hz]
      rfl
    | false =>
      have hz':=c1_ hz
      have hlt:=ok.ac j a ha
      obtain⟨l,hlk⟩:=aw_ (l:=g.2.1) (i:=a.2.2.1.toNat) (by omega)
      have hl2:at? g.2.1 a.2.2.1=some l:=by rw[show a.2.2.1=((a.2.2.1.toNat:Nat):Int) by omega];exact ah_ hlk
      obtain⟨m1,e1,k1,r1⟩:=bz8 hg ok hv.rd (mm:=mm) (by omega) hl2 (hM _ (by omega))
      obtain⟨m2,e2,k2,r2⟩:=bz8 hg ok hv.rd (mm:=hv_ [] a.2.2.1 (ef_ 0 m1 a.2.2.1)) (by omega) hl2 (.inr (by rw[ki_,if_pos rfl,k1]))
      refine⟨m1,?_,λlock hlock => ?_⟩
      · simp only[a1_,e1,a0_,e2]
        refine fin _ m2 m1 ?_
        rw[ho,k2]
        cases opn g p.2 a.2.2.1<;>rfl
      · by_cases hE:lock=a.2.2.1
        · rw[hE]
          exact .inr k1
        · rw[r1 lock hE]
          exact hM lock hlock
theorem az2 {g:ab_} (hg:SmG g) (h0:br_ g=0) {p:aa_} (hv:VP g p):kj_ g p=some (pmv g p,(0,())):=by
  have ok:=cd_ h0
  have okr:=bn_ ok.room
  have hll:=au2 okr p.1
  have hnt:=hg.nt
  have hrd:=hv.rd
  rw[ca7]
  unfold canL
  rw[wl_ hg h0 hv,a0_]
  simp only[show ((0:Int) != 0)=false from rfl,a1_]
  rw[ay_ (show Sm p.2.length by show _≤1000000000;omega),a0_,bh1 hg.room ok.room hv.st,a0_]
  simp only[show ((0:Int) != 0)=false from rfl,a1_]
  refine kd_ (lmv g.1 p.1).length (λ(i:Nat) (z:List ae_×(Int×(List ac_×Unit)))=>∃ mm,z=(((lmv g.1 p.1).take i).filter (λm=>(stepP g p m).isSome),((i:Int),(mm,())))∧Mem g p.2 mm) ⟨[],by rw[k4_];rfl,λlock _=>.inl rfl⟩ (λi z hi hz => ?_) (λz hz => ?_)
  · obtain⟨mm,rfl,hM⟩:=hz
    obtain⟨m,hm⟩:=aw_ hi
    have hfl:(((lmv g.1 p.1).take i).filter (λm=>(stepP g p m).isSome)).length≤480:=by
      refine c7_ (l3_ ..) ?_
      rw[c6_];omega
    obtain⟨m',e,hM'⟩:=canX_eq hg h0 hv (au1 (au_ hm)) hM
    refine⟨_,?_,m',rfl,hM'⟩
    simp only[dlt hi,a4_,ah_ hm,a0_,e,xk_ _ hm,az_ (show Sm i by show i≤1000000000;omega)]
    cases (stepP g p m).isSome with
    | false=>rfl
    | true=>simp only[a4_,ci_ (show Sm _ from c7_ hfl (by omega)),a0_]
  · obtain⟨mm,rfl,hM⟩:=hz
    refine⟨_,by simp only[dnl,a1_];rfl,?_⟩
    simp only[d7_]
    rfl
end
section
set_option maxRecDepth 10000
theorem uh_ {a b:List UInt8} (h:a.length+b.length≤2147483648):cat? a b=some (a++b):=by
  unfold cat?
  rw[i0_ h]
  rfl
def dval (l:List UInt8):Nat:=l.foldl (λa c=>a * 10+(c.toNat - 48)) 0
theorem dgt {n:Nat} (h:n<10):(UInt8.ofNat (48+n)).toNat=48+n:=by
  rw[UInt8.toNat_ofNat']
  exact k8_ (by omega)
theorem xt_:∀ (k u:Nat),u<10 ^ k→dval (Lib.decDigits u)=u∧(∀ c ∈ Lib.decDigits u,48≤c.toNat∧c.toNat≤57)∧(Lib.decDigits u).length≤k+1
  | 0,u,h=>by
    obtain rfl:u=0:=by simpa using h
    rw[Lib.decDigits]
    exact⟨rfl,λc hc=>by
      simp at hc
      rw[hc]
      exact⟨by decide,by decide⟩,by decide⟩
  | k+1,u,h=>by
    rw[Lib.decDigits]
    by_cases hu:u<10
    · rw[dif_pos hu]
      refine⟨?_,λc hc => ?_,by simp⟩
      · show 0 * 10+((UInt8.ofNat (48+u)).toNat - 48)=u
        rw[dgt hu];omega
      · rw[e8_] at hc
        rw[hc,dgt hu];omega
    · rw[dif_neg hu]
      rw[k3_] at h
      obtain⟨a,b,c⟩:=xt_ k (u / 10) (by omega)
      have hm:u % 10<10:=Nat.mod_lt _ (by decide)
      refine⟨?_,λx hx => ?_,by rw[a8_,c8_];omega⟩
      · unfold dval at a ⊢
        rw[o8_,a]
        show u / 10 * 10+((UInt8.ofNat (48+u % 10)).toNat - 48)=u
        rw[dgt hm];omega
      · rcases b8_.1 hx with hx | hx
        · exact b x hx
        · rw[e8_] at hx
          rw[hx,dgt hm];omega
theorem wj_ (u:Nat):u<10 ^ u:=Nat.lt_pow_self (by decide)
theorem ti_ {u v:Nat} (h:Lib.decDigits u=Lib.decDigits v):u=v:=by
  rw[← (xt_ u u (wj_ u)).1,← (xt_ v v (wj_ v)).1,h]
theorem xu_ {u:Nat}:∀ c ∈ Lib.decDigits u,48≤c.toNat∧c.toNat≤57:=(xt_ u u (wj_ u)).2.1
theorem ae5 {a b:Int} (h:Lib.itoa a=Lib.itoa b):a=b:=by
  unfold Lib.itoa at h
  have hd:∀ {u:Nat} {l:List UInt8},Lib.decDigits u≠45::l:=λ{u l} e=>by
    have:=xu_ (u:=u) 45 (by rw[e];exact f4_ ..)
    have h45:(45:UInt8).toNat=45:=rfl
    omega
  by_cases ha:a<0
  · by_cases hb:b<0
    · rw[if_pos ha,if_pos hb] at h
      have:=ti_ (m9_ h).2
      omega
    · rw[if_pos ha,if_neg hb] at h
      exact absurd h.symm hd
  · by_cases hb:b<0
    · rw[if_neg ha,if_pos hb] at h
      exact absurd h hd
    · rw[if_neg ha,if_neg hb] at h
      have:=ti_ h
      omega
theorem au4 (a:Int):(32:UInt8) ∉ Lib.itoa a:=by
  have hd:∀ {u:Nat},(32:UInt8) ∉ Lib.decDigits u:=λ{u} e=>by
    have:=xu_ _ e
    have h32:(32:UInt8).toNat=32:=rfl
    omega
  unfold Lib.itoa
  split
  · intro h
    rcases e1_.1 h with h | h
    · exact absurd h (by decide)
    · exact hd h
  · exact hd
def hc_ (a:List (List UInt8)):List UInt8:=a.flatMap (· ++ [32])
theorem ax9:∀ {t u r s:List UInt8},(32:UInt8) ∉ t→(32:UInt8) ∉ u→t++32::r=u++32::s→t=u∧r=s
  | [],[],r,s,_,_,h=>⟨rfl,(m9_ h).2⟩
  | [],c::u,r,s,_,hu,h=>absurd (m9_ h).1 λe=>hu (by rw[e];exact f4_ ..)
  | c::t,[],r,s,ht,_,h=>absurd (m9_ h).1 λe=>ht (by rw[e];exact f4_ ..)
  | c::t,d::u,r,s,ht,hu,h=>by
    obtain⟨h1,h2⟩:=m9_ h
    obtain⟨h3,h4⟩:=ax9 (λe=>ht (f3_ _ e)) (λe=>hu (f3_ _ e)) h2
    exact⟨by rw[h1,h3],h4⟩
theorem aa3:∀ {a b:List (List UInt8)},(∀ t ∈ a,(32:UInt8) ∉ t)→(∀ t ∈ b,(32:UInt8) ∉ t)→hc_ a=hc_ b→a=b
  | [],[],_,_,_=>rfl
  | [],t::b,_,_,h=>by
    have:=congrArg List.length h
    simp[hc_] at this
  | t::a,[],_,_,h=>by
    have:=congrArg List.length h
    simp[hc_] at this
  | t::a,u::b,ha,hb,h=>by
    have h:t++32::hc_ a=u++32::hc_ b:=by
      have:∀ (t:List UInt8) (a:List (List UInt8)),hc_ (t::a)=t++32::hc_ a:=λt a=>by simp[hc_]
      rw[this,this] at h
      exact h
    obtain⟨h1,h2⟩:=ax9 (ha t (f4_ ..)) (hb u (f4_ ..)) h
    rw[h1,aa3 (λt h=>ha t (f3_ _ h)) (λt h=>hb t (f3_ _ h)) h2]
theorem li_ (a b:List (List UInt8)):hc_ (a++b)=hc_ a++hc_ b:=r3_
theorem pe_ {a:List (List UInt8)} {k:Nat} (h:∀ t ∈ a,t.length≤k):(hc_ a).length≤a.length * (k+1):=by
  induction a with
  | nil=>exact p3_ _
  | cons t a ih =>
    have h1:=ih λt ht=>h t (f3_ _ ht)
    have h2:=h t (f4_ ..)
    have h3:hc_ (t::a)=t++32::hc_ a:=by simp[hc_]
    rw[h3,a8_,c5_,c5_,Nat.succ_mul]
    omega
theorem fx_ {α β:Type} {f:α→β}:∀ {a b:List α},(∀ x ∈ a,∀ y ∈ b,f x=f y→x=y)→a.map f=b.map f→a=b
  | [],[],_,_=>rfl
  | [],_::_,_,h=>by cases h
  | _::_,[],_,h=>by cases h
  | x::a,y::b,hi,h=>by
    obtain⟨h1,h2⟩:=m9_ (show f x::a.map f=f y::b.map f from h)
    rw[hi x (f4_ ..) y (f4_ ..) h1,fx_ (λx hx y hy=>hi x (f3_ _ hx) y (f3_ _ hy)) h2]
structure PB (p:aa_):Prop where
  n1:p.1.1.length≤12
  n2:p.1.2.1.length≤10
  n3:p.1.2.2.length≤4
  n4:p.2.length≤20
  b1:∀ x ∈ p.1.1,0≤x∧x≤5
  b2:∀ x ∈ p.1.2.1,-6<x∧x<8
  b3:∀ x ∈ p.1.2.2,0≤x∧x<8
theorem aw5 {g:ab_} (hg:SmG g) (ok:OkG g) {p:aa_} (hv:VP g p):PB p:=by
  have okr:=bn_ ok.room
  have hm:=okr.many
  unfold ae1 at hm
  simp only[c2_,m1_] at hm
  have hpy:=ch_.1 okr.py
  have h1:=hv.st.l1
  have h2:=hv.st.l2
  have h3:=hv.st.l3
  have h4:=hv.rd
  have h5:=hg.nt
  refine⟨by omega,by omega,by omega,by omega,λx hx => ?_,λx hx => ?_,λx hx => ?_⟩
  · obtain⟨i,hi⟩:=e7_ hx
    exact (my_ hg.room okr (hv.st.th i x hi)).2
  · obtain⟨i,hi⟩:=e7_ hx
    have:=(ae9 hg.room okr).1 (hv.st.pr i x hi)
    omega
  · obtain⟨i,hi⟩:=e7_ hx
    have:=(lm_ hg.room).1 (hv.st.py i x hi)
    omega
def bt (b:Bool):List UInt8:=cond b [116,114,117,101] [102,97,108,115,101]
def ptk (p:aa_):List (List UInt8):=(p.1.1.map Lib.itoa++(p.1.2.1.map Lib.itoa++p.1.2.2.map Lib.itoa))++p.2.map bt
theorem wv_ (l:List Int):am4 l=hc_ (l.map Lib.itoa):=by
  unfold am4 hc_
  rw[List.flatMap_map]
  rfl
theorem op_ {u:Nat} (h:u<10000000000):(Lib.decDigits u).length≤11:=(xt_ 10 u h).2.2
theorem bw2 {x:Int} (h1 : -8≤x) (h2:x≤8):(Lib.itoa x).length≤21:=by
  unfold Lib.itoa
  split
  · have:=op_ (u:=x.natAbs) (by omega)
    rw[c5_];omega
  · have:=op_ (u:=x.toNat) (by omega)
    omega
theorem bi1 {p:aa_} (h:p.2.length≤20):ls_ p=some (hc_ (p.2.map bt),()):=by
  unfold ls_
  have hb:∀ b,(bt b).length≤5:=λb=>by cases b<;>decide
  refine kd_ p.2.length (λ(i:Nat) (z:List UInt8×(Int×Unit))=>z=(hc_ ((p.2.take i).map bt),((i:Int),()))) (by rw[k4_];rfl) (λi z hi hz => ?_) (λz hz => ?_)
  · subst hz
    obtain⟨b,hx⟩:=aw_ hi
    have hl:(hc_ ((p.2.take i).map bt)).length≤20 * 6:=by
      refine c7_ (pe_ (k:=5) λt ht => ?_) ?_
      · obtain⟨b,_,rfl⟩:=d8_.1 ht
        exact hb b
      · rw[d2_,c6_]
        omega
    have hf:ed_ b=some (bt b,()):=by cases b<;>rfl
    have hb5:=hb b
    refine⟨_,?_,rfl⟩
    simp only[dlt hi,a4_,ah_ hx,a0_,hf,az_ (show Sm i by show i≤1000000000;omega)]
    rw[uh_ (show (bt b).length+1≤_ by omega),a0_,uh_ (by rw[a8_,c8_];omega),a0_,d3_,hx]
    simp[hc_]
  · subst hz
    refine⟨_,by simp only[dnl,a1_];rfl,?_⟩
    simp only[d7_]
theorem xf_ {l:List Int} (h:∀ x ∈ l,-8≤x∧x≤8):l.all inI=true:=by
  rw[e6_]
  intro x hx
  have:=h x hx
  unfold inI
  rw[a2_,h0_,h0_]
  omega
theorem al9 {p:aa_} (h:PB p):kv_ p=some (hc_ (ptk p),()):=by
  have hB1:∀ x ∈ p.1.1,-8≤x∧x≤8:=λx hx=>by have:=h.b1 x hx;omega
  have hB2:∀ x ∈ p.1.2.1,-8≤x∧x≤8:=λx hx=>by have:=h.b2 x hx;omega
  have hB3:∀ x ∈ p.1.2.2,-8≤x∧x≤8:=λx hx=>by have:=h.b3 x hx;omega
  have hE:hs_ [p.1.1,p.1.2.1,p.1.2.2]=hc_ (p.1.1.map Lib.itoa++(p.1.2.1.map Lib.itoa++p.1.2.2.map Lib.itoa)):=by
    rw[li_,li_,← wv_,← wv_,← wv_]
    simp[hs_]
  have hlen:∀ {l:List Int} {k:Nat},l.length≤k→(∀ x ∈ l,-8≤x∧x≤8)→(hc_ (l.map Lib.itoa)).length≤k * 22:=λ{l k} hk hb=>by
    refine c7_ (pe_ (k:=21) λt ht => ?_) ?_
    · obtain⟨x,hx,rfl⟩:=d8_.1 ht
      exact bw2 (hb x hx).1 (hb x hx).2
    · rw[d2_]
      exact i8_ _ hk
  have hl:(hs_ [p.1.1,p.1.2.1,p.1.2.2]).length≤1000:=by
    rw[hE,li_,li_,a8_,a8_]
    have h1:=hlen h.n1 hB1
    have h2:=hlen h.n2 hB2
    have h3:=hlen h.n3 hB3
    omega
  have hr:(hc_ (p.2.map bt)).length≤20 * 6:=by
    refine c7_ (pe_ (k:=5) λt ht => ?_) ?_
    · obtain⟨b,_,rfl⟩:=d8_.1 ht
      cases b<;>decide
    · rw[d2_]
      have:=h.n4
      omega
  have hn:fq_ [p.1.1,p.1.2.1,p.1.2.2]=some (hs_ [p.1.1,p.1.2.1,p.1.2.2],()):=by
    unfold fq_
    have h1:([p.1.1,p.1.2.1,p.1.2.2].all λl=>l.all inI)=true:=by
      simp[xf_ hB1,xf_ hB2,xf_ hB3]
    rw[h1,i0_ (show _≤2147483648 by omega)]
    rfl
  unfold kv_
  rw[hn,a0_,bi1 h.n4,a0_,uh_ (by show (hs_ _).length+(hc_ (p.2.map bt)).length≤_;omega),a0_]
  unfold ptk
  rw[li_,← hE]
theorem bt_inj {a b:Bool} (h:bt a=bt b):a=b:=by
  cases a<;>cases b<;>first | rfl | cases h
theorem cr5 (p:aa_):∀ t ∈ ptk p,(32:UInt8) ∉ t:=by
  intro t ht
  unfold ptk at ht
  simp only[b8_,d8_] at ht
  rcases ht with (⟨x,_,rfl⟩ | ⟨x,_,rfl⟩ | ⟨x,_,rfl⟩) | ⟨b,_,rfl⟩
  · exact au4 x
  · exact au4 x
  · exact au4 x
  · cases b<;>decide
def SmL (p q:aa_):Prop:=p.1.1.length=q.1.1.length∧p.1.2.1.length=q.1.2.1.length∧p.1.2.2.length=q.1.2.2.length∧p.2.length=q.2.length
theorem cw0 {g:ab_} {p q:aa_} (hp:VP g p) (hq:VP g q):SmL p q:=by
  have h1:=hp.st.l1
  have h2:=hp.st.l2
  have h3:=hp.st.l3
  have h4:=hp.rd
  have k1:=hq.st.l1
  have k2:=hq.st.l2
  have k3:=hq.st.l3
  have k4:=hq.rd
  exact⟨by omega,by omega,by omega,by omega⟩
theorem ts_ {α:Type} {a b c d:List α} (h:a.length=c.length) (e:a++b=c++d):a=c∧b=d:=List.append_inj e h
theorem at0 {p q:aa_} (h1:p.1.1=q.1.1) (h2:p.1.2.1=q.1.2.1) (h3:p.1.2.2=q.1.2.2) (h4:p.2=q.2):p=q :=
  Prod.ext (Prod.ext h1 (Prod.ext h2 h3)) h4
theorem ptk_inj {p q:aa_} (hs:SmL p q) (h:hc_ (ptk p)=hc_ (ptk q)):p=q:=by
  obtain⟨s1,s2,s3,s4⟩:=hs
  have h:=aa3 (cr5 p) (cr5 q) h
  unfold ptk at h
  obtain⟨h,e4⟩:=ts_ (by simp only[a8_,d2_];omega) h
  obtain⟨e1,h⟩:=ts_ (by simp only[d2_];omega) h
  obtain⟨e2,e3⟩:=ts_ (by simp only[d2_];omega) h
  exact at0 (fx_ (λ_ _ _ _=>ae5) e1) (fx_ (λ_ _ _ _=>ae5) e2) (fx_ (λ_ _ _ _=>ae5) e3) (fx_ (λ_ _ _ _=>bt_inj) e4)
def dec (n:Int):List UInt8:=Lib.decDigits n.toNat
theorem sub_dig:∀ {r:Nat},r<10→sub? ([48,49,50,51,52,53,54,55,56,57]:List UInt8) (r:Int) (w64 ((r:Int)+1))=some [UInt8.ofNat (48+r)]
  | 0,_=>rfl
  | 1,_=>rfl
  | 2,_=>rfl
  | 3,_=>rfl
  | 4,_=>rfl
  | 5,_=>rfl
  | 6,_=>rfl
  | 7,_=>rfl
  | 8,_=>rfl
  | 9,_=>rfl
  | _+10,h=>absurd h (by omega)
theorem bf9:∀ (k u:Nat),u≤1000000000→u<10 ^ (k+1)→ds_ (k+1) (u:Int)=some (Lib.decDigits u,())
  | k,u,hu,h=>by
    have hm:u % 10<10:=Nat.mod_lt _ (by decide)
    have e1:Int.tmod (u:Int) 10=((u % 10:Nat):Int):=by rw[Int.tmod_eq_emod_of_nonneg (by omega)];omega
    have e2:Int.tdiv (u:Int) 10=((u / 10:Nat):Int):=by rw[Int.tdiv_eq_ediv_of_nonneg (by omega)];omega
    show ((sub? [48,49,50,51,52,53,54,55,56,57] (Int.tmod (u:Int) 10) (w64 ((Int.tmod (u:Int) 10)+1))).bind λv0 =>
 (cond (decide ((u:Int)<10))
 (some (v0,()))
 ((ds_ k (w64 (Int.tdiv (u:Int) 10))).bind λv1 =>
 ((cat? v1.1 v0).bind λv2 =>
 (some (v2,()))))))=_
    rw[e1,sub_dig hm,a0_,e2,ei_ (by omega) (by omega),Lib.decDigits]
    by_cases h10:u<10
    · rw[dif_pos h10,b4_ (show (u:Int)<10 by omega),a4_,k8_ h10]
    · rw[dif_neg h10,b1_ (show ¬ (u:Int)<10 by omega),a1_]
      match k,h with
      | 0,h=>exact absurd h (by simp;omega)
      | k+1,h =>
        rw[k3_] at h
        rw[bf9 k (u / 10) (by omega) (by omega),a0_]
        have:=op_ (u:=u / 10) (by omega)
        rw[uh_ (by show (Lib.decDigits (u / 10)).length+1≤_;omega),a0_]
theorem aa2 {n:Int} (h0:0≤n) (h1:n≤1000000):ce_ n=some (dec n,()):=by
  obtain⟨u,rfl⟩:∃ u:Nat,n=(u:Int):=⟨n.toNat,by omega⟩
  unfold ce_ dec
  rw[c3_]
  exact bf9 19 u (by omega) (by omega)
theorem keyL (l:List Int) (h:Int→Int) (acc:List UInt8) (hl:l.length≤20) (ha:acc.length≤100000) (hb:∀ x ∈ l,0≤h x∧h x≤100) {body:(List UInt8×(Int×Unit))→Option ((List UInt8×(Int×Unit))⊕(List UInt8×Unit))} {υ:Type} {K:(List UInt8×Unit)→Option υ} {x:Option υ}
    (hs:∀ (i:Nat) y t,l[i]?=some y→body (t,((i:Int),()))=((ce_ (h y)).bind λv8=>((cat? t v8.1).bind λv9=>((cat? v9 [32]).bind λv10=>(some (inl (v10,((w64 ((i:Int)+1)),()))))))))
    (he:∀ t,body (t,((l.length:Int),()))=some (.inr (t,()))) (hk:K (acc++hc_ (l.map λx=>dec (h x)),())=x):(ag_ body (acc,(0,()))).bind K=x:=by
  refine kd_ l.length (λ(i:Nat) (z:List UInt8×(Int×Unit))=>z=(acc++hc_ ((l.take i).map λx=>dec (h x)),((i:Int),()))) (by rw[k4_,q9_,show hc_ []=[] from rfl,e3_];rfl) (λi z hi hz => ?_) (λz hz => ?_)
  · subst hz
    obtain⟨y,hy⟩:=aw_ hi
    have hlen:(hc_ ((l.take i).map λx=>dec (h x))).length≤20 * 12:=by
      refine c7_ (pe_ (k:=11) λt ht => ?_) ?_
      · obtain⟨x,hx,rfl⟩:=d8_.1 ht
        have:=hb x (r1_ hx)
        exact op_ (by omega)
      · rw[d2_,c6_]
        omega
    have hyb:=hb y (au_ hy)
    have hd:(dec (h y)).length≤11:=op_ (by omega)
    refine⟨_,?_,rfl⟩
    rw[hs i y _ hy,aa2 hyb.1 (by omega),a0_,uh_ (by show (acc++hc_ _).length+(dec (h y)).length≤_;rw[a8_];omega),a0_,uh_ (by show ((acc++hc_ _)++dec (h y)).length+1≤_;rw[a8_,a8_];omega),a0_,az_ (show Sm i by show i≤1000000000;omega),d3_,hy]
    simp[hc_]
  · subst hz
    refine⟨_,he _,?_⟩
    rw[d7_]
    exact hk
def idx (d:List Bool):List Nat:=(List.range d.length).filter λi=>d[i]?==some true
theorem bw5 {d:List Bool} {i:Nat}:i ∈ idx d↔d[i]?=some true:=by
  unfold idx
  rw[d1_,k5_,f2_]
  exact⟨λh=>h.2,λh=>⟨ak_ h,h⟩⟩
theorem idx_inj {d e:List Bool} (hl:d.length=e.length) (h:idx d=idx e):d=e:=by
  refine f1_ λi => ?_
  rcases m0_ i d.length with hi | hi
  · obtain⟨x,hx⟩:=aw_ hi
    obtain⟨y,hy⟩:=aw_ (l:=e) (i:=i) (by omega)
    have hm:i ∈ idx d↔i ∈ idx e:=by rw[h]
    rw[bw5,bw5,hx,hy] at hm
    rw[hx,hy]
    cases x with
    | true=>rw[hm.1 rfl]
    | false =>
      cases y with
      | true=>exact (hm.2 rfl)
      | false=>rfl
  · rw[b3_ hi,b3_ (by omega)]
def rtk (p:aa_):List (List UInt8):=((p.1.1.map (λx=>dec x)++p.1.2.1.map (λx=>dec (w64 (x+10))))++p.1.2.2.map (λx=>dec x))++(idx p.2).map (λi:Nat=>dec (i:Int))
theorem ak6 {p:aa_} (h:PB p):io_ p=some (hc_ (rtk p),()):=by
  have hlen:∀ {l:List Int} (f:Int→Int),l.length≤20→(∀ x ∈ l,0≤f x∧f x≤100)→(hc_ (l.map λx=>dec (f x))).length≤20 * 12:=λ{l} f hk hb=>by
    refine c7_ (pe_ (k:=11) λt ht => ?_) ?_
    · obtain⟨x,hx,rfl⟩:=d8_.1 ht
      have:=hb x hx
      exact op_ (by omega)
    · rw[d2_]
      exact i8_ _ hk
  have n1:=h.n1
  have n2:=h.n2
  have n3:=h.n3
  have n4:=h.n4
  have q1:∀ x ∈ p.1.1,0≤x∧x≤100:=λx hx=>by have:=h.b1 x hx;omega
  have q2:∀ x ∈ p.1.2.1,0≤w64 (x+10)∧w64 (x+10)≤100:=λx hx=>by have:=h.b2 x hx;rw[ei_ (by omega) (by omega)];omega
  have q3:∀ x ∈ p.1.2.2,0≤x∧x≤100:=λx hx=>by have:=h.b3 x hx;omega
  have l1:=hlen (l:=p.1.1) (λx=>x) (by omega) q1
  have l2:=hlen (l:=p.1.2.1) (λx=>w64 (x+10)) (by omega) q2
  have l3:=hlen (l:=p.1.2.2) (λx=>x) (by omega) q3
  unfold io_
  refine keyL p.1.1 (λx=>x) [] (by omega) (by simp) q1 (λi y t hy=>by simp only[dlt (ak_ hy),a4_,ah_ hy,a0_]) (λt=>by simp only[dnl,a1_]) ?_
  refine keyL p.1.2.1 (λx=>w64 (x+10)) ([]++_) (by omega) (by rw[g7_];omega) q2 (λi y t hy=>by simp only[dlt (ak_ hy),a4_,ah_ hy,a0_]) (λt=>by simp only[dnl,a1_]) ?_
  refine keyL p.1.2.2 (λx=>x) (([]++_)++_) (by omega) (by rw[g7_,a8_];omega) q3 (λi y t hy=>by simp only[dlt (ak_ hy),a4_,ah_ hy,a0_]) (λt=>by simp only[dnl,a1_]) ?_
  refine kd_ p.2.length (λ(i:Nat) (z:List UInt8×(Int×Unit))=>z=((([]++hc_ (p.1.1.map λx=>dec x))++hc_ (p.1.2.1.map λx=>dec (w64 (x+10))))++hc_ (p.1.2.2.map λx=>dec x)++hc_ (((List.range i).filter λi=>p.2[i]?==some true).map λi:Nat=>dec (i:Int)),((i:Int),()))) (by rw[List.range_zero,List.filter_nil,q9_,show hc_ []=[] from rfl,e3_];rfl) (λi z hi hz => ?_) (λz hz => ?_)
  · subst hz
    obtain⟨b,hb⟩:=aw_ hi
    have hl4:(hc_ (((List.range i).filter λi=>p.2[i]?==some true).map λi:Nat=>dec (i:Int))).length≤20 * 12:=by
      refine c7_ (pe_ (k:=11) λt ht => ?_) ?_
      · obtain⟨x,hx,rfl⟩:=d8_.1 ht
        have:=k5_.1 (d1_.1 hx).1
        exact op_ (by omega)
      · refine i8_ _ ?_
        rw[d2_]
        refine c7_ (l3_ ..) ?_
        rw[h3_]
        omega
    have hd:(dec (i:Int)).length≤11:=op_ (by omega)
    refine⟨_,?_,rfl⟩
    simp only[dlt hi,a4_,ah_ hb,a0_,az_ (show Sm i by show i≤1000000000;omega)]
    rw[List.range_succ,o0_]
    cases b with
    | false=>simp[hb]
    | true =>
      rw[a4_,aa2 (by omega) (by omega),a0_,uh_ (by simp only[a8_,j1_];omega),a0_,uh_ (by simp only[a8_,j1_,c5_];omega)]
      simp[hb,hc_]
  · subst hz
    refine⟨_,by simp only[dnl,a1_];rfl,?_⟩
    unfold rtk idx
    rw[li_,li_,li_,g7_]
theorem bd8 (x:Int):(32:UInt8) ∉ dec x:=λe=>by
  have:=xu_ _ e
  have h32:(32:UInt8).toNat=32:=rfl
  omega
theorem cq9 (p:aa_):∀ t ∈ rtk p,(32:UInt8) ∉ t:=by
  intro t ht
  unfold rtk at ht
  simp only[b8_,d8_] at ht
  rcases ht with ((⟨x,_,rfl⟩ | ⟨x,_,rfl⟩) | ⟨x,_,rfl⟩) | ⟨b,_,rfl⟩
  · exact bd8 x
  · exact bd8 _
  · exact bd8 x
  · exact bd8 _
theorem rtk_inj {p q:aa_} (hp:PB p) (hq:PB q) (hs:SmL p q) (h:hc_ (rtk p)=hc_ (rtk q)):p=q:=by
  obtain⟨s1,s2,s3,s4⟩:=hs
  have h:=aa3 (cq9 p) (cq9 q) h
  unfold rtk at h
  obtain⟨h,e4⟩:=ts_ (by simp only[a8_,d2_];omega) h
  obtain⟨h,e3⟩:=ts_ (by simp only[a8_,d2_];omega) h
  obtain⟨e1,e2⟩:=ts_ (by simp only[d2_];omega) h
  refine at0 (fx_ (λx hx y hy e => ?_) e1) (fx_ (λx hx y hy e => ?_) e2) (fx_ (λx hx y hy e => ?_) e3) (idx_inj s4 (fx_ (λx hx y hy e => ?_) e4))
  · have:=ti_ (show Lib.decDigits x.toNat=Lib.decDigits y.toNat from e)
    have:=hp.b1 x hx
    have:=hq.b1 y hy
    omega
  · have:=ti_ (show Lib.decDigits (w64 (x+10)).toNat=Lib.decDigits (w64 (y+10)).toNat from e)
    have:=hp.b2 x hx
    have:=hq.b2 y hy
    rw[ei_ (by omega) (by omega),ei_ (by omega) (by omega)] at *
    omega
  · have:=ti_ (show Lib.decDigits x.toNat=Lib.decDigits y.toNat from e)
    have:=hp.b3 x hx
    have:=hq.b3 y hy
    omega
  · have:=ti_ (show Lib.decDigits (x:Int).toNat=Lib.decDigits (y:Int).toNat from e)
    omega
end
section
set_option maxRecDepth 10000
def wh (ps:List aa_) (q:aa_):Option Nat:=ps.findIdx? (λx=>decide (x=q))
theorem bl2 {ps:List aa_} {q:aa_} {n:Nat} (h:wh ps q=some n):ps[n]?=some q:=by
  unfold wh at h
  obtain⟨hn,h1,_⟩:=i6_.1 h
  rw[a7_ hn,f6_ h1]
theorem wh_push (ps:List aa_) (q x:aa_):wh (ps++[q]) x=(wh ps x).or (if x=q then some ps.length else none):=by
  unfold wh
  rw[List.findIdx?_append]
  congr 1
  by_cases h:x=q
  · rw[if_pos h]
    simp[h]
  · rw[if_neg h]
    have:¬ q=x:=λe=>h e.symm
    simp[this]
def MI (g:ab_) (key:aa_→List UInt8) (ps:List aa_) (M:List (List UInt8×Int)):Prop:=∀ q,VP g q→mget? M (key q)=(wh ps q).map λn=>(n:Int)
theorem aw6 {g:ab_} {key:aa_→List UInt8} (hk:∀ p q,VP g p→VP g q→key p=key q→p=q) {ps:List aa_} {M:List (List UInt8×Int)} (hM:MI g key ps M) {q:aa_} (hq:VP g q) (hw:wh ps q=none) :
    MI g key (ps++[q]) (hv_ M (key q) (ps.length:Int)):=by
  intro x hx
  rw[ru_,wh_push]
  by_cases h:x=q
  · subst h
    rw[if_pos rfl,hw,if_pos rfl]
    rfl
  · rw[if_neg (λe=>h (hk x q hx hq e)),if_neg h,hM x hx,r2_]
noncomputable def inn (g:ab_) (p:aa_):List ae_→List ad_→List aa_→Option (List ad_×List aa_)
  | [],e,ps=>some (e,ps)
  | m::ms,e,ps=>match wh ps ((stepP g p m).getD eP) with
    | some n=>inn g p ms (e++[(m,(n:Int))]) ps
    | none=>if ps.length=3000 then none else inn g p ms (e++[(m,(ps.length:Int))]) (ps++[(stepP g p m).getD eP])
noncomputable def out (g:ab_):Nat→Nat→List aa_→List (List ad_)→Option (List aa_×List (List ad_))
  | 0,i,ps,es=>some (ps,es)
  | n+1,i,ps,es=>match ps[i]? with
    | none=>some (ps,es)
    | some p=>match inn g p (pmv g p) [] ps with
      | none=>none
      | some (e,ps')=>out g n (i+1) ps' (es++[e])
noncomputable def exG (g:ab_):bq_×(Int×Unit) :=
  cond ((lb_ g).2.1 != 0) (([],[]),((lb_ g).2.1,())) (match out g 3001 0 [(lb_ g).1] [] with
    | none=>(([],[]),(2,()))
    | some (ps,es)=>((ps,es),(0,())))
structure PI (g:ab_) (ps:List aa_):Prop where
  n:ps.length≤3000
  v:∀ x ∈ ps,VP g x
theorem cd3 {g:ab_} {ps:List aa_} (h:PI g ps) {q:aa_} (hq:VP g q) (hn:ps.length≠3000):PI g (ps++[q]):=by
  have:=h.n
  refine⟨by rw[a8_,c8_];omega,λx hx => ?_⟩
  rcases b8_.1 hx with hx | hx
  · exact h.v x hx
  · rw[e8_] at hx
    rw[hx]
    exact hq
theorem js_ {g:ab_} {p:aa_} {m:ae_} (hm:m ∈ pmv g p):∃ q,stepP g p m=some q:=by
  unfold pmv at hm
  exact q0_.1 (d1_.1 hm).2
theorem ac7 {g:ab_} (ok:OkG g) (p:aa_):(pmv g p).length≤480:=by
  unfold pmv
  exact c7_ (l3_ ..) (au2 (bn_ ok.room) p.1)
theorem bb3 {g:ab_} (hg:SmG g) (h0:br_ g=0) {p:aa_} (hv:VP g p):∀ (ms:List ae_) (e e':List ad_) (ps ps':List aa_),(∀ m ∈ ms,∃ q,stepP g p m=some q)→PI g ps→inn g p ms e ps=some (e',ps') →
    PI g ps'∧(∃ r,ps'=ps++r)∧((∀ x ∈ e,0≤x.2∧x.2<(ps.length:Int))→∀ x ∈ e',0≤x.2∧x.2<(ps'.length:Int))∧(∀ x ∈ e',x ∈ e∨x.1 ∈ ms)∧e'.length=e.length+ms.length
  | [],e,e',ps,ps',hms,hI,h=>by
    unfold inn at h
    obtain⟨rfl,rfl⟩:=h6_ (a5_ h)
    exact⟨hI,⟨[],(e3_ _).symm⟩,λh=>h,λx hx=>.inl hx,rfl⟩
  | m::ms,e,e',ps,ps',hms,hI,h=>by
    obtain⟨q,hq⟩:=hms m (f4_ ..)
    have hms':∀ m ∈ ms,∃ q,stepP g p m=some q:=λm hm=>hms m (f3_ _ hm)
    have hvq:=rg_ hg h0 hv hq
    unfold inn at h
    rw[hq,e5_] at h
    cases hw:wh ps q with
    | some n =>
      rw[hw] at h
      obtain⟨a,b,c,d,f⟩:=bb3 hg h0 hv ms _ e' ps ps' hms' hI h
      refine⟨a,b,λhe=>c λx hx => ?_,λx hx => ?_,by rw[f,a8_,c8_,c5_];omega⟩
      rotate_left
      · rcases d x hx with hx | hx
        · rcases b8_.1 hx with hx | hx
          · exact .inl hx
          · rw[e8_] at hx
            rw[hx]
            exact .inr (f4_ ..)
        · exact .inr (f3_ _ hx)
      rcases b8_.1 hx with hx | hx
      · exact he x hx
      · rw[e8_] at hx
        have:=ak_ (bl2 hw)
        rw[hx]
        exact⟨by show (0:Int)≤(n:Int);omega,by show (n:Int)<_;omega⟩
    | none =>
      rw[hw] at h
      have h:(if ps.length=3000 then none else inn g p ms (e++[(m,(ps.length:Int))]) (ps++[q]))=some (e',ps'):=h
      split at h
      · cases h
      · next hn =>
        obtain⟨a,⟨r,hr⟩,c,d,f⟩:=bb3 hg h0 hv ms _ e' (ps++[q]) ps' hms' (cd3 hI hvq hn) h
        refine⟨a,⟨q::r,by rw[hr,b5_];rfl⟩,λhe=>c λx hx => ?_,λx hx => ?_,by rw[f,a8_,c8_,c5_];omega⟩
        rotate_left
        · rcases d x hx with hx | hx
          · rcases b8_.1 hx with hx | hx
            · exact .inl hx
            · rw[e8_] at hx
              rw[hx]
              exact .inr (f4_ ..)
          · exact .inr (f3_ _ hx)
        have hl:(ps++[q]).length=ps.length+1:=by rw[a8_,c8_]
        rcases b8_.1 hx with hx | hx
        · have:=he x hx
          omega
        · rw[e8_] at hx
          rw[hx]
          exact⟨by show (0:Int)≤(ps.length:Int);omega,by show (ps.length:Int)<_;omega⟩
theorem lgl_num {r:af_} {s:ai_} {m:ae_} (h:lgl r s m=true) (hk:m.2.1=4):m.2.2≠-1:=by
  intro e
  unfold lgl at h
  rw[a2_,hk,e] at h
  have h:=h.2
  simp only[show ((4:Int)==1)=false from rfl,show ((4:Int)==2)=false from rfl,show ((4:Int)==3)=false from rfl,show ((4:Int)==4)=true from rfl,a1_,a4_] at h
  have:at? r.2.2.2.2.1 (-1)=none:=rfl
  rw[this] at h
  cases h
theorem pmv_num {g:ab_} {p:aa_} {m:ae_} (hm:m ∈ pmv g p):m.2.1=4→m.2.2≠-1:=by
  unfold pmv at hm
  exact lgl_num (au1 (d1_.1 hm).1)
structure GI (g:ab_) (ps:List aa_) (es:List (List ad_)):Prop where
  pI:PI g ps
  eI:∀ l ∈ es,∀ x ∈ l,(0≤x.2∧x.2<(ps.length:Int))∧(x.1.2.1=4→x.1.2.2≠-1)
  eL:∀ l ∈ es,l.length≤480
theorem cr9 {g:ab_} (hg:SmG g) (h0:br_ g=0):∀ (n i:Nat) (ps ps':List aa_) (es es':List (List ad_)),i+n=3001→i≤ps.length→es.length=i→GI g ps es→out g n i ps es=some (ps',es')→GI g ps' es'∧es'.length=ps'.length
  | 0,i,ps,ps',es,es',hi,hip,hl,hG,h=>by
    have:=hG.pI.n
    omega
  | n+1,i,ps,ps',es,es',hi,hip,hl,hG,h=>by
    unfold out at h
    cases hp:ps[i]? with
    | none =>
      rw[hp] at h
      obtain⟨rfl,rfl⟩:=h6_ (a5_ h)
      have:=p6_.1 hp
      exact⟨hG,by omega⟩
    | some p =>
      rw[hp] at h
      have hvp:=hG.pI.v p (au_ hp)
      have hok:=cd_ h0
      cases hin:inn g p (pmv g p) [] ps with
      | none =>
        simp only[hin] at h
        cases h
      | some z =>
        obtain⟨e,ps1⟩:=z
        simp only[hin] at h
        obtain⟨a,⟨r,rfl⟩,c,d,f⟩:=bb3 hg h0 hvp _ _ _ _ _ (λm hm=>js_ hm) hG.pI hin
        have hpl:=ak_ hp
        have hpm:=ac7 hok p
        have hll:(ps++r).length=ps.length+r.length:=a8_
        refine cr9 hg h0 n (i+1) _ ps' _ es' (by omega) (by omega) (by rw[a8_,c8_];omega) ⟨a,λl hl x hx => ?_,λl hl => ?_⟩ h
        · rcases b8_.1 hl with hl | hl
          · have:=hG.eI l hl x hx
            exact⟨by omega,this.2⟩
          · rw[e8_] at hl
            rw[hl] at hx
            refine⟨c (λx hx=>by cases hx) x hx,?_⟩
            rcases d x hx with hx | hx
            · cases hx
            · exact pmv_num hx
        · rcases b8_.1 hl with hl | hl
          · exact hG.eL l hl
          · rw[e8_] at hl
            rw[hl,f]
            show 0+_≤480
            omega
theorem cu7 {g:ab_} (hg:SmG g) (he:(exG g).2.1=0):br_ g=0∧GI g (exG g).1.1 (exG g).1.2∧(exG g).1.2.length=(exG g).1.1.length:=by
  unfold exG at he ⊢
  cases hb:(lb_ g).2.1 != 0 with
  | true =>
    rw[hb] at he
    rw[o5_] at hb
    exact absurd he hb
  | false =>
  rw[hb,a1_] at he
  have hb:(lb_ g).2.1=0:=by simpa using hb
  obtain⟨h0,hv⟩:=qy_ hg hb
  cases ho:out g 3001 0 [(lb_ g).1] [] with
  | none =>
    rw[ho] at he
    exact absurd (show (2:Int)=0 from he) (by decide)
  | some z =>
    obtain⟨ps,es⟩:=z
    exact⟨h0,cr9 hg h0 3001 0 _ ps _ es rfl (p3_ _) rfl ⟨⟨by show 1≤3000;decide,λx hx=>by rw[e8_] at hx;rw[hx];exact hv⟩,(λl hl=>by cases hl),(λl hl=>by cases hl)⟩ ho⟩
noncomputable def an5 (key:aa_→List UInt8) (g:ab_) (p:aa_):List ae_→List ad_→List aa_→List (List UInt8×Int)→Option (List ad_×(List aa_×List (List UInt8×Int)))
  | [],e,ps,M=>some (e,(ps,M))
  | m::ms,e,ps,M=>match wh ps ((stepP g p m).getD eP) with
    | some n=>an5 key g p ms (e++[(m,(n:Int))]) ps M
    | none=>if ps.length=3000 then none else an5 key g p ms (e++[(m,(ps.length:Int))]) (ps++[(stepP g p m).getD eP]) (hv_ M (key ((stepP g p m).getD eP)) (ps.length:Int))
theorem ae8 (key:aa_→List UInt8) (g:ab_) (p:aa_):∀ ms e ps M,(an5 key g p ms e ps M).map (λz=>(z.1,z.2.1))=inn g p ms e ps
  | [],e,ps,M=>rfl
  | m::ms,e,ps,M=>by
    unfold an5 inn
    cases wh ps ((stepP g p m).getD eP) with
    | some n=>exact ae8 key g p ms _ _ _
    | none =>
      by_cases hn:ps.length=3000
      · simp only[if_pos hn,Option.map_none]
      · simp only[if_neg hn]
        exact ae8 key g p ms _ _ _
section
variable {g:ab_} (hg:SmG g) (h0:br_ g=0) {key:aa_→List UInt8} (hk:∀ p q,VP g p→VP g q→key p=key q→p=q)
include hg h0 hk
theorem au8 {p:aa_} (hv:VP g p):∀ (ms:List ae_) e ps M e' ps' M',(∀ m ∈ ms,∃ q,stepP g p m=some q)→MI g key ps M→an5 key g p ms e ps M=some (e',(ps',M'))→MI g key ps' M'
  | [],e,ps,M,e',ps',M',_,hM,h=>by
    unfold an5 at h
    obtain⟨_,h⟩:=h6_ (a5_ h)
    obtain⟨rfl,rfl⟩:=h6_ h
    exact hM
  | m::ms,e,ps,M,e',ps',M',hms,hM,h=>by
    obtain⟨q,hq⟩:=hms m (f4_ ..)
    have hms':∀ m ∈ ms,∃ q,stepP g p m=some q:=λm hm=>hms m (f3_ _ hm)
    have hvq:=rg_ hg h0 hv hq
    unfold an5 at h
    rw[hq,e5_] at h
    cases hw:wh ps q with
    | some n =>
      rw[hw] at h
      exact au8 hv ms _ _ _ _ _ _ hms' hM h
    | none =>
      rw[hw] at h
      have h:(if ps.length=3000 then none else an5 key g p ms (e++[(m,(ps.length:Int))]) (ps++[q]) (hv_ M (key q) (ps.length:Int)))=some (e',(ps',M')):=h
      split at h
      · cases h
      · exact au8 hv ms _ _ _ _ _ _ hms' (aw6 hk hM hvq hw) h
theorem ae2 {p:aa_} (hv:VP g p) {at_:Nat} {σ ρ:Type} (F:List ad_→Nat→List (List UInt8×Int)→List aa_→σ) (G:List ad_→List (List UInt8×Int)→List aa_→ρ) {EE:ρ} {body:σ→Option (σ⊕ρ)} (ms:List ae_) (hms:∀ m ∈ ms,∃ q,stepP g p m=some q)
    (hb:∀ i m e M ps q,ms[i]?=some m→stepP g p m=some q→VP g q→mget? M (key q)=(wh ps q).map (λn=>(n:Int))→PI g ps→ps[at_]?=some p→e.length=i →
      body (F e i M ps)=some (match wh ps q with
        | some n=>.inl (F (e++[(m,(n:Int))]) (i+1) M ps)
        | none=>if ps.length=3000 then .inr EE else .inl (F (e++[(m,(ps.length:Int))]) (i+1) (hv_ M (key q) (ps.length:Int)) (ps++[q]))))
    (he:∀ e M ps,body (F e ms.length M ps)=some (.inr (G e M ps))) :
    ∀ (k i:Nat) e M ps,i+k=ms.length→e.length=i→PI g ps→ps[at_]?=some p→MI g key ps M→ag_ body (F e i M ps)=some ((an5 key g p (ms.drop i) e ps M).elim EE λz=>G z.1 z.2.2 z.2.1)
  | 0,i,e,M,ps,hi,hl,hI,hat,hM=>by
    obtain rfl:i=ms.length:=by omega
    rw[l0_]
    exact bi_ (he e M ps)
  | k+1,i,e,M,ps,hi,hl,hI,hat,hM=>by
    have hil:i<ms.length:=by omega
    obtain⟨m,hm⟩:=aw_ hil
    obtain⟨q,hq⟩:=hms m (au_ hm)
    have hvq:=rg_ hg h0 hv hq
    have hd:ms.drop i=m::ms.drop (i+1):=by
      rw[g8_ hil]
      rw[a7_ hil] at hm
      rw[a5_ hm]
    have hbb:=hb i m e M ps q hm hq hvq (hM q hvq) hI hat hl
    rw[hd]
    unfold an5
    rw[hq,e5_]
    cases hw:wh ps q with
    | some n =>
      rw[hw] at hbb
      exact bg_ hbb (ae2 hv F G ms hms hb he k (i+1) (e++[(m,(n:Int))]) M ps (by omega) (by rw[a8_,c8_,hl]) hI hat hM)
    | none =>
      rw[hw] at hbb
      have hbb:body (F e i M ps)=some (if ps.length=3000 then .inr EE else .inl (F (e++[(m,(ps.length:Int))]) (i+1) (hv_ M (key q) (ps.length:Int)) (ps++[q]))):=hbb
      by_cases hn:ps.length=3000
      · rw[if_pos hn] at hbb
        simp only[if_pos hn]
        exact bi_ hbb
      · rw[if_neg hn] at hbb
        simp only[if_neg hn]
        exact bg_ hbb (ae2 hv F G ms hms hb he k (i+1) (e++[(m,(ps.length:Int))]) (hv_ M (key q) (ps.length:Int)) (ps++[q]) (by omega) (by rw[a8_,c8_,hl]) (cd3 hI hvq hn) (by rw[b2_ (ak_ hat)];exact hat) (aw6 hk hM hvq hw))
theorem ap4 {p:aa_} (hv:VP g p) {at_:Nat} {σ ρ υ:Type} (F:List ad_→Nat→List (List UInt8×Int)→List aa_→σ) (G:List ad_→List (List UInt8×Int)→List aa_→ρ) (EE:ρ) {body:σ→Option (σ⊕ρ)} (ms:List ae_) (hms:∀ m ∈ ms,∃ q,stepP g p m=some q)
    {M:List (List UInt8×Int)} {ps:List aa_} (hI:PI g ps) (hat:ps[at_]?=some p) (hM:MI g key ps M) {K:ρ→Option υ} {x:Option υ}
    (hb:∀ i m e M ps q,ms[i]?=some m→stepP g p m=some q→VP g q→mget? M (key q)=(wh ps q).map (λn=>(n:Int))→PI g ps→ps[at_]?=some p→e.length=i →
      body (F e i M ps)=some (match wh ps q with
        | some n=>.inl (F (e++[(m,(n:Int))]) (i+1) M ps)
        | none=>if ps.length=3000 then .inr EE else .inl (F (e++[(m,(ps.length:Int))]) (i+1) (hv_ M (key q) (ps.length:Int)) (ps++[q]))))
    (he:∀ e M ps,body (F e ms.length M ps)=some (.inr (G e M ps))) (hx:(an5 key g p ms [] ps M).elim (K EE) (λz=>K (G z.1 z.2.2 z.2.1))=x):(ag_ body (F [] 0 M ps)).bind K=x:=by
  rw[ae2 hg h0 hk hv F G ms hms hb he ms.length 0 [] M ps (by omega) rfl hI hat hM,a0_,← hx]
  rw[p7_]
  cases an5 key g p ms [] ps M<;>rfl
theorem ba6 {σ ρ:Type} (F:Nat→List (List UInt8×Int)→List aa_→List (List ad_)→σ) (G:List (List UInt8×Int)→List aa_→List (List ad_)→ρ) {EE:ρ} {body:σ→Option (σ⊕ρ)}
    (hb:∀ i M ps es p,ps[i]?=some p→VP g p→PI g ps→es.length=i→MI g key ps M→body (F i M ps es)=some ((an5 key g p (pmv g p) [] ps M).elim (.inr EE) λz=>.inl (F (i+1) z.2.2 z.2.1 (es++[z.1]))))
    (he:∀ M ps es,body (F ps.length M ps es)=some (.inr (G M ps es))) :
    ∀ (n i:Nat) M ps es,i+n=3001→i≤ps.length→es.length=i→PI g ps→MI g key ps M→match out g n i ps es with
      | none=>ag_ body (F i M ps es)=some EE
      | some (ps',es')=>∃ M',ag_ body (F i M ps es)=some (G M' ps' es')
  | 0,i,M,ps,es,hi,hip,hl,hI,hM=>by
    have:=hI.n
    omega
  | n+1,i,M,ps,es,hi,hip,hl,hI,hM=>by
    unfold out
    cases hp:ps[i]? with
    | none =>
      have:=p6_.1 hp
      obtain rfl:i=ps.length:=by omega
      exact⟨M,bi_ (he M ps es)⟩
    | some p =>
      have hvp:=hI.v p (au_ hp)
      have hbb:=hb i M ps es p hp hvp hI hl hM
      have hmap:=ae8 key g p (pmv g p) [] ps M
      show (match (match inn g p (pmv g p) [] ps with
            | none=>none
            | some (e,ps')=>out g n (i+1) ps' (es++[e])) with
          | none=>ag_ body (F i M ps es)=some EE
          | some (ps',es')=>∃ M',ag_ body (F i M ps es)=some (G M' ps' es'))
      cases hin:an5 key g p (pmv g p) [] ps M with
      | none =>
        rw[hin] at hbb hmap
        rw[← hmap]
        exact bi_ hbb
      | some z =>
        obtain⟨e,ps1,M1⟩:=z
        have hM1:=au8 hg h0 hk hvp _ _ _ _ _ _ _ (λm hm=>js_ hm) hM hin
        rw[hin] at hbb hmap
        obtain⟨a,⟨r,rfl⟩,_,_,_⟩:=bb3 hg h0 hvp _ _ _ _ _ (λm hm=>js_ hm) hI hmap.symm
        rw[← hmap]
        have hpl:=ak_ hp
        have hll:(ps++r).length=ps.length+r.length:=a8_
        have ih:=ba6 F G hb he n (i+1) M1 (ps++r) (es++[e]) (by omega) (by omega) (by rw[a8_,c8_];omega) a hM1
        show (match out g n (i+1) (ps++r) (es++[e]) with
          | none=>ag_ body (F i M ps es)=some EE
          | some (ps',es')=>∃ M',ag_ body (F i M ps es)=some (G M' ps' es'))
        cases ho:out g n (i+1) (ps++r) (es++[e]) with
        | none=>rw[ho] at ih;exact bg_ hbb ih
        | some z =>
          rw[ho] at ih
          obtain⟨M',hz⟩:=ih
          exact⟨M',bg_ hbb hz⟩
theorem be8 {σ ρ:Type} (F:Nat→List (List UInt8×Int)→List aa_→List (List ad_)→σ) (G:List (List UInt8×Int)→List aa_→List (List ad_)→ρ) (EE:ρ) {body:σ→Option (σ⊕ρ)} {p0:aa_} (hv:VP g p0) {K:ρ→Option (bq_×(Int×Unit))}
    (hb:∀ i M ps es p,ps[i]?=some p→VP g p→PI g ps→es.length=i→MI g key ps M→body (F i M ps es)=some ((an5 key g p (pmv g p) [] ps M).elim (.inr EE) λz=>.inl (F (i+1) z.2.2 z.2.1 (es++[z.1]))))
    (he:∀ M ps es,body (F ps.length M ps es)=some (.inr (G M ps es)))
    (hE:K EE=some (([],[]),(2,()))) (hG:∀ M ps es,K (G M ps es)=some ((ps,es),(0,()))) :
    (ag_ body (F 0 (hv_ [] (key p0) 0) [p0] [])).bind K=some (match out g 3001 0 [p0] [] with
      | none=>(([],[]),(2,()))
      | some (ps,es)=>((ps,es),(0,()))):=by
  have hI:PI g [p0]:=⟨by show 1≤3000;decide,λx hx=>by rw[e8_] at hx;rw[hx];exact hv⟩
  have hM:MI g key [p0] (hv_ [] (key p0) 0):=by
    have:=aw6 (ps:=[]) (M:=[]) (q:=p0) hk (λq _=>rfl) hv rfl
    exact this
  have:=ba6 hg h0 hk F G hb he 3001 0 (hv_ [] (key p0) 0) [p0] [] rfl (p3_ _) rfl hI hM
  cases ho:out g 3001 0 [p0] [] with
  | none =>
    rw[ho] at this
    rw[this,a0_]
    exact hE
  | some z =>
    obtain⟨ps,es⟩:=z
    rw[ho] at this
    obtain⟨M',hz⟩:=this
    rw[hz,a0_]
    exact hG M' ps es
end
end
section
set_option maxRecDepth 10000
theorem ay5 {g:ab_} (hg:SmG g) (ok:OkG g) (p q:aa_) (hp:VP g p) (hq:VP g q) (h:hc_ (rtk p)=hc_ (rtk q)):p=q:=rtk_inj (aw5 hg ok hp) (aw5 hg ok hq) (cw0 hp hq) h
theorem az3 {g:ab_} (p q:aa_) (hp:VP g p) (hq:VP g q) (h:hc_ (ptk p)=hc_ (ptk q)):p=q:=ptk_inj (cw0 hp hq) h
theorem ab8 {g:ab_} (hg:SmG g):fn_ g=some (exG g):=by
  unfold fn_ exG
  rw[ak7 hg,a0_]
  cases hb:(lb_ g).2.1 != 0 with
  | true=>rfl
  | false =>
  have hb:(lb_ g).2.1=0:=by simpa using hb
  obtain⟨h0,hv⟩:=qy_ hg hb
  have ok:=cd_ h0
  simp only[a1_]
  rw[ak6 (aw5 hg ok hv),a0_]
  refine be8 hg h0 (key:=λq=>hc_ (rtk q)) (ay5 hg ok) (λi M ps es=>((i:Int),(M,(([],([],())),((ps,(es,())),()))))) (λM ps es=>inl (M,(([],([],())),((ps,(es,())),())))) (inr (([],[]),(2,()))) hv (λi M ps es p hp hvp hI hl hM => ?_) (λM ps es=>by simp only[dnl,a1_]) rfl (λM ps es=>rfl)
  have hi:=ak_ hp
  have hn:=hI.n
  have hml:=ac7 ok p
  simp only[dlt hi,a4_,ah_ hp,a0_]
  rw[as2 hg h0 hvp,a0_]
  refine ap4 hg h0 (key:=λq=>hc_ (rtk q)) (ay5 hg ok) hvp (at_:=i) (λe j M ps=>(e,((j:Int),(M,(([],([],())),((ps,()),())))))) (λe M ps=>inl (e,(M,(([],([],())),((ps,()),()))))) (inr (inr (inr (([],[]),(2,()))))) (pmv g p) (λm hm=>js_ hm) hI hp hM (λj m e M ps q hm hq hvq hMq hI hat hl => ?_) (λe M ps=>by simp only[dnl,a1_]) ?_
  · have hj:=ak_ hm
    have hn:=hI.n
    have hkq:=ak6 (aw5 hg ok hvq)
    simp only[dlt hj,a4_,ah_ hm,ah_ hat,a0_,bh5 hg h0 hvp hq,hkq]
    cases hw:wh ps q with
    | some n =>
      rw[hw] at hMq
      have e1:zj_ M (hc_ (rtk q))=true:=by unfold zj_;rw[hMq];rfl
      have e2:ef_ 0 M (hc_ (rtk q))=(n:Int):=by unfold ef_;rw[hMq];rfl
      simp only[e1,e2,d9_,a1_,a0_,bx_,ah_ hm,ci_ (show Sm e.length by show _≤1000000000;omega),az_ (show Sm j by show _≤1000000000;omega)]
    | none =>
      rw[hw] at hMq
      have e1:zj_ M (hc_ (rtk q))=false:=by unfold zj_;rw[hMq];rfl
      simp only[e1,g3_,a4_]
      by_cases hc:ps.length=3000
      · have:((ps.length:Int)==3000)=true:=by rw[hc];rfl
        simp only[this,a4_,a0_,bx_,if_pos hc]
      · have:((ps.length:Int)==3000)=false:=by rw[p2_];omega
        simp only[this,a1_,a0_,bx_,if_neg hc,ci_ (show Sm ps.length by show _≤1000000000;omega),ci_ (show Sm e.length by show _≤1000000000;omega),az_ (show Sm j by show _≤1000000000;omega),ah_ hm]
  · cases hin:an5 (λq=>hc_ (rtk q)) g p (pmv g p) [] ps M with
    | none=>rfl
    | some z =>
      simp only[Option.elim,bx_,ci_ (show Sm es.length by show _≤1000000000;omega),a0_,az_ (show Sm i by show _≤1000000000;omega)]
theorem jr_ {g:ab_} (hg:SmG g):cf_ g=some (exG g):=by
  unfold cf_ exG
  rw[qr_ hg,a0_]
  cases hb:(lb_ g).2.1 != 0 with
  | true=>rfl
  | false =>
  have hb:(lb_ g).2.1=0:=by simpa using hb
  obtain⟨h0,hv⟩:=qy_ hg hb
  have ok:=cd_ h0
  simp only[a1_]
  rw[al9 (aw5 hg ok hv),a0_,a0_]
  refine be8 hg h0 (key:=λq=>hc_ (ptk q)) az3 (λi M ps es=>((i:Int),(M,(([],([],())),((ps,(es,())),()))))) (λM ps es=>inl (M,(([],([],())),((ps,(es,())),())))) (inr (([],[]),(2,()))) hv (λi M ps es p hp hvp hI hl hM => ?_) (λM ps es=>by simp only[dnl,a1_]) rfl (λM ps es=>rfl)
  have hi:=ak_ hp
  have hn:=hI.n
  have hml:=ac7 ok p
  simp only[dlt hi,a4_,ah_ hp,a0_]
  rw[az2 hg h0 hvp,a0_]
  simp only[show ((0:Int) != 0)=false from rfl,a1_]
  refine ap4 hg h0 (key:=λq=>hc_ (ptk q)) az3 hvp (at_:=i) (λe j M ps=>(e,((j:Int),(M,(([],([],())),((ps,()),())))))) (λe M ps=>inl (e,(M,(([],([],())),((ps,()),()))))) (inr (inr (inr (([],[]),(2,()))))) (pmv g p) (λm hm=>js_ hm) hI hp hM (λj m e M ps q hm hq hvq hMq hI hat hl => ?_) (λe M ps=>by simp only[dnl,a1_]) ?_
  · have hj:=ak_ hm
    have hn:=hI.n
    have hkq:=al9 (aw5 hg ok hvq)
    have hstep:eb_ g p m=some (q,(0,())):=by rw[rq_ hg h0 hvp m,hq];rfl
    simp only[dlt hj,a4_,ah_ hm,ah_ hat,a0_,hstep,hkq,show ((0:Int) != 0)=false from rfl,a1_]
    cases hw:wh ps q with
    | some n =>
      rw[hw] at hMq
      have e1:zj_ M (hc_ (ptk q))=true:=by unfold zj_;rw[hMq];rfl
      have e2:ef_ 0 M (hc_ (ptk q))=(n:Int):=by unfold ef_;rw[hMq];rfl
      simp only[e1,e2,a4_,d9_,a1_,a0_,ci_ (show Sm e.length by show _≤1000000000;omega),az_ (show Sm j by show _≤1000000000;omega)]
    | none =>
      rw[hw] at hMq
      have e1:zj_ M (hc_ (ptk q))=false:=by unfold zj_;rw[hMq];rfl
      simp only[e1,a1_]
      by_cases hc:ps.length=3000
      · have:((ps.length:Int)==3000)=true:=by rw[hc];rfl
        simp only[this,a4_,a0_,g3_,if_pos hc]
      · have:((ps.length:Int)==3000)=false:=by rw[p2_];omega
        simp only[this,a1_,a0_,d9_,if_neg hc,ci_ (show Sm ps.length by show _≤1000000000;omega),ci_ (show Sm e.length by show _≤1000000000;omega),az_ (show Sm j by show _≤1000000000;omega)]
  · cases hin:an5 (λq=>hc_ (ptk q)) g p (pmv g p) [] ps M with
    | none=>rfl
    | some z =>
      simp only[Option.elim,bx_,ci_ (show Sm es.length by show _≤1000000000;omega),a0_,az_ (show Sm i by show _≤1000000000;omega)]
end
section
set_option maxRecDepth 10000
structure LC (es:List (List ad_)) (fin:Nat→Bool) (a:List Int):Prop where
  lo:∀ (i:Nat) (v:Int),a[i]?=some v→-1≤v
  z:∀ (i:Nat) (v:Int),a[i]?=some v→(v=0↔fin i=true)
  dn:∀ (i k:Nat),a[i]?=some ((k+1:Nat):Int)→∃ l x,es[i]?=some l∧x ∈ l∧at? a x.2=some (k:Int)
  up:∀ (i:Nat) (l:List ad_) (x:ad_) (k:Nat),es[i]?=some l→x ∈ l→at? a x.2=some (k:Int)→∃ v,a[i]?=some v∧0≤v∧v≤(k:Int)+1
theorem cd5 {es:List (List ad_)} {fin:Nat→Bool} {a b:List Int} (ha:LC es fin a) (hb:LC es fin b) (hl:a.length=b.length) (k:Nat) (ih:∀ j,j<k→∀ i:Nat,a[i]?=some (j:Int)↔b[i]?=some (j:Int)) (i:Nat) (h:a[i]?=some (k:Int)):b[i]?=some (k:Int):=by
  obtain⟨w,hw⟩:=aw_ (l:=b) (i:=i) (by have:=ak_ h;omega)
  match k with
  | 0 =>
    have h1:=(ha.z i _ h).1 rfl
    have h2:=(hb.z i w hw).2 h1
    rw[hw,h2]
    rfl
  | k+1 =>
    obtain⟨l,x,hl',hx,hat⟩:=ha.dn i k h
    obtain⟨q1,q2,q3⟩:=dd_ hat
    have h3:=(ih k (by omega) _).1 q3
    have h4:at? b x.2=some (k:Int):=by
      rw[show x.2=((x.2.toNat:Nat):Int) by omega]
      exact ah_ h3
    obtain⟨v,e,v0,v1⟩:=hb.up i l x k hl' hx h4
    rw[hw] at e
    obtain rfl:=a5_ e
    rcases Int.lt_or_eq_of_le v1 with hlt | heq
    · exfalso
      obtain⟨n,rfl⟩:∃ n:Nat,w=(n:Int):=⟨w.toNat,by omega⟩
      have:=(ih n (by omega) i).2 hw
      rw[h] at this
      have:=a5_ this
      omega
    · rw[hw,heq]
      rfl
theorem cd4 {es:List (List ad_)} {fin:Nat→Bool} {a b:List Int} (ha:LC es fin a) (hb:LC es fin b) (hl:a.length=b.length):a=b:=by
  have key:∀ k i:Nat,a[i]?=some (k:Int)↔b[i]?=some (k:Int):=by
    intro k
    induction k using Nat.strongRecOn with
    | _ k ih =>
      intro i
      exact⟨cd5 ha hb hl k ih i,cd5 hb ha hl.symm k (λj hj i=>(ih j hj i).symm) i⟩
  refine f1_ λi => ?_
  rcases m0_ i a.length with hi | hi
  · obtain⟨v,hv⟩:=aw_ hi
    obtain⟨w,hw⟩:=aw_ (l:=b) (i:=i) (by omega)
    have h1:=ha.lo i v hv
    have h2:=hb.lo i w hw
    rw[hv,hw]
    by_cases hv0:0≤v
    · obtain⟨n,rfl⟩:∃ n:Nat,v=(n:Int):=⟨v.toNat,by omega⟩
      have:=(key n i).1 hv
      rw[hw] at this
      exact this.symm
    · by_cases hw0:0≤w
      · obtain⟨n,rfl⟩:∃ n:Nat,w=(n:Int):=⟨w.toNat,by omega⟩
        have:=(key n i).2 hw
        rw[hv] at this
        exact this
      · rw[show v = -1 by omega,show w = -1 by omega]
  · rw[b3_ hi,b3_ (by omega)]
def rb_ (g:ab_) (ps:List aa_) (i:Nat):Bool:=match ps[i]? with
  | some p=>co_ p.1.1 g.1.2.2.2.2.2.2.2
  | none=>false
theorem te_ {g:ab_} {ps:List aa_} {i:Nat} {p:aa_} (h:ps[i]?=some p):rb_ g ps i=co_ p.1.1 g.1.2.2.2.2.2.2.2:=by
  unfold rb_
  rw[h]
def xm_ (g:ab_) (ps:List aa_):List Int:=ps.map λp=>cond (co_ p.1.1 g.1.2.2.2.2.2.2.2) 0 (-1)
theorem qu_ {g:ab_} {ps:List aa_} {i:Nat} {v:Int} (h:(xm_ g ps)[i]?=some v):(v=0∧rb_ g ps i=true)∨(v = -1∧rb_ g ps i=false):=by
  unfold xm_ at h
  rw[d6_] at h
  obtain⟨p,hp,rfl⟩:=f7_.1 h
  rw[te_ hp]
  cases co_ p.1.1 g.1.2.2.2.2.2.2.2 with
  | true=>exact .inl ⟨rfl,rfl⟩
  | false=>exact .inr ⟨rfl,rfl⟩
def nd_ (a:List Int):Nat:=a.countP λv=>decide (v<0)
theorem bt2 (a:List Int):nd_ a≤a.length:=l5_
theorem ba3:∀ {a:List Int} {i:Nat} {v w:Int},a[i]?=some v→v<0→0≤w→nd_ (a.set i w)+1=nd_ a
  | x::a,0,v,w,h,hv,hw=>by
    obtain rfl:x=v:=a5_ h
    unfold nd_
    rw[List.set_cons_zero,j7_,j7_,b4_ hv,b1_ (by omega)]
    simp
  | x::a,i+1,v,w,h,hv,hw=>by
    have:=ba3 (a:=a) (i:=i) h hv hw
    unfold nd_ at this ⊢
    rw[List.set_cons_succ,j7_,j7_]
    omega
  | [],i,v,w,h,_,_=>by simp at h
end
section
set_option maxRecDepth 10000
def nv (es:List (List ad_)) (a:List Int) (r:Nat) (i:Nat) (v:Int):Int:=cond (decide (v<0)&&(es[i]?.getD []).any (λx=>gi a x.2==(r:Int) - 1)) (r:Int) v
structure RnI (es:List (List ad_)) (fin:Nat→Bool) (r:Nat) (a:List Int):Prop where
  b:∀ (i:Nat) (v:Int),a[i]?=some v→v = -1∨(0≤v∧v+1≤(r:Int))
  z:∀ (i:Nat) (v:Int),a[i]?=some v→(v=0↔fin i=true)
  dn:∀ (i k:Nat),a[i]?=some ((k+1:Nat):Int)→∃ l x,es[i]?=some l∧x ∈ l∧at? a x.2=some (k:Int)
  up:∀ (i:Nat) (l:List ad_) (x:ad_) (k:Nat),es[i]?=some l→x ∈ l→at? a x.2=some (k:Int)→k+2≤r→∃ v,a[i]?=some v∧0≤v∧v≤(k:Int)+1
theorem ad3 {es:List (List ad_)} {a:List Int} {r i:Nat} {v:Int} (h:0≤v):nv es a r i v=v:=by
  unfold nv
  rw[b1_ (by omega)]
  rfl
theorem nc_ (es:List (List ad_)) (a:List Int) (r i:Nat) (v:Int):nv es a r i v=v∨(nv es a r i v=(r:Int)∧v<0∧∃ l x,es[i]?=some l∧x ∈ l∧gi a x.2=(r:Int) - 1):=by
  unfold nv
  cases hc:(decide (v<0)&&(es[i]?.getD []).any (λx=>gi a x.2==(r:Int) - 1)) with
  | false=>exact .inl rfl
  | true =>
    rw[a2_,h0_,g1_] at hc
    obtain⟨h1,x,hx,hg⟩:=hc
    cases he:es[i]? with
    | none =>
      rw[he] at hx
      cases hx
    | some l =>
      rw[he] at hx
      exact .inr ⟨rfl,h1,l,x,rfl,hx,f2_.1 hg⟩
theorem cc0 {a b:List Int} {f:Nat→Int→Int} (h:∀ j:Nat,b[j]?=(a[j]?).map (f j)) {x v:Int} (hx:at? a x=some v):at? b x=some (f x.toNat v):=by
  obtain⟨q1,q2,q3⟩:=dd_ hx
  rw[show x=((x.toNat:Nat):Int) by omega,bf0,h,c3_,q3]
  rfl
theorem cp4 {es:List (List ad_)} {fin:Nat→Bool} {r:Nat} {a b:List Int} (hr:1≤r) (hes:es.length=a.length) (hx:∀ l ∈ es,∀ x ∈ l,0≤x.2∧x.2<(a.length:Int)) (h:RnI es fin r a) (hb:∀ j:Nat,b[j]?=(a[j]?).map (nv es a r j)):RnI es fin (r+1) b:=by
  have back:∀ {i:Nat} {w:Int},b[i]?=some w→∃ v,a[i]?=some v∧w=nv es a r i v:=λ{i w} hw=>by
    rw[hb] at hw
    obtain⟨v,hv,rfl⟩:=f7_.1 hw
    exact⟨v,hv,rfl⟩
  refine⟨λi w hw => ?_,λi w hw => ?_,λi k hk => ?_,λi l x k hl hxl hat hkr => ?_⟩
  · obtain⟨v,hv,rfl⟩:=back hw
    have:=h.b i v hv
    rcases nc_ es a r i v with e | ⟨e,_⟩
    · rw[e];omega
    · rw[e];omega
  · obtain⟨v,hv,rfl⟩:=back hw
    have hz:=h.z i v hv
    rcases nc_ es a r i v with e | ⟨e,hneg,_⟩
    · rw[e];exact hz
    · rw[e,← hz]
      constructor
      · intro h;omega
      · intro h;omega
  · obtain⟨v,hv,e0⟩:=back hk
    rcases nc_ es a r i v with e | ⟨e,hneg,l,x,hl,hxl,hg⟩
    · rw[e] at e0
      obtain⟨l,x,hl,hxl,hat⟩:=h.dn i k (by rw[hv,← e0])
      exact⟨l,x,hl,hxl,by rw[cc0 hb hat,ad3 (by omega)]⟩
    · rw[e] at e0
      have hb2:=hx l (au_ hl) x hxl
      have hat:=mu_ (l:=a) hb2.1 hb2.2
      refine⟨l,x,hl,hxl,?_⟩
      rw[cc0 hb hat,ad3 (by omega),hg]
      congr 1
      omega
  · have hb2:=hx l (au_ hl) x hxl
    have hata:=mu_ (l:=a) hb2.1 hb2.2
    have hatb:=cc0 hb hata
    rw[hat] at hatb
    have hk:=a5_ hatb
    obtain⟨q1,q2,q3⟩:=dd_ hata
    have hbnd:=h.b _ _ q3
    have hgk:gi a x.2=(k:Int):=by
      rcases nc_ es a r x.2.toNat (gi a x.2) with e | ⟨e,_⟩
      · rw[← e,← hk]
      · rw[e] at hk;omega
    obtain⟨v,hv⟩:=aw_ (l:=a) (i:=i) (by have:=ak_ hl;omega)
    have hvb:b[i]?=some (nv es a r i v):=by rw[hb,hv];rfl
    by_cases hv0:0≤v
    · by_cases hkr2:k+2≤r
      · obtain⟨v',e,r1,r2⟩:=h.up i l x k hl hxl (by rw[hata,hgk]) hkr2
        rw[hv] at e
        obtain rfl:=a5_ e
        exact⟨v,by rw[hvb,ad3 hv0],r1,r2⟩
      · have:=h.b i v hv
        exact⟨v,by rw[hvb,ad3 hv0],hv0,by omega⟩
    · by_cases hkr2:k+2≤r
      · obtain⟨v',e,r1,r2⟩:=h.up i l x k hl hxl (by rw[hata,hgk]) hkr2
        rw[hv] at e
        obtain rfl:=a5_ e
        exact absurd r1 hv0
      · have:nv es a r i v=(r:Int):=by
          unfold nv
          rw[b4_ (by omega),hl,b7_]
          rw[show ((some l).getD [])=l from rfl,g1_.2 ⟨x,hxl,by rw[f2_,hgk];omega⟩]
          rfl
        exact⟨_,hvb,by rw[this];omega,by rw[this];omega⟩
theorem RnI_end {es:List (List ad_)} {fin:Nat→Bool} {r:Nat} {a:List Int} (hx:∀ l ∈ es,∀ x ∈ l,0≤x.2∧x.2<(a.length:Int)) (hes:es.length=a.length) (h:RnI es fin r a) (hs:∀ (i:Nat) (v:Int),a[i]?=some v→nv es a r i v=v):LC es fin a:=by
  refine⟨λi v hv=>by have:=h.b i v hv;omega,h.z,h.dn,λi l x k hl hxl hat => ?_⟩
  obtain⟨v,hv⟩:=aw_ (l:=a) (i:=i) (by have:=ak_ hl;omega)
  by_cases hkr2:k+2≤r
  · exact h.up i l x k hl hxl hat hkr2
  · obtain⟨q1,q2,q3⟩:=dd_ hat
    have hb1:=h.b _ _ q3
    have hb2:=h.b _ _ hv
    have hn:=hs i v hv
    by_cases hv0:0≤v
    · exact⟨v,hv,hv0,by omega⟩
    · exfalso
      unfold nv at hn
      rw[b4_ (by omega),hl,b7_] at hn
      rw[show ((some l).getD [])=l from rfl,g1_.2 ⟨x,hxl,by rw[f2_,ji_ hat];omega⟩] at hn
      have:(r:Int)=v:=hn
      omega
theorem cd1 {g:ab_} {ps:List aa_} (es:List (List ad_)):RnI es (rb_ g ps) 1 (xm_ g ps):=by
  refine⟨λi v hv => ?_,λi v hv => ?_,λi k hk => ?_,λi l x k _ _ _ hk=>by omega⟩
  · rcases qu_ hv with ⟨rfl,_⟩ | ⟨rfl,_⟩
    · exact .inr ⟨by omega,by omega⟩
    · exact .inl rfl
  · rcases qu_ hv with ⟨rfl,h⟩ | ⟨rfl,h⟩
    · exact⟨λ_=>h,λ_=>rfl⟩
    · rw[h]
      exact⟨λe=>by omega,λe=>by cases e⟩
  · rcases qu_ hk with ⟨e,_⟩ | ⟨e,_⟩<;>omega
theorem cb5 {l:List ad_} (q:ad_→Bool) {b:List Int} {i:Nat} {v r:Int} (hv:b[i]?=some v) (hr:0≤r) {υ:Type} {body:(Bool×(Int×(List Int×Unit)))→Option ((Bool×(Int×(List Int×Unit)))⊕(Bool×(List Int×Unit)))} {c:Bool} {K:(Bool×(List Int×Unit))→Option υ} {x:Option υ} (hl:Sm l.length)
    (hA:∀ (k:Nat) c b' y,b'[i]?=some y→0≤y→body (c,((k:Int),(b',())))=some (.inr (c,(b',()))))
    (hB:∀ c b',body (c,((l.length:Int),(b',())))=some (.inr (c,(b',()))))
    (hC:∀ (k:Nat) e,l[k]?=some e→v<0→body (c,((k:Int),(b,())))=some (.inl (cond (q e) (true,(w64 ((k:Int)+1),(b.set i r,()))) (c,(w64 ((k:Int)+1),(b,()))))))
    (hk:K (cond (decide (v<0)&&l.any q) (true,(b.set i r,())) (c,(b,())))=x):(ag_ body (c,(0,(b,())))).bind K=x:=by
  by_cases hv0:0≤v
  · rw[b1_ (by omega)] at hk
    have e0:ag_ body (c,(0,(b,())))=some (c,(b,())):=bi_ (hA 0 c b v hv hv0)
    rw[e0,a0_]
    exact hk
  · rw[b4_ (by omega),b7_] at hk
    have gen:∀ (m k:Nat),k+m=l.length→ag_ body (c,((k:Int),(b,())))=some (cond ((l.drop k).any q) (true,(b.set i r,())) (c,(b,()))):=by
      intro m
      induction m with
      | zero =>
        intro k hk
        obtain rfl:k=l.length:=by omega
        rw[l0_]
        exact bi_ (hB c b)
      | succ m ih =>
        intro k hk
        have hkl:k<l.length:=by omega
        obtain⟨e,he⟩:=aw_ hkl
        have hd:l.drop k=e::l.drop (k+1):=by
          rw[g8_ hkl]
          rw[a7_ hkl] at he
          rw[a5_ he]
        have h1:=hC k e he (by omega)
        rw[az_ (show Sm k by unfold Sm at hl ⊢; omega)] at h1
        rw[hd,p1_]
        cases hq:q e with
        | true =>
          rw[hq] at h1
          refine bg_ h1 (bi_ (hA (k+1) true (b.set i r) r ?_ hr))
          rw[e9_ (ak_ hv)]
        | false =>
          rw[hq] at h1
          exact bg_ h1 (ih (k+1) (by omega))
    have:=gen l.length 0 (by omega)
    rw[p7_] at this
    have e0:ag_ body (c,(0,(b,())))=some (cond (l.any q) (true,(b.set i r,())) (c,(b,()))):=this
    rw[e0,a0_]
    exact hk
def kp (act:Int) (x:ad_):Bool:=!(x.1.2.1==4&&x.1.2.2==act)
def esF (act:Int) (es:List (List ad_)):List (List ad_):=es.map λl=>l.filter (kp act)
theorem does_eq (x:ad_) (act:Int):om_ x act=some (!(kp act x),()):=by
  unfold om_ kp
  cases x.1.2.1==4 with
  | false=>rfl
  | true=>cases x.1.2.2==act<;>rfl
theorem esF_len (act:Int) (es:List (List ad_)):(esF act es).length=es.length:=d2_ _
theorem esF_at {act:Int} {es:List (List ad_)} {i:Nat} {l:List ad_} (h:es[i]?=some l):(esF act es)[i]?=some (l.filter (kp act)):=by
  unfold esF
  rw[d6_,h]
  rfl
theorem by7 {act:Int} {es:List (List ad_)} {l:List ad_} (h:l ∈ esF act es):∃ l' ∈ es,l=l'.filter (kp act):=by
  obtain⟨l',h1,h2⟩:=d8_.1 h
  exact⟨l',h1,h2.symm⟩
theorem esF_all {es:List (List ad_)} {act:Int} (h:∀ l ∈ es,∀ x ∈ l,x.1.2.1=4→x.1.2.2≠act):esF act es=es:=by
  unfold esF
  refine e4_ (n4_ λl hl => ?_) (List.map_id _)
  refine List.filter_eq_self.2 λx hx => ?_
  unfold kp
  cases hk:x.1.2.1==4 with
  | false=>rfl
  | true =>
    have:=h l hl x hx (f2_.1 hk)
    rw[b7_,k6_,p2_]
    exact this
theorem tq_ {σ ρ υ:Type} (n:Nat) (Inv:Nat→σ→Prop) {body:σ→Option (σ⊕ρ)} {z0:σ} {K:ρ→Option υ} {Q:υ→Prop} (h0:Inv 0 z0)
    (hs:∀ j z,j<n→Inv j z→∃ z',body z=some (.inl z')∧Inv (j+1) z') (he:∀ z,Inv n z→∃ r,body z=some (.inr r)∧∃ y,K r=some y∧Q y):∃ y,(ag_ body z0).bind K=some y∧Q y:=by
  have gen:∀ (k i:Nat) (z:σ),i+k=n→Inv i z→∃ r,ag_ body z=some r∧∃ y,K r=some y∧Q y:=by
    intro k
    induction k with
    | zero =>
      intro i z hi hz
      obtain rfl:i=n:=by omega
      obtain⟨r,e,hr⟩:=he z hz
      exact⟨r,bi_ e,hr⟩
    | succ k ih =>
      intro i z hi hz
      obtain⟨z',e,hz'⟩:=hs i z (by omega) hz
      obtain⟨r,er,hr⟩:=ih (i+1) z' (by omega) hz'
      exact⟨r,bg_ e er,hr⟩
  obtain⟨r,e,hr⟩:=gen n 0 z0 (by omega) h0
  rw[e,a0_]
  exact hr
theorem bt1:∀ {a b:List Int},a.length=b.length→(∀ (j:Nat) (v w:Int),a[j]?=some v→b[j]?=some w→w<0→v<0)→(nd_ b≤nd_ a∧((∃ (j:Nat) (v w:Int),a[j]?=some v∧b[j]?=some w∧v<0∧0≤w)→nd_ b<nd_ a))
  | [],[],_,_=>⟨c4_ _,λ⟨j,v,w,h,_⟩=>by simp at h⟩
  | [],_::_,h,_=>by cases h
  | _::_,[],h,_=>by cases h
  | x::a,y::b,h,hm=>by
    obtain⟨h1,h2⟩:=bt1 (a:=a) (b:=b) (by simpa using h) λj v w hv hw=>hm (j+1) v w hv hw
    have h3:=hm 0 x y rfl rfl
    have ea:nd_ (x::a)=nd_ a+(if x<0 then 1 else 0):=by unfold nd_;rw[j7_];simp
    have eb:nd_ (y::b)=nd_ b+(if y<0 then 1 else 0):=by unfold nd_;rw[j7_];simp
    rw[ea,eb]
    refine⟨by split<;>split<;>omega,λ⟨j,v,w,hv,hw,hv0,hw0⟩ => ?_⟩
    match j with
    | 0 =>
      obtain rfl:x=v:=a5_ hv
      obtain rfl:y=w:=a5_ hw
      rw[if_pos hv0,if_neg (by omega)]
      omega
    | j+1 =>
      have:=h2 ⟨j,v,w,hv,hw,hv0,hw0⟩
      split<;>split<;>omega
theorem av9 {es:List (List ad_)} {fin:Nat→Bool} {n:Nat} (hn:n≤3000) (hes:es.length=n) (hx:∀ l ∈ es,∀ x ∈ l,0≤x.2∧x.2<(n:Int)) {υ:Type} {body:(Int×(Bool×(List Int×Unit)))→Option ((Int×(Bool×(List Int×Unit)))⊕(List Int×Unit))} {K:(List Int×Unit)→Option υ} {Q:υ→Prop} {a0:List Int}
    (h0:RnI es fin 1 a0) (hl0:a0.length=n)
    (hend:∀ (r:Int) a,body (r,(false,(a,())))=some (.inr (a,())))
    (hstep:∀ (r:Nat) a,1≤r→r≤n+1→a.length=n→RnI es fin r a→∃ y,body ((r:Int),(true,(a,())))=some y∧∃ ch b,y = .inl (((r+1:Nat):Int),(ch,(b,())))∧b.length=n∧(∀ j:Nat,b[j]?=(a[j]?).map (nv es a r j))∧(ch=true↔∃ (j:Nat) (v:Int),a[j]?=some v∧nv es a r j v≠v))
    (hK:∀ D:List Int,D.length=n→LC es fin D→∃ y,K (D,())=some y∧Q y):∃ y,(ag_ body (1,(true,(a0,())))).bind K=some y∧Q y:=by
  have gen:∀ (m:Nat) (r:Nat) (a:List Int),nd_ a=m→1≤r→r+m≤n+1→a.length=n→RnI es fin r a→∃ D,ag_ body ((r:Int),(true,(a,())))=some (D,())∧D.length=n∧LC es fin D:=by
    intro m
    induction m using Nat.strongRecOn with
    | _ m ih =>
      intro r a hm hr hrm hl hR
      obtain⟨y,ey,ch,b,rfl,hb,hbj,hch⟩:=hstep r a hr (by omega) hl hR
      have hR2:=cp4 hr (by omega) (by rw[hl];exact hx) hR hbj
      cases ch with
      | false =>
        refine⟨b,bg_ ey (bi_ (hend _ b)),hb,?_⟩
        have hs:∀ (i:Nat) (v:Int),a[i]?=some v→nv es a r i v=v:=λi v hv=>Classical.byContradiction λhne=>by
          have:=hch.2 ⟨i,v,hv,hne⟩
          cases this
        have hab:a=b:=f1_ λi=>by
          rw[hbj]
          cases hv:a[i]? with
          | none=>rfl
          | some v=>rw[g6_,hs i v hv]
        rw[← hab]
        exact RnI_end (by rw[hl];exact hx) (by omega) hR hs
      | true =>
        obtain⟨j,v,hv,hne⟩:=hch.1 rfl
        have hlt:nd_ b<nd_ a:=by
          refine (bt1 (a:=a) (b:=b) (by omega) λj v w hv hw hw0 => ?_).2 ?_
          · rw[hbj,hv] at hw
            have hw:=a5_ hw
            rcases nc_ es a r j v with e | ⟨e,h1,_⟩
            · rw[e] at hw;omega
            · exact h1
          · rcases nc_ es a r j v with e | ⟨e,h1,_⟩
            · exact absurd e hne
            · exact⟨j,v,nv es a r j v,hv,by rw[hbj,hv];rfl,h1,by rw[e];omega⟩
        obtain⟨D,eD,hD⟩:=ih (nd_ b) (by omega) (r+1) b rfl (by omega) (by omega) hb hR2
        exact⟨D,bg_ ey eD,hD⟩
  have hneg:=bt2 a0
  obtain⟨D,eD,hD1,hD2⟩:=gen (nd_ a0) 1 a0 rfl (c4_ _) (by omega) hl0 h0
  have eD:ag_ body (1,(true,(a0,())))=some (D,()):=eD
  rw[eD,a0_]
  exact hK D hD1 hD2
theorem ul_ {g:ab_} (hg:SmG g) (h0:br_ g=0) {ps:List aa_} {es:List (List ad_)} (hG:GI g ps es) (hes:es.length=ps.length)
    (act:Int):∃ D,ip_ g (ps,es) act=some (D,())∧D.length=ps.length∧LC (esF act es) (rb_ g ps) D:=by
  have ok:=cd_ h0
  have okr:=bn_ ok.room
  have hn:=hG.pI.n
  have hgo:=hg.go
  have hx:∀ l ∈ es,∀ x ∈ l,0≤x.2∧x.2<(ps.length:Int):=λl hl x hx=>(hG.eI l hl x hx).1
  have hfin:∀ p ∈ ps,jk_ g p=some (co_ p.1.1 g.1.2.2.2.2.2.2.2,()):=λp hp=>by
    have hv:=(hG.pI.v p hp).st
    have hl1:=hv.l1
    obtain⟨c1,c2⟩:=sh_ hg.room.th okr.go
    unfold jk_
    rw[hu_ (s:=p.1) (show Sm _ by show _≤1000000000;omega) (by show InC p.1.1.length _;rw[hl1];exact c1)]
    rfl
  have hxF:∀ l ∈ esF act es,∀ x ∈ l,0≤x.2∧x.2<(ps.length:Int):=λl hl x hxl=>by
    obtain⟨l',h1,rfl⟩:=by7 hl
    exact hx l' h1 x (d1_.1 hxl).1
  have hesF:(esF act es).length=ps.length:=by rw[esF_len,hes]
  suffices hk:∃ D,ip_ g (ps,es) act=some D∧(D.1.length=ps.length∧LC (esF act es) (rb_ g ps) D.1) by
    obtain⟨⟨D,u⟩,e,h⟩:=hk
    exact⟨D,e,h⟩
  unfold ip_
  simp only
  rw[ud_ (by omega) (by omega),a0_,c3_]
  refine tq_ ps.length (λ(i:Nat) (z:Int×(List Int×Unit))=>∃ d:List Int,z=((i:Int),(d,()))∧d.length=ps.length∧∀ j:Nat,j<i→d[j]?=(xm_ g ps)[j]?) ⟨_,rfl,f5_,λj hj=>by omega⟩ (λi z hi hz => ?_) (λz hz => ?_)
  · obtain⟨d,rfl,hd,hdj⟩:=hz
    obtain⟨p,hp⟩:=aw_ hi
    obtain⟨y,hy⟩:=aw_ (l:=d) (i:=i) (by omega)
    have h2:(d.set i (-1))[i]?=some (-1):=e9_ (by omega)
    have hf0:(xm_ g ps)[i]?=some (cond (co_ p.1.1 g.1.2.2.2.2.2.2.2) 0 (-1)):=by
      unfold xm_
      rw[d6_,hp]
      rfl
    have fin:∀ v:Int,(xm_ g ps)[i]?=some v→∀ j:Nat,j<i+1→(d.set i v)[j]?=(xm_ g ps)[j]?:=λv hv j hj=>by
      rw[i2_]
      by_cases hij:i=j
      · rw[if_pos hij,if_pos (by omega),← hij,hv]
      · rw[if_neg hij,hdj j (by omega)]
    refine⟨(((i+1:Nat):Int),(d.set i (cond (co_ p.1.1 g.1.2.2.2.2.2.2.2) 0 (-1)),())),?_,_,rfl,by rw[g2_,hd],fin _ hf0⟩
    simp only[hd,dlt hi,a4_,ah_ hp,ah_ hy,a0_,hfin p (au_ hp),c3_,ah_ h2,az_ (show Sm i by show _≤1000000000;omega),List.set_set]
    cases co_ p.1.1 g.1.2.2.2.2.2.2.2<;>rfl
  · obtain⟨d,rfl,hd,hdj⟩:=hz
    have hdd:d=xm_ g ps:=f1_ λj=>by
      rcases m0_ j ps.length with hj | hj
      · exact hdj j hj
      · rw[b3_ (by omega),b3_ (by unfold xm_;rw[d2_];omega)]
    subst hdd
    refine⟨_,by simp only[hd,dnl,a1_];rfl,?_⟩
    simp only
    refine av9 (es:=esF act es) (fin:=rb_ g ps) hn hesF hxF (cd1 (esF act es)) hd (λr a=>rfl) (λr a hr hrn hl hR => ?_) (λD hD1 hD2=>⟨_,rfl,hD1,hD2⟩)
    simp only[a4_]
    refine tq_ ps.length (λ(i:Nat) (z:Bool×(Int×(List Int×Unit)))=>∃ (ch:Bool) (b:List Int),z=(ch,((i:Int),(b,())))∧b.length=ps.length∧(∀ j:Nat,b[j]?=if j<i then (a[j]?).map (nv (esF act es) a r j) else a[j]?)∧(ch=true↔∃ (j:Nat) (v:Int),j<i∧a[j]?=some v∧nv (esF act es) a r j v≠v)) ⟨false,a,rfl,hl,λj=>by simp,by simp⟩ (λi z hi hz => ?_) (λz hz => ?_)
    · obtain⟨ch,b,rfl,hb,hbj,hch⟩:=hz
      obtain⟨row,hrow⟩:=aw_ (l:=es) (i:=i) (by omega)
      obtain⟨v,hv⟩:=aw_ (l:=a) (i:=i) (by omega)
      have hvb:b[i]?=some v:=by rw[hbj,if_neg (by omega),hv]
      have hrl:=hG.eL row (au_ hrow)
      have hgi:∀ x ∈ row,(gi b x.2==(r:Int) - 1)=(gi a x.2==(r:Int) - 1):=λx hxr=>by
        obtain⟨x0,x1⟩:=hx row (au_ hrow) x hxr
        obtain⟨u,hu⟩:=aw_ (l:=a) (i:=x.2.toNat) (by omega)
        have ea:gi a x.2=u:=ji_ (by rw[show x.2=((x.2.toNat:Nat):Int) by omega];exact ah_ hu)
        have eb:∀ w,b[x.2.toNat]?=some w→gi b x.2=w:=λw hw=>ji_ (by rw[show x.2=((x.2.toNat:Nat):Int) by omega];exact ah_ hw)
        have hbx:=hbj x.2.toNat
        split at hbx
        · rw[hu] at hbx
          rw[ea,eb _ hbx]
          rcases nc_ (esF act es) a r x.2.toNat u with e | ⟨e,h1,_⟩
          · rw[e]
          · rw[e,k7_,f2_,f2_]
            omega
        · rw[hu] at hbx
          rw[ea,eb _ hbx]
      have hany:row.any (λx=>kp act x&&gi b x.2==(r:Int) - 1)=(row.filter (kp act)).any (λx=>gi a x.2==(r:Int) - 1):=by
        rw[List.any_filter,k7_,g1_,g1_]
        exact⟨λ⟨x,h1,h2⟩=>⟨x,h1,by rw[← hgi x h1];exact h2⟩,λ⟨x,h1,h2⟩=>⟨x,h1,by rw[hgi x h1];exact h2⟩⟩
      have hnv:nv (esF act es) a r i v=cond (decide (v<0)&&row.any (λx=>kp act x&&gi b x.2==(r:Int) - 1)) (r:Int) v:=by
        unfold nv
        rw[esF_at hrow,hany]
        rfl
      refine⟨(cond (decide (v<0)&&row.any (λx=>kp act x&&gi b x.2==(r:Int) - 1)) true ch,(((i+1:Nat):Int),(cond (decide (v<0)&&row.any (λx=>kp act x&&gi b x.2==(r:Int) - 1)) (b.set i (r:Int)) b,()))),?_,_,_,rfl,?_,λj => ?_,?_⟩
      · simp only[hb,dlt hi,a4_]
        refine cb5 (l:=row) (λx=>kp act x&&gi b x.2==(r:Int) - 1) (r:=(r:Int)) hvb (by omega) (by show _≤1000000000;omega) (λk c b' y hy hy0 => ?_) (λc b' => ?_) (λk e he hv0 => ?_) ?_
        · simp only[ah_ hrow,a0_,ah_ hy,b1_ (show ¬ y<0 by omega)]
          cases decide ((k:Int)<(row.length:Int))<;>rfl
        · simp only[ah_ hrow,a0_,dnl,a1_]
        · obtain⟨x0,x1⟩:=hx row (au_ hrow) e (au_ he)
          simp only[ah_ hrow,a0_,dlt (ak_ he),a4_,ah_ hvb,b4_ hv0,ah_ he,mu_ (l:=b) x0 (by omega),does_eq,ei_ (n:=(r:Int) - 1) (by omega) (by omega),c3_]
          cases gi b e.2==(r:Int) - 1<;>cases kp act e<;>rfl
        · simp only[az_ (show Sm i by show _≤1000000000;omega)]
          cases (decide (v<0)&&row.any (λx=>kp act x&&gi b x.2==(r:Int) - 1))<;>rfl
      · cases (decide (v<0)&&row.any (λx=>kp act x&&gi b x.2==(r:Int) - 1)) with
        | true=>simp only[a4_,g2_,hb]
        | false=>exact hb
      · rcases o7_ j i with hj | hj | hj
        · rw[if_pos (by omega)]
          have:=hbj j
          rw[if_pos hj] at this
          cases (decide (v<0)&&row.any (λx=>kp act x&&gi b x.2==(r:Int) - 1)) with
          | true=>rw[a4_,b6_ (by omega),this]
          | false=>exact this
        · subst hj
          rw[if_pos (by omega),hv,g6_,hnv]
          cases (decide (v<0)&&row.any (λx=>kp act x&&gi b x.2==(r:Int) - 1)) with
          | true=>rw[a4_,a4_,e9_ (by omega)]
          | false=>exact hvb
        · rw[if_neg (by omega)]
          have:=hbj j
          rw[if_neg (by omega)] at this
          cases (decide (v<0)&&row.any (λx=>kp act x&&gi b x.2==(r:Int) - 1)) with
          | true=>rw[a4_,b6_ (by omega),this]
          | false=>exact this
      · cases hc:(decide (v<0)&&row.any (λx=>kp act x&&gi b x.2==(r:Int) - 1)) with
        | true =>
          rw[hc] at hnv
          rw[a2_,h0_] at hc
          exact⟨λ_=>⟨i,v,by omega,hv,by rw[hnv];show (r:Int)≠v;omega⟩,λ_=>rfl⟩
        | false =>
          rw[hc] at hnv
          rw[a1_,hch]
          constructor
          · rintro⟨j,w,h1,h2⟩
            exact⟨j,w,by omega,h2⟩
          · rintro⟨j,w,h1,h2,h3⟩
            rcases m0_ j i with hj | hj
            · exact⟨j,w,hj,h2,h3⟩
            · obtain rfl:j=i:=by omega
              rw[hv] at h2
              obtain rfl:=a5_ h2
              exact absurd hnv h3
    · obtain⟨ch,b,rfl,hb,hbj,hch⟩:=hz
      refine⟨_,by simp only[hb,dnl,a1_];rfl,?_⟩
      refine⟨_,rfl,ch,b,by simp only[az_ (show Sm r by show _≤1000000000;omega)],hb,λj => ?_,?_⟩
      · rw[hbj]
        split
        · rfl
        · rw[b3_ (by omega)]
          rfl
      · rw[hch]
        constructor
        · rintro⟨j,w,_,h2⟩
          exact⟨j,w,h2⟩
        · rintro⟨j,w,h2,h3⟩
          exact⟨j,w,by have:=ak_ h2;omega,h2,h3⟩
end
section
set_option maxRecDepth 10000
def BkI (es:List (List ad_)) (n i:Nat) (bk:List (List Int)):Prop :=
  bk.length=n∧∀ (t:Nat) l,bk[t]?=some l→l.length≤i * 480∧∀ y:Int,y ∈ l↔∃ j:Nat,j<i∧y=(j:Int)∧∃ row,es[j]?=some row∧∃ x ∈ row,x.2=(t:Int)
theorem BkI_all {es:List (List ad_)} {n:Nat} {bk:List (List Int)} (h:BkI es n es.length bk) {t:Nat} {l:List Int} (hl:bk[t]?=some l) (y:Int):y ∈ l↔∃ j:Nat,y=(j:Int)∧∃ row,es[j]?=some row∧∃ x ∈ row,x.2=(t:Int):=by
  rw[(h.2 t l hl).2 y]
  exact⟨λ⟨j,_,h⟩=>⟨j,h⟩,λ⟨j,h1,row,h2,h3⟩=>⟨j,ak_ h2,h1,row,h2,h3⟩⟩
structure BI (es:List (List ad_)) (fin:Nat→Bool) (n:Nat) (near far:List Int):Prop where
  len:far.length=n
  lo:∀ (i:Nat) (v:Int),far[i]?=some v→-1≤v
  z:∀ (i:Nat) (v:Int),far[i]?=some v→(v=0↔fin i=true)
  dn:∀ (i k:Nat),far[i]?=some ((k+1:Nat):Int)→∃ l x,es[i]?=some l∧x ∈ l∧at? far x.2=some (k:Int)
  nr:∀ x ∈ near,∃ v,at? far x=some v∧0≤v
  pw:near.Pairwise (λx y=>gi far x≤gi far y)
  top:∀ x ∈ near,∀ (i:Nat) (v:Int),far[i]?=some v→v≤gi far x+1
  up:∀ (i:Nat) (l:List ad_) (x:ad_) (k:Nat),es[i]?=some l→x ∈ l→at? far x.2=some (k:Int)→x.2 ∉ near→∃ v,far[i]?=some v∧0≤v∧v≤(k:Int)+1
  bd:∀ (i:Nat) (v:Int),far[i]?=some v→v+(nd_ far:Int)≤(n:Int)
  ms:near.length+nd_ far≤n
theorem BI_end {es:List (List ad_)} {fin:Nat→Bool} {n:Nat} {far:List Int} (h:BI es fin n [] far):LC es fin far :=
  ⟨h.lo,h.z,h.dn,λi l x k hl hx hat=>h.up i l x k hl hx hat (λh=>by cases h)⟩
structure AI (bs:List Int) (d:Int) (far:List Int) (b:Nat) (pu far':List Int):Prop where
  len:far'.length=far.length
  keep:∀ (i:Nat) (v:Int),far[i]?=some v→0≤v→far'[i]?=some v
  neg:∀ (i:Nat) (v:Int),far[i]?=some v→v<0→far'[i]?=some v∨(far'[i]?=some (d+1)∧(i:Int) ∈ pu∧(i:Int) ∈ bs)
  pI:∀ x ∈ pu,at? far' x=some (d+1)∧∃ w,at? far x=some w∧w<0
  done:∀ y ∈ bs.take b,∃ v,at? far' y=some v∧0≤v
  ms:nd_ far'+pu.length=nd_ far
theorem cp9 (bs:List Int) (d:Int) (far:List Int):AI bs d far 0 [] far :=
  ⟨rfl,λ_ _ h _=>h,λ_ _ h _=>.inl h,λ_ h=>(by cases h),λy h=>by rw[k4_] at h; (cases h),rfl⟩
theorem sk_ {α:Type} {a:List α} {x:Int} {v:α} (h:at? a x=some v):∃ i:Nat,x=(i:Int)∧a[i]?=some v:=by
  obtain⟨q1,q2,q3⟩:=dd_ h
  exact⟨x.toNat,by omega,q3⟩
theorem AI_skip {bs:List Int} {d:Int} {far:List Int} {b:Nat} {pu far':List Int} (h:AI bs d far b pu far') {y v:Int} (hy:bs[b]?=some y) (hv:at? far' y=some v) (hv0:0≤v):AI bs d far (b+1) pu far':=by
  refine⟨h.len,h.keep,h.neg,h.pI,λz hz => ?_,h.ms⟩
  rw[d3_,hy] at hz
  rcases b8_.1 hz with hz | hz
  · exact h.done z hz
  · have:z=y:=by simpa using hz
    rw[this]
    exact⟨v,hv,hv0⟩
theorem AI_add {bs:List Int} {d:Int} (hd:0≤d) {far:List Int} {b:Nat} {pu far':List Int} (h:AI bs d far b pu far') {y v:Int} (hy:bs[b]?=some y) (hv:at? far' y=some v) (hv0:v<0):AI bs d far (b+1) (pu++[y]) (far'.set y.toNat (d+1)):=by
  obtain⟨i,rfl,hi⟩:=sk_ hv
  rw[c3_]
  have hlt:=ak_ hi
  have hself:(far'.set i (d+1))[i]?=some (d+1):=e9_ hlt
  have hfi:∃ w,far[i]?=some w∧w<0:=by
    obtain⟨w,hw⟩:=aw_ (l:=far) (i:=i) (by have:=h.len;omega)
    refine⟨w,hw,Classical.byContradiction λhc => ?_⟩
    have:=h.keep i w hw (by omega)
    rw[hi] at this
    have:=a5_ this
    omega
  have hat:∀ {x w:Int},at? far' x=some w→0≤w→at? (far'.set i (d+1)) x=some w:=λ{x w} hx hw=>by
    obtain⟨j,rfl,hj⟩:=sk_ hx
    refine ah_ ?_
    by_cases hij:i=j
    · subst hij
      rw[hi] at hj
      have:=a5_ hj
      omega
    · rw[b6_ hij]
      exact hj
  refine⟨by rw[g2_,h.len],λj w hw hw0 => ?_,λj w hw hw0 => ?_,λx hx => ?_,λz hz => ?_,?_⟩
  · have:=h.keep j w hw hw0
    by_cases hij:i=j
    · subst hij
      rw[hi] at this
      have:=a5_ this
      omega
    · rw[b6_ hij]
      exact this
  · by_cases hij:i=j
    · subst hij
      exact .inr ⟨hself,o9_ _ (e8_.2 rfl),au_ hy⟩
    · rw[b6_ hij]
      rcases h.neg j w hw hw0 with h1 | ⟨h1,h2,h3⟩
      · exact .inl h1
      · exact .inr ⟨h1,l7_ _ h2,h3⟩
  · rcases b8_.1 hx with hx | hx
    · obtain⟨h1,h2⟩:=h.pI x hx
      exact⟨hat h1 (by omega),h2⟩
    · rw[e8_] at hx
      rw[hx]
      obtain⟨w,hw,hw0⟩:=hfi
      exact⟨ah_ hself,w,ah_ hw,hw0⟩
  · rw[d3_,hy] at hz
    rcases b8_.1 hz with hz | hz
    · obtain⟨w,h1,h2⟩:=h.done z hz
      exact⟨w,hat h1 h2,h2⟩
    · have:z=(i:Int):=by simpa using hz
      rw[this]
      exact⟨d+1,ah_ hself,by omega⟩
  · have:=ba3 hi hv0 (show (0:Int)≤d+1 by omega)
    have:=h.ms
    rw[a8_,c8_]
    omega
theorem BI_step {es:List (List ad_)} {fin:Nat→Bool} {n:Nat} (hes:es.length=n) (hx:∀ l ∈ es,∀ x ∈ l,0≤x.2∧x.2<(n:Int)) {h:Int} {tl far:List Int} (I:BI es fin n (h::tl) far) {bs:List Int} {d:Int} (hd:at? far h=some d)
    (hbs:∀ y:Int,y ∈ bs↔∃ j:Nat,y=(j:Int)∧∃ row,es[j]?=some row∧∃ x ∈ row,x.2=h) {pu far':List Int} (A:AI bs d far bs.length pu far'):BI es fin n (tl++pu) far':=by
  have hd0:0≤d:=by
    obtain⟨v,h1,h2⟩:=I.nr h (f4_ ..)
    rw[hd] at h1
    have:=a5_ h1
    omega
  have hgd:gi far h=d:=ji_ hd
  have hms:=A.ms
  have cs:∀ (i:Nat) (v:Int),far'[i]?=some v→far[i]?=some v∨(v=d+1∧(i:Int) ∈ pu∧(i:Int) ∈ bs∧1≤pu.length∧∃ w,far[i]?=some w∧w<0):=λi v hv=>by
    obtain⟨w,hw⟩:=aw_ (l:=far) (i:=i) (by have:=ak_ hv;have:=A.len;omega)
    by_cases hw0:0≤w
    · have:=A.keep i w hw hw0
      rw[hv] at this
      rw[a5_ this]
      exact .inl hw
    · rcases A.neg i w hw (by omega) with h1 | ⟨h1,h2,h3⟩
      · rw[hv] at h1
        rw[a5_ h1]
        exact .inl hw
      · rw[hv] at h1
        have hne:1≤pu.length:=by
          cases pu with
          | nil=>cases h2
          | cons _ _=>simp
        exact .inr ⟨a5_ h1,h2,h3,hne,w,hw,by omega⟩
  have keepA:∀ {x v:Int},at? far x=some v→0≤v→at? far' x=some v:=λ{x v} hx hv=>by
    obtain⟨i,rfl,hi⟩:=sk_ hx
    exact ah_ (A.keep i v hi hv)
  have gk:∀ x ∈ tl,gi far' x=gi far x:=λx hx=>by
    obtain⟨v,h1,h2⟩:=I.nr x (f3_ _ hx)
    rw[ji_ h1,ji_ (keepA h1 h2)]
  have gp:∀ x ∈ pu,gi far' x=d+1:=λx hx=>ji_ (A.pI x hx).1
  have htop:=I.top h (f4_ ..)
  rw[hgd] at htop
  obtain⟨pw1,pw2⟩:=List.pairwise_cons.1 I.pw
  have htl:∀ x ∈ tl,gi far x≤d+1:=λx hx=>by
    obtain⟨v,h1,h2⟩:=I.nr x (f3_ _ hx)
    obtain⟨i,_,hi⟩:=sk_ h1
    rw[ji_ h1]
    exact htop i v hi
  have hle:∀ (i:Nat) (v:Int),far'[i]?=some v→v≤d+1:=λi v hv=>by
    rcases cs i v hv with h1 | ⟨h1,_⟩
    · exact htop i v h1
    · omega
  refine⟨by rw[A.len,I.len],λi v hv => ?_,λi v hv => ?_,λi k hk => ?_,λx hx => ?_,?_,λx hx i v hv => ?_,λi l x k hl hxl hat hnn => ?_,λi v hv => ?_,?_⟩
  · rcases cs i v hv with h1 | ⟨h1,_⟩
    · exact I.lo i v h1
    · omega
  · rcases cs i v hv with h1 | ⟨h1,_,_,_,w,hw,hw0⟩
    · exact I.z i v h1
    · have:=I.z i w hw
      rw[← this]
      constructor
      · intro e;omega
      · intro e;omega
  · rcases cs i _ hk with h1 | ⟨h1,h2,h3,_⟩
    · obtain⟨l,x,a1,a2,a3⟩:=I.dn i k h1
      exact⟨l,x,a1,a2,keepA a3 (by omega)⟩
    · obtain⟨j,hj,row,hrow,x,hxr,hxe⟩:=(hbs _).1 h3
      obtain rfl:i=j:=by omega
      refine⟨row,x,hrow,hxr,?_⟩
      rw[hxe,show (k:Int)=d by omega]
      exact keepA hd hd0
  · rcases b8_.1 hx with hx | hx
    · obtain⟨v,h1,h2⟩:=I.nr x (f3_ _ hx)
      exact⟨v,keepA h1 h2,h2⟩
    · exact⟨d+1,(A.pI x hx).1,by omega⟩
  · refine List.pairwise_append.2 ⟨?_,?_,λx hx y hy => ?_⟩
    · refine List.Pairwise.imp_of_mem (λ{x y} hx hy hr => ?_) pw2
      rw[gk x hx,gk y hy]
      exact hr
    · refine List.pairwise_of_forall_mem_list (λx hx y hy => ?_)
      rw[gp x hx,gp y hy]
      exact n5_ _
    · rw[gk x hx,gp y hy]
      exact htl x hx
  · have h2:=hle i v hv
    rcases b8_.1 hx with hx | hx
    · rw[gk x hx]
      have:=pw1 x hx
      rw[hgd] at this
      omega
    · rw[gp x hx]
      omega
  · have hb:=hx l (au_ hl) x hxl
    obtain⟨xi,hxi,hxk⟩:=sk_ hat
    obtain⟨w,hw⟩:=aw_ (l:=far') (i:=i) (by have:=ak_ hl;have:=A.len;have:=I.len;omega)
    rcases cs xi _ hxk with h1 | ⟨_,h2,_⟩
    · by_cases hxh:x.2=h
      · have hm:(i:Int) ∈ bs:=(hbs _).2 ⟨i,rfl,l,hl,x,hxl,hxh⟩
        obtain⟨v,h3,h4⟩:=A.done (i:Int) (by rw[d7_];exact hm)
        have h3:far'[i]?=some v:=by rw[← bf0];exact h3
        refine⟨v,h3,h4,?_⟩
        have:(k:Int)=d:=by
          have:at? far h=some (k:Int):=by rw[← hxh,hxi];exact ah_ h1
          rw[hd] at this
          exact (a5_ this).symm
        have:=hle i v h3
        omega
      · obtain⟨v,h3,h4,h5⟩:=I.up i l x k hl hxl (by rw[hxi];exact ah_ h1) (λhm=>by
          rcases e1_.1 hm with hm | hm
          · exact hxh hm
          · exact hnn (l7_ _ hm))
        exact⟨v,A.keep i v h3 h4,h4,h5⟩
    · exact absurd (o9_ _ (by rw[hxi];exact h2)) hnn
  · rcases cs i v hv with h1 | ⟨h1,_,_,h4,_⟩
    · have:=I.bd i v h1
      omega
    · obtain⟨hi,_,hh⟩:=sk_ hd
      have:=I.bd hi d hh
      omega
  · have:=I.ms
    rw[a8_]
    rw[c5_] at this
    omega
theorem bk1 {υ:Type} {body:(List Int×(List Int×Unit))→Option ((List Int×(List Int×Unit))⊕(List Int×Unit))} {K:(List Int×Unit)→Option υ} {Q:υ→Prop} (Inv:List Int→List Int→Prop) (μ:List Int→List Int→Nat)
    (hs:∀ h tl far,Inv (h::tl) far→∃ y,body (h::tl,(far,()))=some y∧∃ near' far',y = .inl (near',(far',()))∧Inv near' far'∧μ near' far'<μ (h::tl) far)
    (he:∀ far,Inv [] far→∃ r,body ([],(far,()))=some (.inr r)∧∃ y,K r=some y∧Q y) {near far:List Int} (hI:Inv near far):∃ y,(ag_ body (near,(far,()))).bind K=some y∧Q y:=by
  have gen:∀ (m:Nat) (near far:List Int),μ near far=m→Inv near far→∃ r,ag_ body (near,(far,()))=some r∧∃ y,K r=some y∧Q y:=by
    intro m
    induction m using Nat.strongRecOn with
    | _ m ih =>
      intro near far hm hI
      cases near with
      | nil =>
        obtain⟨r,e,h⟩:=he far hI
        exact⟨r,bi_ e,h⟩
      | cons h tl =>
        obtain⟨y,ey,near',far',rfl,h1,h2⟩:=hs h tl far hI
        obtain⟨r,er,hr⟩:=ih _ (by omega) near' far' rfl h1
        exact⟨r,bg_ ey er,hr⟩
  obtain⟨r,e,hr⟩:=gen _ near far rfl hI
  rw[e,a0_]
  exact hr
theorem cd2 {n:Nat} (h:n≤1000000):dm_ [-1] (n:Int)=some (List.replicate n (-1)):=by
  show mk? (n:Int) (-1)=_
  rw[ud_ (by omega) (by omega),c3_]
theorem bt3 (x:Int) (a:List Int):nd_ (x::a)=nd_ a+(if x<0 then 1 else 0):=by unfold nd_;rw[j7_];simp
end
section
set_option maxRecDepth 10000
theorem ck5 (a b:List Int):nd_ (a++b)=nd_ a+nd_ b:=by unfold nd_;rw[List.countP_append]
theorem bt0 {a:List Int} {i:Nat} {v:Int} (h:a[i]?=some v):nd_ (a.take (i+1))=nd_ (a.take i)+(if v<0 then 1 else 0):=by
  rw[d3_,h,ck5,show (some v).toList=[v] from rfl,bt3,show nd_ []=0 from rfl,b0_]
theorem cp8 {g:ab_} {ps:List aa_} {es:List (List ad_)} {near:List Int} (h1:∀ x ∈ near,∃ j:Nat,x=(j:Int)∧j<ps.length∧rb_ g ps j=true) (h2:∀ j:Nat,j<ps.length→rb_ g ps j=true→(j:Int) ∈ near) (h3:near.length+nd_ (xm_ g ps)=ps.length) :
    BI es (rb_ g ps) ps.length near (xm_ g ps):=by
  have hl:(xm_ g ps).length=ps.length:=d2_ _
  have hg:∀ x ∈ near,at? (xm_ g ps) x=some 0:=λx hx=>by
    obtain⟨j,rfl,hj,hf⟩:=h1 x hx
    obtain⟨v,hv⟩:=aw_ (l:=xm_ g ps) (i:=j) (by omega)
    rcases qu_ hv with ⟨rfl,_⟩ | ⟨rfl,hf2⟩
    · exact ah_ hv
    · rw[hf] at hf2;cases hf2
  have hle:∀ (i:Nat) (v:Int),(xm_ g ps)[i]?=some v→-1≤v∧v≤0:=λi v hv=>by
    rcases qu_ hv with ⟨rfl,_⟩ | ⟨rfl,_⟩<;>omega
  refine⟨hl,λi v hv=>(hle i v hv).1,λi v hv => ?_,λi k hk => ?_,λx hx=>⟨0,hg x hx,n5_ _⟩,?_,λx hx i v hv => ?_,λi l x k hl hxl hat hnn => ?_,λi v hv => ?_,by omega⟩
  · rcases qu_ hv with ⟨rfl,h⟩ | ⟨rfl,h⟩
    · exact⟨λ_=>h,λ_=>rfl⟩
    · rw[h]
      exact⟨λe=>by omega,λe=>by cases e⟩
  · have:=hle i _ hk
    omega
  · refine List.pairwise_of_forall_mem_list (λx hx y hy => ?_)
    rw[ji_ (hg x hx),ji_ (hg y hy)]
    exact n5_ _
  · rw[ji_ (hg x hx)]
    have:=hle i v hv
    omega
  · obtain⟨xi,hxi,hxk⟩:=sk_ hat
    have hlt:=ak_ hxk
    rcases qu_ hxk with ⟨_,hf⟩ | ⟨e,_⟩
    · exact absurd (by rw[hxi];exact h2 xi (by omega) hf) hnn
    · omega
  · have:=hle i v hv
    have:=bt2 (xm_ g ps)
    omega
noncomputable def ce6 (rowB:Int→List ad_→(Int×(List (List Int)×Unit))→Option ((Int×(List (List Int)×Unit))⊕(List (List Int)×Unit))) {τ:Type} (a0:ab_) (G:bq_) (K:List Int×Unit→Option τ):Option τ :=
 ((dm_ [(-1)] (G.1.length:Int)).bind λv1 =>
 ((ag_ (ρ:=((List Int)×((List Int)×Unit))) (λ(v2:((List Int)×(Int×((List Int)×Unit)))) =>
 (cond (decide (v2.2.1<(G.1.length:Int)))
 ((((at? G.1 v2.2.1).bind λv3 =>
 ((fl_ a0.1 v3.1).bind λv4 =>
 (((cond (v4.2.1==0)
 (some (v4.1,()))
 (some (false,())))).bind λv5 =>
 (cond v5.1
 ((at? v2.2.2.1 v2.2.1).bind λv6 =>
 ((at? v2.2.2.1 v2.2.1).bind λv7 =>
 ((push? (α:=Int) v2.1 [v2.2.1]).bind λv8 =>
 (some (v8,((v2.2.2.1.set v2.2.1.toNat 0),()))))))
 (some (v2.1,(v2.2.2.1,())))))))).bind λv9 =>
 (some (inl (v9.1,((w64 (v2.2.1+1)),(v9.2.1,()))))))
 (some (inr (v2.1,(v2.2.2.1,())))))) ([],(0,(v1,())))).bind λv10 =>
 ((mk? (α:=(List Int)) (G.1.length:Int) []).bind λv11 =>
 ((ag_ (ρ:=((List (List Int))×Unit)) (λ(v12:(Int×((List (List Int))×Unit))) =>
 (cond (decide (v12.1<(G.2.length:Int)))
 ((at? G.2 v12.1).bind λv13 =>
 ((ag_ (ρ:=((List (List Int))×Unit)) (rowB v12.1 v13) (0,(v12.2.1,()))).bind λv22 =>
 (some (inl ((w64 (v12.1+1)),(v22.1,()))))))
 (some (inr (v12.2.1,()))))) (0,(v11,()))).bind λv23 =>
 ((ag_ (ρ:=((List Int)×Unit)) (λ(v24:((List Int)×((List Int)×Unit))) =>
 (cond (decide (0<(v24.1.length:Int)))
 ((at? v24.1 0).bind λv25 =>
 ((at? v24.1 0).bind λv26 =>
 ((sub? v24.1 1 (v24.1.length:Int)).bind λv27 =>
 ((at? v23.1 v26).bind λv28 =>
 ((ag_ (ρ:=((List Int)×((List Int)×Unit))) (λ(v29:((List Int)×(Int×((List Int)×Unit)))) =>
 (cond (decide (v29.2.1<(v28.length:Int)))
 ((((at? v28 v29.2.1).bind λv30 =>
 ((at? v29.2.2.1 v30).bind λv31 =>
 ((at? v29.2.2.1 v30).bind λv32 =>
 (cond (decide (v32<0))
 ((at? v29.2.2.1 v26).bind λv33 =>
 ((at? v29.2.2.1 v26).bind λv34 =>
 ((at? v29.2.2.1 v30).bind λv35 =>
 ((at? v29.2.2.1 v30).bind λv36 =>
 ((push? (α:=Int) v29.1 [v30]).bind λv37 =>
 (some (v37,((v29.2.2.1.set v30.toNat (w64 (v34+1))),()))))))))
 (some (v29.1,(v29.2.2.1,())))))))).bind λv38 =>
 (some (inl (v38.1,((w64 (v29.2.1+1)),(v38.2.1,()))))))
 (some (inr (v29.1,(v29.2.2.1,())))))) (v27,(0,(v24.2.1,())))).bind λv39 =>
 (some (inl (v39.1,(v39.2.1,())))))))))
 (some (inr (v24.2.1,()))))) (v10.1,(v10.2.1,()))).bind λv40 =>
 (K v40))))))
def rowE (i:Int) (row:List ad_):(Int×(List (List Int)×Unit))→Option ((Int×(List (List Int)×Unit))⊕(List (List Int)×Unit)) :=
 (λ(v14:(Int×((List (List Int))×Unit))) =>
 (cond (decide (v14.1<(row.length:Int)))
 ((((at? row v14.1).bind λv15 =>
 ((at? v14.2.1 v15.2).bind λv16 =>
 ((at? v14.2.1 v15.2).bind λv17 =>
 ((push? (α:=Int) v17 [i]).bind λv18 =>
 ((at? v14.2.1 v15.2).bind λv19 =>
 (cond ((v15.2==v15.2)&&true)
 ((at? v14.2.1 v15.2).bind λv20 =>
 (some ((v14.2.1.set v15.2.toNat v18),())))
 none))))))).bind λv21 =>
 (some (inl ((w64 (v14.1+1)),(v21.1,())))))
 (some (inr (v14.2.1,())))))
noncomputable abbrev meaK {τ:Type} (a0:ab_) (G:bq_) (K:List Int×Unit→Option τ):Option τ:=ce6 rowE a0 G K
theorem bu1 (rowB:Int→List ad_→(Int×(List (List Int)×Unit))→Option ((Int×(List (List Int)×Unit))⊕(List (List Int)×Unit))) {τ:Type} (a0:ab_) (G:bq_) (K:List Int×Unit→Option τ):ce6 rowB a0 G K=(ce6 rowB a0 G some).bind K:=by
  unfold ce6
  simp only[Option.bind_assoc,a0_]
def esQ (Q:ad_→Bool) (es:List (List ad_)):List (List ad_):=es.map λl=>l.filter Q
theorem cu9 {Q:ad_→Bool} {es:List (List ad_)} {i:Nat} {l:List ad_} (h:es[i]?=some l):(esQ Q es)[i]?=some (l.filter Q):=by
  unfold esQ
  rw[d6_,h]
  rfl
structure RowOk (rowB:Int→List ad_→(Int×(List (List Int)×Unit))→Option ((Int×(List (List Int)×Unit))⊕(List (List Int)×Unit))) (Q:ad_→Bool):Prop where
  st:∀ (i:Int) row (k:Nat) x bk l,row[k]?=some x→at? bk x.2=some l→l.length≤2000000→k≤1000→rowB i row ((k:Int),(bk,()))=some (.inl (((k+1:Nat):Int),(cond (Q x) (bk.set x.2.toNat (l++[i])) bk,())))
  en:∀ (i:Int) row bk,rowB i row ((row.length:Int),(bk,()))=some (.inr (bk,()))
theorem ck9 {rowB} {Q:ad_→Bool} (hR:RowOk rowB Q) {g:ab_} (hg:SmG g) (h0:br_ g=0) {ps:List aa_} {es:List (List ad_)} (hG:GI g ps es) (hes:es.length=ps.length):∃ y,ce6 rowB g (ps,es) some=some y∧∃ D,y=(D,())∧(D.length=ps.length∧LC (esQ Q es) (rb_ g ps) D)∧∀ (i:Nat) (v:Int),D[i]?=some v→v≤(ps.length:Int):=by
  have ok:=cd_ h0
  have okr:=bn_ ok.room
  have hn:=hG.pI.n
  have hx:∀ l ∈ es,∀ x ∈ l,0≤x.2∧x.2<(ps.length:Int):=λl hl x hx=>(hG.eI l hl x hx).1
  have hesQ:(esQ Q es).length=es.length:=d2_ _
  have hxQ:∀ l ∈ esQ Q es,∀ x ∈ l,0≤x.2∧x.2<(ps.length:Int):=λl hl x hxl=>by
    obtain⟨l',h1,rfl⟩:=d8_.1 hl
    exact hx l' h1 x (d1_.1 hxl).1
  unfold ce6
  simp only
  rw[cd2 (by omega),a0_]
  have hfl:(xm_ g ps).length=ps.length:=d2_ _
  refine tq_ ps.length (λ(i:Nat) (z:List Int×(Int×(List Int×Unit)))=>∃ near far:List Int,z=(near,((i:Int),(far,())))∧far.length=ps.length∧(∀ j:Nat,far[j]?=if j<i then (xm_ g ps)[j]? else (List.replicate ps.length (-1:Int))[j]?)∧(∀ x ∈ near,∃ j:Nat,x=(j:Int)∧j<i∧rb_ g ps j=true)∧(∀ j:Nat,j<i→rb_ g ps j=true→(j:Int) ∈ near)∧near.length+nd_ ((xm_ g ps).take i)=i)
    ⟨[],_,rfl,f5_,(λj=>by simp),(λx hx=>by cases hx),(λj hj=>by omega),rfl⟩ (λi z hi hz => ?_) (λz hz => ?_)
  · obtain⟨near,far,rfl,hl,hj,h1,h2,h3⟩:=hz
    obtain⟨p,hp⟩:=aw_ hi
    obtain⟨v,hv⟩:=aw_ (l:=far) (i:=i) (by omega)
    have hv1:v = -1:=by
      rw[hj,if_neg (by omega),j9_,if_pos hi] at hv
      exact (a5_ hv).symm
    have hf0:(xm_ g ps)[i]?=some (cond (co_ p.1.1 g.1.2.2.2.2.2.2.2) 0 (-1)):=by
      unfold xm_
      rw[d6_,hp]
      rfl
    have hfp:=te_ (g:=g) hp
    have hnt:=bt0 hf0
    simp only[dlt hi,a4_,ah_ hp,ah_ hv,a0_,ak3 hg.room ok.room (hG.pI.v p (au_ hp)).st,show ((0:Int)==0)=true from rfl,c3_,az_ (show Sm i by show _≤1000000000;omega),ci_ (show Sm near.length by show _≤1000000000;omega)]
    cases hc:co_ p.1.1 g.1.2.2.2.2.2.2.2 with
    | true =>
      rw[hc] at hf0 hfp hnt
      refine⟨_,rfl,near++[(i:Int)],far.set i 0,rfl,by rw[g2_,hl],λj => ?_,λx hx => ?_,λj hj hf => ?_,?_⟩
      · rcases o7_ j i with hji | hji | hji
        · rw[b6_ (by omega),hj,if_pos hji,if_pos (by omega)]
        · subst hji
          rw[e9_ (by omega),if_pos (by omega),hf0]
          rfl
        · rw[b6_ (by omega),hj,if_neg (by omega),if_neg (by omega)]
      · rcases b8_.1 hx with hx | hx
        · obtain⟨j,a,b,c⟩:=h1 x hx
          exact⟨j,a,by omega,c⟩
        · rw[e8_] at hx
          exact⟨i,hx,by omega,hfp⟩
      · rcases m0_ j i with hji | hji
        · exact l7_ _ (h2 j hji hf)
        · obtain rfl:j=i:=by omega
          exact o9_ _ (e8_.2 rfl)
      · rw[a8_,c8_,hnt]
        show _+1+(_+if (0:Int)<0 then 1 else 0)=i+1
        rw[if_neg (by omega)]
        omega
    | false =>
      rw[hc] at hf0 hfp hnt
      refine⟨_,rfl,near,far,rfl,hl,λj => ?_,λx hx => ?_,λj hj hf => ?_,?_⟩
      · rcases o7_ j i with hji | hji | hji
        · rw[hj,if_pos hji,if_pos (by omega)]
        · subst hji
          rw[hv,if_pos (by omega),hf0,hv1]
          rfl
        · rw[hj,if_neg (by omega),if_neg (by omega)]
      · obtain⟨j,a,b,c⟩:=h1 x hx
        exact⟨j,a,by omega,c⟩
      · rcases m0_ j i with hji | hji
        · exact h2 j hji hf
        · obtain rfl:j=i:=by omega
          rw[hfp] at hf
          cases hf
      · rw[hnt]
        show _+(_+if (-1:Int)<0 then 1 else 0)=i+1
        rw[if_pos (by omega)]
        omega
  · obtain⟨near,far,rfl,hl,hj,h1,h2,h3⟩:=hz
    have hff:far=xm_ g ps:=f1_ λj=>by
      rw[hj]
      split
      · rfl
      · rw[b3_ (by rw[f5_];omega),b3_ (by omega)]
    subst hff
    rw[g9_ (by omega)] at h3
    refine⟨_,by simp only[dnl,a1_];rfl,?_⟩
    simp only
    rw[ud_ (by omega) (by omega),a0_,c3_]
    refine tq_ es.length (λ(i:Nat) (z:Int×(List (List Int)×Unit))=>∃ bk,z=((i:Int),(bk,()))∧BkI (esQ Q es) ps.length i bk) ⟨_,rfl,f5_,λt l hl => ?_⟩ (λi z hi hz => ?_) (λz hz => ?_)
    · rw[j9_] at hl
      split at hl
      · obtain rfl:=a5_ hl
        exact⟨p3_ _,λy=>⟨(λh=>by cases h),λ⟨j,h,_⟩=>by omega⟩⟩
      · cases hl
    · obtain⟨bk,rfl,hb1,hb2⟩:=hz
      obtain⟨row,hrow⟩:=aw_ hi
      have hrl:=hG.eL row (au_ hrow)
      simp only[dlt hi,a4_,ah_ hrow,a0_]
      have:=tq_ (υ:=(Int×(List (List Int)×Unit))⊕(List (List Int)×Unit)) row.length (λ(k:Nat) (z:Int×(List (List Int)×Unit))=>∃ bk',z=((k:Int),(bk',()))∧bk'.length=ps.length∧∀ (t:Nat) l,bk'[t]?=some l→l.length≤i * 480+k∧∀ y:Int,y ∈ l↔((∃ j:Nat,j<i∧y=(j:Int)∧∃ row,(esQ Q es)[j]?=some row∧∃ x ∈ row,x.2=(t:Int))∨(y=(i:Int)∧∃ x ∈ (row.take k).filter Q,x.2=(t:Int))))
        (body:=rowB (i:Int) row) (z0:=(0,(bk,()))) (K:=λv22=>some (inl ((w64 ((i:Int)+1)),(v22.1,())))) (Q:=λy=>∃ z',y=inl z'∧∃ bk,z'=(((i+1:Nat):Int),(bk,()))∧BkI (esQ Q es) ps.length (i+1) bk)
        ⟨bk,rfl,hb1,λt l hl=>⟨(hb2 t l hl).1,λy=>by
          rw[(hb2 t l hl).2 y,k4_,List.filter_nil]
          exact⟨.inl,λh=>h.elim id λ⟨_,x,h,_⟩=>(by cases h)⟩⟩⟩ (λk z hk hz => ?_) (λz hz => ?_)
      · obtain⟨y,ey,z',rfl,bk2,rfl,hB⟩:=this
        exact⟨_,ey,bk2,rfl,hB⟩
      · obtain⟨bk',rfl,hb3,hb4⟩:=hz
        obtain⟨x,hxk⟩:=aw_ hk
        obtain⟨x0,x1⟩:=hx row (au_ hrow) x (au_ hxk)
        obtain⟨l,hl⟩:=aw_ (l:=bk') (i:=x.2.toNat) (by omega)
        have hat:at? bk' x.2=some l:=by rw[show x.2=((x.2.toNat:Nat):Int) by omega];exact ah_ hl
        obtain⟨q1,q2⟩:=hb4 _ l hl
        refine⟨_,hR.st (i:Int) row k x bk' l hxk hat (by omega) (by omega),_,rfl,by cases Q x<;>simp[hb3],λt l' hl' => ?_⟩
        have htk:∀ y:Int,(∃ e ∈ (row.take (k+1)).filter Q,e.2=y)↔((∃ e ∈ (row.take k).filter Q,e.2=y)∨(Q x=true∧x.2=y)):=λy=>by
          rw[d3_,hxk,o0_]
          constructor
          · rintro⟨e,he,h⟩
            rcases b8_.1 he with he | he
            · exact .inl ⟨e,he,h⟩
            · have h2:=d1_.1 he
              have:e=x:=by simpa using h2.1
              rw[this] at h h2
              exact .inr ⟨h2.2,h⟩
          · rintro (⟨e,he,h⟩ | ⟨hq,h⟩)
            · exact⟨e,l7_ _ he,h⟩
            · exact⟨x,o9_ _ (d1_.2 ⟨by simp,hq⟩),h⟩
        have skip:∀ l',bk'[t]?=some l'→(Q x=true→x.2≠(t:Int))→l'.length≤i * 480+(k+1)∧∀ y:Int,y ∈ l'↔((∃ j:Nat,j<i∧y=(j:Int)∧∃ row,(esQ Q es)[j]?=some row∧∃ x ∈ row,x.2=(t:Int))∨(y=(i:Int)∧∃ x ∈ (row.take (k+1)).filter Q,x.2=(t:Int))):=λl' hl' hne=>by
          obtain⟨r1,r2⟩:=hb4 t l' hl'
          refine⟨by omega,λy => ?_⟩
          rw[r2 y,htk]
          constructor
          · rintro (h | ⟨h,h'⟩)
            · exact .inl h
            · exact .inr ⟨h,.inl h'⟩
          · rintro (h | ⟨h,h' | ⟨h1,h2⟩⟩)
            · exact .inl h
            · exact .inr ⟨h,h'⟩
            · exact absurd h2 (hne h1)
        cases hQ:Q x with
        | false =>
          rw[hQ] at hl'
          exact skip l' hl' (λe=>by rw[hQ] at e;cases e)
        | true =>
          rw[hQ,a4_] at hl'
          by_cases ht:x.2.toNat=t
          · rw[ht,e9_ (by omega)] at hl'
            obtain rfl:=a5_ hl'
            rw[ht] at q2
            have hxt:x.2=(t:Int):=by omega
            refine⟨by rw[a8_,c8_];omega,λy => ?_⟩
            rw[b8_,e8_,q2 y,htk]
            constructor
            · rintro ((h | ⟨h,h'⟩) | h)
              · exact .inl h
              · exact .inr ⟨h,.inl h'⟩
              · exact .inr ⟨h,.inr ⟨hQ,hxt⟩⟩
            · rintro (h | ⟨h,h' | h'⟩)
              · exact .inl (.inl h)
              · exact .inl (.inr ⟨h,h'⟩)
              · exact .inr h
          · rw[b6_ ht] at hl'
            exact skip l' hl' (λ_=>by omega)
      · obtain⟨bk',rfl,hb3,hb4⟩:=hz
        refine⟨_,hR.en (i:Int) row bk',_,rfl,_,rfl,bk',by simp only[az_ (show Sm i by show _≤1000000000;omega)],hb3,λt l hl => ?_⟩
        obtain⟨r1,r2⟩:=hb4 t l hl
        refine⟨by omega,λy => ?_⟩
        rw[r2 y,d7_]
        constructor
        · rintro (⟨j,a,b⟩ | ⟨h,h'⟩)
          · exact⟨j,by omega,b⟩
          · exact⟨i,by omega,h,_,cu9 hrow,h'⟩
        · rintro⟨j,a,b,row',c,d⟩
          rcases m0_ j i with hji | hji
          · exact .inl ⟨j,hji,b,row',c,d⟩
          · obtain rfl:j=i:=by omega
            rw[cu9 hrow] at c
            obtain rfl:=a5_ c
            exact .inr ⟨b,d⟩
    · obtain⟨bk,rfl,hB⟩:=hz
      rw[← hesQ] at hB
      refine⟨_,by simp only[dnl,a1_];rfl,?_⟩
      simp only
      refine bk1 (λnear far=>BI (esQ Q es) (rb_ g ps) ps.length near far) (λnear far=>near.length+nd_ far) (λh tl far I => ?_) (λfar I => ?_) (cp8 h1 h2 h3)
      rotate_left
      · exact⟨_,rfl,_,rfl,far,rfl,⟨I.len,BI_end I⟩,λi v h=>by have:=I.bd i v h;omega⟩
      obtain⟨d,hd,hd0⟩:=I.nr h (f4_ ..)
      obtain⟨hi,hhi,hdi⟩:=sk_ hd
      have hlt:=ak_ hdi
      have hIl:=I.len
      have hIm:=I.ms
      have hIb:=I.bd hi d hdi
      obtain⟨bs,hbs⟩:=aw_ (l:=bk) (i:=hi) (by have:=hB.1;omega)
      have hbsl:=(hB.2 hi bs hbs).1
      rw[hesQ] at hbsl
      have hbe:=BkI_all hB hbs
      have hatb:at? bk h=some bs:=by rw[hhi];exact ah_ hbs
      have hat0:at? (h::tl) 0=some h:=rfl
      have hsub:sub? (h::tl) 1 ((h::tl).length:Int)=some tl:=by
        unfold sub?
        rw[if_pos ⟨by omega,by rw[c5_];omega,n5_ _⟩,c3_,d7_]
        rfl
      simp only[show decide ((0:Int)<((h::tl).length:Int))=true from b4_ (by rw[c5_];omega),a4_,hat0,hsub,hatb,a0_]
      refine tq_ bs.length (λ(k:Nat) (z:List Int×(Int×(List Int×Unit)))=>∃ pu far',z=(tl++pu,((k:Int),(far',())))∧AI bs d far k pu far') ⟨[],far,by rw[e3_];rfl,cp9 bs d far⟩ (λk z hk hz => ?_) (λz hz => ?_)
      · obtain⟨pu,far',rfl,A⟩:=hz
        obtain⟨y,hy⟩:=aw_ hk
        obtain⟨j,hj2,row,hrow,x,hxr,hxe⟩:=(hbe y).1 (au_ hy)
        have hrow':=ak_ hrow
        rw[hesQ] at hrow'
        have hAl:=A.len
        have hAm:=A.ms
        obtain⟨v,hv⟩:=aw_ (l:=far') (i:=j) (by omega)
        have hvy:at? far' y=some v:=by rw[hj2];exact ah_ hv
        have hdh:at? far' h=some d:=by rw[hhi];exact ah_ (A.keep hi d hdi hd0)
        rw[c5_] at hIm
        by_cases hv0:v<0
        · refine⟨_,?_,pu++[y],_,rfl,AI_add hd0 A hy hvy hv0⟩
          simp only[dlt hk,a4_,ah_ hy,hvy,hdh,a0_,b4_ hv0,ci_ (show Sm (tl++pu).length by rw[a8_];show _≤1000000000;omega),az_ (show Sm k by show _≤1000000000;omega),b5_,ei_ (n:=d+1) (by omega) (by omega)]
        · refine⟨_,?_,pu,far',rfl,AI_skip A hy hvy (by omega)⟩
          simp only[dlt hk,a4_,ah_ hy,hvy,a0_,b1_ hv0,a1_,az_ (show Sm k by show _≤1000000000;omega)]
      · obtain⟨pu,far',rfl,A⟩:=hz
        refine⟨_,by simp only[dnl,a1_];rfl,_,rfl,_,_,rfl,BI_step (by rw[hesQ,hes]) hxQ I hd (λy=>by rw[hhi];exact hbe y) A,?_⟩
        have:=A.ms
        show (tl++pu).length+nd_ far'<(h::tl).length+nd_ far
        rw[a8_,c5_]
        omega
theorem at9 {rowB} {Q:ad_→Bool} (hR:RowOk rowB Q) {g:ab_} (hg:SmG g) (h0:br_ g=0) {ps:List aa_} {es:List (List ad_)} (hG:GI g ps es) (hes:es.length=ps.length):∃ D,(D.length=ps.length∧LC (esQ Q es) (rb_ g ps) D)∧(∀ (i:Nat) (v:Int),D[i]?=some v→v≤(ps.length:Int))∧∀ {τ:Type} (K:List Int×Unit→Option τ),ce6 rowB g (ps,es) K=K (D,()):=by
  obtain⟨y,e,D,rfl,h,hb⟩:=ck9 hR hg h0 hG hes
  refine⟨D,h,hb,λK => ?_⟩
  rw[bu1,e,a0_]
theorem ar3:RowOk rowE (λ_=>true):=by
  refine⟨λi row k x bk l hx hl h1 h2 => ?_,λi row bk => ?_⟩
  · unfold rowE
    simp only[dlt (ak_ hx),a4_,ah_ hx,a0_,hl,ci_ (show Sm l.length by show _≤1000000000;omega),d5_,h4_,az_ (show Sm k by show _≤1000000000;omega)]
  · unfold rowE
    simp only[dnl,a1_]
theorem ah0 (es:List (List ad_)):esQ (λ_=>true) es=es:=by
  unfold esQ
  refine e4_ (n4_ λl hl => ?_) (List.map_id _)
  exact List.filter_eq_self.2 λx hx=>rfl
theorem mea_eq {g:ab_} (hg:SmG g) (h0:br_ g=0) {ps:List aa_} {es:List (List ad_)} (hG:GI g ps es) (hes:es.length=ps.length):∃ D,(D.length=ps.length∧LC es (rb_ g ps) D)∧(∀ (i:Nat) (v:Int),D[i]?=some v→v≤(ps.length:Int))∧∀ {τ:Type} (K:List Int×Unit→Option τ),meaK g (ps,es) K=K (D,()):=by
  have:=at9 ar3 hg h0 hG hes
  rw[ah0] at this
  exact this
end
section
set_option maxRecDepth 10000

end
section
set_option maxRecDepth 10000
noncomputable def shoX (G:bq_) (v40:List Int×Unit):Option (List ae_×(Int×Unit)) :=
 ((at? v40.1 0).bind λv41 =>
 ((at? v40.1 0).bind λv42 =>
 (cond (decide (v42<0))
 (some ([],(50,())))
 ((ag_ (ρ:=(((List ae_)×Unit)×Unit)) (λ(v43:(Int×(((List ae_)×Unit)×Unit))) =>
 ((at? v40.1 v43.1).bind λv44 =>
 ((at? v40.1 v43.1).bind λv45 =>
 (cond (decide (0<v45))
 ((((at? G.2 v43.1).bind λv46 =>
 ((ag_ (ρ:=(((List Int)×(Unit×(((List ae_)×Unit)×Unit)))⊕((List Int)×(((List ae_)×Unit)×Unit)))) (λ(v47:(Int×((List Int)×(Unit×(((List ae_)×Unit)×Unit))))) =>
 (cond (decide (v47.1<(v46.length:Int)))
 ((at? v46 v47.1).bind λv48 =>
 ((at? v40.1 v48.2).bind λv49 =>
 ((at? v40.1 v48.2).bind λv50 =>
 ((at? v40.1 v43.1).bind λv51 =>
 ((at? v40.1 v43.1).bind λv52 =>
 (cond (v50==(w64 (v52 - 1)))
 ((at? v40.1 v43.1).bind λv53 =>
 ((at? v40.1 v43.1).bind λv54 =>
 (cond (decide (0<v54))
 ((push? (α:=ae_) v47.2.2.2.1.1 [v48.1]).bind λv55 =>
 ((at? v47.2.1 0).bind λv56 =>
 (some (inr (inr ((v47.2.1.set (0:Int).toNat v48.2),((v55,()),())))))))
 (some (inl ((w64 (v47.1+1)),(v47.2.1,((),((v47.2.2.2.1.1,()),())))))))))
 (some (inl ((w64 (v47.1+1)),(v47.2.1,((),((v47.2.2.2.1.1,()),()))))))))))))
 (some (inr (inl (v47.2.1,((),((v47.2.2.2.1.1,()),())))))))) (0,([v43.1],((),((v43.2.1.1,()),()))))).bind λv57 =>
 (bx_ v57 (λv58=>(some (v58.1,((v58.2.2.1.1,()),()))))
 (λv59=>(some v59)))))).bind λv60 =>
 ((at? v60.1 0).bind λv61 =>
 (some (inl (v61,((v60.2.1.1,()),()))))))
 (some (inr ((v43.2.1.1,()),()))))))) (0,(([],()),()))).bind λv62 =>
 (some (v62.1.1,(0,())))))))
theorem ch2:gf_=λa0=>(cf_ a0).bind λv0=>cond (v0.2.1 != 0) (cond (v0.2.1 != 0) (some ([],(v0.2.1,()))) none) (meaK a0 v0.1 λv40=>shoX v0.1 v40):=by
  kernel_rfl
def shp (es:List (List ad_)) (D:List Int):Nat→Int→List ae_
  | 0,_=>[]
  | k+1,i=>match ((at? es i).getD []).find? (λx=>gi D x.2==(k:Int)) with
    | none=>[]
    | some x=>x.1::shp es D k x.2
theorem yw_ {α ρ:Type} {q:α→Bool} {f:α→ρ}:∀ (m:List α) (k:Nat),fu_ (λ_ y=>cond (q y) (some (f y)) none) k m=(m.find? q).map f
  | [],_=>rfl
  | x::m,k=>by
    unfold fu_
    cases hq:q x with
    | true=>rw[o1_ hq];rfl
    | false =>
      rw[o2_ (by rw[hq];decide)]
      exact yw_ m (k+1)
theorem zx_ {σ ρ υ:Type} {body:σ→Option (σ⊕ρ)} {s:σ} {r:ρ} {K:ρ→Option υ} {x:Option υ} (h:ag_ body s=some r) (hk:K r=x):(ag_ body s).bind K=x:=by
  rw[h,a0_,hk]
theorem am7 {σ ρ:Type} (F:Int→List ae_→σ) (G:List ae_→ρ) {es:List (List ad_)} {fin:Nat→Bool} {D:List Int} (hL:LC es fin D) (hD:D.length≤3000) (hxx:∀ l ∈ es,∀ x ∈ l,0≤x.2∧x.2<(D.length:Int)) {body:σ→Option (σ⊕ρ)}
    (hz:∀ i acc,at? D i=some 0→body (F i acc)=some (.inr (G acc)))
    (hs:∀ (i:Int) (k:Nat) acc row x,at? D i=some ((k+1:Nat):Int)→k≤1000000→acc.length≤1000000→at? es i=some row→row.find? (λx=>gi D x.2==(k:Int))=some x→body (F i acc)=some (.inl (F x.2 (acc++[x.1])))) :
    ∀ (k:Nat) (i:Int) (acc:List ae_),at? D i=some (k:Int)→acc.length+k≤1000000→ag_ body (F i acc)=some (G (acc++shp es D k i))
  | 0,i,acc,h,_=>by
    unfold shp
    rw[e3_]
    exact bi_ (hz i acc h)
  | k+1,i,acc,h,hk=>by
    obtain⟨n,rfl,hn⟩:=sk_ h
    obtain⟨l,x,hl,hx,hat⟩:=hL.dn n k hn
    have hatl:at? es (n:Int)=some l:=ah_ hl
    cases hf:l.find? (λx=>gi D x.2==(k:Int)) with
    | none =>
      have:=p4_.1 hf x hx
      rw[ji_ hat] at this
      simp at this
    | some y =>
      have hy:gi D y.2=(k:Int):=by
        have:=List.find?_some hf
        exact f2_.1 this
      obtain⟨y0,y1⟩:=hxx l (au_ hl) y (n1_ hf)
      have haty:at? D y.2=some (k:Int):=by rw[mu_ y0 y1,hy]
      have:=am7 F G hL hD hxx hz hs k y.2 (acc++[y.1]) haty (by rw[a8_,c8_];omega)
      refine bg_ (hs (n:Int) k acc l y h (by omega) (by omega) hatl hf) ?_
      have e:shp es D (k+1) (n:Int)=y.1::shp es D k y.2:=by
        rw[shp,hatl,e5_,hf]
      rw[this,e,b5_]
      rfl
theorem shoX_eq {ps:List aa_} {es:List (List ad_)} {fin:Nat→Bool} {D:List Int} (hL:LC es fin D) (hD:D.length≤3000) (h1:1≤D.length) (hb:∀ (i:Nat) (v:Int),D[i]?=some v→v≤(D.length:Int)) (hes:es.length=D.length) (hel:∀ l ∈ es,l.length≤480) (hxx:∀ l ∈ es,∀ x ∈ l,0≤x.2∧x.2<(D.length:Int)) :
    shoX (ps,es) (D,())=some (cond (decide (gi D 0<0)) ([],(50,())) (shp es D (gi D 0).toNat 0,(0,()))):=by
  unfold shoX
  have h0:at? D 0=some (gi D 0):=mu_ (by omega) (by omega)
  simp only[h0,a0_]
  cases hc:decide (gi D 0<0) with
  | true=>rfl
  | false =>
  have hc:=c1_ hc
  have hle:gi D 0≤(D.length:Int):=by
    obtain⟨i,_,hi⟩:=sk_ h0
    exact hb i _ hi
  simp only[a1_]
  refine zx_ (r:=((shp es D (gi D 0).toNat 0,()),())) ?_ rfl
  refine am7 (F:=λi acc=>(i,((acc,()),()))) (G:=λacc=>((acc,()),())) hL hD hxx (λi acc h => ?_) (λi k acc row x h hk ha hrow hf => ?_) (gi D 0).toNat 0 [] (by rw[h0];congr 1;omega) (by show 0+_≤_;omega)
  · simp only[h,a0_]
    rfl
  · have hrl:row.length≤480:=by
      obtain⟨j,_,hj⟩:=sk_ hrow
      exact hel row (au_ hj)
    simp only[h,a0_,show decide ((0:Int)<((k+1:Nat):Int))=true from b4_ (by omega),a4_,hrow]
    refine e4_ (congrArg (λo=>Option.bind o _) (bo_ row (λ_ y=>cond (gi D y.2==(k:Int)) (some (inr ([y.2],((acc++[y.1],()),())):((List Int)×(Unit×(((List ae_)×Unit)×Unit)))⊕((List Int)×(((List ae_)×Unit)×Unit)))) none) (λj=>((j:Int),([i],((),((acc,()),()))))) (r0:=inl ([i],((),((acc,()),())))) (x:=some ([x.2],((acc++[x.1],()),()))) (λj y hy => ?_) ?_ ?_)) ?_
    · obtain⟨jr,_,hj⟩:=sk_ hrow
      obtain⟨y0,y1⟩:=hxx row (au_ hj) y (au_ hy)
      have hjl:=ak_ hy
      simp only[dlt hjl,a4_,ah_ hy,mu_ y0 y1,a0_,ei_ (n:=((k+1:Nat):Int) - 1) (by omega) (by omega),show ((k+1:Nat):Int) - 1=(k:Int) by omega,ei_ (n:=(k:Int)) (by omega) (by omega),az_ (show Sm j by show _≤1000000000;omega),ci_ (show Sm acc.length by show _≤1000000000;omega)]
      cases gi D y.2==(k:Int)<;>rfl
    · simp only[dnl,a1_]
    · rw[yw_,hf]
      rfl
    · rfl
theorem au7 (g:ab_) (p:aa_):∀ (ms:List ae_) (e e':List ad_) (ps ps':List aa_),inn g p ms e ps=some (e',ps')→ps.length≤ps'.length
  | [],e,e',ps,ps',h=>by
    unfold inn at h
    obtain⟨_,rfl⟩:=h6_ (a5_ h)
    exact c4_ _
  | m::ms,e,e',ps,ps',h=>by
    unfold inn at h
    cases hw:wh ps ((stepP g p m).getD eP) with
    | some n =>
      simp only[hw] at h
      exact au7 g p ms _ _ _ _ h
    | none =>
      simp only[hw] at h
      split at h
      · cases h
      · have:=au7 g p ms _ _ _ _ h
        rw[a8_] at this
        omega
theorem br6 (g:ab_):∀ (n i:Nat) (ps ps':List aa_) (es es':List (List ad_)),out g n i ps es=some (ps',es')→ps.length≤ps'.length
  | 0,i,ps,ps',es,es',h=>by
    unfold out at h
    obtain⟨rfl,_⟩:=h6_ (a5_ h)
    exact c4_ _
  | n+1,i,ps,ps',es,es',h=>by
    unfold out at h
    cases hp:ps[i]? with
    | none =>
      simp only[hp] at h
      obtain⟨rfl,_⟩:=h6_ (a5_ h)
      exact c4_ _
    | some p =>
      simp only[hp] at h
      cases hin:inn g p (pmv g p) [] ps with
      | none=>simp only[hin] at h;cases h
      | some z =>
        simp only[hin] at h
        exact c7_ (au7 g p _ _ _ _ _ hin) (br6 g n _ _ _ _ _ h)
theorem by6 {g:ab_} (he:(exG g).2.1=0):1≤(exG g).1.1.length:=by
  unfold exG at he ⊢
  cases hb:(lb_ g).2.1 != 0 with
  | true =>
    rw[hb] at he
    rw[o5_] at hb
    exact absurd he hb
  | false =>
  rw[hb,a1_] at he
  cases ho:out g 3001 0 [(lb_ g).1] [] with
  | none =>
    rw[ho] at he
    exact absurd (show (2:Int)=0 from he) (by decide)
  | some z=>exact br6 g _ _ _ _ _ _ ho
theorem as8 {g:ab_} (hg:SmG g):∃ D,(((exG g).2.1≠0∧gf_ g=some ([],((exG g).2.1,())))∨((exG g).2.1=0∧D.length=(exG g).1.1.length∧LC (exG g).1.2 (rb_ g (exG g).1.1) D∧gf_ g=some (cond (decide (gi D 0<0)) ([],(50,())) (shp (exG g).1.2 D (gi D 0).toNat 0,(0,()))))):=by
  rw[ch2]
  simp only
  rw[jr_ hg,a0_]
  cases hE:(exG g).2.1 != 0 with
  | true =>
    rw[o5_] at hE
    exact⟨[],.inl ⟨hE,rfl⟩⟩
  | false =>
  have hE:(exG g).2.1=0:=by simpa using hE
  obtain⟨h0,hG,hes⟩:=cu7 hg hE
  obtain⟨D,h1,hb,h2⟩:=mea_eq hg h0 hG hes
  have hpos:=by6 hE
  have hn:=hG.pI.n
  refine⟨D,.inr ⟨hE,h1.1,h1.2,?_⟩⟩
  simp only[a1_]
  rw[show (exG g).1=((exG g).1.1,(exG g).1.2) from rfl,h2]
  exact shoX_eq h1.2 (by rw[h1.1];exact hn) (by rw[h1.1];exact hpos) (by rw[h1.1];exact hb) (by rw[h1.1];exact hes) hG.eL (λl hl x hx=>by rw[h1.1];exact (hG.eI l hl x hx).1)
def g0:ab_:=(([[104,97,108,108],[118,97,117,108,116]],([([98,111,120],(0,(2,0))),([100,111,111,114],(0,(2,0)))],([([107,101,121],(0,[(0,(1,false))]))],([(0,(1,[(1,(1,false))]))],([([111,112,101,110],(0,(0,([],([],([(0,1)],([],[]))))))),([116,117,114,110],(0,((-1),([0],([],([(1,1)],([0],[])))))))],([],(1,[(1,(1,false))]))))))),([(2,4)],([[3,1]],([([108,101,97,102],(0,(0,([],(2,(0,(1,(4,(0,([],false)))))))))),([98,97,99,107],(0,(0,([(0,(0,false))],(3,(1,(0,(0,(0,([],false)))))))))),([99,97,114,100],(1,((-1),([],(0,(0,(0,(0,(0,([],false))))))))))],1))))
end
section
set_option maxRecDepth 10000
noncomputable def dst (es:List (List ad_)) (fin:Nat→Bool) (n:Nat):List Int:=Classical.epsilon λD=>D.length=n∧LC es fin D
theorem bz1 {es:List (List ad_)} {fin:Nat→Bool} {n:Nat} {D:List Int} (h1:D.length=n) (h2:LC es fin D):dst es fin n=D:=by
  have h:(dst es fin n).length=n∧LC es fin (dst es fin n):=Classical.epsilon_spec (p:=λD:List Int=>D.length=n∧LC es fin D) ⟨D,h1,h2⟩
  exact cd4 h.2 h2 (by omega)
section
variable {g:ab_} (hg:SmG g) (h0:br_ g=0) {ps:List aa_} {es:List (List ad_)} (hG:GI g ps es) (hes:es.length=ps.length)
include hg h0 hG hes
theorem bu0 {rowB} {Q:ad_→Bool} (hR:RowOk rowB Q) {τ:Type} (K:List Int×Unit→Option τ):ce6 rowB g (ps,es) K=K (dst (esQ Q es) (rb_ g ps) ps.length,()):=by
  obtain⟨D,⟨h1,h2⟩,_,h3⟩:=at9 hR hg h0 hG hes
  rw[h3,bz1 h1 h2]
theorem cv4 (act:Int):(dst (esF act es) (rb_ g ps) ps.length).length=ps.length∧LC (esF act es) (rb_ g ps) (dst (esF act es) (rb_ g ps) ps.length):=by
  obtain⟨D,e,h1,h2⟩:=ul_ hg h0 hG hes act
  rw[bz1 h1 h2]
  exact⟨h1,h2⟩
end
def rowQ (Q:ad_→Bool) (i:Int) (row:List ad_) (z:Int×(List (List Int)×Unit)):Option ((Int×(List (List Int)×Unit))⊕(List (List Int)×Unit)):=match at? row z.1 with
  | none=>some (.inr (z.2.1,()))
  | some x=>some (.inl (w64 (z.1+1),(cond (Q x) (z.2.1.set x.2.toNat ((at? z.2.1 x.2).getD []++[i])) z.2.1,())))
theorem rowQ_ok (Q:ad_→Bool):RowOk (rowQ Q) Q:=by
  refine⟨λi row k x bk l hx hl h1 h2 => ?_,λi row bk => ?_⟩
  · unfold rowQ
    simp only[ah_ hx,hl,e5_,az_ (show Sm k by show _≤1000000000;omega)]
  · unfold rowQ
    simp only[ap6 (c4_ row.length)]
theorem dst_le {g:ab_} (hg:SmG g) (h0:br_ g=0) {ps:List aa_} {es:List (List ad_)} (hG:GI g ps es) (hes:es.length=ps.length) (act:Int):∀ (i:Nat) (v:Int),(dst (esF act es) (rb_ g ps) ps.length)[i]?=some v→v≤(ps.length:Int):=by
  obtain⟨D,⟨h1,h2⟩,h3,_⟩:=at9 (rowQ_ok (kp act)) hg h0 hG hes
  rw[show dst (esF act es) (rb_ g ps) ps.length=D from bz1 h1 h2]
  exact h3
end
section
set_option maxRecDepth 100000
def G0:bq_:=([(([0,0],([0],[0])),[true,true,false]),(([1,0],([0],[0])),[true,true,false]),(([1,0],([-2],[0])),[true,true,false]),(([1,1],([-1],[0])),[true,true,false]),(([1,1],([-1],[1])),[true,true,true]),(([1,1],([-1],[0])),[true,true,true])],
  [[((0,(4,0)),1)],[((0,(2,0)),2),((0,(4,0)),1)],[((0,(3,0)),1),((0,(4,0)),2),((0,(4,1)),3)],[((0,(1,0)),4),((0,(4,0)),3)],[((0,(1,0)),5)],[((0,(1,0)),4),((0,(4,0)),5)]])
def D0:List Int:=[3,2,1,0,0,0]
theorem exG_g0:exG g0=(G0,(0,())):=by kernel_rfl
theorem SmG_g0:SmG g0:=by
  refine⟨⟨?_,?_,?_,?_,?_,?_,?_,?_,?_,?_,?_,?_,?_⟩,?_,?_,?_,?_,?_,?_,?_,?_,?_⟩<;>decide
def chkD (es:List (List ad_)) (fin:Nat→Bool) (D:List Int):Bool :=
  (List.range D.length).all λi=>match D[i]? with
    | none=>false
    | some v=>decide (-1≤v)&&((v==0)==fin i)&&match es[i]? with
      | none=>false
      | some l=>(decide (v≤0)||l.any (λx=>at? D x.2==some (v - 1)))&&l.all λx=>match at? D x.2 with
        | none=>true
        | some k=>decide (k<0)||(decide (0≤v)&&decide (v≤k+1))
theorem ah7 {es:List (List ad_)} {fin:Nat→Bool} {D:List Int} (h:chkD es fin D=true) {i:Nat} {v:Int} (hv:D[i]?=some v) :
    -1≤v∧((v==0)=fin i)∧∃ l,es[i]?=some l∧(v≤0∨∃ x ∈ l,at? D x.2=some (v - 1))∧∀ x ∈ l,∀ k,at? D x.2=some k→k<0∨(0≤v∧v≤k+1):=by
  have:=e6_.1 h i (k5_.2 (ak_ hv))
  simp only[hv] at this
  rw[a2_,a2_,h0_,f2_] at this
  obtain⟨⟨h1,h2⟩,h3⟩:=this
  refine⟨h1,h2,?_⟩
  cases hl:es[i]? with
  | none=>rw[hl] at h3;cases h3
  | some l =>
    simp only[hl] at h3
    rw[a2_,c9_,h0_,g1_,e6_] at h3
    refine⟨l,rfl,h3.1.imp id λ⟨x,hx,e⟩=>⟨x,hx,f2_.1 e⟩,λx hx k hk => ?_⟩
    have:=h3.2 x hx
    simp only[hk] at this
    rw[c9_,a2_,h0_,h0_,h0_] at this
    exact this
theorem chkD_LC {es:List (List ad_)} {fin:Nat→Bool} {D:List Int} (hes:es.length=D.length) (h:chkD es fin D=true):LC es fin D:=by
  refine⟨λi v hv=>(ah7 h hv).1,λi v hv => ?_,λi k hk => ?_,λi l x k hl hx hat => ?_⟩
  · rw[← (ah7 h hv).2.1,f2_]
  · obtain⟨_,_,l,hl,h1,_⟩:=ah7 h hk
    rcases h1 with h1 | ⟨x,hx,e⟩
    · omega
    · refine⟨l,x,hl,hx,?_⟩
      rw[e]
      congr 1
      omega
  · obtain⟨v,hv⟩:=aw_ (l:=D) (i:=i) (by have:=ak_ hl;omega)
    obtain⟨_,_,l',hl',_,h2⟩:=ah7 h hv
    rw[hl] at hl'
    obtain rfl:=a5_ hl'
    rcases h2 x hx k hat with h3 | h3
    · omega
    · exact⟨v,hv,h3⟩
theorem chk_g0:chkD G0.2 (rb_ g0 G0.1) D0=true:=by kernel_rfl
theorem cp3:gf_ g0=some ([(0,(4,0)),(0,(2,0)),(0,(4,1))],(0,())):=by
  obtain⟨D,h⟩:=as8 SmG_g0
  rw[exG_g0] at h
  rcases h with ⟨h,_⟩ | ⟨_,h1,h2,h3⟩
  · exact absurd rfl h
  · have hD:D=D0:=cd4 h2 (chkD_LC rfl chk_g0) h1
    have e:((cond (decide (gi D0 0<0)) ([],(50,())) (shp G0.2 D0 (gi D0 0).toNat 0,(0,()))):List ae_×(Int×Unit))=([(0,(4,0)),(0,(2,0)),(0,(4,1))],(0,())):=by kernel_rfl
    rw[h3,hD]
    exact congrArg some e
theorem il_:er_=some (true,()):=by
  unfold er_
  refine e4_ (congrArg (λo=>Option.bind o _) cp3) ?_
  kernel_rfl
end
section
set_option maxRecDepth 10000

end
section
set_option maxRecDepth 10000

end
section
set_option maxRecDepth 10000
theorem VS_of {r:af_} {s:ai_} (hk:ckS r s=0):VS r s:=by
  unfold ckS at hk
  cases hl:yp_ r s with
  | true=>rw[hl] at hk;exact absurd (show (28:Int)=0 from hk) (by decide)
  | false =>
  rw[hl,a1_] at hk
  obtain⟨l1,l2,l3⟩:=ae3 hl
  obtain⟨h1,hk⟩:=eg_ hk (ht_ (λi x=>oo_ (by decide)) _ _)
  obtain⟨h2,hk⟩:=eg_ hk (ht_ (λi x=>oo_ (by decide)) _ _)
  obtain⟨h3,_⟩:=eg_ hk (ht_ (λi x=>oo_ (by decide)) _ _)
  exact⟨l1,l2,l3,λi n hn=>gx_ (cl_ h1 hn),λi n hn=>gx_ (cl_ h2 hn),λi n hn=>gx_ (cl_ h3 hn)⟩
noncomputable def pck (g:ab_) (p:aa_):Int:=cond (he_ g.1 p.1 != 0) (he_ g.1 p.1) (cond ((p.2.length:Int) != (g.2.2.2.1.length:Int)) 28 0)
theorem az4 {g:ab_} (h0:br_ g=0) {p:aa_} (h:pck g p=0):VP g p:=by
  have ok:=cd_ h0
  unfold pck at h
  cases hs:he_ g.1 p.1 != 0 with
  | true =>
    rw[hs] at h
    rw[o5_] at hs
    exact absurd h hs
  | false =>
  rw[hs,a1_] at h
  cases hl:(p.2.length:Int) != (g.2.2.2.1.length:Int) with
  | true=>rw[hl] at h;exact absurd (show (28:Int)=0 from h) (by decide)
  | false =>
  have hs:he_ g.1 p.1=0:=by simpa using hs
  unfold he_ at hs
  rw[ok.room] at hs
  rw[h8_] at hl
  exact⟨VS_of hs,by omega⟩
theorem qb_ {g:ab_} (hg:SmG g) (h0:br_ g=0) (p:aa_):dy_ g p=some (pck g p,()):=by
  rw[zc_ hg,h0]
  rfl
theorem am1 {g:ab_} (hg:SmG g) (h0:br_ g=0) (p:aa_):kj_ g p=some (cond (pck g p != 0) ([],(pck g p,())) (pmv g p,(0,()))):=by
  cases hk:pck g p != 0 with
  | true =>
    rw[ca7]
    unfold canL
    rw[qb_ hg h0,a0_]
    simp only[hk,a4_]
  | false =>
    rw[az2 hg h0 (az4 h0 (by simpa using hk))]
    rfl
theorem ac9 {g:ab_} (hg:SmG g) (h0:br_ g=0) (p:aa_) (m:ae_):eb_ g p m=some (cond (pck g p != 0) (eP,(pck g p,())) ((stepP g p m).elim (eP,(29,())) λq=>(q,(0,())))):=by
  cases hk:pck g p != 0 with
  | true =>
    rw[bq7]
    unfold pstX
    rw[qb_ hg h0,a0_]
    simp only[hk,a4_]
  | false =>
    rw[rq_ hg h0 (az4 h0 (by simpa using hk))]
    rfl
end
section
set_option maxRecDepth 10000
theorem ai3 {α:Type} [DecidableEq α] (a b:List α) (h:Sm a.length) (hl:a.length=b.length) {body:(Int×Unit)→Option ((Int×Unit)⊕(Unit⊕(Bool×Unit)))}
    (hb:∀ (i:Nat) x y,a[i]?=some x→b[i]?=some y→body ((i:Int),())=some (cond (decide (x=y)) (.inl (w64 ((i:Int)+1),())) (.inr (.inr (false,())))))
    (he:body ((a.length:Int),())=some (.inr (.inl ()))):((ag_ body (0,())).bind λv=>bx_ v (λ_=>some (true,())) (λw=>some w))=some (decide (a=b),()):=by
  have gen:∀ (k i:Nat),i+k=a.length→ag_ body ((i:Int),())=some (cond (decide (a.drop i=b.drop i)) (.inl ()) (.inr (false,()))):=by
    intro k
    induction k with
    | zero =>
      intro i hi
      obtain rfl:i=a.length:=by omega
      rw[l0_,hl,l0_]
      rw[hl] at he
      exact bi_ he
    | succ k ih =>
      intro i hi
      have hia:i<a.length:=by omega
      have hib:i<b.length:=by omega
      obtain⟨x,hx⟩:=aw_ hia
      obtain⟨y,hy⟩:=aw_ hib
      have da:a.drop i=x::a.drop (i+1):=by
        rw[g8_ hia]
        rw[a7_ hia] at hx
        rw[a5_ hx]
      have db:b.drop i=y::b.drop (i+1):=by
        rw[g8_ hib]
        rw[a7_ hib] at hy
        rw[a5_ hy]
      have h1:=hb i x y hx hy
      rw[az_ (show Sm i by unfold Sm at h ⊢; omega)] at h1
      rw[da,db]
      by_cases hxy:x=y
      · rw[b4_ hxy] at h1
        have:decide (x::a.drop (i+1)=y::b.drop (i+1))=decide (a.drop (i+1)=b.drop (i+1)):=by
          rw[hxy,decide_eq_decide]
          exact⟨λe=>(m9_ e).2,λe=>by rw[e]⟩
        rw[this]
        exact bg_ h1 (ih (i+1) (by omega))
      · rw[b1_ hxy] at h1
        rw[b1_ (λe=>hxy (m9_ e).1)]
        exact bi_ h1
  have h0:=gen a.length 0 (by omega)
  rw[p7_,p7_] at h0
  have h0:ag_ body (0,())=some (cond (decide (a=b)) (.inl ()) (.inr (false,()))):=h0
  rw[h0,a0_]
  cases decide (a=b)<;>rfl
theorem cs8 (x y:Int):(x != y) = !(decide (x=y)):=by
  rw[vn_]
  congr 1
theorem bv0 {α:Type} [DecidableEq α] {a b:List α} (h:((a.length:Int) != (b.length:Int))=true):decide (a=b)=false:=by
  rw[o5_] at h
  exact b1_ λe=>h (by rw[e])
theorem ra_ {a b:List Int} (h:Sm a.length):dr_ a b=some (decide (a=b),()):=by
  unfold dr_
  cases hl:(a.length:Int) != (b.length:Int) with
  | true=>rw[bv0 hl];rfl
  | false =>
  rw[h8_] at hl
  refine ai3 a b h (by omega) (λi x y hx hy => ?_) (by simp only[dnl,a1_])
  simp only[dlt (ak_ hx),a4_,ah_ hx,ah_ hy,a0_,cs8]
  cases decide (x=y)<;>rfl
theorem yb_ {a b:List Int} (h:Sm a.length):cy_ a b=some (decide (a=b),()):=by
  unfold cy_
  cases hl:(a.length:Int) != (b.length:Int) with
  | true=>rw[bv0 hl];rfl
  | false =>
  rw[h8_] at hl
  refine ai3 a b h (by omega) (λi x y hx hy => ?_) (by simp only[dnl,a1_])
  simp only[dlt (ak_ hx),a4_,ah_ hx,ah_ hy,a0_,cs8]
  cases decide (x=y)<;>rfl
end
end Go.Proofs.YtdibamopklkilaaGreatDoor.Rx
