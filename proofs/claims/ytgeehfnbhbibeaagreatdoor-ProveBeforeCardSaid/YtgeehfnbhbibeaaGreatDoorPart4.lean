/- A part of the proof: what the functions of the program compute, shown over the model. -/
import Derived.Test.YtgeehfnbhbibeaaGreatDoorProg
import Derived.KernelRfl
import Derived.Shelf.Small.Wraps
import Derived.Shelf.Strings.BuilderK
import Derived.Shelf.LaysM
import Derived.Shelf.Strconv.Itoa3
import Derived.Shelf.Bits.Mul64
import Derived.Test.YtgeehfnbhbibeaaGreatDoorPart1
import Derived.Test.YtgeehfnbhbibeaaGreatDoorPart3
set_option linter.unusedSectionVars false
set_option linter.unusedVariables false
set_option linter.unusedSimpArgs false
namespace Go.Proofs.YtgeehfnbhbibeaaGreatDoor.Rx
open Go Pad Rex Sum
section
theorem bd5 {α:Type} (l:List α) (i:Nat):at? l (i:Int)=l[i]?:=by
  unfold at?
  rw[if_pos (Int.natCast_nonneg i)]
  rfl
theorem ah_ {α:Type} {l:List α} {i:Nat} {x:α} (h:l[i]?=some x):at? l (i:Int)=some x:=by rw[bd5,h]
theorem am_ {α:Type} {l:List α} {i:Nat} {x:α} (h:l[i]?=some x):i<l.length:=(a3_.1 h).1
theorem bd_ {α:Type} {l:List α} {i:Nat} (h:i<l.length):∃ x,l[i]?=some x:=⟨_,a7_ h⟩
abbrev Sm (n:Nat):Prop:=n≤1000000000
theorem fy_ {n:Int} (h1 : -4000000000≤n) (h2:n≤4000000000):w64 n=n:=ku_ (by omega) (by omega)
theorem ba_ {i:Nat} (h:Sm i):w64 ((i:Int)+1)=((i+1:Nat):Int):=by
  rw[fy_ (by omega) (by omega)]
  omega
theorem dlt {i n:Nat} (h:i<n):decide ((i:Int)<(n:Int))=true:=b5_ (by omega)
theorem dnl (n:Nat):decide ((n:Int)<(n:Int))=false:=c1_ (by omega)
def ga_ {α ρ:Type} (p:Nat→α→Option ρ):Nat→List α→Option ρ
  | _,[]=>none
  | i,x::l=>match p i x with
    | some r=>some r
    | none=>ga_ p (i+1) l
theorem oo_ {σ ρ:Type} {body:σ→Option (σ⊕ρ)} {s:σ} {k:Nat} {r:ρ} (h:gd_ body k s=some r):ag_ body s=some r:=hp_.2 ⟨k,h⟩
theorem at4 {σ ρ:Type} {body:σ→Option (σ⊕ρ)} {s t:σ} {k:Nat} (h:body s=some (.inl t)):gd_ body (k+1) s=gd_ body k t:=by
  rw[gd_,h]
theorem uy_ {σ ρ:Type} {body:σ→Option (σ⊕ρ)} {s:σ} {k:Nat} {r:ρ} (h:body s=some (.inr r)):gd_ body (k+1) s=some r:=by
  rw[gd_,h]
theorem al7 {α ρ σ:Type} {l:List α} {p:Nat→α→Option ρ} {F:Nat→σ} {r0:ρ} {body:σ→Option (σ⊕ρ)}
    (h:∀ i x,l[i]?=some x→body (F i)=some (match p i x with | none=>.inl (F (i+1)) | some r=>.inr r)) (e:body (F l.length)=some (.inr r0)) :
    ∀ (m:List α) (i:Nat),i+m.length=l.length→(∀ j x,m[j]?=some x→l[i+j]?=some x)→gd_ body (m.length+1) (F i)=some ((ga_ p i m).getD r0)
  | [],i,hi,_=>by
    have:i=l.length:=by simpa using hi
    subst this
    exact uy_ e
  | x::m,i,hi,hm=>by
    have h0:=h i x (by simpa using hm 0 x rfl)
    unfold ga_
    cases hp:p i x with
    | some r =>
      rw[hp] at h0
      exact uy_ h0
    | none =>
      rw[hp] at h0
      show gd_ body (m.length+1+1) (F i)=_
      rw[at4 h0]
      refine al7 h e m (i+1) (by simp at hi;omega) λj y hj => ?_
      have:=hm (j+1) y (by simpa using hj)
      rw[show i+1+j=i+(j+1) by omega]
      exact this
theorem nv_ {α ρ σ:Type} (l:List α) (p:Nat→α→Option ρ) (F:Nat→σ) {r0:ρ} {body:σ→Option (σ⊕ρ)}
    (h:∀ i x,l[i]?=some x→body (F i)=some (match p i x with | none=>.inl (F (i+1)) | some r=>.inr r)) (e:body (F l.length)=some (.inr r0)) :
    ag_ body (F 0)=some ((ga_ p 0 l).getD r0):=oo_ (al7 h e l 0 (by simp) (λj x hj=>by simpa using hj))
theorem bn_ {α ρ σ τ:Type} (l:List α) (p:Nat→α→Option ρ) (F:Nat→σ) {r0:ρ} {body:σ→Option (σ⊕ρ)} {K:ρ→Option τ} {x:Option τ}
    (h:∀ i x,l[i]?=some x→body (F i)=some (match p i x with | none=>.inl (F (i+1)) | some r=>.inr r)) (e:body (F l.length)=some (.inr r0)) (hk:K ((ga_ p 0 l).getD r0)=x) :
    (ag_ body (F 0)).bind K=x:=by
  rw[nv_ l p F h e,a0_,hk]
theorem ja_ {α ρ:Type} {q:α→Bool} {r:ρ}:∀ (l:List α) (i:Nat),ga_ (λ_ x=>cond (q x) none (some r)) i l=cond (l.all q) none (some r)
  | [],_=>rfl
  | x::l,i=>by
    unfold ga_
    cases hq:q x with
    | false=>simp[hq]
    | true=>simp[hq,ja_ l (i+1)]
theorem hd_ {α ρ:Type} {q:α→Bool} {r:ρ}:∀ (l:List α) (i:Nat),ga_ (λ_ x=>cond (q x) (some r) none) i l=cond (l.any q) (some r) none
  | [],_=>rfl
  | x::l,i=>by
    unfold ga_
    cases hq:q x with
    | true=>simp[hq]
    | false=>simp[hq,hd_ l (i+1)]
theorem aa7 {α ρ:Type} {q:α→Bool} {f:Nat→ρ}:∀ (l:List α) (k:Nat),(ga_ (λi x=>cond (q x) (some (f i)) none) k l=none∧l.any q=false)∨∃ i:Nat,ga_ (λi x=>cond (q x) (some (f i)) none) k l=some (f i)∧l.any q=true
  | [],_=>.inl ⟨rfl,rfl⟩
  | x::l,k=>by
    unfold ga_
    cases hq:q x with
    | true=>exact .inr ⟨k,rfl,by simp[hq]⟩
    | false =>
      simp only[m5_,hq,j9_]
      exact aa7 l (k+1)
theorem aa5 {α ρ τ:Type} {p:Nat→α→Option ρ} {f:ρ→τ}:∀ (l:List α) (i:Nat),ga_ (λi x=>(p i x).map f) i l=(ga_ p i l).map f
  | [],_=>rfl
  | x::l,i=>by
    unfold ga_
    cases p i x with
    | some r=>rfl
    | none=>exact aa5 l (i+1)
theorem ie_ {α ρ:Type} {p:Nat→α→Option ρ}:∀ (l:List α) (i:Nat),ga_ p i l=none↔∀ j x,l[j]?=some x→p (i+j) x=none
  | [],_=>by simp[ga_]
  | x::l,i=>by
    unfold ga_
    constructor
    · intro h j y hj
      cases hp:p i x with
      | some r=>rw[hp] at h;cases h
      | none =>
        rw[hp] at h
        cases j with
        | zero=>simp at hj;subst hj;simpa using hp
        | succ j =>
          have:=(ie_ l (i+1)).1 h j y (by simpa using hj)
          rwa [show i+1+j=i+(j+1) by omega] at this
    · intro h
      have h0:=h 0 x rfl
      rw[l6_] at h0
      rw[h0]
      exact (ie_ l (i+1)).2 λj y hj=>by
        have:=h (j+1) y (by simpa using hj)
        rwa [show i+1+j=i+(j+1) by omega]
theorem kc_ {α τ σ ρ:Type} (l:List α) (f:Nat→τ→α→τ) (F:Nat→τ→σ) (R:τ→ρ) (t0:τ) {body:σ→Option (σ⊕ρ)} (I:Nat→τ→Prop) (h0:I 0 t0)
    (h:∀ i x t,l[i]?=some x→I i t→body (F i t)=some (.inl (F (i+1) (f i t x)))∧I (i+1) (f i t x)) (e:∀ t,I l.length t→body (F l.length t)=some (.inr (R t))) :
    ∃ t,I l.length t∧ag_ body (F 0 t0)=some (R t):=by
  have gen:∀ (k i:Nat) (t:τ),i+k=l.length→I i t→∃ t',I l.length t'∧gd_ body (k+1) (F i t)=some (R t'):=by
    intro k
    induction k with
    | zero =>
      intro i t hi ht
      have:i=l.length:=by omega
      subst this
      exact⟨t,ht,uy_ (e t ht)⟩
    | succ k ih =>
      intro i t hi ht
      obtain⟨x,hx⟩:=bd_ (l:=l) (i:=i) (by omega)
      obtain⟨h1,h2⟩:=h i x t hx ht
      obtain⟨t',a,b⟩:=ih (i+1) _ (by omega) h2
      exact⟨t',a,by rw[at4 h1];exact b⟩
  obtain⟨t,a,b⟩:=gen l.length 0 t0 (by omega) h0
  exact⟨t,a,oo_ b⟩
theorem mg_ {α:Type} {l:List α} (hl:Sm l.length) (q:α→Bool) {body:(Int×Unit)→Option ((Int×Unit)⊕(Unit⊕(Bool×Unit)))}
    (h:∀ (i:Nat) y,l[i]?=some y→body ((i:Int),())=some (cond (q y) (.inr (.inr (decide (0≤(i:Int)),()))) (.inl (w64 ((i:Int)+1),())))) (e:body ((l.length:Int),())=some (.inr (.inl ()))) :
    ((ag_ body (0,())).bind λv=>cd_ v (λ_=>some (decide ((0:Int)≤(-1)),())) (λw=>some w))=some (l.any q,()):=by
  refine bn_ l (λi y=>cond (q y) (some (inr (true,()):Unit⊕(Bool×Unit))) none) (λi=>((i:Int),())) (r0:=inl ()) (λi y hy => ?_) e ?_
  · have hi:=am_ hy
    rw[h i y hy,ba_ (show Sm i by omega),show decide (0≤(i:Int))=true from b5_ (by omega)]
    cases q y<;>rfl
  · rw[hd_ (q:=q)]
    cases l.any q<;>rfl
theorem if_lt {α:Type} {l:List α} (hl:Sm l.length) (q:α→Bool) {body:(Int×Unit)→Option ((Int×Unit)⊕(Unit⊕(Int×Unit)))}
    (h:∀ (i:Nat) y,l[i]?=some y→body ((i:Int),())=some (cond (q y) (.inr (.inr ((i:Int),()))) (.inl (w64 ((i:Int)+1),())))) (e:body ((l.length:Int),())=some (.inr (.inl ()))) :
    ∃ n:Int,((ag_ body (0,())).bind λv=>cd_ v (λ_=>some ((-1:Int),())) (λw=>some w))=some (n,())∧decide (n<0) = !(l.any q)∧(n = -1∨∃ i:Nat,n=(i:Int)∧i<l.length):=by
  have hrun:=nv_ l (λi y=>cond (q y) (some (inr ((i:Int),()):Unit⊕(Int×Unit))) none) (λi=>((i:Int),())) (r0:=inl ()) (body:=body) (λi y hy=>by
    have hi:=am_ hy
    rw[h i y hy,ba_ (show Sm i by omega)]
    cases q y<;>rfl) e
  have hr2:ag_ body (0,())=some ((ga_ (λi y=>cond (q y) (some (inr ((i:Int),()):Unit⊕(Int×Unit))) none) 0 l).getD (inl ())):=hrun
  rw[hr2]
  have key:∀ (m:List α) (k:Nat),(ga_ (λi y=>cond (q y) (some (inr ((i:Int),()):Unit⊕(Int×Unit))) none) k m=none∧m.any q=false)∨∃ i:Nat,ga_ (λi y=>cond (q y) (some (inr ((i:Int),()):Unit⊕(Int×Unit))) none) k m=some (inr ((i:Int),()))∧m.any q=true∧i<k+m.length:=by
    intro m
    induction m with
    | nil=>exact λk=>.inl ⟨rfl,rfl⟩
    | cons x m ih =>
      intro k
      unfold ga_
      cases hq:q x with
      | true=>exact .inr ⟨k,rfl,by simp[hq],by simp⟩
      | false =>
        rcases ih (k+1) with ⟨a,b⟩ | ⟨i,a,b,c⟩
        · exact .inl ⟨a,by simp[hq,b]⟩
        · exact .inr ⟨i,a,by simp[hq,b],by simp only[c4_];omega⟩
  rcases key l 0 with ⟨a,b⟩ | ⟨i,a,b,c⟩
  · refine⟨-1,by rw[a];rfl,by rw[b];rfl,.inl rfl⟩
  · refine⟨(i:Int),by rw[a];rfl,by rw[b];exact c1_ (by omega),.inr ⟨i,rfl,by omega⟩⟩
end
end Go.Proofs.YtgeehfnbhbibeaaGreatDoor.Rx
namespace Go.Proofs.YtgeehfnbhbibeaaGreatDoor.Rx
open Go Pad Rex Go.Proofs Go.Proofs.Tryz Sum
section
set_option maxRecDepth 100000
theorem ui1:prog.info? 1=some t1:=by kernel_rfl
theorem ui2:prog.info? 2=some t2:=by kernel_rfl
theorem ui3:prog.info? 3=some t3:=by kernel_rfl
theorem ui4:prog.info? 4=some t4:=by kernel_rfl
theorem ui5:prog.info? 5=some t5:=by kernel_rfl
theorem ui6:prog.info? 6=some t6:=by kernel_rfl
theorem ui7:prog.info? 7=some t7:=by kernel_rfl
theorem ui8:prog.info? 8=some t8:=by kernel_rfl
theorem ui9:prog.info? 9=some t9:=by kernel_rfl
theorem ui10:prog.info? 10=some t10:=by kernel_rfl
theorem ui11:prog.info? 11=some t11:=by kernel_rfl
theorem ui12:prog.info? 12=some t12:=by kernel_rfl
theorem ui13:prog.info? 13=some t13:=by kernel_rfl
theorem ui14:prog.info? 14=some t14:=by kernel_rfl
theorem ui15:prog.info? 15=some t15:=by kernel_rfl
theorem ui16:prog.info? 16=some t16:=by kernel_rfl
theorem ui17:prog.info? 17=some t17:=by kernel_rfl
theorem ui18:prog.info? 18=some t18:=by kernel_rfl
theorem ui19:prog.info? 19=some t19:=by kernel_rfl
theorem ui20:prog.info? 20=some t20:=by kernel_rfl
theorem ui21:prog.info? 21=some t21:=by kernel_rfl
theorem ui22:prog.info? 22=some t22:=by kernel_rfl
theorem ui23:prog.info? 23=some t23:=by kernel_rfl
theorem ui24:prog.info? 24=some t24:=by kernel_rfl
theorem ui25:prog.info? 25=some t25:=by kernel_rfl
theorem ui26:prog.info? 26=some t26:=by kernel_rfl
theorem ui27:prog.info? 27=some t27:=by kernel_rfl
theorem ui28:prog.info? 28=some t28:=by kernel_rfl
theorem ui29:prog.info? 29=some t29:=by kernel_rfl
theorem ui30:prog.info? 30=some t30:=by kernel_rfl
theorem ui31:prog.info? 31=some t31:=by kernel_rfl
theorem ui32:prog.info? 32=some t32:=by kernel_rfl
theorem ui33:prog.info? 33=some t33:=by kernel_rfl
theorem ui34:prog.info? 34=some t34:=by kernel_rfl
theorem ui35:prog.info? 35=some t35:=by kernel_rfl
theorem ui36:prog.info? 36=some t36:=by kernel_rfl
theorem ui37:prog.info? 37=some t37:=by kernel_rfl
theorem ui38:prog.info? 38=some t38:=by kernel_rfl
theorem ui39:prog.info? 39=some t39:=by kernel_rfl
theorem ui40:prog.info? 40=some t40:=by kernel_rfl
theorem ui42:prog.info? 42=some t42:=by kernel_rfl
theorem ui43:prog.info? 43=some t43:=by kernel_rfl
theorem ui45:prog.info? 45=some t45:=by kernel_rfl
theorem ui46:prog.info? 46=some t46:=by kernel_rfl
theorem ui47:prog.info? 47=some t47:=by kernel_rfl
theorem ui49:prog.info? 49=some t49:=by kernel_rfl
theorem ui50:prog.info? 50=some t50:=by kernel_rfl
theorem ui51:prog.info? 51=some t51:=by kernel_rfl
theorem ui52:prog.info? 52=some t52:=by kernel_rfl
theorem ui53:prog.info? 53=some t53:=by kernel_rfl
theorem ui54:prog.info? 54=some t54:=by kernel_rfl
theorem ui55:prog.info? 55=some t55:=by kernel_rfl
theorem ui57:prog.info? 57=some t57:=by kernel_rfl
theorem ui58:prog.info? 58=some t58:=by kernel_rfl
theorem ui59:prog.info? 59=some t59:=by kernel_rfl
theorem ui60:prog.info? 60=some t60:=by kernel_rfl
theorem ui61:prog.info? 61=some t61:=by kernel_rfl
theorem ui62:prog.info? 62=some t62:=by kernel_rfl
theorem ui63:prog.info? 63=some t63:=by kernel_rfl
theorem ui64:prog.info? 64=some t64:=by kernel_rfl
theorem ui66:prog.info? 66=some t66:=by kernel_rfl
theorem ui67:prog.info? 67=some t67:=by kernel_rfl
theorem ui68:prog.info? 68=some t68:=by kernel_rfl
theorem ui69:prog.info? 69=some t69:=by kernel_rfl
theorem ui70:prog.info? 70=some t70:=by kernel_rfl
theorem ui72:prog.info? 72=some t72:=by kernel_rfl
theorem ui73:prog.info? 73=some t73:=by kernel_rfl
theorem ui74:prog.info? 74=some t74:=by kernel_rfl
theorem ui75:prog.info? 75=some t75:=by kernel_rfl
theorem ui76:prog.info? 76=some t76:=by kernel_rfl
theorem ui77:prog.info? 77=some t77:=by kernel_rfl
theorem ui78:prog.info? 78=some t78:=by kernel_rfl
theorem ui79:prog.info? 79=some t79:=by kernel_rfl
theorem ui80:prog.info? 80=some t80:=by kernel_rfl
theorem ui81:prog.info? 81=some t81:=by kernel_rfl
theorem ui82:prog.info? 82=some t82:=by kernel_rfl
theorem ui83:prog.info? 83=some t83:=by kernel_rfl
theorem ui85:prog.info? 85=some t85:=by kernel_rfl
theorem ui86:prog.info? 86=some t86:=by kernel_rfl
theorem ui87:prog.info? 87=some t87:=by kernel_rfl
theorem ui88:prog.info? 88=some t88:=by kernel_rfl
theorem ui90:prog.info? 90=some t90:=by kernel_rfl
theorem ui91:prog.info? 91=some t91:=by kernel_rfl
theorem ui92:prog.info? 92=some t92:=by kernel_rfl
theorem ui93:prog.info? 93=some t93:=by kernel_rfl
theorem ui94:prog.info? 94=some t94:=by kernel_rfl
theorem ui95:prog.info? 95=some t95:=by kernel_rfl
theorem ui96:prog.info? 96=some t96:=by kernel_rfl
theorem ui97:prog.info? 97=some t97:=by kernel_rfl
theorem ui98:prog.info? 98=some t98:=by kernel_rfl
theorem ui99:prog.info? 99=some t99:=by kernel_rfl
theorem ui100:prog.info? 100=some t100:=by kernel_rfl
theorem ui101:prog.info? 101=some t101:=by kernel_rfl
theorem ui102:prog.info? 102=some t102:=by kernel_rfl
theorem ui103:prog.info? 103=some t103:=by kernel_rfl
theorem ui105:prog.info? 105=some t105:=by kernel_rfl
theorem ui107:prog.info? 107=some t107:=by kernel_rfl
theorem ui108:prog.info? 108=some t108:=by kernel_rfl
theorem ui109:prog.info? 109=some t109:=by kernel_rfl
theorem ui111:prog.info? 111=some t111:=by kernel_rfl
theorem ui113:prog.info? 113=some t113:=by kernel_rfl
theorem ui114:prog.info? 114=some t114:=by kernel_rfl
theorem ui115:prog.info? 115=some t115:=by kernel_rfl
theorem ui116:prog.info? 116=some t116:=by kernel_rfl
theorem ui117:prog.info? 117=some t117:=by kernel_rfl
theorem ui118:prog.info? 118=some t118:=by kernel_rfl
theorem ui119:prog.info? 119=some t119:=by kernel_rfl
theorem ui120:prog.info? 120=some t120:=by kernel_rfl
theorem ui121:prog.info? 121=some t121:=by kernel_rfl
theorem ui122:prog.info? 122=some t122:=by kernel_rfl
theorem ui123:prog.info? 123=some t123:=by kernel_rfl
theorem ui124:prog.info? 124=some t124:=by kernel_rfl
theorem ui125:prog.info? 125=some t125:=by kernel_rfl
theorem ui127:prog.info? 127=some t127:=by kernel_rfl
theorem ui128:prog.info? 128=some t128:=by kernel_rfl
theorem ui129:prog.info? 129=some t129:=by kernel_rfl
theorem ui130:prog.info? 130=some t130:=by kernel_rfl
theorem ui131:prog.info? 131=some t131:=by kernel_rfl
theorem ui132:prog.info? 132=some t132:=by kernel_rfl
theorem ui133:prog.info? 133=some t133:=by kernel_rfl
theorem ui134:prog.info? 134=some t134:=by kernel_rfl
theorem ui135:prog.info? 135=some t135:=by kernel_rfl
theorem ui136:prog.info? 136=some t136:=by kernel_rfl
theorem ui137:prog.info? 137=some t137:=by kernel_rfl
theorem ui138:prog.info? 138=some t138:=by kernel_rfl
theorem ui139:prog.info? 139=some t139:=by kernel_rfl
theorem ui140:prog.info? 140=some t140:=by kernel_rfl
theorem ui141:prog.info? 141=some t141:=by kernel_rfl
theorem ui142:prog.info? 142=some t142:=by kernel_rfl
theorem ui143:prog.info? 143=some t143:=by kernel_rfl
theorem ui144:prog.info? 144=some t144:=by kernel_rfl
theorem ui145:prog.info? 145=some t145:=by kernel_rfl
theorem ui146:prog.info? 146=some t146:=by kernel_rfl
theorem ui147:prog.info? 147=some t147:=by kernel_rfl
theorem ui148:prog.info? 148=some t148:=by kernel_rfl
theorem ui149:prog.info? 149=some t149:=by kernel_rfl
theorem ui150:prog.info? 150=some t150:=by kernel_rfl
theorem ui151:prog.info? 151=some t151:=by kernel_rfl
theorem ui152:prog.info? 152=some t152:=by kernel_rfl
theorem ui153:prog.info? 153=some t153:=by kernel_rfl
theorem ui154:prog.info? 154=some t154:=by kernel_rfl
theorem ui155:prog.info? 155=some t155:=by kernel_rfl
theorem ui157:prog.info? 157=some t157:=by kernel_rfl
theorem ui159:prog.info? 159=some t159:=by kernel_rfl
theorem ui160:prog.info? 160=some t160:=by kernel_rfl
theorem ui161:prog.info? 161=some t161:=by kernel_rfl
theorem ui162:prog.info? 162=some t162:=by kernel_rfl
theorem ui163:prog.info? 163=some t163:=by kernel_rfl
theorem ui164:prog.info? 164=some t164:=by kernel_rfl
theorem ui165:prog.info? 165=some t165:=by kernel_rfl
theorem ui166:prog.info? 166=some t166:=by kernel_rfl
theorem ui167:prog.info? 167=some t167:=by kernel_rfl
theorem ui168:prog.info? 168=some t168:=by kernel_rfl
theorem ui169:prog.info? 169=some t169:=by kernel_rfl
theorem ui170:prog.info? 170=some t170:=by kernel_rfl
theorem ui171:prog.info? 171=some t171:=by kernel_rfl
theorem ui173:prog.info? 173=some t173:=by kernel_rfl
theorem ui174:prog.info? 174=some t174:=by kernel_rfl
theorem ui175:prog.info? 175=some t175:=by kernel_rfl
theorem ui176:prog.info? 176=some t176:=by kernel_rfl
theorem ui177:prog.info? 177=some t177:=by kernel_rfl
theorem ui179:prog.info? 179=some t179:=by kernel_rfl
theorem ui180:prog.info? 180=some t180:=by kernel_rfl
theorem ui181:prog.info? 181=some t181:=by kernel_rfl
theorem ui182:prog.info? 182=some t182:=by kernel_rfl
theorem ui183:prog.info? 183=some t183:=by kernel_rfl
theorem ui184:prog.info? 184=some t184:=by kernel_rfl
theorem ui185:prog.info? 185=some t185:=by kernel_rfl
theorem ui187:prog.info? 187=some t187:=by kernel_rfl
theorem ui188:prog.info? 188=some t188:=by kernel_rfl
theorem ui189:prog.info? 189=some t189:=by kernel_rfl
theorem ui190:prog.info? 190=some t190:=by kernel_rfl
theorem ui191:prog.info? 191=some t191:=by kernel_rfl
theorem ui192:prog.info? 192=some t192:=by kernel_rfl
theorem ui193:prog.info? 193=some t193:=by kernel_rfl
theorem ui194:prog.info? 194=some t194:=by kernel_rfl
theorem ui195:prog.info? 195=some t195:=by kernel_rfl
theorem ui196:prog.info? 196=some t196:=by kernel_rfl
theorem ui197:prog.info? 197=some t197:=by kernel_rfl
theorem ui198:prog.info? 198=some t198:=by kernel_rfl
theorem ui199:prog.info? 199=some t199:=by kernel_rfl
theorem ui200:prog.info? 200=some t200:=by kernel_rfl
theorem ui201:prog.info? 201=some t201:=by kernel_rfl
theorem ui202:prog.info? 202=some t202:=by kernel_rfl
theorem ui204:prog.info? 204=some t204:=by kernel_rfl
theorem ui205:prog.info? 205=some t205:=by kernel_rfl
theorem ui206:prog.info? 206=some t206:=by kernel_rfl
theorem ui207:prog.info? 207=some t207:=by kernel_rfl
theorem ui208:prog.info? 208=some t208:=by kernel_rfl
theorem ui209:prog.info? 209=some t209:=by kernel_rfl
theorem ui210:prog.info? 210=some t210:=by kernel_rfl
theorem ui211:prog.info? 211=some t211:=by kernel_rfl
theorem ui213:prog.info? 213=some t213:=by kernel_rfl
theorem ui214:prog.info? 214=some t214:=by kernel_rfl
theorem ui215:prog.info? 215=some t215:=by kernel_rfl
theorem ui216:prog.info? 216=some t216:=by kernel_rfl
theorem ui217:prog.info? 217=some t217:=by kernel_rfl
theorem ui218:prog.info? 218=some t218:=by kernel_rfl
theorem ui219:prog.info? 219=some t219:=by kernel_rfl
theorem ui220:prog.info? 220=some t220:=by kernel_rfl
theorem ui221:prog.info? 221=some t221:=by kernel_rfl
theorem ui222:prog.info? 222=some t222:=by kernel_rfl
theorem ui223:prog.info? 223=some t223:=by kernel_rfl
theorem ui224:prog.info? 224=some t224:=by kernel_rfl
theorem ui225:prog.info? 225=some t225:=by kernel_rfl
theorem ui226:prog.info? 226=some t226:=by kernel_rfl
theorem ui227:prog.info? 227=some t227:=by kernel_rfl
theorem ui228:prog.info? 228=some t228:=by kernel_rfl
theorem ui229:prog.info? 229=some t229:=by kernel_rfl
theorem ui230:prog.info? 230=some t230:=by kernel_rfl
theorem ui231:prog.info? 231=some t231:=by kernel_rfl
theorem ui232:prog.info? 232=some t232:=by kernel_rfl
theorem ui233:prog.info? 233=some t233:=by kernel_rfl
theorem ui234:prog.info? 234=some t234:=by kernel_rfl
theorem ui235:prog.info? 235=some t235:=by kernel_rfl
theorem ui236:prog.info? 236=some t236:=by kernel_rfl
theorem ui238:prog.info? 238=some t238:=by kernel_rfl
theorem ui239:prog.info? 239=some t239:=by kernel_rfl
theorem ui241:prog.info? 241=some t241:=by kernel_rfl
theorem ui242:prog.info? 242=some t242:=by kernel_rfl
theorem ui243:prog.info? 243=some t243:=by kernel_rfl
theorem ui244:prog.info? 244=some t244:=by kernel_rfl
theorem ui245:prog.info? 245=some t245:=by kernel_rfl
theorem ui246:prog.info? 246=some t246:=by kernel_rfl
theorem ui247:prog.info? 247=some t247:=by kernel_rfl
theorem ui248:prog.info? 248=some t248:=by kernel_rfl
theorem ui249:prog.info? 249=some t249:=by kernel_rfl
theorem ui251:prog.info? 251=some t251:=by kernel_rfl
theorem ui252:prog.info? 252=some t252:=by kernel_rfl
theorem ui253:prog.info? 253=some t253:=by kernel_rfl
theorem ui254:prog.info? 254=some t254:=by kernel_rfl
theorem ui255:prog.info? 255=some t255:=by kernel_rfl
theorem ui256:prog.info? 256=some t256:=by kernel_rfl
theorem ui257:prog.info? 257=some t257:=by kernel_rfl
theorem ui258:prog.info? 258=some t258:=by kernel_rfl
theorem ui259:prog.info? 259=some t259:=by kernel_rfl
theorem ui260:prog.info? 260=some t260:=by kernel_rfl
theorem ui264:prog.info? 264=some t264:=by kernel_rfl
theorem ui265:prog.info? 265=some t265:=by kernel_rfl
theorem ui266:prog.info? 266=some t266:=by kernel_rfl
theorem ui267:prog.info? 267=some t267:=by kernel_rfl
theorem ui272:prog.info? 272=some t272:=by kernel_rfl
theorem ui273:prog.info? 273=some t273:=by kernel_rfl
theorem ui275:prog.info? 275=some t275:=by kernel_rfl
theorem ui277:prog.info? 277=some t277:=by kernel_rfl
theorem ui278:prog.info? 278=some t278:=by kernel_rfl
theorem ui279:prog.info? 279=some t279:=by kernel_rfl
theorem ui284:prog.info? 284=some t284:=by kernel_rfl
theorem ui286:prog.info? 286=some t286:=by kernel_rfl
theorem ui288:prog.info? 288=some t288:=by kernel_rfl
theorem ui289:prog.info? 289=some t289:=by kernel_rfl
theorem ui292:prog.info? 292=some t292:=by kernel_rfl
theorem ui293:prog.info? 293=some t293:=by kernel_rfl
theorem ui302:prog.info? 302=some t302:=by kernel_rfl
theorem ui304:prog.info? 304=some t304:=by kernel_rfl
theorem ui316:prog.info? 316=some t316:=by kernel_rfl
theorem ui323:prog.info? 323=some t323:=by kernel_rfl
theorem ui324:prog.info? 324=some t324:=by kernel_rfl
theorem ui326:prog.info? 326=some t326:=by kernel_rfl
theorem ui337:prog.info? 337=some t337:=by kernel_rfl
theorem ui338:prog.info? 338=some t338:=by kernel_rfl
theorem ui340:prog.info? 340=some t340:=by kernel_rfl
theorem ui341:prog.info? 341=some t341:=by kernel_rfl
theorem ui342:prog.info? 342=some t342:=by kernel_rfl
theorem ui343:prog.info? 343=some t343:=by kernel_rfl
theorem ui344:prog.info? 344=some t344:=by kernel_rfl
theorem ui345:prog.info? 345=some t345:=by kernel_rfl
theorem ui347:prog.info? 347=some t347:=by kernel_rfl
noncomputable def trU:Tre (λT=>prog.underlying T):=(.node 148 _ underlying148 (.node 74 _ underlying74 (.node 34 _ underlying34 (.node 17 _ underlying17 (.node 9 _ underlying9 (.node 5 _ underlying5 (.node 3 _ underlying3 (.node 2 _ underlying2 (.node 1 _ underlying1 .nil .nil) .nil) (.node 4 _ underlying4 .nil .nil)) (.node 7 _ underlying7 (.node 6 _ underlying6 .nil .nil) (.node 8 _ underlying8 .nil .nil))) (.node 13 _ underlying13 (.node 11 _ underlying11 (.node 10 _ underlying10 .nil .nil) (.node 12 _ underlying12 .nil .nil)) (.node 15 _ underlying15 (.node 14 _ underlying14 .nil .nil) (.node 16 _ underlying16 .nil .nil)))) (.node 26 _ underlying26 (.node 22 _ underlying22 (.node 20 _ underlying20 (.node 19 _ underlying19 (.node 18 _ underlying18 .nil .nil) .nil) (.node 21 _ underlying21 .nil .nil)) (.node 24 _ underlying24 (.node 23 _ underlying23 .nil .nil) (.node 25 _ underlying25 .nil .nil))) (.node 30 _ underlying30 (.node 28 _ underlying28 (.node 27 _ underlying27 .nil .nil) (.node 29 _ underlying29 .nil .nil)) (.node 32 _ underlying32 (.node 31 _ underlying31 .nil .nil) (.node 33 _ underlying33 .nil .nil))))) (.node 54 _ underlying54 (.node 45 _ underlying45 (.node 39 _ underlying39 (.node 37 _ underlying37 (.node 36 _ underlying36 (.node 35 _ underlying35 .nil .nil) .nil) (.node 38 _ underlying38 .nil .nil)) (.node 42 _ underlying42 (.node 40 _ underlying40 .nil .nil) (.node 43 _ underlying43 .nil .nil))) (.node 50 _ underlying50 (.node 47 _ underlying47 (.node 46 _ underlying46 .nil .nil) (.node 49 _ underlying49 .nil .nil)) (.node 52 _ underlying52 (.node 51 _ underlying51 .nil .nil) (.node 53 _ underlying53 .nil .nil)))) (.node 64 _ underlying64 (.node 60 _ underlying60 (.node 58 _ underlying58 (.node 57 _ underlying57 (.node 55 _ underlying55 .nil .nil) .nil) (.node 59 _ underlying59 .nil .nil)) (.node 62 _ underlying62 (.node 61 _ underlying61 .nil .nil) (.node 63 _ underlying63 .nil .nil))) (.node 69 _ underlying69 (.node 67 _ underlying67 (.node 66 _ underlying66 .nil .nil) (.node 68 _ underlying68 .nil .nil)) (.node 72 _ underlying72 (.node 70 _ underlying70 .nil .nil) (.node 73 _ underlying73 .nil .nil)))))) (.node 114 _ underlying114 (.node 93 _ underlying93 (.node 83 _ underlying83 (.node 79 _ underlying79 (.node 77 _ underlying77 (.node 76 _ underlying76 (.node 75 _ underlying75 .nil .nil) .nil) (.node 78 _ underlying78 .nil .nil)) (.node 81 _ underlying81 (.node 80 _ underlying80 .nil .nil) (.node 82 _ underlying82 .nil .nil))) (.node 88 _ underlying88 (.node 86 _ underlying86 (.node 85 _ underlying85 .nil .nil) (.node 87 _ underlying87 .nil .nil)) (.node 91 _ underlying91 (.node 90 _ underlying90 .nil .nil) (.node 92 _ underlying92 .nil .nil)))) (.node 102 _ underlying102 (.node 98 _ underlying98 (.node 96 _ underlying96 (.node 95 _ underlying95 (.node 94 _ underlying94 .nil .nil) .nil) (.node 97 _ underlying97 .nil .nil)) (.node 100 _ underlying100 (.node 99 _ underlying99 .nil .nil) (.node 101 _ underlying101 .nil .nil))) (.node 108 _ underlying108 (.node 105 _ underlying105 (.node 103 _ underlying103 .nil .nil) (.node 107 _ underlying107 .nil .nil)) (.node 111 _ underlying111 (.node 109 _ underlying109 .nil .nil) (.node 113 _ underlying113 .nil .nil))))) (.node 132 _ underlying132 (.node 123 _ underlying123 (.node 119 _ underlying119 (.node 117 _ underlying117 (.node 116 _ underlying116 (.node 115 _ underlying115 .nil .nil) .nil) (.node 118 _ underlying118 .nil .nil)) (.node 121 _ underlying121 (.node 120 _ underlying120 .nil .nil) (.node 122 _ underlying122 .nil .nil))) (.node 128 _ underlying128 (.node 125 _ underlying125 (.node 124 _ underlying124 .nil .nil) (.node 127 _ underlying127 .nil .nil)) (.node 130 _ underlying130 (.node 129 _ underlying129 .nil .nil) (.node 131 _ underlying131 .nil .nil)))) (.node 140 _ underlying140 (.node 136 _ underlying136 (.node 134 _ underlying134 (.node 133 _ underlying133 .nil .nil) (.node 135 _ underlying135 .nil .nil)) (.node 138 _ underlying138 (.node 137 _ underlying137 .nil .nil) (.node 139 _ underlying139 .nil .nil))) (.node 144 _ underlying144 (.node 142 _ underlying142 (.node 141 _ underlying141 .nil .nil) (.node 143 _ underlying143 .nil .nil)) (.node 146 _ underlying146 (.node 145 _ underlying145 .nil .nil) (.node 147 _ underlying147 .nil .nil))))))) (.node 222 _ underlying222 (.node 187 _ underlying187 (.node 167 _ underlying167 (.node 159 _ underlying159 (.node 153 _ underlying153 (.node 151 _ underlying151 (.node 150 _ underlying150 (.node 149 _ underlying149 .nil .nil) .nil) (.node 152 _ underlying152 .nil .nil)) (.node 155 _ underlying155 (.node 154 _ underlying154 .nil .nil) (.node 157 _ underlying157 .nil .nil))) (.node 163 _ underlying163 (.node 161 _ underlying161 (.node 160 _ underlying160 .nil .nil) (.node 162 _ underlying162 .nil .nil)) (.node 165 _ underlying165 (.node 164 _ underlying164 .nil .nil) (.node 166 _ underlying166 .nil .nil)))) (.node 177 _ underlying177 (.node 173 _ underlying173 (.node 170 _ underlying170 (.node 169 _ underlying169 (.node 168 _ underlying168 .nil .nil) .nil) (.node 171 _ underlying171 .nil .nil)) (.node 175 _ underlying175 (.node 174 _ underlying174 .nil .nil) (.node 176 _ underlying176 .nil .nil))) (.node 182 _ underlying182 (.node 180 _ underlying180 (.node 179 _ underlying179 .nil .nil) (.node 181 _ underlying181 .nil .nil)) (.node 184 _ underlying184 (.node 183 _ underlying183 .nil .nil) (.node 185 _ underlying185 .nil .nil))))) (.node 205 _ underlying205 (.node 196 _ underlying196 (.node 192 _ underlying192 (.node 190 _ underlying190 (.node 189 _ underlying189 (.node 188 _ underlying188 .nil .nil) .nil) (.node 191 _ underlying191 .nil .nil)) (.node 194 _ underlying194 (.node 193 _ underlying193 .nil .nil) (.node 195 _ underlying195 .nil .nil))) (.node 200 _ underlying200 (.node 198 _ underlying198 (.node 197 _ underlying197 .nil .nil) (.node 199 _ underlying199 .nil .nil)) (.node 202 _ underlying202 (.node 201 _ underlying201 .nil .nil) (.node 204 _ underlying204 .nil .nil)))) (.node 214 _ underlying214 (.node 209 _ underlying209 (.node 207 _ underlying207 (.node 206 _ underlying206 .nil .nil) (.node 208 _ underlying208 .nil .nil)) (.node 211 _ underlying211 (.node 210 _ underlying210 .nil .nil) (.node 213 _ underlying213 .nil .nil))) (.node 218 _ underlying218 (.node 216 _ underlying216 (.node 215 _ underlying215 .nil .nil) (.node 217 _ underlying217 .nil .nil)) (.node 220 _ underlying220 (.node 219 _ underlying219 .nil .nil) (.node 221 _ underlying221 .nil .nil)))))) (.node 259 _ underlying259 (.node 241 _ underlying241 (.node 231 _ underlying231 (.node 227 _ underlying227 (.node 225 _ underlying225 (.node 224 _ underlying224 (.node 223 _ underlying223 .nil .nil) .nil) (.node 226 _ underlying226 .nil .nil)) (.node 229 _ underlying229 (.node 228 _ underlying228 .nil .nil) (.node 230 _ underlying230 .nil .nil))) (.node 235 _ underlying235 (.node 233 _ underlying233 (.node 232 _ underlying232 .nil .nil) (.node 234 _ underlying234 .nil .nil)) (.node 238 _ underlying238 (.node 236 _ underlying236 .nil .nil) (.node 239 _ underlying239 .nil .nil)))) (.node 251 _ underlying251 (.node 246 _ underlying246 (.node 244 _ underlying244 (.node 243 _ underlying243 (.node 242 _ underlying242 .nil .nil) .nil) (.node 245 _ underlying245 .nil .nil)) (.node 248 _ underlying248 (.node 247 _ underlying247 .nil .nil) (.node 249 _ underlying249 .nil .nil))) (.node 255 _ underlying255 (.node 253 _ underlying253 (.node 252 _ underlying252 .nil .nil) (.node 254 _ underlying254 .nil .nil)) (.node 257 _ underlying257 (.node 256 _ underlying256 .nil .nil) (.node 258 _ underlying258 .nil .nil))))) (.node 293 _ underlying293 (.node 277 _ underlying277 (.node 267 _ underlying267 (.node 265 _ underlying265 (.node 264 _ underlying264 (.node 260 _ underlying260 .nil .nil) .nil) (.node 266 _ underlying266 .nil .nil)) (.node 273 _ underlying273 (.node 272 _ underlying272 .nil .nil) (.node 275 _ underlying275 .nil .nil))) (.node 286 _ underlying286 (.node 279 _ underlying279 (.node 278 _ underlying278 .nil .nil) (.node 284 _ underlying284 .nil .nil)) (.node 289 _ underlying289 (.node 288 _ underlying288 .nil .nil) (.node 292 _ underlying292 .nil .nil)))) (.node 338 _ underlying338 (.node 323 _ underlying323 (.node 304 _ underlying304 (.node 302 _ underlying302 .nil .nil) (.node 316 _ underlying316 .nil .nil)) (.node 326 _ underlying326 (.node 324 _ underlying324 .nil .nil) (.node 337 _ underlying337 .nil .nil))) (.node 343 _ underlying343 (.node 341 _ underlying341 (.node 340 _ underlying340 .nil .nil) (.node 342 _ underlying342 .nil .nil)) (.node 345 _ underlying345 (.node 344 _ underlying344 .nil .nil) (.node 347 _ underlying347 .nil .nil))))))))
noncomputable def trI:Tre (λT=>prog.info? T):=(.node 148 _ ui148 (.node 74 _ ui74 (.node 34 _ ui34 (.node 17 _ ui17 (.node 9 _ ui9 (.node 5 _ ui5 (.node 3 _ ui3 (.node 2 _ ui2 (.node 1 _ ui1 .nil .nil) .nil) (.node 4 _ ui4 .nil .nil)) (.node 7 _ ui7 (.node 6 _ ui6 .nil .nil) (.node 8 _ ui8 .nil .nil))) (.node 13 _ ui13 (.node 11 _ ui11 (.node 10 _ ui10 .nil .nil) (.node 12 _ ui12 .nil .nil)) (.node 15 _ ui15 (.node 14 _ ui14 .nil .nil) (.node 16 _ ui16 .nil .nil)))) (.node 26 _ ui26 (.node 22 _ ui22 (.node 20 _ ui20 (.node 19 _ ui19 (.node 18 _ ui18 .nil .nil) .nil) (.node 21 _ ui21 .nil .nil)) (.node 24 _ ui24 (.node 23 _ ui23 .nil .nil) (.node 25 _ ui25 .nil .nil))) (.node 30 _ ui30 (.node 28 _ ui28 (.node 27 _ ui27 .nil .nil) (.node 29 _ ui29 .nil .nil)) (.node 32 _ ui32 (.node 31 _ ui31 .nil .nil) (.node 33 _ ui33 .nil .nil))))) (.node 54 _ ui54 (.node 45 _ ui45 (.node 39 _ ui39 (.node 37 _ ui37 (.node 36 _ ui36 (.node 35 _ ui35 .nil .nil) .nil) (.node 38 _ ui38 .nil .nil)) (.node 42 _ ui42 (.node 40 _ ui40 .nil .nil) (.node 43 _ ui43 .nil .nil))) (.node 50 _ ui50 (.node 47 _ ui47 (.node 46 _ ui46 .nil .nil) (.node 49 _ ui49 .nil .nil)) (.node 52 _ ui52 (.node 51 _ ui51 .nil .nil) (.node 53 _ ui53 .nil .nil)))) (.node 64 _ ui64 (.node 60 _ ui60 (.node 58 _ ui58 (.node 57 _ ui57 (.node 55 _ ui55 .nil .nil) .nil) (.node 59 _ ui59 .nil .nil)) (.node 62 _ ui62 (.node 61 _ ui61 .nil .nil) (.node 63 _ ui63 .nil .nil))) (.node 69 _ ui69 (.node 67 _ ui67 (.node 66 _ ui66 .nil .nil) (.node 68 _ ui68 .nil .nil)) (.node 72 _ ui72 (.node 70 _ ui70 .nil .nil) (.node 73 _ ui73 .nil .nil)))))) (.node 114 _ ui114 (.node 93 _ ui93 (.node 83 _ ui83 (.node 79 _ ui79 (.node 77 _ ui77 (.node 76 _ ui76 (.node 75 _ ui75 .nil .nil) .nil) (.node 78 _ ui78 .nil .nil)) (.node 81 _ ui81 (.node 80 _ ui80 .nil .nil) (.node 82 _ ui82 .nil .nil))) (.node 88 _ ui88 (.node 86 _ ui86 (.node 85 _ ui85 .nil .nil) (.node 87 _ ui87 .nil .nil)) (.node 91 _ ui91 (.node 90 _ ui90 .nil .nil) (.node 92 _ ui92 .nil .nil)))) (.node 102 _ ui102 (.node 98 _ ui98 (.node 96 _ ui96 (.node 95 _ ui95 (.node 94 _ ui94 .nil .nil) .nil) (.node 97 _ ui97 .nil .nil)) (.node 100 _ ui100 (.node 99 _ ui99 .nil .nil) (.node 101 _ ui101 .nil .nil))) (.node 108 _ ui108 (.node 105 _ ui105 (.node 103 _ ui103 .nil .nil) (.node 107 _ ui107 .nil .nil)) (.node 111 _ ui111 (.node 109 _ ui109 .nil .nil) (.node 113 _ ui113 .nil .nil))))) (.node 132 _ ui132 (.node 123 _ ui123 (.node 119 _ ui119 (.node 117 _ ui117 (.node 116 _ ui116 (.node 115 _ ui115 .nil .nil) .nil) (.node 118 _ ui118 .nil .nil)) (.node 121 _ ui121 (.node 120 _ ui120 .nil .nil) (.node 122 _ ui122 .nil .nil))) (.node 128 _ ui128 (.node 125 _ ui125 (.node 124 _ ui124 .nil .nil) (.node 127 _ ui127 .nil .nil)) (.node 130 _ ui130 (.node 129 _ ui129 .nil .nil) (.node 131 _ ui131 .nil .nil)))) (.node 140 _ ui140 (.node 136 _ ui136 (.node 134 _ ui134 (.node 133 _ ui133 .nil .nil) (.node 135 _ ui135 .nil .nil)) (.node 138 _ ui138 (.node 137 _ ui137 .nil .nil) (.node 139 _ ui139 .nil .nil))) (.node 144 _ ui144 (.node 142 _ ui142 (.node 141 _ ui141 .nil .nil) (.node 143 _ ui143 .nil .nil)) (.node 146 _ ui146 (.node 145 _ ui145 .nil .nil) (.node 147 _ ui147 .nil .nil))))))) (.node 222 _ ui222 (.node 187 _ ui187 (.node 167 _ ui167 (.node 159 _ ui159 (.node 153 _ ui153 (.node 151 _ ui151 (.node 150 _ ui150 (.node 149 _ ui149 .nil .nil) .nil) (.node 152 _ ui152 .nil .nil)) (.node 155 _ ui155 (.node 154 _ ui154 .nil .nil) (.node 157 _ ui157 .nil .nil))) (.node 163 _ ui163 (.node 161 _ ui161 (.node 160 _ ui160 .nil .nil) (.node 162 _ ui162 .nil .nil)) (.node 165 _ ui165 (.node 164 _ ui164 .nil .nil) (.node 166 _ ui166 .nil .nil)))) (.node 177 _ ui177 (.node 173 _ ui173 (.node 170 _ ui170 (.node 169 _ ui169 (.node 168 _ ui168 .nil .nil) .nil) (.node 171 _ ui171 .nil .nil)) (.node 175 _ ui175 (.node 174 _ ui174 .nil .nil) (.node 176 _ ui176 .nil .nil))) (.node 182 _ ui182 (.node 180 _ ui180 (.node 179 _ ui179 .nil .nil) (.node 181 _ ui181 .nil .nil)) (.node 184 _ ui184 (.node 183 _ ui183 .nil .nil) (.node 185 _ ui185 .nil .nil))))) (.node 205 _ ui205 (.node 196 _ ui196 (.node 192 _ ui192 (.node 190 _ ui190 (.node 189 _ ui189 (.node 188 _ ui188 .nil .nil) .nil) (.node 191 _ ui191 .nil .nil)) (.node 194 _ ui194 (.node 193 _ ui193 .nil .nil) (.node 195 _ ui195 .nil .nil))) (.node 200 _ ui200 (.node 198 _ ui198 (.node 197 _ ui197 .nil .nil) (.node 199 _ ui199 .nil .nil)) (.node 202 _ ui202 (.node 201 _ ui201 .nil .nil) (.node 204 _ ui204 .nil .nil)))) (.node 214 _ ui214 (.node 209 _ ui209 (.node 207 _ ui207 (.node 206 _ ui206 .nil .nil) (.node 208 _ ui208 .nil .nil)) (.node 211 _ ui211 (.node 210 _ ui210 .nil .nil) (.node 213 _ ui213 .nil .nil))) (.node 218 _ ui218 (.node 216 _ ui216 (.node 215 _ ui215 .nil .nil) (.node 217 _ ui217 .nil .nil)) (.node 220 _ ui220 (.node 219 _ ui219 .nil .nil) (.node 221 _ ui221 .nil .nil)))))) (.node 259 _ ui259 (.node 241 _ ui241 (.node 231 _ ui231 (.node 227 _ ui227 (.node 225 _ ui225 (.node 224 _ ui224 (.node 223 _ ui223 .nil .nil) .nil) (.node 226 _ ui226 .nil .nil)) (.node 229 _ ui229 (.node 228 _ ui228 .nil .nil) (.node 230 _ ui230 .nil .nil))) (.node 235 _ ui235 (.node 233 _ ui233 (.node 232 _ ui232 .nil .nil) (.node 234 _ ui234 .nil .nil)) (.node 238 _ ui238 (.node 236 _ ui236 .nil .nil) (.node 239 _ ui239 .nil .nil)))) (.node 251 _ ui251 (.node 246 _ ui246 (.node 244 _ ui244 (.node 243 _ ui243 (.node 242 _ ui242 .nil .nil) .nil) (.node 245 _ ui245 .nil .nil)) (.node 248 _ ui248 (.node 247 _ ui247 .nil .nil) (.node 249 _ ui249 .nil .nil))) (.node 255 _ ui255 (.node 253 _ ui253 (.node 252 _ ui252 .nil .nil) (.node 254 _ ui254 .nil .nil)) (.node 257 _ ui257 (.node 256 _ ui256 .nil .nil) (.node 258 _ ui258 .nil .nil))))) (.node 293 _ ui293 (.node 277 _ ui277 (.node 267 _ ui267 (.node 265 _ ui265 (.node 264 _ ui264 (.node 260 _ ui260 .nil .nil) .nil) (.node 266 _ ui266 .nil .nil)) (.node 273 _ ui273 (.node 272 _ ui272 .nil .nil) (.node 275 _ ui275 .nil .nil))) (.node 286 _ ui286 (.node 279 _ ui279 (.node 278 _ ui278 .nil .nil) (.node 284 _ ui284 .nil .nil)) (.node 289 _ ui289 (.node 288 _ ui288 .nil .nil) (.node 292 _ ui292 .nil .nil)))) (.node 338 _ ui338 (.node 323 _ ui323 (.node 304 _ ui304 (.node 302 _ ui302 .nil .nil) (.node 316 _ ui316 .nil .nil)) (.node 326 _ ui326 (.node 324 _ ui324 .nil .nil) (.node 337 _ ui337 .nil .nil))) (.node 343 _ ui343 (.node 341 _ ui341 (.node 340 _ ui340 .nil .nil) (.node 342 _ ui342 .nil .nil)) (.node 345 _ ui345 (.node 344 _ ui344 .nil .nil) (.node 347 _ ui347 .nil .nil))))))))
noncomputable def trF:Tre (λk=>prog.funcs[k]?):=(.node 137 _ func137 (.node 72 _ func72 (.node 39 _ func39 (.node 24 _ func24 (.node 11 _ func11 (.node 8 _ func8 (.node 5 _ func5 (.node 4 _ func4 .nil .nil) (.node 7 _ func7 .nil .nil)) (.node 10 _ func10 (.node 9 _ func9 .nil .nil) .nil)) (.node 17 _ func17 (.node 15 _ func15 (.node 14 _ func14 .nil .nil) (.node 16 _ func16 .nil .nil)) (.node 23 _ func23 (.node 18 _ func18 .nil .nil) .nil))) (.node 31 _ func31 (.node 28 _ func28 (.node 26 _ func26 (.node 25 _ func25 .nil .nil) (.node 27 _ func27 .nil .nil)) (.node 30 _ func30 (.node 29 _ func29 .nil .nil) .nil)) (.node 36 _ func36 (.node 34 _ func34 (.node 32 _ func32 .nil .nil) (.node 35 _ func35 .nil .nil)) (.node 38 _ func38 (.node 37 _ func37 .nil .nil) .nil)))) (.node 58 _ func58 (.node 51 _ func51 (.node 43 _ func43 (.node 41 _ func41 (.node 40 _ func40 .nil .nil) (.node 42 _ func42 .nil .nil)) (.node 50 _ func50 (.node 44 _ func44 .nil .nil) .nil)) (.node 55 _ func55 (.node 53 _ func53 (.node 52 _ func52 .nil .nil) (.node 54 _ func54 .nil .nil)) (.node 57 _ func57 (.node 56 _ func56 .nil .nil) .nil))) (.node 65 _ func65 (.node 62 _ func62 (.node 60 _ func60 (.node 59 _ func59 .nil .nil) (.node 61 _ func61 .nil .nil)) (.node 64 _ func64 (.node 63 _ func63 .nil .nil) .nil)) (.node 69 _ func69 (.node 67 _ func67 (.node 66 _ func66 .nil .nil) (.node 68 _ func68 .nil .nil)) (.node 71 _ func71 (.node 70 _ func70 .nil .nil) .nil))))) (.node 104 _ func104 (.node 90 _ func90 (.node 83 _ func83 (.node 76 _ func76 (.node 74 _ func74 (.node 73 _ func73 .nil .nil) (.node 75 _ func75 .nil .nil)) (.node 82 _ func82 (.node 81 _ func81 .nil .nil) .nil)) (.node 87 _ func87 (.node 85 _ func85 (.node 84 _ func84 .nil .nil) (.node 86 _ func86 .nil .nil)) (.node 89 _ func89 (.node 88 _ func88 .nil .nil) .nil))) (.node 97 _ func97 (.node 94 _ func94 (.node 92 _ func92 (.node 91 _ func91 .nil .nil) (.node 93 _ func93 .nil .nil)) (.node 96 _ func96 (.node 95 _ func95 .nil .nil) .nil)) (.node 101 _ func101 (.node 99 _ func99 (.node 98 _ func98 .nil .nil) (.node 100 _ func100 .nil .nil)) (.node 103 _ func103 (.node 102 _ func102 .nil .nil) .nil)))) (.node 123 _ func123 (.node 116 _ func116 (.node 108 _ func108 (.node 106 _ func106 (.node 105 _ func105 .nil .nil) (.node 107 _ func107 .nil .nil)) (.node 115 _ func115 (.node 109 _ func109 .nil .nil) .nil)) (.node 120 _ func120 (.node 118 _ func118 (.node 117 _ func117 .nil .nil) (.node 119 _ func119 .nil .nil)) (.node 122 _ func122 (.node 121 _ func121 .nil .nil) .nil))) (.node 131 _ func131 (.node 128 _ func128 (.node 125 _ func125 (.node 124 _ func124 .nil .nil) (.node 126 _ func126 .nil .nil)) (.node 130 _ func130 (.node 129 _ func129 .nil .nil) .nil)) (.node 134 _ func134 (.node 133 _ func133 (.node 132 _ func132 .nil .nil) .nil) (.node 136 _ func136 (.node 135 _ func135 .nil .nil) .nil)))))) (.node 207 _ func207 (.node 174 _ func174 (.node 158 _ func158 (.node 144 _ func144 (.node 141 _ func141 (.node 139 _ func139 (.node 138 _ func138 .nil .nil) (.node 140 _ func140 .nil .nil)) (.node 143 _ func143 (.node 142 _ func142 .nil .nil) .nil)) (.node 148 _ func148 (.node 146 _ func146 (.node 145 _ func145 .nil .nil) (.node 147 _ func147 .nil .nil)) (.node 157 _ func157 (.node 156 _ func156 .nil .nil) .nil))) (.node 167 _ func167 (.node 164 _ func164 (.node 160 _ func160 (.node 159 _ func159 .nil .nil) (.node 161 _ func161 .nil .nil)) (.node 166 _ func166 (.node 165 _ func165 .nil .nil) .nil)) (.node 171 _ func171 (.node 169 _ func169 (.node 168 _ func168 .nil .nil) (.node 170 _ func170 .nil .nil)) (.node 173 _ func173 (.node 172 _ func172 .nil .nil) .nil)))) (.node 191 _ func191 (.node 181 _ func181 (.node 178 _ func178 (.node 176 _ func176 (.node 175 _ func175 .nil .nil) (.node 177 _ func177 .nil .nil)) (.node 180 _ func180 (.node 179 _ func179 .nil .nil) .nil)) (.node 185 _ func185 (.node 183 _ func183 (.node 182 _ func182 .nil .nil) (.node 184 _ func184 .nil .nil)) (.node 190 _ func190 (.node 186 _ func186 .nil .nil) .nil))) (.node 198 _ func198 (.node 195 _ func195 (.node 193 _ func193 (.node 192 _ func192 .nil .nil) (.node 194 _ func194 .nil .nil)) (.node 197 _ func197 (.node 196 _ func196 .nil .nil) .nil)) (.node 204 _ func204 (.node 203 _ func203 (.node 202 _ func202 .nil .nil) .nil) (.node 206 _ func206 (.node 205 _ func205 .nil .nil) .nil))))) (.node 239 _ func239 (.node 221 _ func221 (.node 214 _ func214 (.node 211 _ func211 (.node 209 _ func209 (.node 208 _ func208 .nil .nil) (.node 210 _ func210 .nil .nil)) (.node 213 _ func213 (.node 212 _ func212 .nil .nil) .nil)) (.node 218 _ func218 (.node 216 _ func216 (.node 215 _ func215 .nil .nil) (.node 217 _ func217 .nil .nil)) (.node 220 _ func220 (.node 219 _ func219 .nil .nil) .nil))) (.node 231 _ func231 (.node 225 _ func225 (.node 223 _ func223 (.node 222 _ func222 .nil .nil) (.node 224 _ func224 .nil .nil)) (.node 230 _ func230 (.node 229 _ func229 .nil .nil) .nil)) (.node 236 _ func236 (.node 234 _ func234 (.node 233 _ func233 .nil .nil) (.node 235 _ func235 .nil .nil)) (.node 238 _ func238 (.node 237 _ func237 .nil .nil) .nil)))) (.node 256 _ func256 (.node 246 _ func246 (.node 243 _ func243 (.node 241 _ func241 (.node 240 _ func240 .nil .nil) (.node 242 _ func242 .nil .nil)) (.node 245 _ func245 (.node 244 _ func244 .nil .nil) .nil)) (.node 252 _ func252 (.node 248 _ func248 (.node 247 _ func247 .nil .nil) (.node 251 _ func251 .nil .nil)) (.node 255 _ func255 (.node 254 _ func254 .nil .nil) .nil))) (.node 272 _ func272 (.node 264 _ func264 (.node 258 _ func258 (.node 257 _ func257 .nil .nil) (.node 259 _ func259 .nil .nil)) (.node 266 _ func266 (.node 265 _ func265 .nil .nil) .nil)) (.node 275 _ func275 (.node 274 _ func274 (.node 273 _ func273 .nil .nil) .nil) (.node 279 _ func279 (.node 278 _ func278 .nil .nil) .nil)))))))
theorem ue61:(if prog.stoodInHeld 61=false∧prog.eqGuardType prog.depth 61=false then some () else none)=some ():=if_pos ⟨stoodInHeld61,eqGuardType61⟩
noncomputable def trE:Tre (λT=>if prog.stoodInHeld T=false∧prog.eqGuardType prog.depth T=false then some () else none):=(.node 61 () ue61 .nil .nil)
noncomputable instance:Tb prog:=⟨trU,trI,trF,trE⟩
end
section
abbrev al_:Ty:=(.pair .int (.one .int))
abbrev ab_:Type:=(Int×Int)
abbrev ar_:Ty:=(.pair .int al_)
abbrev af_:Type:=(Int×ab_)
abbrev bz_:Ty:=(.pair .int (.pair .int (.one .bool)))
abbrev bf_:Type:=(Int×(Int×Bool))
abbrev qe_:Ty:=(.pair .str ar_)
abbrev gr_:Type:=((List UInt8)×af_)
abbrev ca_:Ty:=(.pair ar_ (.one .int))
abbrev ac_:Type:=(af_×Int)
abbrev aq_:Ty:=(.pair (.list .int) (.pair (.list .int) (.one (.list .int))))
abbrev ai_:Type:=((List Int)×((List Int)×(List Int)))
abbrev ov_:Ty:=(.pair .str (.pair .int (.one (.list bz_))))
abbrev js_:Type:=((List UInt8)×(Int×(List bf_)))
abbrev ah9:Ty:=(.pair .int (.pair .int (.one (.list bz_))))
abbrev om_:Type:=(Int×(Int×(List bf_)))
abbrev yn_:Ty:=(.pair (.list bz_) (.one al_))
abbrev pv_:Type:=((List bf_)×ab_)
abbrev aj_:Ty:=(.pair aq_ (.one (.list .bool)))
abbrev aa_:Type:=(ai_×(List Bool))
abbrev ap_:Ty:=(.pair .int (.pair .int (.pair .int (.pair .int (.pair .int (.pair (.list .int) (.one .bool)))))))
abbrev ak_:Type:=(Int×(Int×(Int×(Int×(Int×((List Int)×Bool))))))
abbrev mj_:Ty:=(.pair (.list aj_) (.one (.list (.list ca_))))
abbrev cj_:Type:=((List aa_)×(List (List ac_)))
abbrev lx_:Ty:=(.pair .str (.pair .int (.pair .int (.pair (.list .int) (.pair (.list bz_) (.pair (.list al_) (.pair (.list .int) (.one (.list .int)))))))))
abbrev cv_:Type:=((List UInt8)×(Int×(Int×((List Int)×((List bf_)×((List ab_)×((List Int)×(List Int))))))))
abbrev ow_:Ty:=(.pair .str (.pair .int (.pair .int (.pair (.list bz_) (.one ap_)))))
abbrev cp_:Type:=((List UInt8)×(Int×(Int×((List bf_)×ak_))))
abbrev an_:Ty:=(.pair (.list .str) (.pair (.list qe_) (.pair (.list ov_) (.pair (.list ah9) (.pair (.list lx_) (.pair (.list yn_) (.pair .int (.one (.list bz_)))))))))
abbrev ae_:Type:=((List (List UInt8))×((List gr_)×((List js_)×((List om_)×((List cv_)×((List pv_)×(Int×(List bf_))))))))
abbrev eu_:Ty:=(.pair an_ (.one aq_))
abbrev hb_:Type:=(ae_×ai_)
abbrev ao_:Ty:=(.pair an_ (.pair (.list al_) (.pair (.list (.list .int)) (.pair (.list ow_) (.one .int)))))
abbrev ad_:Type:=(ae_×((List ab_)×((List (List Int))×((List cp_)×Int))))
def pow10V:List Value:=(List.range 20).map λi=>.int .u64 ((10 ^ i:Nat):Int)
def reserved:List (List UInt8):=[[97,116],[115,116,97,116,101,115],[115,116,97,114,116],[103,111,110,101],[105,102],[108,111,99,107],[119,105,116,104],[115,101,116,115],[115,112,101,110,100,115],[98,114,105,110,103,115]]
instance :Gb:=⟨λg=>cond (Nat.beq g 0) (some ⟨.list .str,reserved⟩) none,λc p=>cond (Nat.beq c 398460928) true (cond (Nat.blt c 398460928) (cond (Nat.beq c 226500609) (cond (eqS p "ref.go:66") true false) (cond (Nat.blt c 226500609) (cond (Nat.beq c 130025472) true (cond (Nat.blt c 130025472) (cond (Nat.beq c 12591103) true (cond (Nat.blt c 12591103) (cond (Nat.beq c 12587008) true (cond (Nat.blt c 12587008) (cond (Nat.beq c 12584960) true (cond (Nat.blt c 12584960) (false) (false))) (cond (Nat.beq c 12589057) true (cond (Nat.blt c 12589057) (false) (false))))) (cond (Nat.beq c 37756929) true (cond (Nat.blt c 37756929) (cond (Nat.beq c 12593154) true (cond (Nat.blt c 12593154) (false) (false))) (false))))) (cond (Nat.beq c 150999040) true (cond (Nat.blt c 150999040) (cond (Nat.beq c 130029568) true (cond (Nat.blt c 130029568) (cond (Nat.beq c 130027520) true (cond (Nat.blt c 130027520) (false) (false))) (cond (Nat.beq c 150996992) true (cond (Nat.blt c 150996992) (false) (false))))) (cond (Nat.beq c 226498560) true (cond (Nat.blt c 226498560) (cond (Nat.beq c 151001088) (cond (eqS p "ref.go:66") true (cond (eqS p "ref.go:215") true (cond (eqS p "ref.go:196") true (cond (eqS p "ref.go:152") true (cond (eqS p "ref.go:147") true (cond (eqS p "ref.go:141") true (cond (eqS p "ref.go:121") true (cond (eqS p "prove.go:304") true (cond (eqS p "prove.go:113") true (cond (eqS p "play.go:35") true (cond (eqS p "play.go:248") true false))))))))))) (cond (Nat.blt c 151001088) (false) (false))) (false))))))) (cond (Nat.beq c 289411072) true (cond (Nat.blt c 289411072) (cond (Nat.beq c 264243200) true (cond (Nat.blt c 264243200) (cond (Nat.beq c 255858689) (cond (eqS p "room.go:255") true (cond (eqS p "room.go:223") true false)) (cond (Nat.blt c 255858689) (cond (Nat.beq c 230692865) true (cond (Nat.blt c 230692865) (false) (false))) (cond (Nat.beq c 255862786) true (cond (Nat.blt c 255862786) (false) (false))))) (cond (Nat.beq c 264247296) true (cond (Nat.blt c 264247296) (cond (Nat.beq c 264245248) (cond (eqS p "ref.go:63") true (cond (eqS p "prove.go:313") true false)) (cond (Nat.blt c 264245248) (false) (false))) (false))))) (cond (Nat.beq c 335552513) true (cond (Nat.blt c 335552513) (cond (Nat.beq c 335548416) true (cond (Nat.blt c 335548416) (cond (Nat.beq c 335546368) (cond (eqS p "ref.go:14") true (cond (eqS p "play.go:30") true false)) (cond (Nat.blt c 335546368) (false) (false))) (cond (Nat.beq c 335550465) true (cond (Nat.blt c 335550465) (false) (false))))) (cond (Nat.beq c 343943170) true (cond (Nat.blt c 343943170) (cond (Nat.beq c 343937024) true (cond (Nat.blt c 343937024) (false) (false))) (false))))))))) (cond (Nat.beq c 570431488) true (cond (Nat.blt c 570431488) (cond (Nat.beq c 486541312) true (cond (Nat.blt c 486541312) (cond (Nat.beq c 406849536) true (cond (Nat.blt c 406849536) (cond (Nat.beq c 398465025) (cond (eqS p "room.go:337") true (cond (eqS p "room.go:291") true (cond (eqS p "room.go:151") true (cond (eqS p "ref.go:336") true (cond (eqS p "ref.go:254") true (cond (eqS p "ref.go:235") true (cond (eqS p "ref.go:182") true false))))))) (cond (Nat.blt c 398465025) (cond (Nat.beq c 398462976) true (cond (Nat.blt c 398462976) (false) (false))) (cond (Nat.beq c 398467073) true (cond (Nat.blt c 398467073) (false) (false))))) (cond (Nat.beq c 406855681) true (cond (Nat.blt c 406855681) (cond (Nat.beq c 406853633) (cond (eqS p "ref.go:94") true (cond (eqS p "ref.go:60") true (cond (eqS p "ref.go:170") true (cond (eqS p "play.go:95") true (cond (eqS p "play.go:230") true (cond (eqS p "play.go:132") true false)))))) (cond (Nat.blt c 406853633) (false) (false))) (false))))) (cond (Nat.beq c 511711232) true (cond (Nat.blt c 511711232) (cond (Nat.beq c 486545408) true (cond (Nat.blt c 486545408) (cond (Nat.beq c 486543360) true (cond (Nat.blt c 486543360) (false) (false))) (cond (Nat.beq c 511707136) true (cond (Nat.blt c 511707136) (false) (false))))) (cond (Nat.beq c 570427392) true (cond (Nat.blt c 570427392) (cond (Nat.beq c 511715330) true (cond (Nat.blt c 511715330) (false) (false))) (false))))))) (cond (Nat.beq c 1036003330) true (cond (Nat.blt c 1036003330) (cond (Nat.beq c 683673600) true (cond (Nat.blt c 683673600) (cond (Nat.beq c 599789568) true (cond (Nat.blt c 599789568) (cond (Nat.beq c 591400960) true (cond (Nat.blt c 591400960) (false) (false))) (cond (Nat.beq c 637540353) true (cond (Nat.blt c 637540353) (false) (false))))) (cond (Nat.beq c 901779456) true (cond (Nat.blt c 901779456) (cond (Nat.beq c 683677696) true (cond (Nat.blt c 683677696) (false) (false))) (false))))) (cond (Nat.beq c 1191192578) true (cond (Nat.blt c 1191192578) (cond (Nat.beq c 1052780546) true (cond (Nat.blt c 1052780546) (cond (Nat.beq c 1044391938) true (cond (Nat.blt c 1044391938) (false) (false))) (cond (Nat.beq c 1161828353) true (cond (Nat.blt c 1161828353) (false) (false))))) (cond (Nat.beq c 1207963648) true (cond (Nat.blt c 1207963648) (cond (Nat.beq c 1207961600) true (cond (Nat.blt c 1207961600) (false) (false))) (false)))))))))),λc=>cond (Nat.beq c 138545152) (some []) (cond (Nat.blt c 138545152) (none) (none)),λc=>cond (Nat.beq c 230879325) true (cond (Nat.blt c 230879325) (cond (Nat.beq c 230871129) true (cond (Nat.blt c 230871129) (false) (false))) (false)),λc=>none,λg=>cond (Nat.beq g 1) (some pow10V) none⟩
end
end Go.Proofs.YtgeehfnbhbibeaaGreatDoor.Rx
namespace Go.Proofs
section
set_option maxRecDepth 100000
def Tryz.lays121_ren:Go.Shelf.Ren:=⟨λ| 121=>190 | 214=>228 | n=>n,λ| 4=>4 | 9=>9 | n=>n,λ| n=>n⟩
theorem Tryz.lays121:Go.Proofs.Lays.n121 Tryz.prog Tryz.lays121_ren:={
  mixed:=by kernel_rfl
  f121:=Tryz.func190.trans (congrArg some (by kernel_rfl))
  f214:=Tryz.func228.trans (congrArg some (by kernel_rfl))
  t4:=Tryz.underlying4
  a4:=Tryz.isAgg4
  z4:=Tryz.sizeOf4
  v4:=Tryz.zeroValue4
  t9:=Tryz.underlying9
  a9:=Tryz.isAgg9
  z9:=Tryz.sizeOf9
  v9:=Tryz.zeroValue9 }
def Tryz.lays169_ren:Go.Shelf.Ren:=⟨λ| 169=>189 | n=>n,λ| 70=>257 | 9=>9 | 0=>0 | 72=>260 | 37=>258 | 127=>293 | 3=>3 | 5=>5 | n=>n,λ| n=>n⟩
theorem Tryz.lays169:Go.Proofs.Lays.n169 Tryz.prog Tryz.lays169_ren:={
  mixed:=by kernel_rfl
  f169:=Tryz.func189.trans (congrArg some (by kernel_rfl))
  t0:=Tryz.underlying0
  a0:=Tryz.isAgg0
  z0:=Tryz.sizeOf0
  v0:=Tryz.zeroValue0
  t3:=Tryz.underlying3
  a3:=Tryz.isAgg3
  z3:=Tryz.sizeOf3
  v3:=Tryz.zeroValue3
  t9:=Tryz.underlying9
  a9:=Tryz.isAgg9
  z9:=Tryz.sizeOf9
  v9:=Tryz.zeroValue9
  t37:=Tryz.underlying258
  a37:=Tryz.isAgg258
  z37:=Tryz.sizeOf258
  v37:=Tryz.zeroValue258
  t70:=Tryz.underlying257
  a70:=Tryz.isAgg257
  z70:=Tryz.sizeOf257
  v70:=Tryz.zeroValue257
  t72:=Tryz.underlying260
  a72:=Tryz.isAgg260
  z72:=Tryz.sizeOf260
  v72:=Tryz.zeroValue260
  t127:=Tryz.underlying293
  a127:=Tryz.isAgg293
  z127:=Tryz.sizeOf293
  v127:=Tryz.zeroValue293 }
theorem Tryz.Builder_Extra_169:Builder.Extra Tryz.prog Tryz.lays169_ren:={
  sizeBuilder:=by kernel_rfl
  liesBuilder:=by kernel_rfl
  t5:=Tryz.underlying5
  a5:=Tryz.isAgg5
  z5:=Tryz.sizeOf5
  v5:=Tryz.zeroValue5
  infoByte:=by kernel_rfl
  cellsByte:=by kernel_rfl
  sizeByte:=by kernel_rfl
  neB5:=by decide }
def Tryz.laysM171_ren:Go.Shelf.Ren:=⟨λ| 171=>188 | 243=>227 | 246=>250 | 283=>260 | 284=>261 | 285=>262 | 286=>263 | 129=>268 | 317=>267 | 318=>269 | 319=>270 | 320=>271 | 337=>276 | 338=>277 | n=>n,λ| 3=>3 | 9=>9 | 2=>2 | 4=>4 | 171=>317 | 0=>0 | 53=>239 | 37=>258 | 5=>5 | 173=>320 | 212=>328 | 51=>236 | 20=>20 | 213=>329 | 46=>211 | 232=>334 | 233=>335 | n=>n,λ| 17=>1 | 18=>2 | 19=>3 | n=>n⟩
theorem Tryz.laysM171:Go.Proofs.LaysM.n171 Tryz.prog Tryz.laysM171_ren:={
  mixed:=by kernel_rfl
  f129:=Tryz.func268.trans (congrArg some (by kernel_rfl))
  f171:=Tryz.func188.trans (congrArg some (by kernel_rfl))
  f243:=Tryz.func227.trans (congrArg some (by kernel_rfl))
  f246:=Tryz.func250.trans (congrArg some (by kernel_rfl))
  f283:=Tryz.func260.trans (congrArg some (by kernel_rfl))
  f284:=Tryz.func261.trans (congrArg some (by kernel_rfl))
  f285:=Tryz.func262.trans (congrArg some (by kernel_rfl))
  f286:=Tryz.func263.trans (congrArg some (by kernel_rfl))
  f317:=Tryz.func267.trans (congrArg some (by kernel_rfl))
  f318:=Tryz.func269.trans (congrArg some (by kernel_rfl))
  f319:=Tryz.func270.trans (congrArg some (by kernel_rfl))
  f320:=Tryz.func271.trans (congrArg some (by kernel_rfl))
  f337:=Tryz.func276.trans (congrArg some (by kernel_rfl))
  f338:=Tryz.func277.trans (congrArg some (by kernel_rfl))
  t0:=Tryz.underlying0
  a0:=Tryz.isAgg0
  z0:=Tryz.sizeOf0
  v0:=Tryz.zeroValue0
  t2:=Tryz.underlying2
  a2:=Tryz.isAgg2
  z2:=Tryz.sizeOf2
  v2:=Tryz.zeroValue2
  t3:=Tryz.underlying3
  a3:=Tryz.isAgg3
  z3:=Tryz.sizeOf3
  v3:=Tryz.zeroValue3
  t4:=Tryz.underlying4
  a4:=Tryz.isAgg4
  z4:=Tryz.sizeOf4
  v4:=Tryz.zeroValue4
  t5:=Tryz.underlying5
  a5:=Tryz.isAgg5
  z5:=Tryz.sizeOf5
  v5:=Tryz.zeroValue5
  t9:=Tryz.underlying9
  a9:=Tryz.isAgg9
  z9:=Tryz.sizeOf9
  v9:=Tryz.zeroValue9
  t20:=Tryz.underlying20
  a20:=Tryz.isAgg20
  z20:=Tryz.sizeOf20
  v20:=Tryz.zeroValue20
  t37:=Tryz.underlying258
  a37:=Tryz.isAgg258
  z37:=Tryz.sizeOf258
  v37:=Tryz.zeroValue258
  t46:=Tryz.underlying211
  a46:=Tryz.isAgg211
  z46:=Tryz.sizeOf211
  v46:=Tryz.zeroValue211
  t51:=Tryz.underlying236
  a51:=Tryz.isAgg236
  z51:=Tryz.sizeOf236
  v51:=Tryz.zeroValue236
  t53:=Tryz.underlying239
  a53:=Tryz.isAgg239
  z53:=Tryz.sizeOf239
  v53:=Tryz.zeroValue239
  t171:=Tryz.underlying317
  a171:=Tryz.isAgg317
  z171:=Tryz.sizeOf317
  v171:=Tryz.zeroValue317
  t173:=Tryz.underlying320
  a173:=Tryz.isAgg320
  z173:=Tryz.sizeOf320
  v173:=Tryz.zeroValue320
  t212:=Tryz.underlying328
  a212:=Tryz.isAgg328
  z212:=Tryz.sizeOf328
  v212:=Tryz.zeroValue328
  t213:=Tryz.underlying329
  a213:=Tryz.isAgg329
  z213:=Tryz.sizeOf329
  t232:=Tryz.underlying334
  a232:=Tryz.isAgg334
  z232:=Tryz.sizeOf334
  v232:=Tryz.zeroValue334
  t233:=Tryz.underlying335
  a233:=Tryz.isAgg335
  z233:=Tryz.sizeOf335
  v233:=Tryz.zeroValue335
  g17:=by kernel_rfl
  g18:=by kernel_rfl
  g19:=by kernel_rfl
  i0:=by kernel_rfl
  i2:=by kernel_rfl
  i3:=by kernel_rfl
  i4:=by kernel_rfl
  i5:=by kernel_rfl
  i9:=by kernel_rfl
  i20:=by kernel_rfl
  i37:=by kernel_rfl
  i46:=by kernel_rfl
  i51:=by kernel_rfl
  i53:=by kernel_rfl
  i171:=by kernel_rfl
  i173:=by kernel_rfl
  i212:=by kernel_rfl
  i232:=by kernel_rfl
  i233:=by kernel_rfl
  m17:=by kernel_rfl
  m18:=by kernel_rfl
  m19:=by kernel_rfl }
def Tryz.lays166_ren:Go.Shelf.Ren:=⟨λ| 166=>187 | 240=>226 | 276=>249 | n=>n,λ| 0=>0 | 3=>3 | 4=>4 | 9=>9 | 20=>20 | 37=>258 | 70=>257 | 72=>260 | 75=>262 | 164=>308 | 5=>5 | 80=>265 | n=>n,λ| n=>n⟩
theorem Tryz.lays166:Go.Proofs.Lays.n166 Tryz.prog Tryz.lays166_ren:={
  mixed:=by kernel_rfl
  f166:=Tryz.func187.trans (congrArg some (by kernel_rfl))
  f240:=Tryz.func226.trans (congrArg some (by kernel_rfl))
  f276:=Tryz.func249.trans (congrArg some (by kernel_rfl))
  t0:=Tryz.underlying0
  a0:=Tryz.isAgg0
  z0:=Tryz.sizeOf0
  v0:=Tryz.zeroValue0
  t3:=Tryz.underlying3
  a3:=Tryz.isAgg3
  z3:=Tryz.sizeOf3
  v3:=Tryz.zeroValue3
  t4:=Tryz.underlying4
  a4:=Tryz.isAgg4
  z4:=Tryz.sizeOf4
  v4:=Tryz.zeroValue4
  t9:=Tryz.underlying9
  a9:=Tryz.isAgg9
  z9:=Tryz.sizeOf9
  v9:=Tryz.zeroValue9
  t20:=Tryz.underlying20
  a20:=Tryz.isAgg20
  z20:=Tryz.sizeOf20
  v20:=Tryz.zeroValue20
  t37:=Tryz.underlying258
  a37:=Tryz.isAgg258
  z37:=Tryz.sizeOf258
  v37:=Tryz.zeroValue258
  t70:=Tryz.underlying257
  a70:=Tryz.isAgg257
  z70:=Tryz.sizeOf257
  v70:=Tryz.zeroValue257
  t72:=Tryz.underlying260
  a72:=Tryz.isAgg260
  z72:=Tryz.sizeOf260
  v72:=Tryz.zeroValue260
  t75:=Tryz.underlying262
  a75:=Tryz.isAgg262
  z75:=Tryz.sizeOf262
  v75:=Tryz.zeroValue262
  t164:=Tryz.underlying308
  a164:=Tryz.isAgg308
  z164:=Tryz.sizeOf308
  v164:=Tryz.zeroValue308 }
theorem Tryz.Builder_Extra_166:Builder.Extra Tryz.prog Tryz.lays166_ren:={
  sizeBuilder:=by kernel_rfl
  liesBuilder:=by kernel_rfl
  t5:=Tryz.underlying5
  a5:=Tryz.isAgg5
  z5:=Tryz.sizeOf5
  v5:=Tryz.zeroValue5
  infoByte:=by kernel_rfl
  cellsByte:=by kernel_rfl
  sizeByte:=by kernel_rfl
  neB5:=by decide }
open Go.RowKit in
theorem aa2 (b:Bool) (w:World):Calls Tryz.prog 190 #[.bool b] w λe w'=>e = .returned (.string ⟨(Lib.formatBool b).toArray⟩)∧w'=w:=Any.strconv_FormatBool Tryz.lays121 b w
open Go.RowKit Go.Sort Go.Lib in
theorem sh_Itoa (n:Int) (h0 : -9223372036854775808≤n) (h1:n≤9223372036854775807) (w:World) (htab:Lib.TabIs Tryz.prog w "internal/strconv.uint64pow10" .u64 Lib.pow10Tab) :
    Calls Tryz.prog 188 #[.int .i64 n] w λe w'=>e = .returned (.string ⟨(Lib.itoa n).toArray⟩)∧∃ k os,w'=grow (w.drewN k) os:=Any.strconv_Itoa Tryz.laysM171 n h0 h1 w htab
open Go.RowKit in
theorem bl9 (B b:Nat) (l:List UInt8) (w:World) (h:Lib.IsBuilderF 260 5 B b (Lib.byteCells l) w) (hBw:B≤w.heap.size) :
    Calls Tryz.prog 189 #[.pointer (some ⟨b,0,none⟩)] w λe w'=>e = .returned (.string ⟨l.toArray⟩)∧(Lib.IsBuilderF 260 5 B b (Lib.byteCells l) w'∧Below B w w'∧Lib.OthersKept 5 (some b) w w'):=Any.Builder_String_any_k Tryz.lays169 Tryz.Builder_Extra_169 B b l w h hBw
open Go.RowKit in
theorem yb_ (B b:Nat) (bs:List Value) (s:ByteArray) (w:World) (h:Lib.IsBuilderF 260 5 B b bs w) (hlen:bs.length+s.size≤140737488355328) (hBw:B≤w.heap.size) :
    Calls Tryz.prog 187 #[.pointer (some ⟨b,0,none⟩),.string s] w λe w'=>e = .returned (.tuple #[.int .i64 s.size,.nilIface])∧(Lib.BuilderAtF 260 5 B b (.pointer (some ⟨b,0,none⟩)) (bs++Lib.strCells s) w'∧Below B w w'∧Lib.OthersKept 5 (some b) w w'):=Any.Builder_WriteString_k Tryz.lays166 Tryz.Builder_Extra_166 B b bs s w h hlen hBw
def Tryz.lays212_ren:Go.Shelf.Ren:=⟨λ| 212=>127 | 263=>162 | 264=>163 | n=>n,λ| 46=>211 | 51=>236 | 146=>237 | 53=>239 | 148=>240 | n=>n,λ| n=>n⟩
theorem Tryz.lays212:Go.Proofs.Lays.n212 Tryz.prog Tryz.lays212_ren:={
  mixed:=by kernel_rfl
  f212:=Tryz.func127.trans (congrArg some (by kernel_rfl))
  f263:=Tryz.func162.trans (congrArg some (by kernel_rfl))
  f264:=Tryz.func163.trans (congrArg some (by kernel_rfl))
  t46:=Tryz.underlying211
  a46:=Tryz.isAgg211
  z46:=Tryz.sizeOf211
  v46:=Tryz.zeroValue211
  t51:=Tryz.underlying236
  a51:=Tryz.isAgg236
  z51:=Tryz.sizeOf236
  v51:=Tryz.zeroValue236
  t53:=Tryz.underlying239
  a53:=Tryz.isAgg239
  z53:=Tryz.sizeOf239
  v53:=Tryz.zeroValue239
  t146:=Tryz.underlying237
  a146:=Tryz.isAgg237
  z146:=Tryz.sizeOf237
  v146:=Tryz.zeroValue237
  t148:=Tryz.underlying240
  a148:=Tryz.isAgg240
  z148:=Tryz.sizeOf240
  v148:=Tryz.zeroValue240 }
theorem sh_Mul (x y:Nat) (hx:x<18446744073709551616) (hy:y<18446744073709551616) (w:World) :
    Calls Tryz.prog 127 #[.int .u64 x,.int .u64 y] w λe w'=>e = .returned (.tuple #[.int .u64 ((x * y / 18446744073709551616:Nat):Int),.int .u64 ((x * y % 18446744073709551616:Nat):Int)])∧w'=w:=Any.bits_Mul Tryz.lays212 x y hx hy w
end
end Go.Proofs
namespace Go.Proofs.YtgeehfnbhbibeaaGreatDoor.Rx
open Go Pad Rex Go.Proofs Go.RowKit Go.Proofs.Tryz Sum
section
set_option maxRecDepth 100000
set_option maxHeartbeats 400000
def dv_ (a0:Bool):Option ((List UInt8)×Unit):=cond a0 (some ([116,114,117,101],())) (some ([102,97,108,115,101],()))
theorem ok_190:cc9 prog 190 [.bool] [.str] (λx=>dv_ x.1):=by
  intro w S Fr hv vs x r hG hI ha hF
  match vs,ha with
  | [v],⟨hv1,_⟩ =>
    obtain rfl:v = .bool x.1:=eb_ (a:=ofD .bool x.1) (by rw[bq1];exact hv1) (by cases x.1<;>rfl)
    refine (aa2 x.1 w).mono λe w' he => ?_
    obtain⟨rfl,rfl⟩:=he
    refine⟨S,[],PH.Le.refl _,hI,rfl,?_⟩
    have e1:r.1=Lib.formatBool x.1:=by
      obtain⟨b,u⟩:=x
      cases b with
      | true=>obtain rfl:=a6_ hF;rfl
      | false=>obtain rfl:=a6_ hF;rfl
    have:=bf0 (hv:=λ_=>undef) (S:=S) r.1
    rw[← e1]
    exact this
noncomputable def c_190:Con prog:=cnv 190 [.bool] [.str] (λx=>dv_ x.1) ok_190
theorem ry_ {w w':World} {S:PH} {O:List HP} {B:Nat} (h:Inv w S O) (hB:B=w.heap.size) (hb:Below B w w'):Inv w' S O:=by
  subst hB
  exact h.world hb.os hb.output λb o e=>(hb.block b (j0_.1 e).1).trans e
theorem cn6 {T e:TypeId} {B b:Nat} {bs:List Value} {w w':World} (hk:∀ (k:Nat) (o:Obj),w.heap[k]?=some o→w'.heap[k]?=some o) (h:Lib.IsBuilderF T e B b bs w):Lib.IsBuilderF T e B b bs w':=by
  have key:∀ {p:Value},Lib.BuilderAtF T e B b p bs w→Lib.BuilderAtF T e B b p bs w':=by
    rintro p ⟨h1,v,h2,⟨h3,h4⟩,h5⟩
    refine⟨h1,v,hk _ _ h2,⟨h3,?_⟩,h5⟩
    rcases h4 with h4 | ⟨g,cap,cur,fz,g1,g2,g3,g4⟩
    · exact .inl h4
    · exact .inr ⟨g,cap,cur,fz,g1,g2,hk _ _ g3,g4⟩
  exact h.elim (λh=>.inl (key h)) λh=>.inr (key h)
theorem am3 {w:World} {n:Nat} {os:Array Obj}:∀ (k:Nat) (o:Obj),w.heap[k]?=some o→(Go.Sort.grow (w.drewN n) os).heap[k]?=some o:=by
  intro k o h
  show (w.heap++os)[k]?=some o
  rw[Array.getElem?_append_left (j0_.1 h).1]
  exact h
theorem tab_is {w:World} {S:PH} {O:List HP} (hG:GlS S) (hI:Inv w S O):Lib.TabIs prog w "internal/strconv.uint64pow10" .u64 Lib.pow10Tab:=by
  obtain⟨T,fz,h⟩:=hG.2 1 pow10V rfl
  have h2:=Own.in_ hI.own _ _ h
  unfold Lib.TabIs World.var?
  rw[laysM171.m17]
  show (match w.heap[1]? with
    | some (.cells cs _ _)=>some cs
    | _=>none)=_
  rw[h2]
  simp[pow10V,Lib.pow10Tab]
def cd4 (n:Int):List UInt8:=Lib.itoa n++[32]
def ak8 (l:List Int):List UInt8:=l.flatMap cd4
def hc_ (ls:List (List Int)):List UInt8:=ls.flatMap ak8
def inI (n:Int):Bool:=decide (-9223372036854775808≤n)&&decide (n≤9223372036854775807)
def fg_ (a0:List (List Int)):Option ((List UInt8)×Unit):=cond (a0.all (λl=>l.all inI)&&Nat.ble (hc_ a0).length 2147483648) (some (hc_ a0,())) none
def NInv (v:Value) (n:Nat) (w0:World) (b:Nat) (acc:List UInt8) (f:Pad.Fr) (w:World):Prop :=
  Below w0.heap.size w0 w∧Lib.IsBuilderF 260 5 w0.heap.size b (Lib.byteCells acc) w∧f 3 = .pointer (some ⟨b,0,none⟩)∧f 8=v∧f 9 = .int .i64 n∧f.ds=[]
theorem bw3:∀ (k i:Nat),forS (λ(_:Nat) (_:Unit)=>some ()) k i ()=some ()
  | 0,_=>rfl
  | k+1,i=>bw3 k (i+1)
theorem sh45:Shape prog 55 false 1:=yp_ (by kernel_rfl)
theorem sh3':Shape prog 3 false 1:=yp_ (by kernel_rfl)
theorem cb_187:ef_ prog 187:=⟨_,func187,rfl,by kernel_rfl⟩
theorem cb_188:ef_ prog 188:=⟨_,func188,rfl,by kernel_rfl⟩
theorem cb_189:ef_ prog 189:=⟨_,func189,rfl,by kernel_rfl⟩
theorem ay3 {P:Program} {n k d:Nat} {ro:Option Nat} {f:Pad.Fr} {w:World} {K:Pad.Fr→World→Prop} {ty:TypeId} {pos:String} {af:Array Edge} {gd:Option (Nat×Bool)} {vs:List Value} {g:Operand} {args:Array Operand} {ct:Array TypeId} {R:Ending→World→Prop}
    (hd:Nat.blt d n=true) (hk:ef_ P k) (hg:ev f g = .func (.func k) #[] #[]) (hargs:(args.map (ev f)) ++ #[]=vs.toArray) (hc:Calls P k vs.toArray w R) (kont:∀ e w',R e w'→∃ v,e = .returned v∧K (upd f d v) w') :
    OP P n ro ⟨some d,.call ⟨.value g,args,ct⟩,ty,pos,af,gd⟩ f w K :=
  lw_ (ri_ hk hg hargs) hc λe w' he=>by
    obtain⟨v,h1,h2⟩:=kont e w' he
    exact⟨v,h1,hd,h2⟩
theorem str_op {P:Program} [Tb P] {f:Pad.Fr} {w:World} {d:Nat} {x y:Operand} {ty T2:TypeId} {pos:String} {af:Array Edge} {gd:Option (Nat×Bool)} {a b c:Str} (hx:Pad.ev f x = .string ⟨a.toArray⟩) (hy:Pad.ev f y = .string ⟨b.toArray⟩) (h:cat? a b=some c) :
    (execOp (Pad.ev f) ⟨some d,.binOp .add 9 x y T2,ty,pos,af,gd⟩).run P w = .ok (.value (.string ⟨c.toArray⟩)) w:=by
  have h1:=bm6 (P:=P) (T:=9) (w:=w) h
  have h2:=gc_ (P:=P) (T:=9) (op:=.add) (w:=w) (X:=x) (Y:=y) (v:=.string ⟨a.toArray⟩) (u:=.string ⟨b.toArray⟩) trivial
  simp[execOp,Sem.run_bind,hx,hy,h1,h2,Result.andThen]
theorem bq6 {w:World} {S:PH} {Fr:List HP} {v:Value} {ls:List (List Int)} (hG:GlS S) (hI:Inv w S Fr) (hr:RVt (.list (.list .int)) S v ls) (hin:(ls.all λl=>l.all inI)=true) (hlen:(hc_ ls).length≤2147483648) :
    Calls prog 142 [v].toArray w λe w'=>e = .returned (.string ⟨(hc_ ls).toArray⟩)∧Inv w' S Fr:=by
  letI:Enc (List Int):=(Ty.list .int).enc
  letI:Enc Int:=Ty.int.enc
  obtain⟨a0,cap0,hv2,_,hmax,_⟩:=@hq_ (List Int) (Ty.list .int).enc S v ls hr
  have hk0:ls.length≤9223372036854775807:=by
    unfold maxLen at hmax
    omega
  refine qu_ (n:=27) func142 rfl rfl rfl ?_
  refine bh_ (bc_ (wa_ (v:=.string ⟨#[]⟩) rfl rfl (dj_ ?_)))
  have hz:=zeroValue260
  refine bh_ (bc_ (wo_ (db_ (v:=.pointer (some ⟨w.heap.size,0,none⟩)) (w':=w.alloc (.cells #[.pointer none,.slice none 0 0] 260)) rfl (by simp only[execOp,Instr.alloc,Sem.run_bind,hz w,Result.andThen_ok];rfl) (dj_ ?_))))
  have hI1:Inv (w.alloc (.cells #[.pointer none,.slice none 0 0] 260)) S Fr:=hI.world rfl rfl λb o e=>(Below.heap_alloc w _ b (j0_.1 e).1).trans e
  have hB1:Below w.heap.size w (w.alloc (.cells #[.pointer none,.slice none 0 0] 260)):=⟨rfl,rfl,rfl,by simp,λk hk=>Below.heap_alloc w _ k hk⟩
  have hD1:Lib.IsBuilderF 260 5 w.heap.size w.heap.size (Lib.byteCells []) (w.alloc (.cells #[.pointer none,.slice none 0 0] 260)):=.inl ⟨c3_ _,.slice none 0 0,Array.getElem?_push_size,⟨rfl,.inl ⟨rfl,rfl⟩⟩,by simp[Value.ownBlock]⟩
  refine bh_ (bh_ (bc_ (wm_ (v:=v) rfl rfl (wo_ (ay4 rfl underlying33 hv2 (wm_ (v:=.int .i64 0) rfl rfl (dj_ ?_)))))))
  refine ap3 (λf w'=>NInv v ls.length w w.heap.size (hc_ ls) f w') ?_ ?_
  · refine eg_ (bj0 (σ:=Unit) (k:=ls.length) (I:=λi _ f w'=>NInv v ls.length w w.heap.size (hc_ (ls.take i)) f w'∧f 10 = .int .i64 (i:Int)) (bw3 _ _) ⟨⟨hB1,hD1,rfl,rfl,rfl,rfl⟩,rfl⟩ ?_ ?_)
    · rintro i _ f w1 o hi ⟨⟨b1,b2,b3,b4,b5,b6⟩,b7⟩ _
      have I1:=ry_ hI rfl b1
      refine bh_ (bc_ (wo_ (yy_ rfl b7 b5 (dj_ (bh_ (lt_ rfl (len_t hi) (kt_ (bh_ (eg_ ?_)))))))))
      obtain⟨l,hl⟩:∃ l,ls[i]?=some l:=⟨_,a7_ hi⟩
      have hat:at? ls (i:Int)=some l:=by rw[av3];exact hl
      refine bh_ (bc_ (wo_ (@nl_ _ _ _ _ _ _ _ _ _ _ _ _ _ _ _ (List Int) (Ty.list .int).enc S ls 55 (i:Int) _ rfl underlying33 sh45 b4 hr b7 hat ?_)))
      have hp:co4 (.list .int) S (co_ v i 1) l:=qf_ (t:=.list .int) (x:=l) hr hat
      refine wo_ (bp7 (α:=List Int) (S:=S) (e:=l) rfl sh45 rfl (hp.at_ I1) λu hu => ?_)
      refine wa_ (v:=u) rfl rfl (dj_ ?_)
      obtain⟨a1,cap1,hu2,_,hmax1,_⟩:=@hq_ Int Ty.int.enc S u l hu
      have hk1:l.length≤9223372036854775807:=by
        unfold maxLen at hmax1
        omega
      refine bh_ (bc_ (wm_ (v:=u) rfl rfl (wo_ (ay4 rfl underlying55 hu2 (wm_ (v:=.int .i64 0) rfl rfl (dj_ ?_))))))
      have htk:hc_ (ls.take (i+1))=hc_ (ls.take i)++ak8 l:=by
        rw[d7_,hl]
        simp[hc_]
      have hle:(hc_ (ls.take (i+1))).length≤2147483648:=by
        have:hc_ ls=hc_ (ls.take (i+1))++hc_ (ls.drop (i+1)):=by
          unfold hc_
          rw[← q7_,g5_]
        rw[this,a8_] at hlen
        omega
      have hinl:∀ n ∈ l,inI n=true:=λn hn=>f0_.1 (f0_.1 hin l (b2_ hl)) n hn
      refine ap3 (λf w'=>NInv v ls.length w w.heap.size (hc_ (ls.take (i+1))) f w'∧f 10 = .int .i64 (i:Int)) ?_ ?_
      · refine eg_ (bj0 (σ:=Unit) (k:=l.length) (I:=λj _ f w'=>NInv v ls.length w w.heap.size (hc_ (ls.take i)++ak8 (l.take j)) f w'∧f 10 = .int .i64 (i:Int)∧f 14=u∧f 15 = .int .i64 l.length∧f 16 = .int .i64 (j:Int)) (bw3 _ _)
          ⟨⟨b1,by rw[show ak8 (l.take 0)=[] from rfl,e8_];exact b2,b3,b4,b5,b6⟩,b7,rfl,rfl,rfl⟩ ?_ ?_)
        · rintro j _ f w1 o hj ⟨⟨b1,b2,b3,b4,b5,b6⟩,b7,b8,b9,b10⟩ _
          have I1:=ry_ hI rfl b1
          refine bh_ (bc_ (wo_ (yy_ rfl b10 b9 (dj_ (bh_ (lt_ rfl (len_t hj) (kt_ (bh_ (eg_ ?_)))))))))
          obtain⟨n,hn⟩:∃ n,l[j]?=some n:=⟨_,a7_ hj⟩
          have hatn:at? l (j:Int)=some n:=by rw[av3];exact hn
          refine bh_ (bc_ (wo_ (@nl_ _ _ _ _ _ _ _ _ _ _ _ _ _ _ _ Int Ty.int.enc S l 3 (j:Int) _ rfl underlying55 sh3' b8 hu b10 hatn ?_)))
          have hpn:co4 .int S (co_ u j 1) n:=qf_ (t:=.int) (x:=n) hu hatn
          refine wo_ (as5 rfl sh3' rfl (hpn.at_ I1) ?_)
          refine wa_ (v:=.int .i64 n) rfl rfl (dj_ ?_)
          refine bc_ (wm_ (v:=.int .i64 n) rfl rfl ?_)
          have hni:=hinl n (b2_ hn)
          unfold inI at hni
          rw[a1_] at hni
          have htj:ak8 (l.take (j+1))=ak8 (l.take j)++cd4 n:=by
            rw[d7_,hn]
            simp[ak8]
          have hlej:(hc_ (ls.take i)++(ak8 (l.take j)++cd4 n)).length≤2147483648:=by
            have:ak8 l=ak8 (l.take (j+1))++ak8 (l.drop (j+1)):=by
              unfold ak8
              rw[← q7_,g5_]
            rw[htk,this,htj,a8_,a8_] at hle
            rw[a8_]
            omega
          refine wo_ (ay3 (vs:=[.int .i64 n]) rfl cb_188 rfl (args1 rfl) (sh_Itoa n (f3_ hni.1) (f3_ hni.2) w1 (tab_is hG I1)) λe w2 he => ?_)
          obtain⟨rfl,k,os,rfl⟩:=he
          refine⟨_,rfl,?_⟩
          have b1':Below w.heap.size w (Go.Sort.grow (w1.drewN k) os):=b1.trans ⟨rfl,rfl,rfl,by simp[Go.Sort.grow,World.drewN],λk hk=>by
            have h1:k<w1.heap.size:=f9_ hk b1.size
            exact (am3 k _ (d4_ h1)).trans (d4_ h1).symm⟩
          have b2':=cn6 (am3 (n:=k) (os:=os)) b2
          have hcat:cat? (Lib.itoa n) [32]=some (cd4 n):=by
            unfold cat?
            have:Nat.ble ((Lib.itoa n).length+([32]:Str).length) 2147483648=true:=by
              refine i4_ ?_
              have h1:(cd4 n).length=(Lib.itoa n).length+1:=by simp[cd4]
              rw[a8_,a8_,h1] at hlej
              show (Lib.itoa n).length+1≤_
              omega
            rw[this]
            rfl
          refine wo_ (db_ (v:=.string ⟨(cd4 n).toArray⟩) (w':=Go.Sort.grow (w1.drewN k) os) rfl (str_op rfl rfl hcat) ?_)
          refine wo_ (ay3 (vs:=[.pointer (some ⟨w.heap.size,0,none⟩),.string ⟨(cd4 n).toArray⟩]) rfl cb_187 rfl (args2 b3 rfl) (yb_ w.heap.size w.heap.size (Lib.byteCells (hc_ (ls.take i)++ak8 (l.take j))) ⟨(cd4 n).toArray⟩ _ b2' ?_ b1'.size) λe w2 he => ?_)
          · rw[Lib.byteCells_length]
            show (hc_ (ls.take i)++ak8 (l.take j)).length+(cd4 n).toArray.size≤_
            rw[List.size_toArray,a8_]
            rw[a8_,a8_] at hlej
            omega
          obtain⟨rfl,c1,c2,c3⟩:=he
          refine⟨_,rfl,dj_ ?_⟩
          have c1':Lib.IsBuilderF 260 5 w.heap.size w.heap.size (Lib.byteCells (hc_ (ls.take i)++ak8 (l.take (j+1)))) w2:=by
            rw[htj,← b4_,Lib.byteCells_append]
            exact .inr c1
          exact bc_ (wo_ (bp8 rfl b10 rfl (wm_ rfl rfl (dj_ ⟨⟨b1'.trans c2,c1',b3,b4,b5,b6⟩,b7,b8,b9,ba6 hj hk1⟩))))
        · rintro f w1 ⟨⟨b1,b2,b3,b4,b5,b6⟩,b7,b8,b9,b10⟩
          rw[e1_,← htk] at b2
          exact bh_ (bc_ (wo_ (yy_ rfl b10 b9 (dj_ (bh_ (id_ rfl (len_f _) (rb_ ⟨⟨b1,b2,b3,b4,b5,b6⟩,b7⟩)))))))
      · rintro f w1 ⟨⟨b1,b2,b3,b4,b5,b6⟩,b7⟩
        refine bc_ (wo_ (bp8 rfl b7 rfl (wm_ rfl rfl (dj_ ⟨⟨b1,b2,b3,b4,b5,b6⟩,ba6 hi hk0⟩))))
    · rintro f w1 ⟨⟨b1,b2,b3,b4,b5,b6⟩,b7⟩
      rw[e1_] at b2
      exact bh_ (bc_ (wo_ (yy_ rfl b7 b5 (dj_ (bh_ (id_ rfl (len_f _) (rb_ ⟨b1,b2,b3,b4,b5,b6⟩)))))))
  · rintro f w1 ⟨b1,b2,b3,b4,b5,b6⟩
    have I1:=ry_ hI rfl b1
    refine bh_ (bc_ (wo_ (ay3 (vs:=[.pointer (some ⟨w.heap.size,0,none⟩)]) rfl cb_189 rfl (args1 b3) (bl9 w.heap.size w.heap.size (hc_ ls) w1 b2 b1.size) λe w2 he => ?_)))
    obtain⟨rfl,c1,c2,c3⟩:=he
    refine⟨_,rfl,wa_ (v:=.string ⟨(hc_ ls).toArray⟩) rfl rfl (dj_ (vi_ ⟨b6,_,res1 rfl rfl,rfl,ry_ hI rfl (b1.trans c2)⟩))⟩
theorem ok_142:cc9 prog 142 [.list (.list .int)] [.str] (λx=>fg_ x.1):=by
  intro w S Fr hv vs x r hG hI ha hF
  match vs,ha with
  | [v],⟨hv1,_⟩ =>
    obtain⟨ls,u⟩:=x
    have hF:cond (ls.all (λl=>l.all inI)&&Nat.ble (hc_ ls).length 2147483648) (some (hc_ ls,())) none=some r:=hF
    obtain⟨hc,hF⟩:=bm_ hF
    simp only[a1_] at hc
    obtain⟨hin,hlen⟩:=hc
    obtain rfl:=a6_ hF
    have hr:RVt (.list (.list .int)) S v ls:=qk_ (hv:=hv) hv1
    refine (bq6 hG hI hr hin (b7_ hlen)).mono λe w' he => ?_
    obtain⟨rfl,hI'⟩:=he
    exact⟨S,[],PH.Le.refl _,hI',rfl,bf0 (hv:=λ_=>undef) (S:=S) (hc_ ls)⟩
noncomputable def c_142:Con prog:=cnv 142 [.list (.list .int)] [.str] (λx=>fg_ x.1) ok_142
end
end Go.Proofs.YtgeehfnbhbibeaaGreatDoor.Rx
namespace Go.Proofs.YtgeehfnbhbibeaaGreatDoor.Pad
open Go
section
abbrev sn:Value:=.slice none 0 0
theorem AllP.v {l:List Nat} {sps:List Sp} {f:Fr} {vals:Nat→Value} {S':PH} (h:AllP l (λj=>∀ t,sps[j]?=some t→(∀ d,t.dst=some d→f d=vals j)∧t.fact (t.deps.map vals) S')) (i:Nat) {a d:Nat} {t:Sp} {x:Value}
    (e:(l[i]?,sps[a]?,t.dst,t.fact (t.deps.map vals) S')=(some a,some t,some d,vals a=x)):f d=x :=
  h.u i (h9_ e).1 (h9_ (h9_ e).2).1 (h9_ (h9_ e).2).2
theorem fo {A:Value→Prop} {B C:Value→PH→Prop} {S:PH} {v:Value} (c:C v S) (a:A v:=by exact rfl) (b:B v S:=by exact rfl):∃ v S',A v∧S.Le S'∧B v S'∧C v S':=⟨v,S,a,lr,b,c⟩
section
variable {P:Program} {n:Nat} {ro:Option Nat} {ops:Array Oper} {sps:List Sp} {tks:List Tok} {f0:Fr} {S:PH} {i:Nat} {s:Sp}
theorem ob_ {o:Oper} (ho:(ops[i]?,o.guard)=(some o,none)) (h:∀ {vals:Nat→Value} {f:Fr} {w:World} {S':PH} {X:List HP},S.Le S' →
    AllP s.anc (λj=>∀ t,sps[j]?=some t→(∀ d,t.dst=some d→f d=vals j)∧t.fact (t.deps.map vals) S') →
    (∀ d,(∀ (j:Nat) (t:Sp),sps[j]?=some t→t.dst=some d→i ∈ t.anc∨i=j)→f d=f0 d) →
    Inv w S' (s.cons.map (kn_ tks vals)++(s.rd.map (kn_ tks vals)++X)) →
    OP P n ro o f w λf' w'=>∃ v S'',f'=vl_ f s.dst v∧S'.Le S''∧s.fact (s.deps.map (upv vals i v)) S'' ∧
      Inv w' S'' (s.prod.map (kn_ tks (upv vals i v))++(s.rd.map (kn_ tks vals)++X))):Ob P n ro ops sps tks f0 S i s :=
  λ_ _ _ _ _ a b c d=>pl_ ho (h a b c d)
end
section
variable {P:Program} {n:Nat} {ro:Option Nat} {f:Fr} {w:World} {K:Fr→World→Prop} {d k:Nat} {ty:TypeId} {pos:String} {af:Array Edge} {gd:Option (Nat×Bool)} {x y:Operand} {v:Value} {T:TypeId} {S:PH}
end
end
end Go.Proofs.YtgeehfnbhbibeaaGreatDoor.Pad
namespace Go.Proofs.YtgeehfnbhbibeaaGreatDoor.Rx
open Go Pad Rex Go.Proofs Go.Proofs.Tryz Sum
section
set_option maxRecDepth 100000
set_option maxHeartbeats 400000
def ivs (l:List Int):List Value:=l.map λn=>.int .i64 n
def ao9 (m n:Nat) (a:Int):List Int:=List.replicate n a++List.replicate (m - n) 0
theorem ay5 {P:Program} {n d:Nat} {ro:Option Nat} {f:Pad.Fr} {w:World} {K:Pad.Fr→World→Prop} {ty T E B:TypeId} {pos:String} {af:Array Edge} {gd:Option (Nat×Bool)} {x y:Operand} {S:PH} {O:List HP} {g o dl dc sl sc:Nat} {ad:Addr} {cs:Array Value} {ys:List Value}
    (hd:Nat.blt d n=true) (hT:P.underlying T=some (.slice E)) (hs:(P.info? E).map (·.size)=some 1) (hx:Pad.ev f x = .slice (some ⟨g,o,none⟩) dl dc) (hy:Pad.ev f y = .slice (some ad) sl sc) (hI:Inv w S (kr_ g B cs::O))
    (hn:ys.length=Nat.min sl dl) (hsrc:∀ j v,ys[j]?=some v→w.cell? (ad.add j)=some v) (hfit:o+ys.length≤cs.size) (h1:∀ v ∈ ys,v.oneCell'=true)
    (k:∀ w',Inv w' S (kr_ g B (cs.toList.take o++ys++cs.toList.drop (o+ys.length)).toArray::O)→K (upd f d (.int .i64 (ys.length:Nat))) w') :
    OP P n ro ⟨some d,.call ⟨.builtin .copy,#[x,y],#[T,T]⟩,ty,pos,af,gd⟩ f w K:=by
  have h:=run_copy_row (P:=P) w T T ty E g o dl dc ad sl sc cs B ys hT hs hI.blk hn hsrc hfit h1
  exact db_ hd (by simp[execOp,resolve,invoke,builtin,hx,hy,h,Result.andThen];rfl) (k _ hI.setRow)
theorem ci7 {P:Program} {n d:Nat} {ro:Option Nat} {f:Pad.Fr} {w:World} {K:Pad.Fr→World→Prop} {ty T E:TypeId} {pos:String} {af:Array Edge} {gd:Option (Nat×Bool)} {x y:Operand} {dl dc sl sc:Nat} {ap ad:Option Addr}
    (hd:Nat.blt d n=true) (hT:P.underlying T=some (.slice E)) (hs:(P.info? E).map (·.size)=some 1) (hx:Pad.ev f x = .slice ap dl dc) (hy:Pad.ev f y = .slice ad sl sc)
    (hn:Nat.min sl dl=0) (k:K (upd f d (.int .i64 0)) w) :
    OP P n ro ⟨some d,.call ⟨.builtin .copy,#[x,y],#[T,T]⟩,ty,pos,af,gd⟩ f w K:=by
  have h:=run_copy_none (P:=P) w T T ty E ap ad dl dc sl sc hT hs hn
  exact db_ hd (by simp[execOp,resolve,invoke,builtin,hx,hy,h,Result.andThen];rfl) k
theorem op_make {n d:Nat} {ro:Option Nat} {f:Pad.Fr} {w:World} {K:Pad.Fr→World→Prop} {ty:TypeId} {pos:String} {af:Array Edge} {gd:Option (Nat×Bool)} {x y:Operand} {S:PH} {O:List HP} {m:Nat}
    (hd:Nat.blt d n=true) (hx:Pad.ev f x = .int .i64 m) (hy:Pad.ev f y = .int .i64 m) (hm:m≤2147483648) (hI:Inv w S O)
    (k:∀ g w',Inv w' S (kr_ g 3 (ivs (List.replicate m 0)).toArray::O)→K (upd f d (.slice (some ⟨g,0,none⟩) m m)) w') :
    OP prog n ro ⟨some d,.makeSlice 55 x y,ty,pos,af,gd⟩ f w K:=by
  obtain⟨bytes,zv,⟨ei,hE⟩,hb,hr⟩:=ks_ (show qy_ prog 3 .int=some (0:Int) by kernel_rfl)
  have hzv:zv = .int .i64 0:=lz_ (hr S)
  have hbb:(ei.bytes:Int) * (m:Int)≤281474976710656:=by
    have h1:(ei.bytes:Int)≤65536:=by rw[hE.hb];omega
    have h2:(ei.bytes:Int) * (m:Int)≤65536 * 2147483648:=Int.mul_le_mul h1 (by omega) (by omega) (by omega)
    omega
  have h:=run_make (P:=prog) w 55 3 ei zv underlying55 hE.hi hE.hz .i64 .i64 m m (by omega) (m4_ _) hbb (by omega)
  have hsz:ei.size=1:=hE.hs
  have hc:madeCells zv.cells ((m:Int).toNat * ei.size)=(ivs (List.replicate m 0)).toArray:=by
    have h2:=nu_ zv.cells m
    have h3:zv.cells.size=1:=by rw[hzv];rfl
    rw[h3] at h2
    rw[hsz,b8_]
    apply Array.toList_inj.1
    rw[h2,hzv]
    simp[Value.cells,ivs]
  rw[hc] at h
  exact db_ hd (by rw[b8_] at h;simp[execOp,Sem.run_bind,hx,hy,h,Result.andThen]) (k _ _ (hI.alloc 3 _))
theorem cb_127:ef_ prog 127:=⟨_,func127,rfl,by kernel_rfl⟩
theorem ce1 {m:Nat} (h:m≤2147483648):wu64 (m:Int)=(m:Int):=by
  unfold wu64 IntKind.wrap
  simp[IntKind.signed,IntKind.bits]
  omega
theorem in3:(prog.info? 3).map (·.size)=some 1:=by kernel_rfl
theorem bu7 {m n q:Nat} {a:Int} (h:n+q≤m):(ivs (ao9 m n a)).take n++ivs (List.replicate q a)++(ivs (ao9 m n a)).drop (n+q)=ivs (ao9 m (n+q) a):=by
  unfold ivs ao9
  rw[← List.map_take,← List.map_drop,← j2_,← j2_]
  congr 1
  have h1:(List.replicate n a++List.replicate (m - n) (0:Int)).take n=List.replicate n a:=by
    rw[List.take_append_of_le_length (by simp),h0_ (by simp)]
  have h2:(List.replicate n a++List.replicate (m - n) (0:Int)).drop (n+q)=List.replicate (m - (n+q)) 0:=by
    rw[List.drop_append,List.drop_of_length_le (by simp)]
    simp
    omega
  rw[h1,h2,List.replicate_append_replicate]
theorem ivs_len (l:List Int):(ivs l).length=l.length:=by simp[ivs]
theorem cg4 {m n:Nat} {a:Int} (h:n≤m):(ao9 m n a).length=m:=by simp[ao9];omega
theorem rowR_at {m n j:Nat} {a:Int} (h:j<n):(ivs (ao9 m n a))[j]?=some (.int .i64 a):=by
  unfold ivs ao9
  rw[d8_,b1_ (by simpa using h),h5_,if_pos h]
  rfl
theorem ivs_one {l:List Int}:∀ v ∈ ivs l,v.oneCell'=true:=by
  intro v hv
  obtain⟨n,_,rfl⟩:=d0_.1 hv
  rfl
theorem sl_l {f:Pad.Fr} {w:World} {d m n g:Nat} {x y:Operand} {ty:TypeId} {pos:String} {af:Array Edge} {gd:Option (Nat×Bool)} (hx:Pad.ev f x = .slice (some ⟨g,0,none⟩) m m) (hy:Pad.ev f y = .int .i64 n) (h:n<m) :
    (execOp (Pad.ev f) ⟨some d,.slice 55 x (some y) none none,ty,pos,af,gd⟩).run prog w = .ok (.value (.slice (some ⟨g,n,none⟩) (m - n) (m - n))) w:=by
  have:=cq4 (P:=prog) (w:=w) (T:=55) (E:=3) (a:=some ⟨g,0,none⟩) (len:=m) (cap:=m) (lo:=(n:Int)) underlying55 sh3' (by omega) (by omega)
  have hne:¬ m=n:=by omega
  have e:(⟨g,0,none⟩:Addr).add (n * 1)=⟨g,n,none⟩:=by rw[q5_,fw_,b0_]
  simp only[sliced,hne,i0_,g7_,b8_,e] at this
  simp[execOp,hx,hy,this,Result.andThen]
theorem sl_h {f:Pad.Fr} {w:World} {d m n g:Nat} {x y:Operand} {ty:TypeId} {pos:String} {af:Array Edge} {gd:Option (Nat×Bool)} (hx:Pad.ev f x = .slice (some ⟨g,0,none⟩) m m) (hy:Pad.ev f y = .int .i64 n) (h:n<m) :
    (execOp (Pad.ev f) ⟨some d,.slice 55 x none (some y) none,ty,pos,af,gd⟩).run prog w = .ok (.value (.slice (some ⟨g,0,none⟩) n m)) w:=by
  have:=cq5 (P:=prog) (w:=w) (T:=55) (E:=3) (a:=some ⟨g,0,none⟩) (len:=m) (cap:=m) (hi:=(n:Int)) underlying55 sh3' (by omega) (by omega)
  have hne:¬ m=0:=by omega
  simp[sliced,hne,Addr.add] at this
  simp[execOp,hx,hy,this,Result.andThen]
theorem op_uI {n d:Nat} {ro:Option Nat} {f:Pad.Fr} {w:World} {K:Pad.Fr→World→Prop} {ty:TypeId} {pos:String} {af:Array Edge} {gd:Option (Nat×Bool)} {x:Operand} {m:Nat} (hd:Nat.blt d n=true) (hx:Pad.ev f x = .int .u64 (m:Int)) (hm:m≤2147483648)
    (k:K (upd f d (.int .i64 (m:Int))) w):OP prog n ro ⟨some d,.convert 211 3 x,ty,pos,af,gd⟩ f w K:=by
  have h64:IntKind.i64.wrap (m:Int)=m:=by rw[IntKind.wrap_i64];omega
  exact db_ hd (by simp[execOp,hx,convert,run_underlying underlying211,run_underlying underlying3,Conv.intToInt,h64]) k
theorem ax4 {S:PH}:∀ (l:List Int),@RepL Int Ty.int.enc S (ivs l) l
  | []=>rfl
  | a::l=>⟨[.int .i64 a],ivs l,rfl,rfl,ax4 l⟩
def RI (m g:Nat) (a:Int) (S:PH) (Fr:List HP) (k:Nat) (f:Pad.Fr) (w:World):Prop :=
  k≤m∧(0<m→0<k)∧∃ S',S.Le S'∧Inv w S' (kr_ g 3 (ivs (ao9 m k a)).toArray::Fr)∧f 7 = .slice (some ⟨g,0,none⟩) m m∧f 8 = .int .i64 (k:Int)∧f.ds=[]
theorem cg8 {w:World} {S:PH} {Fr:List HP} {v:Value} {m:Nat} {a:Int} (hI:Inv w S Fr) (hr:RVt (.list .int) S v [a]) (hm:m≤2147483648) :
    Calls prog 98 [v,.int .i64 (m:Int)].toArray w λe w'=>∃ u S',e = .returned u∧S.Le S'∧Inv w' S' (@Row Int Ty.int.enc 3 u (List.replicate m a)::Fr):=by
  obtain⟨a0,cap0,hv2,_,hmax,hnil,hrow⟩:=@hq_ Int Ty.int.enc S v [a] hr
  obtain⟨ad,rfl⟩:∃ ad,a0=some ad:=by
    cases a0 with
    | none=>have:=(hnil rfl).1;simp at this
    | some ad=>exact⟨ad,rfl⟩
  refine qu_ (n:=48) func98 rfl rfl rfl ?_
  refine bh_ (bc_ (wa_ (v:=sn) rfl rfl (dj_ ?_)))
  refine bh_ (bh_ (bc_ (wm_ (v:=.int .i64 m) rfl rfl (wo_ (yy_ (a:=(m:Int)) (b:=0) rfl rfl rfl (dj_ ?_))))))
  refine id_ rfl (c1_ (by omega)) (kt_ ?_)
  refine bh_ (bc_ (wm_ (v:=v) rfl rfl (wo_ (ay4 rfl underlying55 hv2 ?_))))
  refine wo_ (cq8 (a:=1) rfl rfl underlying3 underlying211 (wm_ (v:=.int .i64 m) rfl rfl (wo_ (cq8 (a:=(m:Int)) rfl rfl underlying3 underlying211 ?_))))
  rw[ce1 hm,show wu64 1=((1:Nat):Int) from rfl]
  refine wo_ (ay3 (vs:=[.int .u64 ((1:Nat):Int),.int .u64 (m:Int)]) rfl cb_127 rfl (args2 rfl rfl) (sh_Mul 1 m (by omega) (by omega) w) λe w2 he => ?_)
  obtain⟨rfl,rfl⟩:=he
  rw[show (1 * m / 18446744073709551616:Nat)=0 by omega,show (1 * m % 18446744073709551616:Nat)=m by omega]
  refine⟨_,rfl,?_⟩
  refine wm_ (v:=.tuple #[.int .u64 ((0:Nat):Int),.int .u64 (m:Int)]) rfl rfl (wo_ (yz_ (v:=.int .u64 ((0:Nat):Int)) rfl rfl rfl (wo_ (yz_ (v:=.int .u64 (m:Int)) rfl rfl rfl (wa_ (v:=.int .u64 ((0:Nat):Int)) rfl rfl (wa_ (v:=.int .u64 (m:Int)) rfl rfl (dj_ ?_)))))))
  refine bh_ (bh_ (bc_ (wm_ (v:=.int .u64 ((0:Nat):Int)) rfl rfl (wo_ (cq9 (a:=((0:Nat):Int)) (b:=0) rfl rfl rfl (wm_ (v:=.bool false) rfl rfl (wk_ rfl rfl rfl (mn_ (v:=.int .u64 (m:Int)) rfl rfl (wk_ rfl rfl rfl (cq9 (a:=(m:Int)) (b:=9223372036854775807) rfl rfl rfl ?_))))))))))
  have hdf:decide ((9223372036854775807:Int)<(m:Int))=false:=c1_ (by omega)
  rw[hdf]
  refine wo_ (bp6 (b:=.bool false) rfl rfl rfl rfl (dj_ (id_ rfl rfl (kt_ ?_))))
  refine bh_ (bc_ (wm_ (v:=.int .u64 (m:Int)) rfl rfl (wo_ (op_uI (m:=m) rfl rfl hm ?_))))
  refine wo_ (op_make (m:=m) rfl rfl rfl hm hI λg w3 I3=>wa_ (v:=.slice (some ⟨g,0,none⟩) m m) rfl rfl (dj_ ?_))
  have hcell:w3.cell? ad=some (.int .i64 a):=by
    obtain⟨es,h1,h2⟩:=hrow ad rfl 0 a rfl
    have h1:es=[.int .i64 a]:=h1
    have h3:=PH.cell_in I3.in_ (h2 0 (.int .i64 a) (by rw[h1];rfl))
    simpa [Addr.add] using h3
  have hl3:(ivs (List.replicate m (0:Int))).length=m:=by simp[ivs]
  refine bh_ (ap3 (λf w'=>∃ k,RI m g a S Fr k f w') ?_ ?_)
  · refine bc_ (wm_ (v:=.slice (some ⟨g,0,none⟩) m m) rfl rfl (wm_ (v:=v) rfl rfl ?_))
    by_cases h0:m=0
    · subst h0
      refine wo_ (ci7 (dl:=0) (dc:=0) (sl:=1) (sc:=cap0) rfl underlying55 in3 rfl hv2 rfl (wa_ (v:=.int .i64 0) rfl rfl (dj_ ?_)))
      exact⟨0,c3_ _,λh=>h,S,lr,I3,rfl,rfl,rfl⟩
    · refine wo_ (ay5 (g:=g) (o:=0) (dl:=m) (dc:=m) (sl:=1) (sc:=cap0) (ad:=ad) (ys:=[.int .i64 a]) rfl underlying55 in3 rfl hv2 I3 ?_ ?_ ?_ ?_ λw4 I4=>wa_ (v:=.int .i64 1) rfl rfl (dj_ ?_))
      · show 1=Nat.min 1 m
        exact (Nat.min_eq_left (by omega)).symm
      · intro j u hj
        cases j with
        | zero =>
          obtain rfl:=a6_ hj
          simpa [Addr.add] using hcell
        | succ j=>simp at hj
      · simp[hl3]
        omega
      · intro u hu
        simp at hu
        subst hu
        rfl
      · refine⟨1,by omega,λ_=>by omega,S,lr,?_,rfl,rfl,rfl⟩
        have:=bu7 (m:=m) (n:=0) (q:=1) (a:=a) (by omega)
        have e0:ao9 m 0 a=List.replicate m 0:=by simp[ao9]
        rw[e0] at this
        rw[← this]
        exact I4
  · rintro f w4 ⟨k0,hk0⟩
    refine bh_ (eg_ (ra_ (I:=λk f w'=>RI m g a S Fr k f w') (λk=>m - k) k0 hk0 ?_))
    rintro k f w5 ⟨r1,r2,S5,le5,r3,r4,r5,r6⟩
    refine bh_ (bh_ (bc_ (wm_ rfl r5 (wm_ rfl r4 (wo_ (ay4 rfl underlying55 rfl (wo_ (yy_ rfl rfl rfl (dj_ ?_)))))))))
    by_cases hkm:k<m
    · refine lt_ rfl (len_t hkm) (kt_ ?_)
      refine eg_ (wp_draw (sps:=[spV 38 [] 0 (.int .i64 k),spV 39 [] 1 (.slice (some ⟨g,0,none⟩) m m),spV 40 [] 2 (.int .i64 k),spV 41 [1,2] 3 (.slice (some ⟨g,k,none⟩) (m - k) (m - k)),spV 42 [] 4 (.slice (some ⟨g,0,none⟩) m m),spV 43 [] 5 (.int .i64 k),
        spV 44 [4,5] 6 (.slice (some ⟨g,0,none⟩) k m),⟨some 45,[1,2,3,4,5,6],[7],λvs _=>fr0 vs 0 = .int .i64 (Nat.min k (m - k):Nat),[],[0],[1],λ_ h=>h⟩,spV 46 [0,1,2,3,4,5,6,7] 8 (.int .i64 ((k+Nat.min k (m - k):Nat):Int)),spV 8 (lrg 9) 9 (.int .i64 ((k+Nat.min k (m - k):Nat):Int))])
        (tks:=[⟨none,some 7,[],λ_=>kr_ g 3 (ivs (ao9 m k a)).toArray⟩,⟨some 7,none,[],λ_=>kr_ g 3 (ivs (ao9 m (k+Nat.min k (m - k)) a)).toArray⟩]) (O:=Fr) rfl (by kernel_rfl) r3
        ⟨ob_ rfl λl A K I=>mn_ rfl ((K 8 (ws_ rfl)).trans r5) (fo I),ob_ rfl λl A K I=>mn_ rfl ((K 7 (ws_ rfl)).trans r4) (fo I),ob_ rfl λl A K I=>mn_ rfl ((K 8 (ws_ rfl)).trans r5) (fo I),
          ob_ rfl λl A K I=>db_ rfl (sl_l (A.v 0 rfl) (A.v 1 rfl) hkm) (fo I),ob_ rfl λl A K I=>mn_ rfl ((K 7 (ws_ rfl)).trans r4) (fo I),ob_ rfl λl A K I=>mn_ rfl ((K 8 (ws_ rfl)).trans r5) (fo I),
          ob_ rfl λl A K I=>db_ rfl (sl_h (A.v 0 rfl) (A.v 1 rfl) hkm) (fo I),?_,?_,ob_ rfl λl A K I=>nm_ rfl (A.v 8 rfl) (fo I),trivial⟩ ?_)
      · intro vs f w_ U X le A K I
        have hq:Nat.min k (m - k)≤k∧k+Nat.min k (m - k)≤m:=⟨Nat.min_le_left _ _,by have:Nat.min k (m - k)≤m - k:=m7_ _ _;omega⟩
        refine pl_ rfl (ay5 (g:=g) (o:=k) (dl:=m - k) (dc:=m - k) (sl:=k) (sc:=m) (ad:=⟨g,0,none⟩) (ys:=ivs (List.replicate (Nat.min k (m - k)) a)) rfl underlying55 in3 (A.v 2 rfl) (A.v 5 rfl) I (by simp[ivs]) ?_ ?_ ivs_one λw6 I6 => ?_)
        · intro j u hj
          have hj2:j<Nat.min k (m - k):=by
            have:=(a3_.1 hj).1
            simpa [ivs] using this
          have e:u = .int .i64 a:=by
            unfold ivs at hj
            rw[d8_,h5_,if_pos hj2] at hj
            exact (a6_ hj).symm
          rw[fw_,b0_,I.cell,e]
          have:=rowR_at (m:=m) (n:=k) (j:=j) (a:=a) (by omega)
          simpa using this
        · have:(ivs (ao9 m k a)).toArray.size=m:=by simp[ivs_len,cg4 r1]
          rw[this]
          simpa [ivs] using hq.2
        · have el:(ivs (List.replicate (Nat.min k (m - k)) a)).length=Nat.min k (m - k):=by simp[ivs]
          have e:=bu7 (m:=m) (n:=k) (q:=Nat.min k (m - k)) (a:=a) hq.2
          rw[el] at I6
          refine⟨_,U,rfl,lr,by rw[el];rfl,?_⟩
          show Inv w6 U (kr_ g 3 (ivs (ao9 m (k+Nat.min k (m - k)) a)).toArray::_)
          rw[← e]
          exact I6
      · intro vs f w_ U X le A K I
        have hq:k+Nat.min k (m - k)≤m:=by
          have:Nat.min k (m - k)≤m - k:=m7_ _ _
          omega
        have e:w64 ((k:Int)+(Nat.min k (m - k):Nat))=((k+Nat.min k (m - k):Nat):Int):=by
          rw[ku_ (by omega) (by omega)]
          rfl
        refine pl_ rfl (bp8 rfl (A.v 0 rfl) (A.v 7 rfl) ?_)
        rw[e]
        exact fo I
      · intro vs f6 w6 S6 ds6 le6 hF hK hI6
        have hq:0<Nat.min k (m - k)∧k+Nat.min k (m - k)≤m:=by
          have h1:Nat.min k (m - k)≤m - k:=m7_ _ _
          refine⟨Nat.lt_min.2 ⟨r2 (by omega),by omega⟩,by omega⟩
        have e8:f6 8 = .int .i64 ((k+Nat.min k (m - k):Nat):Int):=hF.v 9 rfl
        have e7:f6 7 = .slice (some ⟨g,0,none⟩) m m:=(hK 7 (ck9 rfl)).trans r4
        exact⟨k+Nat.min k (m - k),by omega,hq.2,λ_=>by omega,S6,le5.trans le6,hI6,e7,e8,ds6.trans r6⟩
    · refine id_ rfl (c1_ (by omega)) (rb_ ?_)
      obtain rfl:k=m:=by omega
      refine bh_ (bc_ (wm_ rfl r4 (wa_ (v:=.slice (some ⟨g,0,none⟩) k k) rfl rfl (dj_ (vi_ ⟨r6,.slice (some ⟨g,0,none⟩) k k,res1 rfl rfl,_,S5,rfl,le5,?_⟩)))))
      refine Inv.shut (A:=@Row Int Ty.int.enc 3 _ (List.replicate k a)) r3 (.inr ⟨g,k,[],ivs (List.replicate k a),[],by simp,by simp[ao9],ax4 _,by simp,by simp only[maxLen];omega,by simp⟩)
noncomputable def ey_ (a0:List Int) (a1:Int):Option (List Int):=match a0 with
  | [a]=>mk? a1 a
  | _=>none
noncomputable def rp_98:Rpt prog:=⟨98,[.list .int,.int],.int,3,λx=>ey_ x.1 x.2.1,λ{w S Fr hv vs x r} hG hI ha hF=>by
  obtain⟨l,c,u⟩:=x
  match vs,ha with
  | [v1,v2],⟨h1,h2,_⟩ =>
    have hF:ey_ l c=some r:=hF
    match l,hF,h1 with
    | [a],hF,h1 =>
      obtain⟨c0,c1,rfl⟩:=ac7 (show mk? c a=some r from hF)
      obtain⟨m,rfl⟩:=Int.eq_ofNat_of_zero_le c0
      obtain rfl:v2 = .int .i64 (m:Int):=lz_ (S:=S) (qk_ (hv:=hv) (t:=.int) h2)
      have hr:RVt (.list .int) S v1 [a]:=qk_ (hv:=hv) h1
      rw[b8_]
      refine (cg8 hI hr (by omega)).mono λe w' he => ?_
      obtain⟨u,S',h3,h4,h5⟩:=he
      exact⟨u,S',h3,h4,h5⟩⟩
end
section
set_option maxRecDepth 100000
set_option maxHeartbeats 0
theorem cz_140:qy_ prog 3 .int=some (show Int from 0):=by kernel_rfl
theorem ce_140:Rex.elemOf prog 55=some 3:=by kernel_rfl
noncomputable def xr_:Cpy prog:=⟨140,.int,3,λhc hI h=>bc6 func140 rfl rfl rfl ce_140 cz_140 rfl hc hI h⟩
theorem cz_141:qy_ prog 4 .bool=some (show Bool from false):=by kernel_rfl
theorem ce_141:Rex.elemOf prog 92=some 4:=by kernel_rfl
noncomputable def by3:Cpy prog:=⟨141,.bool,4,λhc hI h=>bc6 func141 rfl rfl rfl ce_141 cz_141 rfl hc hI h⟩
end
section
set_option maxRecDepth 100000
set_option maxHeartbeats 0
noncomputable def mv_ (a0:ae_):Option (Bool×Unit) :=
 (((cond (decide (12<(a0.1.length:Int)))
 (some (true,()))
 (cond (decide (15<(a0.2.1.length:Int)))
 (some (true,()))
 (cond (decide (14<(a0.2.2.1.length:Int)))
 (some (true,()))
 (cond (decide (20<(a0.2.2.2.1.length:Int)))
 (some (true,()))
 (cond (decide (30<(a0.2.2.2.2.1.length:Int)))
 (some (true,()))
 (cond (decide (15<(a0.2.2.2.2.2.1.length:Int)))
 (some (true,()))
 (some ((decide (20<(a0.2.2.2.2.2.2.2.length:Int))),()))))))))).bind λv0 =>
 (cond v0.1
 (some (true,()))
 ((ag_ (ρ:=(Unit⊕(Bool×Unit))) (λ(v1:(Int×Unit)) =>
 (cond (decide (v1.1<(a0.1.length:Int)))
 ((at? a0.1 v1.1).bind λv2 =>
 (cond (decide (100<(v2.length:Int)))
 (some (inr (inr (true,()))))
 (some (inl ((w64 (v1.1+1)),())))))
 (some (inr (inl ()))))) (0,())).bind λv3 =>
 (cd_ v3 (λv4=>((ag_ (ρ:=(Unit⊕(Bool×Unit))) (λ(v6:(Int×Unit)) =>
 (cond (decide (v6.1<(a0.2.1.length:Int)))
 ((at? a0.2.1 v6.1).bind λv7 =>
 (cond (decide (100<(v7.1.length:Int)))
 (some (inr (inr (true,()))))
 (some (inl ((w64 (v6.1+1)),())))))
 (some (inr (inl ()))))) (0,())).bind λv8 =>
 (cd_ v8 (λv9=>((ag_ (ρ:=(Unit⊕(Bool×Unit))) (λ(v11:(Int×Unit)) =>
 (cond (decide (v11.1<(a0.2.2.1.length:Int)))
 ((((at? a0.2.2.1 v11.1).bind λv12 =>
 (cond (decide (100<(v12.1.length:Int)))
 (some (true,()))
 ((at? a0.2.2.1 v11.1).bind λv13 =>
 (some ((decide (20<(v13.2.2.length:Int))),())))))).bind λv14 =>
 (cond v14.1
 (some (inr (inr (true,()))))
 (some (inl ((w64 (v11.1+1)),())))))
 (some (inr (inl ()))))) (0,())).bind λv15 =>
 (cd_ v15 (λv16=>((ag_ (ρ:=(Unit⊕(Bool×Unit))) (λ(v18:(Int×Unit)) =>
 (cond (decide (v18.1<(a0.2.2.2.1.length:Int)))
 ((at? a0.2.2.2.1 v18.1).bind λv19 =>
 (cond (decide (20<(v19.2.2.length:Int)))
 (some (inr (inr (true,()))))
 (some (inl ((w64 (v18.1+1)),())))))
 (some (inr (inl ()))))) (0,())).bind λv20 =>
 (cd_ v20 (λv21=>((ag_ (ρ:=(Unit⊕(Bool×Unit))) (λ(v23:(Int×Unit)) =>
 (cond (decide (v23.1<(a0.2.2.2.2.1.length:Int)))
 ((at? a0.2.2.2.2.1 v23.1).bind λv24 =>
 (((cond (decide (100<(v24.1.length:Int)))
 (some (true,()))
 (cond (decide (20<(v24.2.2.2.2.1.length:Int)))
 (some (true,()))
 (cond (decide (20<(v24.2.2.2.1.length:Int)))
 (some (true,()))
 (cond (decide (20<(v24.2.2.2.2.2.1.length:Int)))
 (some (true,()))
 (cond (decide (20<(v24.2.2.2.2.2.2.1.length:Int)))
 (some (true,()))
 (some ((decide (20<(v24.2.2.2.2.2.2.2.length:Int))),())))))))).bind λv25 =>
 (cond v25.1
 (some (inr (inr (true,()))))
 (some (inl ((w64 (v23.1+1)),()))))))
 (some (inr (inl ()))))) (0,())).bind λv26 =>
 (cd_ v26 (λv27=>((ag_ (ρ:=(Unit⊕(Bool×Unit))) (λ(v29:(Int×Unit)) =>
 (cond (decide (v29.1<(a0.2.2.2.2.2.1.length:Int)))
 ((at? a0.2.2.2.2.2.1 v29.1).bind λv30 =>
 (cond (decide (20<(v30.1.length:Int)))
 (some (inr (inr (true,()))))
 (some (inl ((w64 (v29.1+1)),())))))
 (some (inr (inl ()))))) (0,())).bind λv31 =>
 (cd_ v31 (λv32=>(some (false,())))
 (λv33=>(some v33)))))
 (λv28=>(some v28)))))
 (λv22=>(some v22)))))
 (λv17=>(some v17)))))
 (λv10=>(some v10)))))
 (λv5=>(some v5))))))
theorem x_51:au_ (P:=prog) (cxC [] []) (.p .z (.p (.j0 [.v 49 .bool] .z .z) (.p (.p .z (.ls [.v 3 .int] [] [] 0 .z)) (.p (.p .z (.ls [.v 4 .int] [] [] 2 .z)) (.p (.p .z (.ls [.v 5 .int] [] [] 4 (.p .z (.p (.j0 [.v 103 .bool] .z .z) .z)))) (.p (.p .z (.ls [.v 6 .int] [] [] 6 .z)) (.p (.p .z (.ls [.v 7 .int] [] [] 8 (.p .z (.p (.p .z (.j0 [.v 164 .bool] .z .z)) .z)))) (.p (.p .z (.ls [.v 9 .int] [] [] 10 .z)) .z)))))))) 51 [an_] [.bool]=λx=>mv_ x.1:=by kernel_rfl
noncomputable def c_51:Con prog:=aw_ _ _ 51 [an_] [.bool] _ x_51
noncomputable def bs_ (a0:Int) (a1:Int) (a2:Int):Option (Bool×Unit) :=
 (cond (decide (a1≤a0))
 (some ((decide (a0≤a2)),()))
 (some (false,())))
theorem x_84:au_ (P:=prog) (cxC [] []) .z 84 [.int,.int,.int] [.bool]=λx=>bs_ x.1 x.2.1 x.2.2.1:=by kernel_rfl
noncomputable def c_84:Con prog:=aw_ _ _ 84 [.int,.int,.int] [.bool] _ x_84
noncomputable def ae9  : Option ((List (List UInt8))×Unit) :=
 (some ([[97,116],[115,116,97,116,101,115],[115,116,97,114,116],[103,111,110,101],[105,102],[108,111,99,107],[119,105,116,104],[115,101,116,115],[115,112,101,110,100,115],[98,114,105,110,103,115]],()))
theorem x_156:au_ (P:=prog) (cxC [] []) .z 156 [] [(.list .str)]=λx=>ae9:=by kernel_rfl
noncomputable def c_156:Con prog:=aw_ _ _ 156 [] [(.list .str)] _ x_156
noncomputable def fn_ (a0:(List (List UInt8))) (a1:Int):Option (Bool×Unit) :=
 ((ag_ (ρ:=(Unit⊕(Bool×Unit))) (λ(v0:(Int×Unit)) =>
 (cond (decide (v0.1<a1))
 ((at? a0 v0.1).bind λv1 =>
 ((at? a0 a1).bind λv2 =>
 (cond (v1==v2)
 (some (inr (inr (true,()))))
 (some (inl ((w64 (v0.1+1)),()))))))
 (some (inr (inl ()))))) (0,())).bind λv3 =>
 (cd_ v3 (λv4=>(some (false,())))
 (λv5=>(some v5))))
theorem x_82:au_ (P:=prog) (cxC [] []) (.p .z (.p (.p .z (.ls [.v 5 .int] [] [] 0 (.p .z (.p (.p (.q [] .z .z) .z) .z)))) .z)) 82 [(.list .str),.int] [.bool]=λx=>fn_ x.1 x.2.1:=by kernel_rfl
noncomputable def c_82:Con prog:=aw_ _ _ 82 [(.list .str),.int] [.bool] _ x_82
noncomputable def me_ (a0:(List Int)) (a1:Int):Option (Bool×Unit) :=
 ((ag_ (ρ:=(Unit⊕(Bool×Unit))) (λ(v0:(Int×Unit)) =>
 (cond (decide (v0.1<(a0.length:Int)))
 ((at? a0 v0.1).bind λv1 =>
 (cond (v1==a1)
 (some (inr (inr (true,()))))
 (some (inl ((w64 (v0.1+1)),())))))
 (some (inr (inl ()))))) (0,())).bind λv2 =>
 (cd_ v2 (λv3=>(some (false,())))
 (λv4=>(some v4))))
theorem x_117:au_ (P:=prog) (cxC [] []) (.p .z (.p (.p .z (.ls [.v 5 .int] [] [] 0 .z)) .z)) 117 [(.list .int),.int] [.bool]=λx=>me_ x.1 x.2.1:=by kernel_rfl
noncomputable def c_117:Con prog:=aw_ _ _ 117 [(.list .int),.int] [.bool] _ x_117
noncomputable def bk_ (a0:Int) (a1:Int) (a2:Int):Option (Bool×Unit) :=
 (cond (decide (a1≤a0))
 (some ((decide (a0≤a2)),()))
 (some (false,())))
theorem x_87:au_ (P:=prog) (cxC [] []) .z 87 [.int,.int,.int] [.bool]=λx=>bk_ x.1 x.2.1 x.2.2.1:=by kernel_rfl
noncomputable def c_87:Con prog:=aw_ _ _ 87 [.int,.int,.int] [.bool] _ x_87
noncomputable def ik_ (a0:Int) (a1:Int) (a2:Int):Option (Bool×Unit) :=
 (cond (decide (a1≤a0))
 (some ((decide (a0≤a2)),()))
 (some (false,())))
theorem x_57:au_ (P:=prog) (cxC [] []) .z 57 [.int,.int,.int] [.bool]=λx=>ik_ x.1 x.2.1 x.2.2.1:=by kernel_rfl
noncomputable def c_57:Con prog:=aw_ _ _ 57 [.int,.int,.int] [.bool] _ x_57
noncomputable def la_ (a0:ak_):Option (Bool×Unit) :=
 (cond (a0.1==0)
 (cond (a0.2.1==0)
 (cond (a0.2.2.1==0)
 (cond (a0.2.2.2.1==0)
 (cond (a0.2.2.2.2.1==0)
 (cond ((a0.2.2.2.2.2.1.length:Int)==0)
 (some ((!a0.2.2.2.2.2.2),()))
 (some (false,())))
 (some (false,())))
 (some (false,())))
 (some (false,())))
 (some (false,())))
 (some (false,())))
theorem x_89:au_ (P:=prog) (cxC [] []) .z 89 [ap_] [.bool]=λx=>la_ x.1:=by kernel_rfl
noncomputable def c_89:Con prog:=aw_ _ _ 89 [ap_] [.bool] _ x_89
noncomputable def gl_ (a0:(List Int)) (a1:(List Int)):Option (Bool×Unit) :=
 (cond ((a0.length:Int) != (a1.length:Int))
 (some (false,()))
 ((ag_ (ρ:=(Unit⊕(Bool×Unit))) (λ(v0:(Int×Unit)) =>
 (cond (decide (v0.1<(a0.length:Int)))
 ((at? a0 v0.1).bind λv1 =>
 ((at? a1 v0.1).bind λv2 =>
 (cond (v1 != v2)
 (some (inr (inr (false,()))))
 (some (inl ((w64 (v0.1+1)),()))))))
 (some (inr (inl ()))))) (0,())).bind λv3 =>
 (cd_ v3 (λv4=>(some (true,())))
 (λv5=>(some v5)))))
theorem x_202:au_ (P:=prog) (cxC [] []) (.p .z (.p .z (.p (.p .z (.ls [.v 5 .int] [] [] 0 (.p .z (.p (.p (.q [] .z .z) .z) .z)))) .z))) 202 [(.list .int),(.list .int)] [.bool]=λx=>gl_ x.1 x.2.1:=by kernel_rfl
noncomputable def c_202:Con prog:=aw_ _ _ 202 [(.list .int),(.list .int)] [.bool] _ x_202
noncomputable def ec_ (a0:(List Int)) (a1:Int):Option (Int×Unit) :=
 ((ag_ (ρ:=(Int×Unit)) (λ(v0:(Int×(Int×Unit))) =>
 (cond (decide (v0.2.1<(a0.length:Int)))
 ((((at? a0 v0.2.1).bind λv1 =>
 (cond (v1==a1)
 (some ((w64 (v0.1+1)),()))
 (some (v0.1,()))))).bind λv2 =>
 (some (inl (v2.1,((w64 (v0.2.1+1)),())))))
 (some (inr (v0.1,()))))) (0,(0,()))).bind λv3 =>
 (some (v3.1,())))
theorem x_119:au_ (P:=prog) (cxC [] []) (.p .z (.p .z (.p (.p .z (.lp [.v 5 .int,.v 6 .int] [.v 5 .int] [] 0 (.p .z (.j0 [.v 5 .int] .z .z)))) .z))) 119 [(.list .int),.int] [.int]=λx=>ec_ x.1 x.2.1:=by kernel_rfl
noncomputable def c_119:Con prog:=aw_ _ _ 119 [(.list .int),.int] [.int] _ x_119
noncomputable def bl_ (a0:ai_) (a1:(List bf_)):Option (Bool×Unit) :=
 ((ag_ (ρ:=(Unit⊕(Bool×Unit))) (λ(v0:(Int×Unit)) =>
 (cond (decide (v0.1<(a1.length:Int)))
 ((at? a1 v0.1).bind λv1 =>
 ((at? a0.1 v1.1).bind λv2 =>
 ((at? a1 v0.1).bind λv3 =>
 ((at? a1 v0.1).bind λv4 =>
 (cond ((v2==v3.2.1)==v4.2.2)
 (some (inr (inr (false,()))))
 (some (inl ((w64 (v0.1+1)),()))))))))
 (some (inr (inl ()))))) (0,())).bind λv5 =>
 (cd_ v5 (λv6=>(some (true,())))
 (λv7=>(some v7))))
theorem x_68:au_ (P:=prog) (cxC [] []) (.p .z (.p (.p .z (.ls [.v 5 .int] [] [] 0 (.p .z (.p (.p (.q [] .z .z) .z) .z)))) .z)) 68 [aq_,(.list bz_)] [.bool]=λx=>bl_ x.1 x.2.1:=by kernel_rfl
noncomputable def c_68:Con prog:=aw_ _ _ 68 [aq_,(.list bz_)] [.bool] _ x_68
noncomputable def fo_ (a0:ai_):Option (ai_×Unit) :=
 ((push? (α:=Int) [] a0.1).bind λv0 =>
 ((push? (α:=Int) [] a0.2.1).bind λv1 =>
 ((push? (α:=Int) [] a0.2.2).bind λv2 =>
 (some ((v0,(v1,v2)),())))))
theorem x_125:au_ (P:=prog) (cxC [] []) .z 125 [aq_] [aq_]=λx=>fo_ x.1:=by kernel_rfl
noncomputable def c_125:Con prog:=aw_ _ _ 125 [aq_] [aq_] _ x_125
def an_94:An:=.z
noncomputable def cs_94 (f:List (Con prog)):List (Con prog):=f++[]
noncomputable def cl_94:List (Cpy prog):=[]
noncomputable def cx_94 (f:List (Con prog)):Cx prog:=cxC (cs_94 f) cl_94
noncomputable def g_94 (cb_:Int→Option ((List UInt8)×Unit)) (a0:Int):Option ((List UInt8)×Unit) :=
 ((sub? [48,49,50,51,52,53,54,55,56,57] (Int.tmod a0 10) (w64 ((Int.tmod a0 10)+1))).bind λv0 =>
 (cond (decide (a0<10))
 (some (v0,()))
 ((cb_ (w64 (Int.tdiv a0 10))).bind λv1 =>
 ((cat? v1.1 v0).bind λv2 =>
 (some (v2,()))))))
theorem xr_94:(λ(F:Int→Option ((List UInt8)×Unit)) (h:cc9 prog 94 [.int] [.str] (λx=>F x.1))=>au_ (cx_94 [cnv 94 [.int] [.str] _ h]) an_94 94 [.int] [.str])=λF h x=>g_94 F x.1:=by kernel_rfl
noncomputable def dn_:Nat→Int→Option ((List UInt8)×Unit)
  | 0=>λ_=>none
  | n+1=>g_94 (dn_ n)
theorem ok_94:∀ n,cc9 prog 94 [.int] [.str] (λx=>dn_ n x.1)
  | 0=>λ_ _ _ h=>(by cases h)
  | n+1=>λhG hI ha h=>(aw_ _ _ 94 [.int] [.str] _ (congrFun (congrFun xr_94 (dn_ n)) (ok_94 n))).ok hG hI ha h
noncomputable def cb_ (a0:Int):Option ((List UInt8)×Unit):=dn_ 20 a0
noncomputable def c_94:Con prog:=cnv 94 [.int] [.str] (λx=>cb_ x.1) (ok_94 20)
noncomputable def gw_ (a0:ai_) (a1:Int):Option (Int×Unit) :=
 ((ag_ (ρ:=(Int×Unit)) (λ(v0:(Int×(Int×Unit))) =>
 (cond (decide (v0.2.1<(a0.2.1.length:Int)))
 ((((at? a0.2.1 v0.2.1).bind λv1 =>
 (cond (v1==(w64 ((-2) - a1)))
 (some ((w64 (v0.1+1)),()))
 (some (v0.1,()))))).bind λv2 =>
 (some (inl (v2.1,((w64 (v0.2.1+1)),())))))
 (some (inr (v0.1,()))))) (0,(0,()))).bind λv3 =>
 (some (v3.1,())))
theorem x_159:au_ (P:=prog) (cxC [] []) (.p .z (.p .z (.p (.p .z (.lp [.v 5 .int,.v 6 .int] [.v 5 .int] [] 0 (.p .z (.j0 [.v 5 .int] .z .z)))) .z))) 159 [aq_,.int] [.int]=λx=>gw_ x.1 x.2.1:=by kernel_rfl
noncomputable def c_159:Con prog:=aw_ _ _ 159 [aq_,.int] [.int] _ x_159
noncomputable def je_ (a0:ad_) (a1:(List Int)):Option ((List ak_)×Unit) :=
 ((ag_ (ρ:=((List ak_)×Unit)) (λ(v0:((List ak_)×(Int×Unit))) =>
 (cond (decide (v0.2.1<(a1.length:Int)))
 ((at? a1 v0.2.1).bind λv1 =>
 ((at? a0.2.2.2.1 v1).bind λv2 =>
 ((push? (α:=ak_) v0.1 [v2.2.2.2.2]).bind λv3 =>
 (some (inl (v3,((w64 (v0.2.1+1)),())))))))
 (some (inr (v0.1,()))))) ([],(0,()))).bind λv4 =>
 (some (v4.1,())))
theorem x_204:au_ (P:=prog) (cxC [] []) (.p .z (.p .z (.p (.p .z (.lp [.r 5 ap_ 80,.v 6 .int] [.r 5 ap_ 80] [] 0 .z)) .z))) 204 [ao_,(.list .int)] [(.list ap_)]=λx=>je_ x.1 x.2.1:=by kernel_rfl
noncomputable def c_204:Con prog:=aw_ _ _ 204 [ao_,(.list .int)] [(.list ap_)] _ x_204
noncomputable def hf_ (a0:ad_) (a1:aa_) (a2:Int):Option ((List Int)×Unit) :=
 ((ag_ (ρ:=((List Int)×Unit)) (λ(v0:((List Int)×(Int×Unit))) =>
 (cond (decide (v0.2.1<(a0.2.2.2.1.length:Int)))
 ((((((at? a1.2 v0.2.1).bind λv1 =>
 (cond v1
 ((at? a0.2.2.2.1 v0.2.1).bind λv2 =>
 (some ((v2.2.2.1==a2),())))
 (some (false,()))))).bind λv3 =>
 (cond v3.1
 ((push? (α:=Int) v0.1 [v0.2.1]).bind λv4 =>
 (some (v4,())))
 (some (v0.1,()))))).bind λv5 =>
 (some (inl (v5.1,((w64 (v0.2.1+1)),())))))
 (some (inr (v0.1,()))))) ([],(0,()))).bind λv6 =>
 (some (v6.1,())))
theorem x_161:au_ (P:=prog) (cxC [] []) (.p .z (.p .z (.p (.p .z (.lp [.r 7 .int 3,.v 8 .int] [.r 7 .int 3] [] 0 (.p .z (.j0 [.r 7 .int 3] (.j0 [.v 30 .bool] .z .z) .z)))) .z))) 161 [ao_,aj_,.int] [(.list .int)]=λx=>hf_ x.1 x.2.1 x.2.2.1:=by kernel_rfl
noncomputable def c_161:Con prog:=aw_ _ _ 161 [ao_,aj_,.int] [(.list .int)] _ x_161
noncomputable def be_ (a0:Int) (a1:Int) (a2:Int):Option (Bool×Unit) :=
 (cond (decide (a1≤a0))
 (some ((decide (a0≤a2)),()))
 (some (false,())))
theorem x_165:au_ (P:=prog) (cxC [] []) .z 165 [.int,.int,.int] [.bool]=λx=>be_ x.1 x.2.1 x.2.2.1:=by kernel_rfl
noncomputable def bz7:Con prog:=aw_ _ _ 165 [.int,.int,.int] [.bool] _ x_165
noncomputable def dq_ (a0:(List (List UInt8))) (a1:(List UInt8)):Option (Int×Unit) :=
 ((ag_ (ρ:=(Unit⊕(Int×Unit))) (λ(v0:(Int×Unit)) =>
 (cond (decide (v0.1<(a0.length:Int)))
 ((at? a0 v0.1).bind λv1 =>
 (cond (a1==v1)
 (some (inr (inr (v0.1,()))))
 (some (inl ((w64 (v0.1+1)),())))))
 (some (inr (inl ()))))) (0,())).bind λv2 =>
 (cd_ v2 (λv3=>(some ((-1),())))
 (λv4=>(some v4))))
theorem x_255:au_ (P:=prog) (cxC [] []) (.p .z (.p (.p .z (.ls [.v 8 .int] [] [] 0 .z)) .z)) 255 [(.list .str),.str] [.int]=λx=>dq_ x.1 x.2.1:=by kernel_rfl
noncomputable def c_255:Con prog:=aw_ _ _ 255 [(.list .str),.str] [.int] _ x_255
noncomputable def uk_ (a0:(List UInt8)):Option ((List UInt8)×Unit) :=
 (some (a0,()))
theorem x_170:au_ (P:=prog) (cxC [] []) .z 170 [.str] [.str]=λx=>uk_ x.1:=by kernel_rfl
noncomputable def c_170:Con prog:=aw_ _ _ 170 [.str] [.str] _ x_170
noncomputable def uj_ (a0:gr_):Option ((List UInt8)×Unit) :=
 (some (a0.1,()))
theorem x_172:au_ (P:=prog) (cxC [] []) .z 172 [qe_] [.str]=λx=>uj_ x.1:=by kernel_rfl
noncomputable def c_172:Con prog:=aw_ _ _ 172 [qe_] [.str] _ x_172
noncomputable def xf_ (a0:js_):Option ((List UInt8)×Unit) :=
 (some (a0.1,()))
theorem x_174:au_ (P:=prog) (cxC [] []) .z 174 [ov_] [.str]=λx=>xf_ x.1:=by kernel_rfl
noncomputable def c_174:Con prog:=aw_ _ _ 174 [ov_] [.str] _ x_174
noncomputable def yk_ (a0:cv_):Option ((List UInt8)×Unit) :=
 (some (a0.1,()))
theorem x_212:au_ (P:=prog) (cxC [] []) .z 212 [lx_] [.str]=λx=>yk_ x.1:=by kernel_rfl
noncomputable def c_212:Con prog:=aw_ _ _ 212 [lx_] [.str] _ x_212
noncomputable def gu_ (a0:ae_) (a1:(List Int)):Option (Bool×Unit) :=
 ((ag_ (ρ:=(Unit⊕(Bool×Unit))) (λ(v0:(Int×(Int×Unit))) =>
 (cond (decide (v0.2.1<(a1.length:Int)))
 ((at? a1 v0.2.1).bind λv1 =>
 (((cond (decide (v1≤v0.1))
 (some (true,()))
 (some ((decide ((a0.2.2.1.length:Int)≤v1)),())))).bind λv2 =>
 (cond v2.1
 (some (inr (inr (false,()))))
 (some (inl (v1,((w64 (v0.2.1+1)),())))))))
 (some (inr (inl ()))))) ((-1),(0,()))).bind λv3 =>
 (cd_ v3 (λv4=>(some (true,())))
 (λv5=>(some v5))))
theorem x_213:au_ (P:=prog) (cxC [] []) (.p .z (.p .z (.p (.p .z (.ls [.v 5 .int,.v 10 .int] [] [] 0 (.p .z (.p .z (.p (.p .z (.p (.j0 [.v 23 .bool] .z .z) .z)) .z))))) .z))) 213 [an_,(.list .int)] [.bool]=λx=>gu_ x.1 x.2.1:=by kernel_rfl
noncomputable def c_213:Con prog:=aw_ _ _ 213 [an_,(.list .int)] [.bool] _ x_213
noncomputable def en_ (a0:(List Int)) (a1:Int):Option (Int×Unit) :=
 ((ag_ (ρ:=(Unit⊕(Int×Unit))) (λ(v0:(Int×Unit)) =>
 (cond (decide (v0.1<(a0.length:Int)))
 ((at? a0 v0.1).bind λv1 =>
 (cond (a1==v1)
 (some (inr (inr (v0.1,()))))
 (some (inl ((w64 (v0.1+1)),())))))
 (some (inr (inl ()))))) (0,())).bind λv2 =>
 (cd_ v2 (λv3=>(some ((-1),())))
 (λv4=>(some v4))))
theorem x_186:au_ (P:=prog) (cxC [] []) (.p .z (.p (.p .z (.ls [.v 8 .int] [] [] 0 .z)) .z)) 186 [(.list .int),.int] [.int]=λx=>en_ x.1 x.2.1:=by kernel_rfl
noncomputable def c_186:Con prog:=aw_ _ _ 186 [(.list .int),.int] [.int] _ x_186
noncomputable def bv_ (a0:Int) (a1:Int) (a2:Int):Option (Bool×Unit) :=
 (cond (decide (a1≤a0))
 (some ((decide (a0≤a2)),()))
 (some (false,())))
theorem x_177:au_ (P:=prog) (cxC [] []) .z 177 [.int,.int,.int] [.bool]=λx=>bv_ x.1 x.2.1 x.2.2.1:=by kernel_rfl
noncomputable def cn1:Con prog:=aw_ _ _ 177 [.int,.int,.int] [.bool] _ x_177
noncomputable def bx_ (a0:Int) (a1:Int) (a2:Int):Option (Bool×Unit) :=
 (cond (decide (a1≤a0))
 (some ((decide (a0≤a2)),()))
 (some (false,())))
theorem x_136:au_ (P:=prog) (cxC [] []) .z 136 [.int,.int,.int] [.bool]=λx=>bx_ x.1 x.2.1 x.2.2.1:=by kernel_rfl
noncomputable def bz8:Con prog:=aw_ _ _ 136 [.int,.int,.int] [.bool] _ x_136
noncomputable def mu_ (a0:(List UInt8)):Option (Bool×Unit) :=
 (((cond (a0==[])
 (some ((a0==[]),()))
 (cond (a0==[97,116])
 (some ((a0==[97,116]),()))
 (cond (a0==[115,116,97,116,101,115])
 (some ((a0==[115,116,97,116,101,115]),()))
 (cond (a0==[115,116,97,114,116])
 (some ((a0==[115,116,97,114,116]),()))
 (cond (a0==[103,111,110,101])
 (some ((a0==[103,111,110,101]),()))
 (cond (a0==[105,102])
 (some ((a0==[105,102]),()))
 (cond (a0==[108,111,99,107])
 (some ((a0==[108,111,99,107]),()))
 (cond (a0==[119,105,116,104])
 (some ((a0==[119,105,116,104]),()))
 (cond (a0==[115,101,116,115])
 (some ((a0==[115,101,116,115]),()))
 (cond (a0==[115,112,101,110,100,115])
 (some ((a0==[115,112,101,110,100,115]),()))
 (some ((a0==[98,114,105,110,103,115]),()))))))))))))).bind λv0 =>
 (cond v0.1
 (some (false,()))
 ((ag_ (ρ:=(Unit⊕(Bool×Unit))) (λ(v1:(Int×Unit)) =>
 (cond (decide (v1.1<(a0.length:Int)))
 ((((at? a0 v1.1).bind λv2 =>
 (cond (decide (((UInt8.toNat v2):Int)<97))
 (some (true,()))
 ((at? a0 v1.1).bind λv3 =>
 (some ((decide (122<((UInt8.toNat v3):Int))),())))))).bind λv4 =>
 (cond v4.1
 (some (inr (inr (false,()))))
 (some (inl ((w64 (v1.1+1)),())))))
 (some (inr (inl ()))))) (0,())).bind λv5 =>
 (cd_ v5 (λv6=>(some (true,())))
 (λv7=>(some v7))))))
theorem x_181:au_ (P:=prog) (cxC [] []) (.p .z (.p (.p .z (.j0 [.v 5 .bool] .z .z)) (.p (.p .z (.ls [.v 19 .int] [] [] 1 (.p .z (.p .z (.p (.p .z (.j0 [.v 31 .bool] .z .z)) .z))))) .z))) 181 [.str] [.bool]=λx=>mu_ x.1:=by kernel_rfl
noncomputable def c_181:Con prog:=aw_ _ _ 181 [.str] [.bool] _ x_181
noncomputable def kh_ (a0:ak_):Option (Bool×Unit) :=
 (cond (a0.1==0)
 (cond (a0.2.1==0)
 (cond (a0.2.2.1==0)
 (cond (a0.2.2.2.1==0)
 (cond (a0.2.2.2.2.1==0)
 (cond ((a0.2.2.2.2.2.1.length:Int)==0)
 (some ((!a0.2.2.2.2.2.2),()))
 (some (false,())))
 (some (false,())))
 (some (false,())))
 (some (false,())))
 (some (false,())))
 (some (false,())))
theorem x_182:au_ (P:=prog) (cxC [] []) .z 182 [ap_] [.bool]=λx=>kh_ x.1:=by kernel_rfl
noncomputable def c_182:Con prog:=aw_ _ _ 182 [ap_] [.bool] _ x_182
noncomputable def ic_ (a0:(List Int)) (a1:(List Int)):Option (Int×Int×Unit) :=
 ((ag_ (ρ:=(Int×((List Int)×((List Int)×Unit)))) (λ(v0:(Int×(Int×((List Int)×((List Int)×Unit))))) =>
 (cond (decide (v0.2.1<(a0.length:Int)))
 ((at? a0 v0.2.1).bind λv1 =>
 ((((at? a1 v0.2.1).bind λv2 =>
 (cond (v1==v2)
 (some ((w64 (v0.1+1)),()))
 (some (v0.1,()))))).bind λv3 =>
 (cond (decide (v1<(10:Int)))
 ((at? v0.2.2.1 v1).bind λv4 =>
 ((at? v0.2.2.1 v1).bind λv5 =>
 (cond (decide (v1<(10:Int)))
 ((at? v0.2.2.1 v1).bind λv6 =>
 ((at? v0.2.2.1 v1).bind λv7 =>
 ((at? a1 v0.2.1).bind λv8 =>
 (cond (decide (v8<(10:Int)))
 ((at? v0.2.2.2.1 v8).bind λv9 =>
 ((at? v0.2.2.2.1 v8).bind λv10 =>
 (cond (decide (v8<(10:Int)))
 ((at? v0.2.2.2.1 v8).bind λv11 =>
 ((at? v0.2.2.2.1 v8).bind λv12 =>
 (some (inl (v3.1,((w64 (v0.2.1+1)),((v0.2.2.1.set v1.toNat (w64 (v5+1))),((v0.2.2.2.1.set v8.toNat (w64 (v10+1))),()))))))))
 none)))
 none))))
 none)))
 none)))
 (some (inr (v0.1,(v0.2.2.1,(v0.2.2.2.1,()))))))) (0,(0,([0,0,0,0,0,0,0,0,0,0],([0,0,0,0,0,0,0,0,0,0],()))))).bind λv13 =>
 ((ag_ (ρ:=(Int×Unit)) (λ(v14:(Int×(Int×Unit))) =>
 (cond (decide (v14.2.1<10))
 (cond (decide (v14.2.1<(10:Int)))
 ((at? v13.2.1 v14.2.1).bind λv15 =>
 ((at? v13.2.1 v14.2.1).bind λv16 =>
 (cond (decide (v14.2.1<(10:Int)))
 ((at? v13.2.2.1 v14.2.1).bind λv17 =>
 ((at? v13.2.2.1 v14.2.1).bind λv18 =>
 (some (inl ((w64 (v14.1+(minI v16 v18))),((w64 (v14.2.1+1)),()))))))
 none)))
 none)
 (some (inr (v14.1,()))))) (0,(0,()))).bind λv19 =>
 (some (v13.1,((w64 (v19.1 - v13.1)),())))))
theorem x_259:au_ (P:=prog) (cxC [] []) (.p .z (.p .z (.p (.p .z (.lp [.v 4 .int,.v 13 .int] [.v 4 .int] [.o (.s 6) .int,.o (.s 7) .int] 0 (.p .z (.p .z (.p (.p .z (.j0 [.v 4 .int] .z .z)) .z))))) (.p (.p .z (.lp [.v 5 .int,.v 40 .int] [.v 5 .int] [] 2 .z)) .z)))) 259 [(.list .int),(.list .int)] [.int,.int]=λx=>ic_ x.1 x.2.1:=by kernel_rfl
noncomputable def c_259:Con prog:=aw_ _ _ 259 [(.list .int),(.list .int)] [.int,.int] _ x_259
noncomputable def bb_ (a0:hb_) (a1:(List bf_)):Option (Bool×Unit) :=
 ((((ag_ (ρ:=(Unit⊕(Bool×Unit))) (λ(v0:(Int×Unit)) =>
 (cond (decide (v0.1<(a1.length:Int)))
 ((at? a1 v0.1).bind λv1 =>
 ((at? a0.2.1 v1.1).bind λv2 =>
 (cond ((v2==v1.2.1)==v1.2.2)
 (some (inr (inr ((decide (0≤v0.1)),()))))
 (some (inl ((w64 (v0.1+1)),()))))))
 (some (inr (inl ()))))) (0,())).bind λv3 =>
 (cd_ v3 (λv4=>(some ((decide (0≤(-1))),())))
 (λv5=>(some v5))))).bind λv6 =>
 (some ((!v6.1),())))
theorem x_130:au_ (P:=prog) (cxI (λk=>cond (Nat.beq k 166) (.p .z (.j0 [.v 4 .bool] .z .z)) (cond (Nat.beq k 167) (.p .z (.p (.q [] .z .z) .z)) (cond (Nat.beq k 205) (.p .z (.p (.p .z (.ls [.v 8 .int] [] [] 0 .z)) .z)) (.z)))) (λk=>false) (cxC [] []) 4) .z 130 [(.ref eu_),(.list bz_)] [.bool]=λx=>bb_ x.1 x.2.1:=by kernel_rfl
noncomputable def bz9:Con prog:=aw_ _ _ 130 [(.ref eu_),(.list bz_)] [.bool] _ x_130
noncomputable def lf_ (a0:aa_):Option ((List UInt8)×Unit) :=
 ((ag_ (ρ:=((List UInt8)×Unit)) (λ(v0:((List UInt8)×(Int×Unit))) =>
 (cond (decide (v0.2.1<(a0.2.length:Int)))
 ((at? a0.2 v0.2.1).bind λv1 =>
 ((dv_ v1).bind λv2 =>
 ((cat? v2.1 [32]).bind λv3 =>
 ((cat? v0.1 v3).bind λv4 =>
 (some (inl (v4,((w64 (v0.2.1+1)),()))))))))
 (some (inr (v0.1,()))))) ([],(0,()))).bind λv5 =>
 (some (v5.1,())))
theorem x_143:au_ (P:=prog) (cxC [c_190] []) (.p .z (.p .z (.p (.p .z (.lp [.v 3 .str,.v 9 .int] [.v 3 .str] [] 0 .z)) .z))) 143 [aj_] [.str]=λx=>lf_ x.1:=by kernel_rfl
noncomputable def c_143:Con prog:=aw_ _ _ 143 [aj_] [.str] _ x_143
noncomputable def df_ (a0:hb_) (a1:Int):Option (Int×Unit) :=
 ((ag_ (ρ:=(Int×Unit)) (λ(v0:(Int×(Int×Unit))) =>
 (cond (decide (v0.2.1<(a0.2.2.1.length:Int)))
 ((((at? a0.2.2.1 v0.2.1).bind λv1 =>
 (cond (v1==(w64 ((-2) - a1)))
 (some ((w64 (v0.1+1)),()))
 (some (v0.1,()))))).bind λv2 =>
 (some (inl (v2.1,((w64 (v0.2.1+1)),())))))
 (some (inr (v0.1,()))))) (0,(0,()))).bind λv3 =>
 (some (v3.1,())))
theorem x_196:au_ (P:=prog) (cxC [] []) (.p .z (.p (.p .z (.lp [.v 4 .int,.v 13 .int] [.v 4 .int] [] 0 (.p .z (.p .z (.j0 [.v 4 .int] .z .z))))) .z)) 196 [(.ref eu_),.int] [.int]=λx=>df_ x.1 x.2.1:=by kernel_rfl
noncomputable def c_196:Con prog:=aw_ _ _ 196 [(.ref eu_),.int] [.int] _ x_196
noncomputable def af0 (a0:ac_):Option (Bool×Unit) :=
 (some (true,()))
theorem x_64:au_ (P:=prog) (cxC [] []) .z 64 [ca_] [.bool]=λx=>af0 x.1:=by kernel_rfl
noncomputable def c_64:Con prog:=aw_ _ _ 64 [ca_] [.bool] _ x_64
noncomputable def xh_  : Option (ae_×Unit) :=
 (some (([[104,97,108,108],[118,97,117,108,116]],([([98,111,120],(0,(2,0))),([100,111,111,114],(0,(2,0)))],([([107,101,121],(0,[(0,(1,false))]))],([(0,(1,[(1,(1,false))]))],([([111,112,101,110],(0,(0,([],([],([(0,1)],([],[]))))))),([116,117,114,110],(0,((-1),([0],([],([(1,1)],([0],[])))))))],([],(1,[]))))))),()))
theorem x_62:au_ (P:=prog) (cxC [] []) .z 62 [] [an_]=λx=>xh_:=by kernel_rfl
noncomputable def c_62:Con prog:=aw_ _ _ 62 [] [an_] _ x_62
noncomputable def ck_ (a0:(List bf_)):Option ((List bf_)×Unit) :=
 ((push? (α:=bf_) [] a0).bind λv0 =>
 (some (v0,())))
theorem x_65:au_ (P:=prog) (cxC [] []) .z 65 [(.list bz_)] [(.list bz_)]=λx=>ck_ x.1:=by kernel_rfl
noncomputable def c_65:Con prog:=aw_ _ _ 65 [(.list bz_)] [(.list bz_)] _ x_65
noncomputable def dm_ (a0:(List Int)):Option ((List Int)×Unit) :=
 ((push? (α:=Int) [] a0).bind λv0 =>
 (some (v0,())))
theorem x_66:au_ (P:=prog) (cxC [] []) .z 66 [(.list .int)] [(.list .int)]=λx=>dm_ x.1:=by kernel_rfl
noncomputable def c_66:Con prog:=aw_ _ _ 66 [(.list .int)] [(.list .int)] _ x_66
noncomputable def gk_ (a0:ak_):Option (ak_×Unit) :=
 ((push? (α:=Int) [] a0.2.2.2.2.2.1).bind λv0 =>
 (some ((a0.1,(a0.2.1,(a0.2.2.1,(a0.2.2.2.1,(a0.2.2.2.2.1,(v0,a0.2.2.2.2.2.2)))))),())))
theorem x_30:au_ (P:=prog) (cxC [] []) .z 30 [ap_] [ap_]=λx=>gk_ x.1:=by kernel_rfl
noncomputable def c_30:Con prog:=aw_ _ _ 30 [ap_] [ap_] _ x_30
noncomputable def lg_ (a0:ad_) (a1:(List Int)):Option (Bool×Unit) :=
 ((((ag_ (ρ:=(Unit⊕(Bool×Unit))) (λ(v0:(Int×Unit)) =>
 (cond (decide (v0.1<(a1.length:Int)))
 ((at? a1 v0.1).bind λv1 =>
 (((cond (decide (v1<0))
 (some (true,()))
 (some ((decide ((a0.1.2.2.2.2.1.length:Int)≤v1)),())))).bind λv2 =>
 (cond v2.1
 (some (inr (inr ((decide (0≤v0.1)),()))))
 (some (inl ((w64 (v0.1+1)),()))))))
 (some (inr (inl ()))))) (0,())).bind λv3 =>
 (cd_ v3 (λv4=>(some ((decide (0≤(-1))),())))
 (λv5=>(some v5))))).bind λv6 =>
 (some ((!v6.1),())))
theorem x_38:au_ (P:=prog) (cxI (λk=>cond (Nat.beq k 73) (.p .z (.j0 [.v 4 .bool] .z .z)) (cond (Nat.beq k 74) (.p .z (.j0 [.v 3 .bool] .z .z)) (cond (Nat.beq k 109) (.p .z (.p (.p .z (.ls [.v 8 .int] [] [] 0 .z)) .z)) (.z)))) (λk=>false) (cxC [] []) 4) .z 38 [ao_,(.list .int)] [.bool]=λx=>lg_ x.1 x.2.1:=by kernel_rfl
noncomputable def c_38:Con prog:=aw_ _ _ 38 [ao_,(.list .int)] [.bool] _ x_38
noncomputable def il_ (a0:ac_) (a1:Int) (a2:Int):Option (Bool×Unit) :=
 (cond (a0.1.2.1==a1)
 (some ((a0.1.2.2==a2),()))
 (some (false,())))
theorem x_43:au_ (P:=prog) (cxC [] []) .z 43 [ca_,.int,.int] [.bool]=λx=>il_ x.1 x.2.1 x.2.2.1:=by kernel_rfl
noncomputable def c_43:Con prog:=aw_ _ _ 43 [ca_,.int,.int] [.bool] _ x_43
noncomputable def gv_ (a0:ac_) (a1:Int):Option (Bool×Unit) :=
 (cond (a0.1.2.1==4)
 (some ((a0.1.2.2==a1),()))
 (some (false,())))
theorem x_44:au_ (P:=prog) (cxC [] []) .z 44 [ca_,.int] [.bool]=λx=>gv_ x.1 x.2.1:=by kernel_rfl
noncomputable def c_44:Con prog:=aw_ _ _ 44 [ca_,.int] [.bool] _ x_44
end
section
set_option maxRecDepth 100000
set_option maxHeartbeats 0
noncomputable def kj_ (a0:ad_):Option (Bool×Unit) :=
 ((((mv_ a0.1).bind λv0 =>
 (cond v0.1
 (some (true,()))
 (cond (decide (10<(a0.2.1.length:Int)))
 (some (true,()))
 (cond (decide (10<(a0.2.2.1.length:Int)))
 (some (true,()))
 (some ((decide (20<(a0.2.2.2.1.length:Int))),()))))))).bind λv1 =>
 (cond v1.1
 (some (true,()))
 ((ag_ (ρ:=(Unit⊕(Bool×Unit))) (λ(v2:(Int×Unit)) =>
 (cond (decide (v2.1<(a0.2.1.length:Int)))
 ((((at? a0.2.1 v2.1).bind λv3 =>
 (cond (decide (3<v3.1))
 ((at? a0.2.1 v2.1).bind λv4 =>
 (some ((decide (5<v4.2)),())))
 (some (false,()))))).bind λv5 =>
 (cond v5.1
 (some (inr (inr (true,()))))
 (some (inl ((w64 (v2.1+1)),())))))
 (some (inr (inl ()))))) (0,())).bind λv6 =>
 (cd_ v6 (λv7=>((ag_ (ρ:=(Unit⊕(Bool×Unit))) (λ(v9:(Int×Unit)) =>
 (cond (decide (v9.1<(a0.2.2.1.length:Int)))
 ((at? a0.2.2.1 v9.1).bind λv10 =>
 (cond (decide (10<(v10.length:Int)))
 (some (inr (inr (true,()))))
 (some (inl ((w64 (v9.1+1)),())))))
 (some (inr (inl ()))))) (0,())).bind λv11 =>
 (cd_ v11 (λv12=>((ag_ (ρ:=(Unit⊕(Bool×Unit))) (λ(v14:(Int×Unit)) =>
 (cond (decide (v14.1<(a0.2.2.2.1.length:Int)))
 ((at? a0.2.2.2.1 v14.1).bind λv15 =>
 (((cond (decide (100<(v15.1.length:Int)))
 (some (true,()))
 (cond (decide (20<(v15.2.2.2.1.length:Int)))
 (some (true,()))
 (some ((decide (10<(v15.2.2.2.2.2.2.2.2.2.1.length:Int))),()))))).bind λv16 =>
 (cond v16.1
 (some (inr (inr (true,()))))
 (some (inl ((w64 (v14.1+1)),()))))))
 (some (inr (inl ()))))) (0,())).bind λv17 =>
 (cd_ v17 (λv18=>(some (false,())))
 (λv19=>(some v19)))))
 (λv13=>(some v13)))))
 (λv8=>(some v8))))))
theorem x_23:au_ (P:=prog) (cxC [c_51] []) (.p .z (.p (.j0 [.v 27 .bool] .z .z) (.p (.p .z (.ls [.v 3 .int] [] [] 0 (.p .z (.p (.j0 [.v 50 .bool] .z .z) .z)))) (.p (.p .z (.ls [.v 4 .int] [] [] 2 .z)) (.p (.p .z (.ls [.v 5 .int] [] [] 4 (.p .z (.p (.p .z (.j0 [.v 93 .bool] .z .z)) .z)))) .z))))) 23 [ao_] [.bool]=λx=>kj_ x.1:=by kernel_rfl
noncomputable def c_23:Con prog:=aw_ _ _ 23 [ao_] [.bool] _ x_23
noncomputable def gn_ (a0:ae_) (a1:Int) (a2:Int):Option (Bool×Unit) :=
 ((bs_ a1 0 (w64 ((a0.2.1.length:Int) - 1))).bind λv0 =>
 (cond v0.1
 ((at? a0.2.1 a1).bind λv1 =>
 ((bs_ a2 0 (w64 (v1.2.2.1 - 1))).bind λv2 =>
 (some (v2.1,()))))
 (some (false,()))))
theorem x_86:au_ (P:=prog) (cxC [c_84] []) .z 86 [an_,.int,.int] [.bool]=λx=>gn_ x.1 x.2.1 x.2.2.1:=by kernel_rfl
noncomputable def c_86:Con prog:=aw_ _ _ 86 [an_,.int,.int] [.bool] _ x_86
noncomputable def hh_ (a0:(List UInt8)):Option (Bool×Unit) :=
 ((ag_ (ρ:=(Unit⊕(Bool×Unit))) (λ(v0:(Int×Unit)) =>
 (cond (decide (v0.1<(a0.length:Int)))
 ((((at? a0 v0.1).bind λv1 =>
 (cond (decide (((UInt8.toNat v1):Int)<97))
 (some (true,()))
 ((at? a0 v0.1).bind λv2 =>
 (some ((decide (122<((UInt8.toNat v2):Int))),())))))).bind λv3 =>
 (cond v3.1
 (some (inr (inr (false,()))))
 (some (inl ((w64 (v0.1+1)),())))))
 (some (inr (inl ()))))) (0,())).bind λv4 =>
 (cd_ v4 (λv5=>((ag_ (ρ:=(Unit⊕(Bool×Unit))) (λ(v7:(Int×Unit)) =>
 (cond (decide (v7.1<(([[97,116],[115,116,97,116,101,115],[115,116,97,114,116],[103,111,110,101],[105,102],[108,111,99,107],[119,105,116,104],[115,101,116,115],[115,112,101,110,100,115],[98,114,105,110,103,115]]).length:Int)))
 ((at? [[97,116],[115,116,97,116,101,115],[115,116,97,114,116],[103,111,110,101],[105,102],[108,111,99,107],[119,105,116,104],[115,101,116,115],[115,112,101,110,100,115],[98,114,105,110,103,115]] v7.1).bind λv8 =>
 (cond (v8==a0)
 (some (inr (inr (false,()))))
 (some (inl ((w64 (v7.1+1)),())))))
 (some (inr (inl ()))))) (0,())).bind λv9 =>
 (cd_ v9 (λv10=>(some ((!(a0==[])),())))
 (λv11=>(some v11)))))
 (λv6=>(some v6))))
theorem x_115:au_ (P:=prog) (cxC [c_156] []) (.p .z (.p (.p .z (.ls [.v 3 .int] [] [] 0 (.p .z (.p (.j0 [.v 21 .bool] .z .z) .z)))) (.p .z (.p (.p .z (.ls [.v 5 .int] [] [] 2 .z)) .z)))) 115 [.str] [.bool]=λx=>hh_ x.1:=by kernel_rfl
noncomputable def c_115:Con prog:=aw_ _ _ 115 [.str] [.bool] _ x_115
noncomputable def cs_ (a0:ae_) (a1:Int):Option (Bool×Unit) :=
 ((bs_ a1 0 (w64 ((a0.1.length:Int) - 1))).bind λv0 =>
 (some (v0.1,())))
theorem x_83:au_ (P:=prog) (cxC [c_84] []) .z 83 [an_,.int] [.bool]=λx=>cs_ x.1 x.2.1:=by kernel_rfl
noncomputable def c_83:Con prog:=aw_ _ _ 83 [an_,.int] [.bool] _ x_83
noncomputable def dg_ (a0:ae_) (a1:(List Int)):Option (Bool×Unit) :=
 ((ag_ (ρ:=(Unit⊕(Bool×Unit))) (λ(v0:(Int×Unit)) =>
 (cond (decide (v0.1<(a1.length:Int)))
 ((((at? a1 v0.1).bind λv1 =>
 ((bs_ v1 0 (w64 ((a0.2.2.1.length:Int) - 1))).bind λv2 =>
 (cond (!v2.1)
 (some (true,()))
 (cond (decide (0<v0.1))
 ((at? a1 v0.1).bind λv3 =>
 ((at? a1 (w64 (v0.1 - 1))).bind λv4 =>
 (some ((decide (v3≤v4)),()))))
 (some (false,()))))))).bind λv5 =>
 (cond v5.1
 (some (inr (inr (false,()))))
 (some (inl ((w64 (v0.1+1)),())))))
 (some (inr (inl ()))))) (0,())).bind λv6 =>
 (cd_ v6 (λv7=>(some (true,())))
 (λv8=>(some v8))))
theorem x_116:au_ (P:=prog) (cxC [c_84] []) (.p .z (.p (.p .z (.ls [.v 5 .int] [] [] 0 (.p .z (.p (.j0 [.v 37 .bool] (.q [] .z .z) .z) .z)))) .z)) 116 [an_,(.list .int)] [.bool]=λx=>dg_ x.1 x.2.1:=by kernel_rfl
noncomputable def c_116:Con prog:=aw_ _ _ 116 [an_,(.list .int)] [.bool] _ x_116
noncomputable def ed_ (a0:ab_):Option (Int×Unit) :=
 ((((bk_ a0.1 1 4).bind λv0 =>
 (cond (!v0.1)
 (some (true,()))
 ((bk_ a0.2 2 10).bind λv1 =>
 (some ((!v1.1),())))))).bind λv2 =>
 (cond v2.1
 (some (10,()))
 (some (0,()))))
theorem x_53:au_ (P:=prog) (cxC [c_87] []) (.p .z (.p (.j0 [.v 12 .bool] .z .z) .z)) 53 [al_] [.int]=λx=>ed_ x.1:=by kernel_rfl
noncomputable def c_53:Con prog:=aw_ _ _ 53 [al_] [.int] _ x_53
noncomputable def gh_ (a0:ab_) (a1:(List Int)):Option (Bool×Unit) :=
 (cond ((a1.length:Int) != a0.1)
 (some (false,()))
 ((ag_ (ρ:=(Unit⊕(Bool×Unit))) (λ(v0:(Int×Unit)) =>
 (cond (decide (v0.1<(a1.length:Int)))
 ((at? a1 v0.1).bind λv1 =>
 ((bk_ v1 0 (w64 (a0.2 - 1))).bind λv2 =>
 (cond (!v2.1)
 (some (inr (inr (false,()))))
 (some (inl ((w64 (v0.1+1)),()))))))
 (some (inr (inl ()))))) (0,())).bind λv3 =>
 (cd_ v3 (λv4=>(some (true,())))
 (λv5=>(some v5)))))
theorem x_88:au_ (P:=prog) (cxC [c_87] []) (.p .z (.p .z (.p (.p .z (.ls [.v 5 .int] [] [] 0 (.p .z (.p (.p (.q [] .z .z) .z) .z)))) .z))) 88 [al_,(.list .int)] [.bool]=λx=>gh_ x.1 x.2.1:=by kernel_rfl
noncomputable def c_88:Con prog:=aw_ _ _ 88 [al_,(.list .int)] [.bool] _ x_88
noncomputable def iu_ (a0:ak_) (a1:ak_):Option (Bool×Unit) :=
 (cond (a0.1==a1.1)
 (cond (a0.2.1==a1.2.1)
 (cond (a0.2.2.1==a1.2.2.1)
 (cond (a0.2.2.2.1==a1.2.2.2.1)
 (cond (a0.2.2.2.2.1==a1.2.2.2.2.1)
 (cond (a0.2.2.2.2.2.2==a1.2.2.2.2.2.2)
 ((gl_ a0.2.2.2.2.2.1 a1.2.2.2.2.2.1).bind λv0 =>
 (some (v0.1,())))
 (some (false,())))
 (some (false,())))
 (some (false,())))
 (some (false,())))
 (some (false,())))
 (some (false,())))
theorem x_157:au_ (P:=prog) (cxC [c_202] []) .z 157 [ap_,ap_] [.bool]=λx=>iu_ x.1 x.2.1:=by kernel_rfl
noncomputable def c_157:Con prog:=aw_ _ _ 157 [ap_,ap_] [.bool] _ x_157
noncomputable def ib_ (a0:(List Int)) (a1:(List Int)):Option (Int×Int×Unit) :=
 ((ag_ (ρ:=(Int×Unit)) (λ(v0:(Int×(Int×Unit))) =>
 (cond (decide (v0.2.1<(a0.length:Int)))
 ((((at? a0 v0.2.1).bind λv1 =>
 ((at? a1 v0.2.1).bind λv2 =>
 (cond (v1==v2)
 (some ((w64 (v0.1+1)),()))
 (some (v0.1,())))))).bind λv3 =>
 (some (inl (v3.1,((w64 (v0.2.1+1)),())))))
 (some (inr (v0.1,()))))) (0,(0,()))).bind λv4 =>
 ((ag_ (ρ:=(Int×Unit)) (λ(v5:(Int×(Int×Unit))) =>
 (cond (decide (v5.2.1<10))
 ((ec_ a0 v5.2.1).bind λv6 =>
 ((ec_ a1 v5.2.1).bind λv7 =>
 (some (inl ((w64 (v5.1+(minI v6.1 v7.1))),((w64 (v5.2.1+1)),()))))))
 (some (inr (v5.1,()))))) (0,(0,()))).bind λv8 =>
 (some (v4.1,((w64 (v8.1 - v4.1)),())))))
theorem x_120:au_ (P:=prog) (cxC [c_119] []) (.p .z (.p .z (.p (.p .z (.lp [.v 6 .int,.v 8 .int] [.v 6 .int] [] 0 (.p .z (.j0 [.v 6 .int] (.p (.q [] .z .z) .z) .z)))) (.p (.p .z (.lp [.v 7 .int,.v 9 .int] [.v 7 .int] [] 2 .z)) .z)))) 120 [(.list .int),(.list .int)] [.int,.int]=λx=>ib_ x.1 x.2.1:=by kernel_rfl
noncomputable def c_120:Con prog:=aw_ _ _ 120 [(.list .int),(.list .int)] [.int,.int] _ x_120
noncomputable def gf_ (a0:ae_) (a1:ai_):Option (ai_×Bool×Unit) :=
 ((push? (α:=Int) [] a1.1).bind λv0 =>
 ((push? (α:=Int) [] a1.2.1).bind λv1 =>
 ((push? (α:=Int) [] a1.2.2).bind λv2 =>
 ((ag_ (ρ:=(((List Int)×(((List Int)×((List Int)×((List Int)×Unit)))×Unit))⊕(ai_×(Bool×Unit)))) (λ(v3:(Int×((List Int)×(((List Int)×((List Int)×((List Int)×Unit)))×Unit)))) =>
 (cond (decide (v3.1≤100))
 ((ag_ (ρ:=(Int×Unit)) (λ(v4:(Int×(Int×Unit))) =>
 (((cond (decide (v4.2.1<(a0.2.2.2.2.2.1.length:Int)))
 (some ((decide (v4.1<0)),()))
 (some (false,())))).bind λv5 =>
 (cond v5.1
 ((((at? a0.2.2.2.2.2.1 v4.2.1).bind λv6 =>
 ((((bl_ (v3.2.1,(v1,v2)) v6.1).bind λv7 =>
 (cond v7.1
 ((at? v3.2.1 v6.2.1).bind λv8 =>
 ((at? v3.2.1 v6.2.1).bind λv9 =>
 (some ((v9 != v6.2.2),()))))
 (some (false,()))))).bind λv10 =>
 (cond v10.1
 (some (v4.2.1,()))
 (some (v4.1,())))))).bind λv11 =>
 (some (inl (v11.1,((w64 (v4.2.1+1)),())))))
 (some (inr (v4.1,())))))) ((-1),(0,()))).bind λv12 =>
 (cond (decide (v12.1<0))
 (some (inr (inr ((v3.2.1,(v1,v2)),(true,())))))
 ((at? a0.2.2.2.2.2.1 v12.1).bind λv13 =>
 ((at? a0.2.2.2.2.2.1 v12.1).bind λv14 =>
 ((at? v3.2.1 v13.2.1).bind λv15 =>
 ((at? v3.2.1 v13.2.1).bind λv16 =>
 (some (inl ((w64 (v3.1+1)),((v3.2.1.set v13.2.1.toNat v14.2.2),((v3.2.2.1.1,(v3.2.2.1.2.1,(v3.2.2.1.2.2.1,()))),())))))))))))
 (some (inr (inl (v3.2.1,((v3.2.2.1.1,(v3.2.2.1.2.1,(v3.2.2.1.2.2.1,()))),()))))))) (0,(v0,(([],([],([],()))),())))).bind λv17 =>
 (cd_ v17 (λv18=>(some (([],([],[])),(false,()))))
 (λv19=>(some v19)))))))
theorem x_126:au_ (P:=prog) (cxI (λk=>.z) (λk=>Nat.beq k 68||false) (cxC [c_68] []) 2) (.p .z (.p .z (.p (.p .z (.ls [.v 7 .int] [] [.o (.c (.s 6) 0) .int,.b (.s 4) [.row .int 3,.row .int 3,.row .int 3]] 0 (.p .z (.p (.p .z (.p (.p .z (.lp [.v 8 .int,.v 9 .int] [.v 8 .int] [] 2 (.p (.j0 [.v 25 .bool] .z .z) (.j0 [.v 8 .int] (.p .z (.j0 [.v 49 .bool] .z .z)) .z)))) .z)) .z)))) .z))) 126 [an_,aq_] [aq_,.bool]=λx=>gf_ x.1 x.2.1:=by kernel_rfl
noncomputable def c_126:Con prog:=aw_ _ _ 126 [an_,aq_] [aq_,.bool] _ x_126
noncomputable def ij_ (a0:ad_) (a1:aa_):Option (aa_×Unit) :=
 ((fo_ a1.1).bind λv0 =>
 ((push? (α:=Bool) [] a1.2).bind λv1 =>
 ((ag_ (ρ:=((List Bool)×Unit)) (λ(v2:(Int×((List Bool)×Unit))) =>
 (cond (decide (v2.1<(a0.2.2.2.1.length:Int)))
 ((at? a0.2.2.2.1 v2.1).bind λv3 =>
 ((ag_ (ρ:=((List Bool)×Unit)) (λ(v4:(Int×((List Bool)×Unit))) =>
 (cond (decide (v4.1<(v0.1.2.2.length:Int)))
 ((((((at? v0.1.2.2 v4.1).bind λv5 =>
 (cond (v5==v3.2.1)
 ((bl_ v0.1 v3.2.2.2.1).bind λv6 =>
 (some (v6.1,())))
 (some (false,()))))).bind λv7 =>
 (cond v7.1
 ((at? v4.2.1 v2.1).bind λv8 =>
 ((at? v4.2.1 v2.1).bind λv9 =>
 (some ((v4.2.1.set v2.1.toNat true),()))))
 (some (v4.2.1,()))))).bind λv10 =>
 (some (inl ((w64 (v4.1+1)),(v10.1,())))))
 (some (inr (v4.2.1,()))))) (0,(v2.2.1,()))).bind λv11 =>
 (some (inl ((w64 (v2.1+1)),(v11.1,()))))))
 (some (inr (v2.2.1,()))))) (0,(v1,()))).bind λv12 =>
 (some ((v0.1,v12.1),())))))
theorem x_93:au_ (P:=prog) (cxI (λk=>.z) (λk=>Nat.beq k 68||Nat.beq k 125||false) (cxC [c_68,c_125] []) 2) (.p .z (.p .z (.p (.p .z (.lp [.v 6 .int] [] [.o (.c (.s 5) 3) .bool] 0 (.p .z (.p (.p .z (.p .z (.lp [.v 8 .int] [] [.o (.c (.s 5) 3) .bool] 2 (.p .z (.j0 [.o (.c (.s 5) 3) .bool] (.j0 [.v 46 .bool] .z .z) .z))))) .z)))) .z))) 93 [ao_,aj_] [aj_]=λx=>ij_ x.1 x.2.1:=by kernel_rfl
noncomputable def c_93:Con prog:=aw_ _ _ 93 [ao_,aj_] [aj_] _ x_93
noncomputable def hv_ (a0:aa_):Option ((List UInt8)×Unit) :=
 ((ag_ (ρ:=((List UInt8)×Unit)) (λ(v0:((List UInt8)×(Int×Unit))) =>
 (cond (decide (v0.2.1<(a0.1.1.length:Int)))
 ((at? a0.1.1 v0.2.1).bind λv1 =>
 ((cb_ v1).bind λv2 =>
 ((cat? v0.1 v2.1).bind λv3 =>
 ((cat? v3 [32]).bind λv4 =>
 (some (inl (v4,((w64 (v0.2.1+1)),()))))))))
 (some (inr (v0.1,()))))) ([],(0,()))).bind λv5 =>
 ((ag_ (ρ:=((List UInt8)×Unit)) (λ(v6:((List UInt8)×(Int×Unit))) =>
 (cond (decide (v6.2.1<(a0.1.2.1.length:Int)))
 ((at? a0.1.2.1 v6.2.1).bind λv7 =>
 ((cb_ (w64 (v7+10))).bind λv8 =>
 ((cat? v6.1 v8.1).bind λv9 =>
 ((cat? v9 [32]).bind λv10 =>
 (some (inl (v10,((w64 (v6.2.1+1)),()))))))))
 (some (inr (v6.1,()))))) (v5.1,(0,()))).bind λv11 =>
 ((ag_ (ρ:=((List UInt8)×Unit)) (λ(v12:((List UInt8)×(Int×Unit))) =>
 (cond (decide (v12.2.1<(a0.1.2.2.length:Int)))
 ((at? a0.1.2.2 v12.2.1).bind λv13 =>
 ((cb_ v13).bind λv14 =>
 ((cat? v12.1 v14.1).bind λv15 =>
 ((cat? v15 [32]).bind λv16 =>
 (some (inl (v16,((w64 (v12.2.1+1)),()))))))))
 (some (inr (v12.1,()))))) (v11.1,(0,()))).bind λv17 =>
 ((ag_ (ρ:=((List UInt8)×Unit)) (λ(v18:((List UInt8)×(Int×Unit))) =>
 (cond (decide (v18.2.1<(a0.2.length:Int)))
 ((((at? a0.2 v18.2.1).bind λv19 =>
 (cond v19
 ((cb_ v18.2.1).bind λv20 =>
 ((cat? v18.1 v20.1).bind λv21 =>
 ((cat? v21 [32]).bind λv22 =>
 (some (v22,())))))
 (some (v18.1,()))))).bind λv23 =>
 (some (inl (v23.1,((w64 (v18.2.1+1)),())))))
 (some (inr (v18.1,()))))) (v17.1,(0,()))).bind λv24 =>
 (some (v24.1,()))))))
theorem x_59:au_ (P:=prog) (cxC [c_94] []) (.p .z (.p .z (.p (.p .z (.lp [.v 3 .str,.v 4 .int] [.v 3 .str] [] 0 .z)) (.p (.p .z (.lp [.v 3 .str,.v 5 .int] [.v 3 .str] [] 2 .z)) (.p (.p .z (.lp [.v 3 .str,.v 6 .int] [.v 3 .str] [] 4 .z)) (.p (.p .z (.lp [.v 3 .str,.v 7 .int] [.v 3 .str] [] 6 (.p .z (.j0 [.v 3 .str] .z .z)))) .z)))))) 59 [aj_] [.str]=λx=>hv_ x.1:=by kernel_rfl
noncomputable def c_59:Con prog:=aw_ _ _ 59 [aj_] [.str] _ x_59
noncomputable def jh_ (a0:ae_) (a1:ai_) (a2:af_):Option (Bool×Unit) :=
 ((bs_ a2.1 0 (w64 (a0.2.2.2.2.2.2.1 - 1))).bind λv0 =>
 (cond (!v0.1)
 (some (false,()))
 ((at? a1.2.2 a2.1).bind λv1 =>
 (cond (a2.2.1==1)
 ((bs_ a2.2.2 0 (w64 ((a0.2.2.2.1.length:Int) - 1))).bind λv2 =>
 (cond v2.1
 ((at? a0.2.2.2.1 a2.2.2).bind λv3 =>
 (cond (v3.1==v1)
 ((at? a0.2.2.2.1 a2.2.2).bind λv4 =>
 ((bl_ a1 v4.2.2).bind λv5 =>
 (some (v5.1,()))))
 ((at? a0.2.2.2.1 a2.2.2).bind λv6 =>
 (cond (v6.2.1==v1)
 ((at? a0.2.2.2.1 a2.2.2).bind λv7 =>
 ((bl_ a1 v7.2.2).bind λv8 =>
 (some (v8.1,()))))
 (some (false,()))))))
 (some (false,()))))
 (cond (a2.2.1==2)
 ((bs_ a2.2.2 0 (w64 ((a0.2.2.1.length:Int) - 1))).bind λv9 =>
 (cond v9.1
 ((at? a1.2.1 a2.2.2).bind λv10 =>
 (cond (v10==v1)
 ((at? a0.2.2.1 a2.2.2).bind λv11 =>
 ((bl_ a1 v11.2.2).bind λv12 =>
 (cond v12.1
 ((gw_ a1 a2.1).bind λv13 =>
 (some ((decide (v13.1<3)),())))
 (some (false,())))))
 (some (false,()))))
 (some (false,()))))
 (cond (a2.2.1==3)
 ((bs_ a2.2.2 0 (w64 ((a0.2.2.1.length:Int) - 1))).bind λv14 =>
 (cond v14.1
 ((at? a1.2.1 a2.2.2).bind λv15 =>
 (some ((v15==(w64 ((-2) - a2.1))),())))
 (some (false,()))))
 (cond (a2.2.1==4)
 ((bs_ a2.2.2 0 (w64 ((a0.2.2.2.2.1.length:Int) - 1))).bind λv16 =>
 (cond (!v16.1)
 (some (false,()))
 ((at? a0.2.2.2.2.1 a2.2.2).bind λv17 =>
 ((ag_ (ρ:=(Unit⊕(Bool×Unit))) (λ(v18:(Int×Unit)) =>
 (cond (decide (v18.1<(v17.2.2.2.1.length:Int)))
 ((at? v17.2.2.2.1 v18.1).bind λv19 =>
 ((at? a1.2.1 v19).bind λv20 =>
 (cond (v20 != (w64 ((-2) - a2.1)))
 (some (inr (inr (false,()))))
 (some (inl ((w64 (v18.1+1)),()))))))
 (some (inr (inl ()))))) (0,())).bind λv21 =>
 (cd_ v21 (λv22=>((ag_ (ρ:=(Unit⊕(Bool×Unit))) (λ(v24:(Int×Unit)) =>
 (cond (decide (v24.1<(v17.2.2.2.2.2.2.2.length:Int)))
 ((at? v17.2.2.2.2.2.2.2 v24.1).bind λv25 =>
 ((at? a1.2.1 v25).bind λv26 =>
 (cond (v26 != (-1))
 (some (inr (inr (false,()))))
 (some (inl ((w64 (v24.1+1)),()))))))
 (some (inr (inl ()))))) (0,())).bind λv27 =>
 (cd_ v27 (λv28=>(cond (v17.2.1==v1)
 ((bl_ a1 v17.2.2.2.2.1).bind λv30 =>
 (cond v30.1
 ((gw_ a1 a2.1).bind λv31 =>
 (some ((decide ((w64 ((w64 (v31.1 - (v17.2.2.2.2.2.2.1.length:Int)))+(v17.2.2.2.2.2.2.2.length:Int)))≤3)),())))
 (some (false,()))))
 (some (false,()))))
 (λv29=>(some v29)))))
 (λv23=>(some v23)))))))
 (some (false,())))))))))
theorem x_123:au_ (P:=prog) (cxC [c_68,c_84,c_159] []) (.p .z (.p .z (.p (.q [] .z .z) (.p (.p .z (.p .z (.p (.p (.q [] .z .z) .z) (.p .z (.p (.p (.q [] .z .z) .z) (.p .z (.p .z (.p .z (.p (.p .z (.p .z (.p (.p .z (.ls [.v 10 .int] [] [] 1 .z)) (.p (.p .z (.ls [.v 11 .int] [] [] 3 .z)) .z)))) .z))))))))) .z)))) 123 [an_,aq_,ar_] [.bool]=λx=>jh_ x.1 x.2.1 x.2.2.1:=by kernel_rfl
noncomputable def c_123:Con prog:=aw_ _ _ 123 [an_,aq_,ar_] [.bool] _ x_123
noncomputable def fa_ (a0:ae_) (a1:Int) (a2:Int):Option (Bool×Unit) :=
 ((be_ a1 0 (w64 ((a0.2.1.length:Int) - 1))).bind λv0 =>
 (cond v0.1
 ((at? a0.2.1 a1).bind λv1 =>
 ((be_ a2 0 (w64 (v1.2.2.1 - 1))).bind λv2 =>
 (some (v2.1,()))))
 (some (false,()))))
theorem x_164:au_ (P:=prog) (cxC [bz7] []) .z 164 [an_,.int,.int] [.bool]=λx=>fa_ x.1 x.2.1 x.2.2.1:=by kernel_rfl
noncomputable def cn2:Con prog:=aw_ _ _ 164 [an_,.int,.int] [.bool] _ x_164
noncomputable def cw_ (a0:(List (List UInt8))) (a1:(List UInt8)):Option (Bool×Unit) :=
 ((dq_ a0 a1).bind λv0 =>
 (some ((decide (0≤v0.1)),())))
theorem x_235:au_ (P:=prog) (cxC [c_255] []) .z 235 [(.list .str),.str] [.bool]=λx=>cw_ x.1 x.2.1:=by kernel_rfl
noncomputable def c_235:Con prog:=aw_ _ _ 235 [(.list .str),.str] [.bool] _ x_235
noncomputable def bj_ (a0:(List Int)) (a1:Int):Option (Bool×Unit) :=
 ((en_ a0 a1).bind λv0 =>
 (some ((decide (0≤v0.1)),())))
theorem x_139:au_ (P:=prog) (cxC [c_186] []) .z 139 [(.list .int),.int] [.bool]=λx=>bj_ x.1 x.2.1:=by kernel_rfl
noncomputable def cn3:Con prog:=aw_ _ _ 139 [(.list .int),.int] [.bool] _ x_139
noncomputable def ee_ (a0:ab_):Option (Int×Unit) :=
 ((((bv_ a0.1 1 4).bind λv0 =>
 (cond (!v0.1)
 (some (true,()))
 ((bv_ a0.2 2 10).bind λv1 =>
 (some ((!v1.1),())))))).bind λv2 =>
 (cond v2.1
 (some (10,()))
 (some (0,()))))
theorem x_132:au_ (P:=prog) (cxC [cn1] []) (.p .z (.p (.j0 [.v 12 .bool] .z .z) .z)) 132 [al_] [.int]=λx=>ee_ x.1:=by kernel_rfl
noncomputable def cn4:Con prog:=aw_ _ _ 132 [al_] [.int] _ x_132
noncomputable def cn_ (a0:ab_) (a1:Int):Option (Bool×Unit) :=
 ((bv_ a1 0 (w64 (a0.2 - 1))).bind λv0 =>
 (some (v0.1,())))
theorem x_246:au_ (P:=prog) (cxC [cn1] []) .z 246 [al_,.int] [.bool]=λx=>cn_ x.1 x.2.1:=by kernel_rfl
noncomputable def c_246:Con prog:=aw_ _ _ 246 [al_,.int] [.bool] _ x_246
noncomputable def bt_ (a0:ab_) (a1:Int):Option (Bool×Unit) :=
 ((bv_ a1 0 (w64 (a0.1 - 1))).bind λv0 =>
 (some (v0.1,())))
theorem x_258:au_ (P:=prog) (cxC [cn1] []) .z 258 [al_,.int] [.bool]=λx=>bt_ x.1 x.2.1:=by kernel_rfl
noncomputable def c_258:Con prog:=aw_ _ _ 258 [al_,.int] [.bool] _ x_258
noncomputable def mw_ (a0:ak_) (a1:(List Int)):Option (Bool×Unit) :=
 (cond (a0.1==1)
 ((at? a1 a0.2.1).bind λv0 =>
 (some ((v0==a0.2.2.2.1),())))
 (cond (a0.1==2)
 ((sub? a1 a0.2.1 (w64 (a0.2.2.1+1))).bind λv1 =>
 ((ag_ (ρ:=(Int×Unit)) (λ(v2:(Int×(Int×Unit))) =>
 (cond (decide (v2.2.1<(v1.length:Int)))
 ((at? v1 v2.2.1).bind λv3 =>
 (some (inl ((w64 (v2.1+v3)),((w64 (v2.2.1+1)),())))))
 (some (inr (v2.1,()))))) (0,(0,()))).bind λv4 =>
 (some ((v4.1==a0.2.2.2.1),()))))
 (cond (a0.1==3)
 ((at? a1 a0.2.1).bind λv5 =>
 ((at? a1 a0.2.2.1).bind λv6 =>
 (some ((decide (v5<v6)),()))))
 (cond (a0.1==4)
 ((at? a1 a0.2.1).bind λv7 =>
 ((at? a1 a0.2.2.1).bind λv8 =>
 (some ((v7==v8),()))))
 (cond (a0.1==5)
 ((ag_ (ρ:=(Int×Unit)) (λ(v9:(Int×(Int×Unit))) =>
 (cond (decide (v9.2.1<(a1.length:Int)))
 ((((at? a1 v9.2.1).bind λv10 =>
 (cond (v10==a0.2.2.2.1)
 (some ((w64 (v9.1+1)),()))
 (some (v9.1,()))))).bind λv11 =>
 (some (inl (v11.1,((w64 (v9.2.1+1)),())))))
 (some (inr (v9.1,()))))) (0,(0,()))).bind λv12 =>
 (some ((v12.1==a0.2.2.2.2.1),())))
 (cond (a0.1==6)
 ((ic_ a1 a0.2.2.2.2.2.1).bind λv13 =>
 (cond (v13.1==a0.2.2.2.1)
 (some ((v13.2.1==a0.2.2.2.2.1),()))
 (some (false,()))))
 ((at? a1 a0.2.1).bind λv14 =>
 ((md v14 a0.2.2.2.1).bind λv15 =>
 (some ((v15==a0.2.2.2.2.1),()))))))))))
theorem x_248:au_ (P:=prog) (cxC [c_259] []) (.p .z (.p (.p .z (.p .z (.p (.p (.q [] .z .z) .z) (.p .z (.p (.p .z (.p (.p .z (.lp [.v 5 .int,.v 35 .int] [.v 5 .int] [] 1 .z)) .z)) (.p .z (.p (.p (.q [] .z .z) .z) (.p .z (.p (.p (.q [] .z .z) .z) (.p .z (.p (.p .z (.p (.p .z (.lp [.v 8 .int,.v 77 .int] [.v 8 .int] [] 3 (.p .z (.p .z (.j0 [.v 8 .int] .z .z))))) .z)) .z))))))))))) (.p (.q [] .z .z) .z))) 248 [ap_,(.list .int)] [.bool]=λx=>mw_ x.1 x.2.1:=by kernel_rfl
noncomputable def c_248:Con prog:=aw_ _ _ 248 [ap_,(.list .int)] [.bool] _ x_248
noncomputable def lh_ (a0:ae_) (a1:(List bf_)):Option (Bool×Unit) :=
 (cond (decide ((a1.length:Int)≤8))
 ((((ag_ (ρ:=(Unit⊕(Bool×Unit))) (λ(v0:(Int×Unit)) =>
 (cond (decide (v0.1<(a1.length:Int)))
 ((at? a1 v0.1).bind λv1 =>
 ((((bx_ v1.1 0 (w64 ((a0.2.1.length:Int) - 1))).bind λv2 =>
 (cond (!v2.1)
 (some (true,()))
 ((at? a0.2.1 v1.1).bind λv3 =>
 ((bx_ v1.2.1 0 (w64 (v3.2.2.1 - 1))).bind λv4 =>
 (some ((!v4.1),()))))))).bind λv5 =>
 (cond v5.1
 (some (inr (inr ((decide (0≤v0.1)),()))))
 (some (inl ((w64 (v0.1+1)),()))))))
 (some (inr (inl ()))))) (0,())).bind λv6 =>
 (cd_ v6 (λv7=>(some ((decide (0≤(-1))),())))
 (λv8=>(some v8))))).bind λv9 =>
 (some ((!v9.1),())))
 (some (false,())))
theorem x_135:au_ (P:=prog) (cxI (λk=>cond (Nat.beq k 166) (.p .z (.j0 [.v 4 .bool] .z .z)) (cond (Nat.beq k 184) (.p .z (.j0 [.v 3 .bool] (.q [] .z .z) .z)) (cond (Nat.beq k 205) (.p .z (.p (.p .z (.ls [.v 8 .int] [] [] 0 .z)) .z)) (.z)))) (λk=>Nat.beq k 136||false) (cxC [bz8] []) 4) .z 135 [an_,(.list bz_)] [.bool]=λx=>lh_ x.1 x.2.1:=by kernel_rfl
noncomputable def c_135:Con prog:=aw_ _ _ 135 [an_,(.list bz_)] [.bool] _ x_135
noncomputable def kg_ (a0:aa_):Option ((List UInt8)×Unit) :=
 ((fg_ [a0.1.1,a0.1.2.1,a0.1.2.2]).bind λv0 =>
 ((lf_ a0).bind λv1 =>
 ((cat? v0.1 v1.1).bind λv2 =>
 (some (v2,())))))
theorem x_104:au_ (P:=prog) (cxC [c_142,c_143] []) .z 104 [aj_] [.str]=λx=>kg_ x.1:=by kernel_rfl
noncomputable def c_104:Con prog:=aw_ _ _ 104 [aj_] [.str] _ x_104
noncomputable def cx_ (a0:hb_) (a1:af_):Option (Bool×Unit) :=
 ((be_ a1.1 0 (w64 ((a0.2.2.2.length:Int) - 1))).bind λv0 =>
 (cond (!v0.1)
 (some (false,()))
 ((at? a0.2.2.2 a1.1).bind λv1 =>
 (cond (a1.2.1==1)
 ((be_ a1.2.2 0 (w64 ((a0.1.2.2.2.1.length:Int) - 1))).bind λv2 =>
 (cond (!v2.1)
 (some (false,()))
 ((at? a0.1.2.2.2.1 a1.2.2).bind λv3 =>
 (cond (v3.1==v1)
 ((bb_ a0 v3.2.2).bind λv4 =>
 (some (v4.1,())))
 (cond (v3.2.1==v1)
 ((bb_ a0 v3.2.2).bind λv5 =>
 (some (v5.1,())))
 (some (false,())))))))
 (cond (a1.2.1==2)
 ((be_ a1.2.2 0 (w64 ((a0.2.2.1.length:Int) - 1))).bind λv6 =>
 (cond v6.1
 ((at? a0.2.2.1 a1.2.2).bind λv7 =>
 (cond (v7==v1)
 ((at? a0.1.2.2.1 a1.2.2).bind λv8 =>
 ((bb_ a0 v8.2.2).bind λv9 =>
 (cond v9.1
 ((df_ a0 a1.1).bind λv10 =>
 (some ((decide (v10.1<3)),())))
 (some (false,())))))
 (some (false,()))))
 (some (false,()))))
 (cond (a1.2.1==3)
 ((be_ a1.2.2 0 (w64 ((a0.2.2.1.length:Int) - 1))).bind λv11 =>
 (cond v11.1
 ((at? a0.2.2.1 a1.2.2).bind λv12 =>
 (some ((v12==(w64 ((-2) - a1.1))),())))
 (some (false,()))))
 (cond (a1.2.1==4)
 ((be_ a1.2.2 0 (w64 ((a0.1.2.2.2.2.1.length:Int) - 1))).bind λv13 =>
 (cond (!v13.1)
 (some (false,()))
 ((at? a0.1.2.2.2.2.1 a1.2.2).bind λv14 =>
 (cond (v14.2.1==v1)
 ((((ag_ (ρ:=(Unit⊕(Bool×Unit))) (λ(v15:(Int×Unit)) =>
 (cond (decide (v15.1<(v14.2.2.2.1.length:Int)))
 ((at? v14.2.2.2.1 v15.1).bind λv16 =>
 ((at? a0.2.2.1 v16).bind λv17 =>
 (cond (!(v17==(w64 ((-2) - a1.1))))
 (some (inr (inr ((decide (0≤v15.1)),()))))
 (some (inl ((w64 (v15.1+1)),()))))))
 (some (inr (inl ()))))) (0,())).bind λv18 =>
 (cd_ v18 (λv19=>(some ((decide (0≤(-1))),())))
 (λv20=>(some v20))))).bind λv21 =>
 (cond (!v21.1)
 ((bb_ a0 v14.2.2.2.2.1).bind λv22 =>
 (cond v22.1
 ((((ag_ (ρ:=(Unit⊕(Bool×Unit))) (λ(v23:(Int×Unit)) =>
 (cond (decide (v23.1<(v14.2.2.2.2.2.2.2.length:Int)))
 ((at? v14.2.2.2.2.2.2.2 v23.1).bind λv24 =>
 ((at? a0.2.2.1 v24).bind λv25 =>
 (cond (!(v25==(-1)))
 (some (inr (inr ((decide (0≤v23.1)),()))))
 (some (inl ((w64 (v23.1+1)),()))))))
 (some (inr (inl ()))))) (0,())).bind λv26 =>
 (cd_ v26 (λv27=>(some ((decide (0≤(-1))),())))
 (λv28=>(some v28))))).bind λv29 =>
 (cond (!v29.1)
 ((df_ a0 a1.1).bind λv30 =>
 (some ((decide ((w64 ((w64 (v30.1 - (v14.2.2.2.2.2.2.1.length:Int)))+(v14.2.2.2.2.2.2.2.length:Int)))≤3)),())))
 (some (false,()))))
 (some (false,()))))
 (some (false,()))))
 (some (false,()))))))
 (some (false,())))))))))
theorem x_146:au_ (P:=prog) (cxI (λk=>cond (Nat.beq k 73) (.p .z (.j0 [.v 4 .bool] .z .z)) (cond (Nat.beq k 109) (.p .z (.p (.p .z (.ls [.v 8 .int] [] [] 0 .z)) .z)) (cond (Nat.beq k 193) (.p .z (.p (.q [] .z .z) .z)) (.z)))) (λk=>Nat.beq k 130||Nat.beq k 165||Nat.beq k 196||false) (cxC [bz9,bz7,c_196] []) 7) (.p .z (.p (.p (.q [] .z .z) .z) (.p (.q [] .z .z) (.p .z (.p .z (.p .z (.p (.p .z (.p .z (.p (.p (.p (.q [] .z .z) .z) .z) (.p .z (.p (.p (.q [] .z .z) .z) (.p .z (.p (.p (.q [] .z .z) .z) (.p .z (.p (.p (.p (.q [] .z .z) .z) .z) .z))))))))) .z))))))) 146 [(.ref eu_),ar_] [.bool]=λx=>cx_ x.1 x.2.1:=by kernel_rfl
noncomputable def c_146:Con prog:=aw_ _ _ 146 [(.ref eu_),ar_] [.bool] _ x_146
noncomputable def xg_  : Option (ad_×Unit) :=
 (some ((([[104,97,108,108],[118,97,117,108,116]],([([98,111,120],(0,(2,0))),([100,111,111,114],(0,(2,0)))],([([107,101,121],(0,[(0,(1,false))]))],([(0,(1,[(1,(1,false))]))],([([111,112,101,110],(0,(0,([],([],([(0,1)],([],[]))))))),([116,117,114,110],(0,((-1),([0],([],([(1,1)],([0],[])))))))],([],(1,[]))))))),([(2,4)],([[3,1]],([([108,101,97,102],(0,(0,([],(2,(0,(1,(4,(0,([],false)))))))))),([98,97,99,107],(0,(0,([(0,(0,false))],(3,(1,(0,(0,(0,([],false)))))))))),([99,97,114,100],(1,((-1),([],(0,(0,(0,(0,(0,([],false))))))))))],1)))),()))
theorem x_26:au_ (P:=prog) (cxC [c_62] []) .z 26 [] [ao_]=λx=>xg_:=by kernel_rfl
noncomputable def c_26:Con prog:=aw_ _ _ 26 [] [ao_] _ x_26
noncomputable def le_ (a0:ae_):Option (ae_×Unit) :=
 ((push? (α:=(List UInt8)) [] a0.1).bind λv0 =>
 ((push? (α:=gr_) [] a0.2.1).bind λv1 =>
 ((push? (α:=js_) [] a0.2.2.1).bind λv2 =>
 ((push? (α:=om_) [] a0.2.2.2.1).bind λv3 =>
 ((push? (α:=cv_) [] a0.2.2.2.2.1).bind λv4 =>
 ((push? (α:=pv_) [] a0.2.2.2.2.2.1).bind λv5 =>
 ((ck_ a0.2.2.2.2.2.2.2).bind λv6 =>
 ((ag_ (ρ:=((List js_)×Unit)) (λ(v7:(Int×((List js_)×Unit))) =>
 (cond (decide (v7.1<(v7.2.1.length:Int)))
 ((at? v7.2.1 v7.1).bind λv8 =>
 ((at? v7.2.1 v7.1).bind λv9 =>
 ((ck_ v9.2.2).bind λv10 =>
 ((at? v7.2.1 v7.1).bind λv11 =>
 ((at? v7.2.1 v7.1).bind λv12 =>
 (some (inl ((w64 (v7.1+1)),((v7.2.1.set v7.1.toNat (v12.1,(v12.2.1,v10.1))),())))))))))
 (some (inr (v7.2.1,()))))) (0,(v2,()))).bind λv13 =>
 ((ag_ (ρ:=((List om_)×Unit)) (λ(v14:(Int×((List om_)×Unit))) =>
 (cond (decide (v14.1<(v14.2.1.length:Int)))
 ((at? v14.2.1 v14.1).bind λv15 =>
 ((at? v14.2.1 v14.1).bind λv16 =>
 ((ck_ v16.2.2).bind λv17 =>
 ((at? v14.2.1 v14.1).bind λv18 =>
 ((at? v14.2.1 v14.1).bind λv19 =>
 (some (inl ((w64 (v14.1+1)),((v14.2.1.set v14.1.toNat (v19.1,(v19.2.1,v17.1))),())))))))))
 (some (inr (v14.2.1,()))))) (0,(v3,()))).bind λv20 =>
 ((ag_ (ρ:=((List cv_)×Unit)) (λ(v21:(Int×((List cv_)×Unit))) =>
 (cond (decide (v21.1<(v21.2.1.length:Int)))
 ((at? v21.2.1 v21.1).bind λv22 =>
 ((at? v21.2.1 v21.1).bind λv23 =>
 ((dm_ v23.2.2.2.1).bind λv24 =>
 ((dm_ v23.2.2.2.2.2.2.1).bind λv25 =>
 ((dm_ v23.2.2.2.2.2.2.2).bind λv26 =>
 ((ck_ v23.2.2.2.2.1).bind λv27 =>
 ((push? (α:=ab_) [] v23.2.2.2.2.2.1).bind λv28 =>
 ((at? v21.2.1 v21.1).bind λv29 =>
 ((at? v21.2.1 v21.1).bind λv30 =>
 (some (inl ((w64 (v21.1+1)),((v21.2.1.set v21.1.toNat (v23.1,(v23.2.1,(v23.2.2.1,(v24.1,(v27.1,(v28,(v25.1,v26.1)))))))),())))))))))))))
 (some (inr (v21.2.1,()))))) (0,(v4,()))).bind λv31 =>
 ((ag_ (ρ:=((List pv_)×Unit)) (λ(v32:(Int×((List pv_)×Unit))) =>
 (cond (decide (v32.1<(v32.2.1.length:Int)))
 ((at? v32.2.1 v32.1).bind λv33 =>
 ((at? v32.2.1 v32.1).bind λv34 =>
 ((ck_ v34.1).bind λv35 =>
 ((at? v32.2.1 v32.1).bind λv36 =>
 ((at? v32.2.1 v32.1).bind λv37 =>
 (some (inl ((w64 (v32.1+1)),((v32.2.1.set v32.1.toNat (v35.1,v37.2)),())))))))))
 (some (inr (v32.2.1,()))))) (0,(v5,()))).bind λv38 =>
 (some ((v0,(v1,(v13.1,(v20.1,(v31.1,(v38.1,(a0.2.2.2.2.2.2.1,v6.1))))))),())))))))))))))
theorem x_29:au_ (P:=prog) (cxC [c_65,c_66] []) (.p .z (.p .z (.p (.p .z (.lp [.v 4 .int] [] [.o (.s 20) ov_] 0 .z)) (.p (.p .z (.lp [.v 5 .int] [] [.o (.s 24) ah9] 2 .z)) (.p (.p .z (.lp [.v 6 .int] [] [.o (.s 28) lx_] 4 .z)) (.p (.p .z (.lp [.v 8 .int] [] [.o (.s 32) yn_] 6 .z)) .z)))))) 29 [an_] [an_]=λx=>le_ x.1:=by kernel_rfl
noncomputable def c_29:Con prog:=aw_ _ _ 29 [an_] [an_] _ x_29
noncomputable def iq_ (a0:ad_) (a1:aa_):Option (Bool×Unit) :=
 ((bl_ a1.1 a0.1.2.2.2.2.2.2.2).bind λv0 =>
 (some (v0.1,())))
end
section
set_option maxRecDepth 100000
set_option maxHeartbeats 0
noncomputable def ct_ (a0:ae_) (a1:(List bf_)):Option (Bool×Unit) :=
 ((ag_ (ρ:=(Unit⊕(Bool×Unit))) (λ(v0:(Int×Unit)) =>
 (cond (decide (v0.1<(a1.length:Int)))
 ((at? a1 v0.1).bind λv1 =>
 ((at? a1 v0.1).bind λv2 =>
 ((gn_ a0 v1.1 v2.2.1).bind λv3 =>
 (cond (!v3.1)
 (some (inr (inr (false,()))))
 (some (inl ((w64 (v0.1+1)),())))))))
 (some (inr (inl ()))))) (0,())).bind λv4 =>
 (cd_ v4 (λv5=>(some ((decide ((a1.length:Int)≤8)),())))
 (λv6=>(some v6))))
theorem x_56:au_ (P:=prog) (cxC [c_86] []) (.p .z (.p (.p .z (.ls [.v 5 .int] [] [] 0 (.p .z (.p (.p (.q [] .z .z) .z) .z)))) .z)) 56 [an_,(.list bz_)] [.bool]=λx=>ct_ x.1 x.2.1:=by kernel_rfl
noncomputable def c_56:Con prog:=aw_ _ _ 56 [an_,(.list bz_)] [.bool] _ x_56
noncomputable def ds_ (a0:(List UInt8)):Option (Bool×Unit) :=
 (cond (decide ((a0.length:Int)≤12))
 ((hh_ a0).bind λv0 =>
 (some (v0.1,())))
 (some (false,())))
theorem x_81:au_ (P:=prog) (cxC [c_115] []) .z 81 [.str] [.bool]=λx=>ds_ x.1:=by kernel_rfl
noncomputable def c_81:Con prog:=aw_ _ _ 81 [.str] [.bool] _ x_81
noncomputable def fq_ (a0:ab_) (a1:(List Int)):Option (Int×Unit) :=
 ((ed_ a0).bind λv0 =>
 (cond (v0.1 != 0)
 (some (v0.1,()))
 ((gh_ a0 a1).bind λv1 =>
 (cond (!v1.1)
 (some (12,()))
 (some (0,()))))))
theorem x_54:au_ (P:=prog) (cxC [c_53,c_88] []) .z 54 [al_,(.list .int)] [.int]=λx=>fq_ x.1 x.2.1:=by kernel_rfl
noncomputable def c_54:Con prog:=aw_ _ _ 54 [al_,(.list .int)] [.int] _ x_54
noncomputable def gi_ (a0:ab_) (a1:ak_):Option (Bool×Unit) :=
 ((bk_ a1.2.1 0 (w64 (a0.1 - 1))).bind λv0 =>
 ((bk_ a1.2.2.1 0 (w64 (a0.1 - 1))).bind λv1 =>
 (((cond (a1.1==1)
 (((cond v0.1
 ((bk_ a1.2.2.2.1 0 (w64 (a0.2 - 1))).bind λv2 =>
 (some (v2.1,())))
 (some (false,())))).bind λv3 =>
 (some (v3.1,((a1.2.1,(0,(a1.2.2.2.1,(0,([],()))))),()))))
 (cond (a1.1==2)
 (((cond v0.1
 (cond v1.1
 (cond (decide (a1.2.1≤a1.2.2.1))
 ((bk_ a1.2.2.2.1 0 100).bind λv4 =>
 (some (v4.1,())))
 (some (false,())))
 (some (false,())))
 (some (false,())))).bind λv5 =>
 (some (v5.1,((a1.2.1,(a1.2.2.1,(a1.2.2.2.1,(0,([],()))))),()))))
 (((cond (a1.1==3)
 (some ((a1.1==3),()))
 (some ((a1.1==4),())))).bind λv6 =>
 (cond v6.1
 (((cond v0.1
 (cond v1.1
 (some ((a1.2.1 != a1.2.2.1),()))
 (some (false,())))
 (some (false,())))).bind λv7 =>
 (some (v7.1,((a1.2.1,(a1.2.2.1,(0,(0,([],()))))),()))))
 (cond (a1.1==5)
 ((((bk_ a1.2.2.2.1 0 (w64 (a0.2 - 1))).bind λv8 =>
 (cond v8.1
 ((bk_ a1.2.2.2.2.1 0 a0.1).bind λv9 =>
 (some (v9.1,())))
 (some (false,()))))).bind λv10 =>
 (some (v10.1,((0,(0,(a1.2.2.2.1,(a1.2.2.2.2.1,([],()))))),()))))
 (cond (a1.1==6)
 ((((gh_ a0 a1.2.2.2.2.2.1).bind λv11 =>
 (cond v11.1
 ((bk_ a1.2.2.2.1 0 a0.1).bind λv12 =>
 (cond v12.1
 ((bk_ a1.2.2.2.2.1 0 a0.1).bind λv13 =>
 (some (v13.1,())))
 (some (false,()))))
 (some (false,()))))).bind λv14 =>
 (some (v14.1,((0,(0,(a1.2.2.2.1,(a1.2.2.2.2.1,(a1.2.2.2.2.2.1,()))))),()))))
 (cond (a1.1==7)
 (((cond v0.1
 ((bk_ a1.2.2.2.1 2 10).bind λv15 =>
 (cond v15.1
 ((bk_ a1.2.2.2.2.1 0 (w64 (a1.2.2.2.1 - 1))).bind λv16 =>
 (some (v16.1,())))
 (some (false,()))))
 (some (false,())))).bind λv17 =>
 (some (v17.1,((a1.2.1,(0,(a1.2.2.2.1,(a1.2.2.2.2.1,([],()))))),()))))
 (some (false,((0,(0,(0,(0,([],()))))),()))))))))))).bind λv18 =>
 (cond v18.1
 ((iu_ a1 (a1.1,(v18.2.1.1,(v18.2.1.2.1,(v18.2.1.2.2.1,(v18.2.1.2.2.2.1,(v18.2.1.2.2.2.2.1,a1.2.2.2.2.2.2))))))).bind λv19 =>
 (some (v19.1,())))
 (some (false,()))))))
theorem x_118:au_ (P:=prog) (cxC [c_87,c_88,c_157] []) (.p .z (.p (.q [] .z .z) (.p .z (.p .z (.j0 [.v 8 .bool,.b (.s 7) [.keep,.val .int,.val .int,.val .int,.val .int,.val (.list .int),.keep]] (.p .z (.p .z (.p (.j0 [.v 8 .bool] .z .z) (.p .z (.p (.j0 [.v 8 .bool] .z .z) (.j0 [.v 72 .bool] .z (.p (.j0 [.v 8 .bool] .z .z) (.p .z (.p (.j0 [.v 8 .bool] .z .z) (.p .z (.p (.j0 [.v 8 .bool] .z .z) (.p .z (.p (.j0 [.v 8 .bool] .z .z) .z))))))))))))) .z))))) 118 [al_,ap_] [.bool]=λx=>gi_ x.1 x.2.1:=by kernel_rfl
noncomputable def c_118:Con prog:=aw_ _ _ 118 [al_,ap_] [.bool] _ x_118
noncomputable def ff_ (a0:ak_) (a1:(List Int)):Option (Bool×Unit) :=
 (((cond (a0.1==1)
 ((at? a1 a0.2.1).bind λv0 =>
 (some ((v0==a0.2.2.2.1),())))
 (cond (a0.1==2)
 ((ag_ (ρ:=(Int×Unit)) (λ(v1:(Int×(Int×Unit))) =>
 (cond (decide (v1.2.1≤a0.2.2.1))
 ((at? a1 v1.2.1).bind λv2 =>
 (some (inl ((w64 (v1.1+v2)),((w64 (v1.2.1+1)),())))))
 (some (inr (v1.1,()))))) (0,(a0.2.1,()))).bind λv3 =>
 (some ((v3.1==a0.2.2.2.1),())))
 (cond (a0.1==3)
 ((at? a1 a0.2.1).bind λv4 =>
 ((at? a1 a0.2.2.1).bind λv5 =>
 (some ((decide (v4<v5)),()))))
 (cond (a0.1==4)
 ((at? a1 a0.2.1).bind λv6 =>
 ((at? a1 a0.2.2.1).bind λv7 =>
 (some ((v6==v7),()))))
 (cond (a0.1==5)
 ((ec_ a1 a0.2.2.2.1).bind λv8 =>
 (some ((v8.1==a0.2.2.2.2.1),())))
 (cond (a0.1==6)
 ((ib_ a1 a0.2.2.2.2.2.1).bind λv9 =>
 (cond (v9.1==a0.2.2.2.1)
 (some ((v9.2.1==a0.2.2.2.2.1),()))
 (some (false,()))))
 (cond (a0.1==7)
 ((at? a1 a0.2.1).bind λv10 =>
 ((md v10 a0.2.2.2.1).bind λv11 =>
 (some ((v11==a0.2.2.2.2.1),()))))
 (some (false,())))))))))).bind λv12 =>
 (some ((v12.1 != a0.2.2.2.2.2.2),())))
theorem x_91:au_ (P:=prog) (cxC [c_119,c_120] []) (.p .z (.p .z (.j0 [.v 5 .bool] (.p .z (.p .z (.p (.q [] .z .z) (.p .z (.p (.p .z (.p (.p .z (.lp [.v 6 .int,.v 7 .int] [.v 6 .int] [] 1 .z)) .z)) (.p .z (.p (.q [] .z .z) (.p .z (.p (.q [] .z .z) (.p .z (.p (.q [] .z .z) (.p .z (.p .z (.p .z (.p (.q [] .z .z) .z))))))))))))))) .z))) 91 [ap_,(.list .int)] [.bool]=λx=>ff_ x.1 x.2.1:=by kernel_rfl
noncomputable def c_91:Con prog:=aw_ _ _ 91 [ap_,(.list .int)] [.bool] _ x_91
noncomputable def eo_ (a0:ae_) (a1:ai_):Option ((List af_)×Unit) :=
 ((ag_ (ρ:=((List af_)×Unit)) (λ(v0:((List af_)×(Int×Unit))) =>
 (cond (decide (v0.2.1<a0.2.2.2.2.2.2.1))
 ((ag_ (ρ:=((List af_)×Unit)) (λ(v1:((List af_)×(Int×Unit))) =>
 (cond (decide (v1.2.1≤4))
 ((ag_ (ρ:=((List af_)×Unit)) (λ(v2:((List af_)×(Int×Unit))) =>
 (cond (decide (v2.2.1<24))
 ((((jh_ a0 a1 (v0.2.1,(v1.2.1,v2.2.1))).bind λv3 =>
 (cond v3.1
 ((push? (α:=af_) v2.1 [(v0.2.1,(v1.2.1,v2.2.1))]).bind λv4 =>
 (some (v4,())))
 (some (v2.1,()))))).bind λv5 =>
 (some (inl (v5.1,((w64 (v2.2.1+1)),())))))
 (some (inr (v2.1,()))))) (v1.1,(0,()))).bind λv6 =>
 (some (inl (v6.1,((w64 (v1.2.1+1)),())))))
 (some (inr (v1.1,()))))) (v0.1,(1,()))).bind λv7 =>
 (some (inl (v7.1,((w64 (v0.2.1+1)),())))))
 (some (inr (v0.1,()))))) ([],(0,()))).bind λv8 =>
 (some (v8.1,())))
theorem x_95:au_ (P:=prog) (cxC [c_123] []) (.p .z (.p .z (.p (.p .z (.lp [.r 5 ar_ 61,.v 6 .int] [.r 5 ar_ 61] [] 0 (.p .z (.p (.p .z (.lp [.r 5 ar_ 61,.v 7 .int] [.r 5 ar_ 61] [] 2 (.p .z (.p (.p .z (.lp [.r 5 ar_ 61,.v 8 .int] [.r 5 ar_ 61] [] 4 (.p .z (.j0 [.r 5 ar_ 61] .z .z)))) .z)))) .z)))) .z))) 95 [an_,aq_] [(.list ar_)]=λx=>eo_ x.1 x.2.1:=by kernel_rfl
noncomputable def c_95:Con prog:=aw_ _ _ 95 [an_,aq_] [(.list ar_)] _ x_95
noncomputable def gg_ (a0:ae_) (a1:ai_) (a2:af_):Option (ai_×Bool×Unit) :=
 ((push? (α:=Int) [] a1.1).bind λv0 =>
 ((push? (α:=Int) [] a1.2.1).bind λv1 =>
 ((push? (α:=Int) [] a1.2.2).bind λv2 =>
 ((at? a1.2.2 a2.1).bind λv3 =>
 (((cond (a2.2.1==1)
 ((at? a0.2.2.2.1 a2.2.2).bind λv4 =>
 ((at? a0.2.2.2.1 a2.2.2).bind λv5 =>
 ((at? v2 a2.1).bind λv6 =>
 ((at? v2 a2.1).bind λv7 =>
 (some (v0,(v1,((v2.set a2.1.toNat (w64 ((w64 (v4.1+v5.2.1)) - v3))),()))))))))
 (cond (a2.2.1==2)
 ((at? v1 a2.2.2).bind λv8 =>
 ((at? v1 a2.2.2).bind λv9 =>
 (some (v0,((v1.set a2.2.2.toNat (w64 ((-2) - a2.1))),(v2,()))))))
 (cond (a2.2.1==3)
 ((at? v1 a2.2.2).bind λv10 =>
 ((at? v1 a2.2.2).bind λv11 =>
 (some (v0,((v1.set a2.2.2.toNat v3),(v2,()))))))
 (cond (a2.2.1==4)
 ((at? a0.2.2.2.2.1 a2.2.2).bind λv12 =>
 ((ag_ (ρ:=((List Int)×Unit)) (λ(v13:(Int×((List Int)×Unit))) =>
 (cond (decide (v13.1<(v12.2.2.2.2.2.2.1.length:Int)))
 ((at? v12.2.2.2.2.2.2.1 v13.1).bind λv14 =>
 ((at? v13.2.1 v14).bind λv15 =>
 ((at? v13.2.1 v14).bind λv16 =>
 (some (inl ((w64 (v13.1+1)),((v13.2.1.set v14.toNat (-1)),())))))))
 (some (inr (v13.2.1,()))))) (0,(v1,()))).bind λv17 =>
 ((ag_ (ρ:=((List Int)×Unit)) (λ(v18:(Int×((List Int)×Unit))) =>
 (cond (decide (v18.1<(v12.2.2.2.2.2.2.2.length:Int)))
 ((at? v12.2.2.2.2.2.2.2 v18.1).bind λv19 =>
 ((at? v18.2.1 v19).bind λv20 =>
 ((at? v18.2.1 v19).bind λv21 =>
 (some (inl ((w64 (v18.1+1)),((v18.2.1.set v19.toNat (w64 ((-2) - a2.1))),())))))))
 (some (inr (v18.2.1,()))))) (0,(v17.1,()))).bind λv22 =>
 ((ag_ (ρ:=((List Int)×Unit)) (λ(v23:(Int×((List Int)×Unit))) =>
 (cond (decide (v23.1<(v12.2.2.2.2.2.1.length:Int)))
 ((at? v12.2.2.2.2.2.1 v23.1).bind λv24 =>
 ((at? v12.2.2.2.2.2.1 v23.1).bind λv25 =>
 ((at? v23.2.1 v24.1).bind λv26 =>
 ((at? v23.2.1 v24.1).bind λv27 =>
 (some (inl ((w64 (v23.1+1)),((v23.2.1.set v24.1.toNat v25.2),()))))))))
 (some (inr (v23.2.1,()))))) (0,(v0,()))).bind λv28 =>
 (some (v28.1,(v22.1,(v2,()))))))))
 (some (v0,(v1,(v2,()))))))))).bind λv29 =>
 ((gf_ a0 (v29.1,(v29.2.1,v29.2.2.1))).bind λv30 =>
 (some (v30.1,(v30.2.1,())))))))))
theorem x_97:au_ (P:=prog) (cxI (λk=>.z) (λk=>Nat.beq k 126||false) (cxC [c_126] []) 2) (.p .z (.p .z (.p (.q [] .z .z) (.j0 [.o (.c (.s 8) 0) .int,.o (.c (.s 8) 1) .int,.o (.c (.s 8) 2) .int] (.p .z (.p .z (.p .z (.p .z (.p .z (.p .z (.p .z (.p .z (.p (.p .z (.p (.p .z (.lp [.v 12 .int] [] [.o (.c (.s 8) 1) .int] 1 .z)) (.p (.p .z (.lp [.v 13 .int] [] [.o (.c (.s 8) 1) .int] 3 .z)) (.p .z (.lp [.v 14 .int] [] [.o (.c (.s 8) 0) .int] 5 .z))))) .z))))))))) .z)))) 97 [an_,aq_,ar_] [aq_,.bool]=λx=>gg_ x.1 x.2.1 x.2.2.1:=by kernel_rfl
noncomputable def c_97:Con prog:=aw_ _ _ 97 [an_,aq_,ar_] [aq_,.bool] _ x_97
noncomputable def ez_ (a0:(List UInt8)):Option (Bool×Unit) :=
 ((ag_ (ρ:=(Unit⊕(Bool×Unit))) (λ(v0:(Int×Unit)) =>
 (cond (decide (v0.1<(a0.length:Int)))
 ((((at? a0 v0.1).bind λv1 =>
 (cond (decide (((UInt8.toNat v1):Int)<97))
 (some (true,()))
 ((at? a0 v0.1).bind λv2 =>
 (some ((decide (122<((UInt8.toNat v2):Int))),())))))).bind λv3 =>
 (cond v3.1
 (some (inr (inr (false,()))))
 (some (inl ((w64 (v0.1+1)),())))))
 (some (inr (inl ()))))) (0,())).bind λv4 =>
 (cd_ v4 (λv5=>(cond (!(a0==[]))
 ((cw_ [[97,116],[115,116,97,116,101,115],[115,116,97,114,116],[103,111,110,101],[105,102],[108,111,99,107],[119,105,116,104],[115,101,116,115],[115,112,101,110,100,115],[98,114,105,110,103,115]] a0).bind λv7 =>
 (some ((!v7.1),())))
 (some (false,()))))
 (λv6=>(some v6))))
theorem x_206:au_ (P:=prog) (cxC [c_235] []) (.p .z (.p (.p .z (.ls [.v 6 .int] [] [] 0 (.p .z (.p .z (.p (.p .z (.j0 [.v 18 .bool] .z .z)) .z))))) .z)) 206 [.str] [.bool]=λx=>ez_ x.1:=by kernel_rfl
noncomputable def c_206:Con prog:=aw_ _ _ 206 [.str] [.bool] _ x_206
noncomputable def dr_ (a0:ae_) (a1:(List bf_)):Option (Bool×Unit) :=
 (cond (decide ((a1.length:Int)≤8))
 ((((ag_ (ρ:=(Unit⊕(Bool×Unit))) (λ(v0:(Int×Unit)) =>
 (cond (decide (v0.1<(a1.length:Int)))
 ((at? a1 v0.1).bind λv1 =>
 ((fa_ a0 v1.1 v1.2.1).bind λv2 =>
 (cond (!v2.1)
 (some (inr (inr ((decide (0≤v0.1)),()))))
 (some (inl ((w64 (v0.1+1)),()))))))
 (some (inr (inl ()))))) (0,())).bind λv3 =>
 (cd_ v3 (λv4=>(some ((decide (0≤(-1))),())))
 (λv5=>(some v5))))).bind λv6 =>
 (some ((!v6.1),())))
 (some (false,())))
theorem x_175:au_ (P:=prog) (cxI (λk=>cond (Nat.beq k 166) (.p .z (.j0 [.v 4 .bool] .z .z)) (cond (Nat.beq k 205) (.p .z (.p (.p .z (.ls [.v 8 .int] [] [] 0 .z)) .z)) (.z))) (λk=>Nat.beq k 164||false) (cxC [cn2] []) 4) .z 175 [an_,(.list bz_)] [.bool]=λx=>dr_ x.1 x.2.1:=by kernel_rfl
noncomputable def c_175:Con prog:=aw_ _ _ 175 [an_,(.list bz_)] [.bool] _ x_175
noncomputable def dh_ (a0:ab_) (a1:(List Int)):Option (Bool×Unit) :=
 (cond ((a1.length:Int)==a0.1)
 ((((ag_ (ρ:=(Unit⊕(Bool×Unit))) (λ(v0:(Int×Unit)) =>
 (cond (decide (v0.1<(a1.length:Int)))
 ((at? a1 v0.1).bind λv1 =>
 ((cn_ a0 v1).bind λv2 =>
 (cond (!v2.1)
 (some (inr (inr ((decide (0≤v0.1)),()))))
 (some (inl ((w64 (v0.1+1)),()))))))
 (some (inr (inl ()))))) (0,())).bind λv3 =>
 (cd_ v3 (λv4=>(some ((decide (0≤(-1))),())))
 (λv5=>(some v5))))).bind λv6 =>
 (some ((!v6.1),())))
 (some (false,())))
theorem x_220:au_ (P:=prog) (cxI (λk=>cond (Nat.beq k 73) (.p .z (.j0 [.v 4 .bool] .z .z)) (cond (Nat.beq k 109) (.p .z (.p (.p .z (.ls [.v 8 .int] [] [] 0 .z)) .z)) (.z))) (λk=>Nat.beq k 246||false) (cxC [c_246] []) 4) .z 220 [al_,(.list .int)] [.bool]=λx=>dh_ x.1 x.2.1:=by kernel_rfl
noncomputable def c_220:Con prog:=aw_ _ _ 220 [al_,(.list .int)] [.bool] _ x_220
noncomputable def ft_ (a0:ak_) (a1:(List Int)):Option (Bool×Unit) :=
 ((mw_ a0 a1).bind λv0 =>
 (some ((v0.1 != a0.2.2.2.2.2.2),())))
theorem x_223:au_ (P:=prog) (cxC [c_248] []) (.p .z (.p (.q [] .z .z) .z)) 223 [ap_,(.list .int)] [.bool]=λx=>ft_ x.1 x.2.1:=by kernel_rfl
noncomputable def c_223:Con prog:=aw_ _ _ 223 [ap_,(.list .int)] [.bool] _ x_223
noncomputable def ld_ (a0:ad_):Option (ad_×Unit) :=
 ((le_ a0.1).bind λv0 =>
 ((push? (α:=ab_) [] a0.2.1).bind λv1 =>
 ((push? (α:=cp_) [] a0.2.2.2.1).bind λv2 =>
 ((ag_ (ρ:=(((List (List Int))×Unit)×Unit)) (λ(v3:(Int×(((List (List Int))×Unit)×Unit))) =>
 (cond (decide (v3.1<(a0.2.2.1.length:Int)))
 ((at? a0.2.2.1 v3.1).bind λv4 =>
 ((push? (α:=Int) [] v4).bind λv5 =>
 ((push? (α:=(List Int)) v3.2.1.1 [v5]).bind λv6 =>
 (some (inl ((w64 (v3.1+1)),((v6,()),())))))))
 (some (inr ((v3.2.1.1,()),()))))) (0,(([],()),()))).bind λv7 =>
 ((ag_ (ρ:=((List cp_)×Unit)) (λ(v8:(Int×((List cp_)×Unit))) =>
 (cond (decide (v8.1<(v8.2.1.length:Int)))
 ((at? v8.2.1 v8.1).bind λv9 =>
 ((at? v8.2.1 v8.1).bind λv10 =>
 ((push? (α:=bf_) [] v10.2.2.2.1).bind λv11 =>
 ((at? v8.2.1 v8.1).bind λv12 =>
 ((at? v8.2.1 v8.1).bind λv13 =>
 ((at? (v8.2.1.set v8.1.toNat (v13.1,(v13.2.1,(v13.2.2.1,(v11,v13.2.2.2.2))))) v8.1).bind λv14 =>
 ((at? (v8.2.1.set v8.1.toNat (v13.1,(v13.2.1,(v13.2.2.1,(v11,v13.2.2.2.2))))) v8.1).bind λv15 =>
 ((gk_ v15.2.2.2.2).bind λv16 =>
 ((at? (v8.2.1.set v8.1.toNat (v13.1,(v13.2.1,(v13.2.2.1,(v11,v13.2.2.2.2))))) v8.1).bind λv17 =>
 ((at? (v8.2.1.set v8.1.toNat (v13.1,(v13.2.1,(v13.2.2.1,(v11,v13.2.2.2.2))))) v8.1).bind λv18 =>
 (some (inl ((w64 (v8.1+1)),(((v8.2.1.set v8.1.toNat (v13.1,(v13.2.1,(v13.2.2.1,(v11,v13.2.2.2.2))))).set v8.1.toNat (v18.1,(v18.2.1,(v18.2.2.1,(v18.2.2.2.1,v16.1))))),()))))))))))))))
 (some (inr (v8.2.1,()))))) (0,(v2,()))).bind λv19 =>
 (some ((v0.1,(v1,(v7.1.1,(v19.1,a0.2.2.2.2)))),())))))))
theorem x_10:au_ (P:=prog) (cxC [c_29,c_30] []) (.p .z (.p .z (.p (.p .z (.lp [.v 4 .int] [] [.b (.s 3) [.keep,.keep,.keep,.keep,.keep,.keep,.keep,.keep,.keep,.row (.list .int) 55,.keep,.keep]] 0 .z)) (.p (.p .z (.lp [.v 5 .int] [] [.o (.s 16) ow_] 2 .z)) .z)))) 10 [ao_] [ao_]=λx=>ld_ x.1:=by kernel_rfl
noncomputable def c_10:Con prog:=aw_ _ _ 10 [ao_] [ao_] _ x_10
noncomputable def hw_ (a0:ad_) (a1:cj_) (a2:Int):Option ((List Int)×Unit) :=
 ((mk? (α:=Int) (a1.1.length:Int) 0).bind λv0 =>
 ((ag_ (ρ:=((List Int)×Unit)) (λ(v1:(Int×((List Int)×Unit))) =>
 (cond (decide (v1.1<(v1.2.1.length:Int)))
 ((((at? v1.2.1 v1.1).bind λv2 =>
 ((at? v1.2.1 v1.1).bind λv3 =>
 ((at? a1.1 v1.1).bind λv4 =>
 ((iq_ a0 v4).bind λv5 =>
 (cond v5.1
 ((at? (v1.2.1.set v1.1.toNat (-1)) v1.1).bind λv6 =>
 ((at? (v1.2.1.set v1.1.toNat (-1)) v1.1).bind λv7 =>
 (some (((v1.2.1.set v1.1.toNat (-1)).set v1.1.toNat 0),()))))
 (some ((v1.2.1.set v1.1.toNat (-1)),())))))))).bind λv8 =>
 (some (inl ((w64 (v1.1+1)),(v8.1,())))))
 (some (inr (v1.2.1,()))))) (0,(v0,()))).bind λv9 =>
 ((ag_ (ρ:=((List Int)×Unit)) (λ(v10:(Int×(Bool×((List Int)×Unit)))) =>
 (cond v10.2.1
 ((ag_ (ρ:=(Bool×((List Int)×Unit))) (λ(v11:(Bool×(Int×((List Int)×Unit)))) =>
 (cond (decide (v11.2.1<(v11.2.2.1.length:Int)))
 ((ag_ (ρ:=(Bool×((List Int)×Unit))) (λ(v12:(Bool×(Int×((List Int)×Unit)))) =>
 ((((at? a1.2 v11.2.1).bind λv13 =>
 (cond (decide (v12.2.1<(v13.length:Int)))
 ((at? v12.2.2.1 v11.2.1).bind λv14 =>
 ((at? v12.2.2.1 v11.2.1).bind λv15 =>
 (some ((decide (v15<0)),()))))
 (some (false,()))))).bind λv16 =>
 (cond v16.1
 ((((at? a1.2 v11.2.1).bind λv17 =>
 ((at? v17 v12.2.1).bind λv18 =>
 ((((at? v12.2.2.1 v18.2).bind λv19 =>
 ((at? v12.2.2.1 v18.2).bind λv20 =>
 (cond (v20==(w64 (v10.1 - 1)))
 ((gv_ v18 a2).bind λv21 =>
 (some ((!v21.1),())))
 (some (false,())))))).bind λv22 =>
 (cond v22.1
 ((at? v12.2.2.1 v11.2.1).bind λv23 =>
 ((at? v12.2.2.1 v11.2.1).bind λv24 =>
 (some (true,((v12.2.2.1.set v11.2.1.toNat v10.1),())))))
 (some (v12.1,(v12.2.2.1,())))))))).bind λv25 =>
 (some (inl (v25.1,((w64 (v12.2.1+1)),(v25.2.1,()))))))
 (some (inr (v12.1,(v12.2.2.1,()))))))) (v11.1,(0,(v11.2.2.1,())))).bind λv26 =>
 (some (inl (v26.1,((w64 (v11.2.1+1)),(v26.2.1,()))))))
 (some (inr (v11.1,(v11.2.2.1,())))))) (false,(0,(v10.2.2.1,())))).bind λv27 =>
 (some (inl ((w64 (v10.1+1)),(v27.1,(v27.2.1,()))))))
 (some (inr (v10.2.2.1,()))))) (1,(true,(v9.1,())))).bind λv28 =>
 (some (v28.1,())))))
end
section
set_option maxRecDepth 100000
set_option maxHeartbeats 0
noncomputable def ms_ (a0:ae_) (a1:Int):Option (Bool×Unit) :=
 ((at? a0.2.2.2.2.1 a1).bind λv0 =>
 ((ag_ (ρ:=(Unit⊕(Bool×Unit))) (λ(v1:(Int×Unit)) =>
 (cond (decide (v1.1<a1))
 ((at? a0.2.2.2.2.1 v1.1).bind λv2 =>
 (cond (v2.1==v0.1)
 (some (inr (inr (false,()))))
 (some (inl ((w64 (v1.1+1)),())))))
 (some (inr (inl ()))))) (0,())).bind λv3 =>
 (cd_ v3 (λv4=>((((ds_ v0.1).bind λv6 =>
 (cond (!v6.1)
 (some (true,()))
 ((cs_ a0 v0.2.1).bind λv7 =>
 (cond (!v7.1)
 (some (true,()))
 ((bs_ v0.2.2.1 (-1) 7).bind λv8 =>
 (cond (!v8.1)
 (some (true,()))
 ((dg_ a0 v0.2.2.2.1).bind λv9 =>
 (cond (!v9.1)
 (some (true,()))
 ((dg_ a0 v0.2.2.2.2.2.2.1).bind λv10 =>
 (cond (!v10.1)
 (some (true,()))
 ((dg_ a0 v0.2.2.2.2.2.2.2).bind λv11 =>
 (cond (!v11.1)
 (some (true,()))
 (some ((decide (6<(v0.2.2.2.2.2.1.length:Int))),()))))))))))))))).bind λv12 =>
 (cond v12.1
 (some (false,()))
 ((ag_ (ρ:=(Unit⊕(Bool×Unit))) (λ(v13:(Int×Unit)) =>
 (cond (decide (v13.1<(v0.2.2.2.2.2.2.1.length:Int)))
 ((at? v0.2.2.2.2.2.2.1 v13.1).bind λv14 =>
 ((me_ v0.2.2.2.1 v14).bind λv15 =>
 (cond (!v15.1)
 (some (inr (inr (false,()))))
 (some (inl ((w64 (v13.1+1)),()))))))
 (some (inr (inl ()))))) (0,())).bind λv16 =>
 (cd_ v16 (λv17=>((ag_ (ρ:=(Unit⊕(Bool×Unit))) (λ(v19:(Int×Unit)) =>
 (cond (decide (v19.1<(v0.2.2.2.2.2.2.2.length:Int)))
 ((at? v0.2.2.2.2.2.2.2 v19.1).bind λv20 =>
 ((me_ v0.2.2.2.1 v20).bind λv21 =>
 (cond v21.1
 (some (inr (inr (false,()))))
 (some (inl ((w64 (v19.1+1)),()))))))
 (some (inr (inl ()))))) (0,())).bind λv22 =>
 (cd_ v22 (λv23=>((ag_ (ρ:=(Unit⊕(Bool×Unit))) (λ(v25:(Int×Unit)) =>
 (cond (decide (v25.1<(v0.2.2.2.2.2.1.length:Int)))
 ((at? v0.2.2.2.2.2.1 v25.1).bind λv26 =>
 ((at? v0.2.2.2.2.2.1 v25.1).bind λv27 =>
 ((gn_ a0 v26.1 v27.2).bind λv28 =>
 (cond (!v28.1)
 (some (inr (inr (false,()))))
 ((ag_ (ρ:=(Unit⊕((Int×Unit)⊕(Unit⊕(Bool×Unit))))) (λ(v29:(Int×Unit)) =>
 (cond (decide (v29.1<v25.1))
 ((at? v0.2.2.2.2.2.1 v29.1).bind λv30 =>
 ((at? v0.2.2.2.2.2.1 v25.1).bind λv31 =>
 (cond (v30.1==v31.1)
 (some (inr (inr (inr (inr (false,()))))))
 (some (inl ((w64 (v29.1+1)),()))))))
 (some (inr (inl ()))))) (0,())).bind λv32 =>
 (cd_ v32 (λv33=>(some (inl ((w64 (v25.1+1)),()))))
 (λv34=>(some v34))))))))
 (some (inr (inl ()))))) (0,())).bind λv35 =>
 (cd_ v35 (λv36=>(some (true,())))
 (λv37=>(some v37)))))
 (λv24=>(some v24)))))
 (λv18=>(some v18)))))))
 (λv5=>(some v5)))))
theorem x_85:au_ (P:=prog) (cxC [c_81,c_83,c_84,c_86,c_116,c_117] []) (.p .z (.p .z (.p (.p .z (.ls [.v 6 .int] [] [] 0 .z)) (.p (.j0 [.v 73 .bool] .z .z) (.p (.p .z (.ls [.v 7 .int] [] [] 2 .z)) (.p (.p .z (.ls [.v 8 .int] [] [] 4 .z)) (.p (.p .z (.ls [.v 9 .int] [] [] 6 (.p .z (.p (.p .z (.p .z (.ls [.v 10 .int] [] [] 8 .z))) .z)))) .z))))))) 85 [an_,.int] [.bool]=λx=>ms_ x.1 x.2.1:=by kernel_rfl
noncomputable def c_85:Con prog:=aw_ _ _ 85 [an_,.int] [.bool] _ x_85
noncomputable def fr_ (a0:ab_) (a1:ak_):Option (Int×Unit) :=
 ((ed_ a0).bind λv0 =>
 (cond (v0.1 != 0)
 (some (v0.1,()))
 ((gi_ a0 a1).bind λv1 =>
 (cond (!v1.1)
 (some (11,()))
 (some (0,()))))))
theorem x_90:au_ (P:=prog) (cxC [c_53,c_118] []) .z 90 [al_,ap_] [.int]=λx=>fr_ x.1 x.2.1:=by kernel_rfl
noncomputable def c_90:Con prog:=aw_ _ _ 90 [al_,ap_] [.int] _ x_90
noncomputable def er_ (a0:ab_) (a1:(List ak_)):Option (Int×Unit) :=
 ((ed_ a0).bind λv0 =>
 (cond (v0.1 != 0)
 (some (v0.1,()))
 (cond (decide (20<(a1.length:Int)))
 (some (2,()))
 ((ag_ (ρ:=(Unit⊕(Int×Unit))) (λ(v1:(Int×Unit)) =>
 (cond (decide (v1.1<(a1.length:Int)))
 ((at? a1 v1.1).bind λv2 =>
 ((gi_ a0 v2).bind λv3 =>
 (cond (!v3.1)
 (some (inr (inr (11,()))))
 (some (inl ((w64 (v1.1+1)),()))))))
 (some (inr (inl ()))))) (0,())).bind λv4 =>
 (cd_ v4 (λv5=>(some (0,())))
 (λv6=>(some v6)))))))
theorem x_233:au_ (P:=prog) (cxC [c_53,c_118] []) (.p .z (.p .z (.p .z (.p (.p .z (.ls [.v 6 .int] [] [] 0 (.p .z (.p (.p (.q [] .z .z) .z) .z)))) .z)))) 233 [al_,(.list ap_)] [.int]=λx=>er_ x.1 x.2.1:=by kernel_rfl
noncomputable def c_233:Con prog:=aw_ _ _ 233 [al_,(.list ap_)] [.int] _ x_233
noncomputable def jj_ (a0:(List ak_)) (a1:(List Int)):Option (Int×Unit) :=
 ((ag_ (ρ:=(Unit⊕(Int×Unit))) (λ(v0:(Int×Unit)) =>
 (cond (decide (v0.1<(a0.length:Int)))
 ((at? a0 v0.1).bind λv1 =>
 ((ff_ v1 a1).bind λv2 =>
 (cond (!v2.1)
 (some (inr (inr (v0.1,()))))
 (some (inl ((w64 (v0.1+1)),()))))))
 (some (inr (inl ()))))) (0,())).bind λv3 =>
 (cd_ v3 (λv4=>(some ((-1),())))
 (λv5=>(some v5))))
theorem x_254:au_ (P:=prog) (cxC [c_91] []) (.p .z (.p (.p .z (.ls [.v 5 .int] [] [] 0 .z)) .z)) 254 [(.list ap_),(.list .int)] [.int]=λx=>jj_ x.1 x.2.1:=by kernel_rfl
noncomputable def c_254:Con prog:=aw_ _ _ 254 [(.list ap_),(.list .int)] [.int] _ x_254
noncomputable def lc_ (a0:ad_) (a1:aa_) (a2:af_):Option (aa_×Unit) :=
 ((gg_ a0.1 a1.1 a2).bind λv0 =>
 ((ij_ a0 (v0.1,a1.2)).bind λv1 =>
 (some (v1.1,()))))
theorem x_61:au_ (P:=prog) (cxC [c_93,c_97] []) .z 61 [ao_,aj_,ar_] [aj_]=λx=>lc_ x.1 x.2.1 x.2.2.1:=by kernel_rfl
noncomputable def c_61:Con prog:=aw_ _ _ 61 [ao_,aj_,ar_] [aj_] _ x_61
noncomputable def pn_ (a0:ae_) (a1:Int) (a2:cv_):Option (Bool×Unit) :=
 ((((sub? a0.2.2.2.2.1 0 a1).bind λv0 =>
 ((((ez_ a2.1).bind λv1 =>
 (cond v1.1
 (cond (decide ((a2.1.length:Int)≤12))
 ((((ag_ (ρ:=(Unit⊕(Int×Unit))) (λ(v2:(Int×Unit)) =>
 (cond (decide (v2.1<(v0.length:Int)))
 ((at? v0 v2.1).bind λv3 =>
 (cond (v3.1==a2.1)
 (some (inr (inr (v2.1,()))))
 (some (inl ((w64 (v2.1+1)),())))))
 (some (inr (inl ()))))) (0,())).bind λv4 =>
 (cd_ v4 (λv5=>(some ((-1),())))
 (λv6=>(some v6))))).bind λv7 =>
 (some ((decide (v7.1<0)),())))
 (some (false,())))
 (some (false,()))))).bind λv8 =>
 (cond (!v8.1)
 (some (true,()))
 ((be_ a2.2.1 0 (w64 ((a0.1.length:Int) - 1))).bind λv9 =>
 (cond (!v9.1)
 (some (true,()))
 ((be_ a2.2.2.1 (-1) 7).bind λv10 =>
 (some ((!v10.1),()))))))))).bind λv11 =>
 (cond v11.1
 (some (false,()))
 ((((gu_ a0 a2.2.2.2.1).bind λv12 =>
 (cond (!v12.1)
 (some (true,()))
 ((gu_ a0 a2.2.2.2.2.2.2.1).bind λv13 =>
 (cond (!v13.1)
 (some (true,()))
 ((gu_ a0 a2.2.2.2.2.2.2.2).bind λv14 =>
 (cond (!v14.1)
 (some (true,()))
 (some ((decide (6<(a2.2.2.2.2.2.1.length:Int))),()))))))))).bind λv15 =>
 (cond v15.1
 (some (false,()))
 ((((((ag_ (ρ:=(Unit⊕(Bool×Unit))) (λ(v16:(Int×Unit)) =>
 (cond (decide (v16.1<(a2.2.2.2.2.2.2.1.length:Int)))
 ((at? a2.2.2.2.2.2.2.1 v16.1).bind λv17 =>
 ((bj_ a2.2.2.2.1 v17).bind λv18 =>
 (cond (!v18.1)
 (some (inr (inr ((decide (0≤v16.1)),()))))
 (some (inl ((w64 (v16.1+1)),()))))))
 (some (inr (inl ()))))) (0,())).bind λv19 =>
 (cd_ v19 (λv20=>(some ((decide (0≤(-1))),())))
 (λv21=>(some v21))))).bind λv22 =>
 (cond v22.1
 (some (true,()))
 ((((ag_ (ρ:=(Unit⊕(Bool×Unit))) (λ(v23:(Int×Unit)) =>
 (cond (decide (v23.1<(a2.2.2.2.2.2.2.2.length:Int)))
 ((at? a2.2.2.2.2.2.2.2 v23.1).bind λv24 =>
 ((bj_ a2.2.2.2.1 v24).bind λv25 =>
 (cond v25.1
 (some (inr (inr ((decide (0≤v23.1)),()))))
 (some (inl ((w64 (v23.1+1)),()))))))
 (some (inr (inl ()))))) (0,())).bind λv26 =>
 (cd_ v26 (λv27=>(some ((decide (0≤(-1))),())))
 (λv28=>(some v28))))).bind λv29 =>
 (some (v29.1,())))))).bind λv30 =>
 (cond v30.1
 (some (false,()))
 ((ag_ (ρ:=(Unit⊕(Bool×Unit))) (λ(v31:(Int×Unit)) =>
 (cond (decide (v31.1<(a2.2.2.2.2.2.1.length:Int)))
 ((at? a2.2.2.2.2.2.1 v31.1).bind λv32 =>
 ((sub? a2.2.2.2.2.2.1 0 v31.1).bind λv33 =>
 ((((ag_ (ρ:=(Unit⊕(Bool×Unit))) (λ(v34:(Int×Unit)) =>
 (cond (decide (v34.1<(v33.length:Int)))
 ((at? v33 v34.1).bind λv35 =>
 (cond (v35.1==v32.1)
 (some (inr (inr ((decide (0≤v34.1)),()))))
 (some (inl ((w64 (v34.1+1)),())))))
 (some (inr (inl ()))))) (0,())).bind λv36 =>
 (cd_ v36 (λv37=>(some ((decide (0≤(-1))),())))
 (λv38=>(some v38))))).bind λv39 =>
 ((((fa_ a0 v32.1 v32.2).bind λv40 =>
 (cond (!v40.1)
 (some (true,()))
 (some (v39.1,()))))).bind λv41 =>
 (cond v41.1
 (some (inr (inr (false,()))))
 (some (inl ((w64 (v31.1+1)),()))))))))
 (some (inr (inl ()))))) (0,())).bind λv42 =>
 (cd_ v42 (λv43=>(some (true,())))
 (λv44=>(some v44))))))))))
theorem x_176:au_ (P:=prog) (cxI (λk=>cond (Nat.beq k 73) (.p .z (.j0 [.v 4 .bool] .z .z)) (cond (Nat.beq k 109) (.p .z (.p (.p .z (.ls [.v 8 .int] [] [] 0 .z)) .z)) (cond (Nat.beq k 211) (.p .z (.j0 [.v 6 .bool] .z .z)) (cond (Nat.beq k 216) (.p .z (.j0 [.v 4 .bool] .z .z)) (cond (Nat.beq k 242) (.p .z (.j0 [.v 6 .int] .z .z)) (cond (Nat.beq k 243) (.p .z (.p (.p .z (.ls [.v 8 .int] [] [] 0 .z)) .z)) (cond (Nat.beq k 256) (.p .z (.p (.p .z (.ls [.v 8 .int] [] [] 0 .z)) .z)) (cond (Nat.beq k 257) (.p .z (.p (.q [] .z .z) .z)) (.z))))))))) (λk=>Nat.beq k 139||Nat.beq k 164||Nat.beq k 165||Nat.beq k 206||Nat.beq k 212||Nat.beq k 213||false) (cxC [cn3,cn2,bz7,c_206,c_212,c_213] []) 12) (.p .z (.p (.j0 [.v 35 .bool] (.q [] .z .z) .z) (.p (.j0 [.v 60 .bool] .z .z) (.p .z (.p .z (.p (.j0 [.v 72 .bool] .z .z) (.p (.p .z (.ls [.v 76 .int] [] [] 0 (.p .z (.p .z (.p (.p .z (.p .z (.j0 [.v 96 .bool] .z .z))) .z))))) .z))))))) 176 [an_,.int,lx_] [.bool]=λx=>pn_ x.1 x.2.1 x.2.2.1:=by kernel_rfl
noncomputable def c_176:Con prog:=aw_ _ _ 176 [an_,.int,lx_] [.bool] _ x_176
noncomputable def hi_ (a0:ab_) (a1:(List (List Int))):Option (Int×Unit) :=
 ((ee_ a0).bind λv0 =>
 (cond (v0.1 != 0)
 (some (v0.1,()))
 ((((ag_ (ρ:=(Unit⊕(Bool×Unit))) (λ(v1:(Int×Unit)) =>
 (cond (decide (v1.1<(a1.length:Int)))
 ((at? a1 v1.1).bind λv2 =>
 ((dh_ a0 v2).bind λv3 =>
 (cond (!v3.1)
 (some (inr (inr ((decide (0≤v1.1)),()))))
 (some (inl ((w64 (v1.1+1)),()))))))
 (some (inr (inl ()))))) (0,())).bind λv4 =>
 (cd_ v4 (λv5=>(some ((decide (0≤(-1))),())))
 (λv6=>(some v6))))).bind λv7 =>
 (cond v7.1
 (some (12,()))
 (some (0,()))))))
theorem x_178:au_ (P:=prog) (cxI (λk=>cond (Nat.beq k 218) (.p .z (.j0 [.v 4 .bool] .z .z)) (cond (Nat.beq k 244) (.p .z (.p (.p .z (.ls [.v 8 .int] [] [] 0 .z)) .z)) (.z))) (λk=>Nat.beq k 132||Nat.beq k 220||false) (cxC [cn4,c_220] []) 4) .z 178 [al_,(.list (.list .int))] [.int]=λx=>hi_ x.1 x.2.1:=by kernel_rfl
noncomputable def c_178:Con prog:=aw_ _ _ 178 [al_,(.list (.list .int))] [.int] _ x_178
noncomputable def di_ (a0:ab_) (a1:ak_):Option (Bool×Unit) :=
 (((cond (a1.1==1)
 ((bt_ a0 a1.2.1).bind λv0 =>
 (cond v0.1
 ((cn_ a0 a1.2.2.2.1).bind λv1 =>
 (some (v1.1,((a1.2.1,(0,(a1.2.2.2.1,(0,([],()))))),()))))
 (some (false,((a1.2.1,(0,(a1.2.2.2.1,(0,([],()))))),())))))
 (cond (a1.1==2)
 ((bt_ a0 a1.2.1).bind λv2 =>
 (cond v2.1
 ((bt_ a0 a1.2.2.1).bind λv3 =>
 (cond v3.1
 (cond (decide (a1.2.1≤a1.2.2.1))
 ((bv_ a1.2.2.2.1 0 100).bind λv4 =>
 (some (v4.1,((a1.2.1,(a1.2.2.1,(a1.2.2.2.1,(0,([],()))))),()))))
 (some (false,((a1.2.1,(a1.2.2.1,(a1.2.2.2.1,(0,([],()))))),()))))
 (some (false,((a1.2.1,(a1.2.2.1,(a1.2.2.2.1,(0,([],()))))),())))))
 (some (false,((a1.2.1,(a1.2.2.1,(a1.2.2.2.1,(0,([],()))))),())))))
 (((cond (a1.1==3)
 (some ((a1.1==3),()))
 (some ((a1.1==4),())))).bind λv5 =>
 (cond v5.1
 ((bt_ a0 a1.2.1).bind λv6 =>
 (cond v6.1
 ((bt_ a0 a1.2.2.1).bind λv7 =>
 (cond v7.1
 (some ((a1.2.1 != a1.2.2.1),((a1.2.1,(a1.2.2.1,(0,(0,([],()))))),())))
 (some (false,((a1.2.1,(a1.2.2.1,(0,(0,([],()))))),())))))
 (some (false,((a1.2.1,(a1.2.2.1,(0,(0,([],()))))),())))))
 (cond (a1.1==5)
 ((cn_ a0 a1.2.2.2.1).bind λv8 =>
 (cond v8.1
 ((bv_ a1.2.2.2.2.1 0 a0.1).bind λv9 =>
 (some (v9.1,((0,(0,(a1.2.2.2.1,(a1.2.2.2.2.1,([],()))))),()))))
 (some (false,((0,(0,(a1.2.2.2.1,(a1.2.2.2.2.1,([],()))))),())))))
 (cond (a1.1==6)
 ((bv_ a1.2.2.2.1 0 a0.1).bind λv10 =>
 (cond v10.1
 ((bv_ a1.2.2.2.2.1 0 a0.1).bind λv11 =>
 (cond v11.1
 ((dh_ a0 a1.2.2.2.2.2.1).bind λv12 =>
 (some (v12.1,((0,(0,(a1.2.2.2.1,(a1.2.2.2.2.1,(a1.2.2.2.2.2.1,()))))),()))))
 (some (false,((0,(0,(a1.2.2.2.1,(a1.2.2.2.2.1,(a1.2.2.2.2.2.1,()))))),())))))
 (some (false,((0,(0,(a1.2.2.2.1,(a1.2.2.2.2.1,(a1.2.2.2.2.2.1,()))))),())))))
 (cond (a1.1==7)
 ((bt_ a0 a1.2.1).bind λv13 =>
 (cond v13.1
 ((bv_ a1.2.2.2.1 2 10).bind λv14 =>
 (cond v14.1
 ((bv_ a1.2.2.2.2.1 0 (w64 (a1.2.2.2.1 - 1))).bind λv15 =>
 (some (v15.1,((a1.2.1,(0,(a1.2.2.2.1,(a1.2.2.2.2.1,([],()))))),()))))
 (some (false,((a1.2.1,(0,(a1.2.2.2.1,(a1.2.2.2.2.1,([],()))))),())))))
 (some (false,((a1.2.1,(0,(a1.2.2.2.1,(a1.2.2.2.2.1,([],()))))),())))))
 (some (false,((0,(0,(0,(0,([],()))))),()))))))))))).bind λv16 =>
 (cond v16.1
 (cond (a1.2.1==v16.2.1.1)
 (cond (a1.2.2.1==v16.2.1.2.1)
 (cond (a1.2.2.2.1==v16.2.1.2.2.1)
 (cond (a1.2.2.2.2.1==v16.2.1.2.2.2.1)
 (some (((a1.2.2.2.2.2.1.length:Int)==(v16.2.1.2.2.2.2.1.length:Int)),()))
 (some (false,())))
 (some (false,())))
 (some (false,())))
 (some (false,())))
 (some (false,()))))
theorem x_247:au_ (P:=prog) (cxC [cn1,c_220,c_246,c_258] []) (.p .z (.p .z (.p .z (.j0 [.v 6 .bool,.b (.s 5) [.keep,.val .int,.val .int,.val .int,.val .int,.val (.list .int),.keep]] (.p .z (.p .z (.p .z (.p .z (.p .z (.j0 [.v 65 .bool] .z .z)))))) .z)))) 247 [al_,ap_] [.bool]=λx=>di_ x.1 x.2.1:=by kernel_rfl
noncomputable def c_247:Con prog:=aw_ _ _ 247 [al_,ap_] [.bool] _ x_247
noncomputable def fu_ (a0:(List ak_)) (a1:(List Int)):Option (Int×Unit) :=
 ((ag_ (ρ:=(Unit⊕(Int×Unit))) (λ(v0:(Int×Unit)) =>
 (cond (decide (v0.1<(a0.length:Int)))
 ((at? a0 v0.1).bind λv1 =>
 ((ft_ v1 a1).bind λv2 =>
 (cond (!v2.1)
 (some (inr (inr (v0.1,()))))
 (some (inl ((w64 (v0.1+1)),()))))))
 (some (inr (inl ()))))) (0,())).bind λv3 =>
 (cd_ v3 (λv4=>(some ((-1),())))
 (λv5=>(some v5))))
theorem x_275:au_ (P:=prog) (cxI (λk=>cond (Nat.beq k 272) (.p .z (.p (.p .z (.ls [.v 8 .int] [] [] 0 .z)) .z)) (.z)) (λk=>Nat.beq k 223||false) (cxC [c_223] []) 3) .z 275 [(.list ap_),(.list .int)] [.int]=λx=>fu_ x.1 x.2.1:=by kernel_rfl
noncomputable def c_275:Con prog:=aw_ _ _ 275 [(.list ap_),(.list .int)] [.int] _ x_275
end
end Go.Proofs.YtgeehfnbhbibeaaGreatDoor.Rx
namespace Go.Proofs.YtgeehfnbhbibeaaGreatDoor.Rx
open Go Pad Rex Sum
section
def wi (a b c:Int):Bool:=decide (b≤a)&&decide (a≤c)
theorem ce_ {a b c:Int}:wi a b c=true↔b≤a∧a≤c:=by simp[wi]
theorem be4 (a b c:Int):(cond (decide (b≤a)) (some ((decide (a≤c)),())) (some (false,())))=some (wi a b c,()):=by
  unfold wi
  cases decide (b≤a)<;>rfl
theorem dt_ (a b c:Int):be_ a b c=some (wi a b c,()):=be4 a b c
theorem jy_ (a b c:Int):bx_ a b c=some (wi a b c,()):=be4 a b c
theorem fk_ (a b c:Int):bs_ a b c=some (wi a b c,()):=be4 a b c
theorem yt_ (a b c:Int):ik_ a b c=some (wi a b c,()):=be4 a b c
theorem beqc {α:Type} [BEq α] [LawfulBEq α] (x y:α):(y==x)=(x==y):=by
  rw[k3_,f4_,f4_]
  exact eq_comm
theorem ha_ {α:Type} [BEq α] [LawfulBEq α] (l:List α) (x:α):l.any (x == ·)=l.contains x:=by
  induction l with
  | nil=>rfl
  | cons y l ih=>simp[List.contains_cons,ih]
theorem cc6 {l:List Int} {x:Int} (hl:Sm l.length):∃ i:Int,en_ l x=some (i,())∧decide (0≤i)=l.contains x:=by
  unfold en_
  have h1:=nv_ l (λi y=>cond (x==y) (some (inr ((i:Int),()):Unit⊕(Int×Unit))) none) (λi=>((i:Int),())) (r0:=inl ())
    (body:=λ(v0:(Int×Unit)) =>
     (cond (decide (v0.1<(l.length:Int)))
     ((at? l v0.1).bind λv1 =>
     (cond (x==v1)
     (some (inr (inr (v0.1,()))))
     (some (inl ((w64 (v0.1+1)),())))))
     (some (inr (inl ())))))
    (λi y hy=>by
      have hi:=am_ hy
      simp only[dlt hi,a5_,ah_ hy,a0_,ba_ (show Sm i by omega)]
      cases x==y<;>rfl)
    (by simp only[dnl,a2_])
  rcases aa7 (q:=λy=>x==y) (f:=λi=>(inr ((i:Int),()):Unit⊕(Int×Unit))) l 0 with ⟨h2,h3⟩ | ⟨i,h2,h3⟩
  · refine⟨-1,e4_ (congrArg (λo=>Option.bind o _) h1) ?_,by rw[← ha_,h3];rfl⟩
    rw[h2];rfl
  · refine⟨i,e4_ (congrArg (λo=>Option.bind o _) h1) ?_,by rw[← ha_,h3];exact b5_ (by omega)⟩
    rw[h2];rfl
theorem on_ {l:List Int} {x:Int} (hl:Sm l.length):bj_ l x=some (l.contains x,()):=by
  obtain⟨i,h1,h2⟩:=cc6 (x:=x) hl
  unfold bj_
  rw[h1,a0_,h2]
theorem ao6 {l:List (List UInt8)} {x:List UInt8} (hl:Sm l.length):∃ i:Int,dq_ l x=some (i,())∧decide (0≤i)=l.contains x:=by
  unfold dq_
  rcases aa7 (q:=λy=>x==y) (f:=λi=>(inr ((i:Int),()):Unit⊕(Int×Unit))) l 0 with ⟨h2,h3⟩ | ⟨i,h2,h3⟩
  · refine⟨-1,bn_ l (λi y=>cond (x==y) (some (inr ((i:Int),()):Unit⊕(Int×Unit))) none) (λi=>((i:Int),())) (r0:=inl ()) (λi y hy => ?_) ?_ ?_,by rw[← ha_,h3];rfl⟩
    · have hi:=am_ hy
      simp only[dlt hi,a5_,ah_ hy,a0_,ba_ (show Sm i by omega)]
      cases x==y<;>rfl
    · simp only[dnl,a2_]
    · rw[h2];rfl
  · refine⟨i,bn_ l (λi y=>cond (x==y) (some (inr ((i:Int),()):Unit⊕(Int×Unit))) none) (λi=>((i:Int),())) (r0:=inl ()) (λi y hy => ?_) ?_ ?_,by rw[← ha_,h3];exact b5_ (by omega)⟩
    · have hi:=am_ hy
      simp only[dlt hi,a5_,ah_ hy,a0_,ba_ (show Sm i by omega)]
      cases x==y<;>rfl
    · simp only[dnl,a2_]
    · rw[h2];rfl
theorem xx_ {l:List (List UInt8)} {x:List UInt8} (hl:Sm l.length):cw_ l x=some (l.contains x,()):=by
  obtain⟨i,h1,h2⟩:=ao6 (x:=x) hl
  unfold cw_
  rw[h1,a0_,h2]
theorem ax7 {l:List Int} {x:Int} (hl:Sm l.length):me_ l x=some (l.contains x,()):=by
  unfold me_
  refine bn_ l (λi y=>cond (x==y) (some (inr (true,()):Unit⊕(Bool×Unit))) none) (λi=>((i:Int),())) (r0:=inl ()) (λi y hy => ?_) ?_ ?_
  · have hi:=am_ hy
    simp only[dlt hi,a5_,ah_ hy,a0_,ba_ (show Sm i by omega)]
    rw[beqc x y]
    cases x==y<;>rfl
  · simp only[dnl,a2_]
  · rw[hd_ (q:=λy=>x==y),ha_]
    cases l.contains x<;>rfl
def yi_ (c:UInt8):Bool:=decide (97≤(c.toNat:Int))&&decide ((c.toNat:Int)≤122)
def okW (t:List UInt8):Bool:=t.all yi_&&(!(t==[])&&!(reserved.contains t))
def okN (t:List UInt8):Bool:=decide ((t.length:Int)≤12)&&okW t
theorem ck2 (c:UInt8):(cond (decide (((UInt8.toNat c):Int)<97)) (some (true,())) (some ((decide (122<((UInt8.toNat c):Int))),())))=some (!(yi_ c),()):=by
  unfold yi_
  by_cases h1:((UInt8.toNat c):Int)<97
  · rw[b5_ h1,c1_ (by omega:¬ (97:Int)≤(c.toNat:Int))];rfl
  · rw[c1_ h1,b5_ (by omega:(97:Int)≤(c.toNat:Int))]
    by_cases h2:122<((UInt8.toNat c):Int)
    · rw[b5_ h2,c1_ (by omega:¬ ((UInt8.toNat c):Int)≤122)];rfl
    · rw[c1_ h2,b5_ (by omega:((UInt8.toNat c):Int)≤122)];rfl
theorem nw_ {t:List UInt8} (hl:Sm t.length):ag_ (ρ:=(Unit⊕(Bool×Unit))) (λ(v0:(Int×Unit)) =>
 (cond (decide (v0.1<(t.length:Int)))
 ((((at? t v0.1).bind λv1 =>
 (cond (decide (((UInt8.toNat v1):Int)<97))
 (some (true,()))
 ((at? t v0.1).bind λv2 =>
 (some ((decide (122<((UInt8.toNat v2):Int))),())))))).bind λv3 =>
 (cond v3.1
 (some (inr (inr (false,()))))
 (some (inl ((w64 (v0.1+1)),())))))
 (some (inr (inl ()))))) (0,())=some (cond (t.all yi_) (inl ()) (inr (false,()))):=by
  refine e4_ (nv_ t (λi c=>cond (yi_ c) none (some (inr (false,()):Unit⊕(Bool×Unit)))) (λi=>((i:Int),())) (r0:=inl ()) (λi y hy => ?_) ?_) ?_
  · have hi:=am_ hy
    simp only[dlt hi,a5_,ah_ hy,a0_,ba_ (show Sm i by omega),ck2]
    cases yi_ y<;>rfl
  · simp only[dnl,a2_]
  · rw[ja_]
    cases t.all yi_<;>rfl
theorem bn1 {t:List UInt8} (hl:Sm t.length):ez_ t=some (okW t,()):=by
  unfold ez_
  refine e4_ (congrArg (λo=>Option.bind o _) (nw_ hl)) ?_
  unfold okW
  rw[a0_]
  cases t.all yi_ with
  | false=>rfl
  | true =>
    simp only[a5_,c2_]
    cases t==[] with
    | true=>rfl
    | false =>
      simp only[g4_,a5_,c2_]
      rw[xx_ (by decide),a0_]
      rfl
theorem ab1 {t:List UInt8} (hl:Sm t.length):hh_ t=some (okW t,()):=by
  unfold hh_
  refine e4_ (congrArg (λo=>Option.bind o _) (nw_ hl)) ?_
  unfold okW
  rw[a0_]
  cases t.all yi_ with
  | false=>rfl
  | true =>
    simp only[a5_,c2_]
    refine bn_ reserved (λi y=>cond (t==y) (some (inr (false,()):Unit⊕(Bool×Unit))) none) (λi=>((i:Int),())) (r0:=inl ()) (λi y hy => ?_) ?_ ?_
    · have hi:=am_ hy
      have h10:i<10:=hi
      have hy':=hy
      unfold reserved at hy'
      refine e4_ (congrArg (λc=>cond c _ _) (dlt hi)) ?_
      simp only[a5_,ah_ hy',a0_,ba_ (show Sm i by omega)]
      rw[beqc t y]
      cases t==y<;>rfl
    · rfl
    · rw[hd_ (q:=λy=>t==y),ha_]
      cases reserved.contains t with
      | true=>simp
      | false=>simp
theorem bo7 {t:List UInt8} (hl:Sm t.length):mu_ t=some (okW t,()):=by
  unfold mu_
  have h0:(((cond (t==[]) (some ((t==[]),())) (cond (t==[97,116]) (some ((t==[97,116]),())) (cond (t==[115,116,97,116,101,115]) (some ((t==[115,116,97,116,101,115]),())) (cond (t==[115,116,97,114,116]) (some ((t==[115,116,97,114,116]),()))
     (cond (t==[103,111,110,101]) (some ((t==[103,111,110,101]),())) (cond (t==[105,102]) (some ((t==[105,102]),())) (cond (t==[108,111,99,107]) (some ((t==[108,111,99,107]),())) (cond (t==[119,105,116,104]) (some ((t==[119,105,116,104]),()))
     (cond (t==[115,101,116,115]) (some ((t==[115,101,116,115]),())) (cond (t==[115,112,101,110,100,115]) (some ((t==[115,112,101,110,100,115]),())) (some ((t==[98,114,105,110,103,115]),()))))))))))))):Option (Bool×Unit))=some ((t==[]||reserved.contains t),()):=by
    unfold reserved
    simp only[List.contains_cons,List.contains_nil,h6_]
    cases t==[] with
    | true=>rfl
    | false =>
    cases t==[97,116] with
    | true=>rfl
    | false =>
    cases t==[115,116,97,116,101,115] with
    | true=>rfl
    | false =>
    cases t==[115,116,97,114,116] with
    | true=>rfl
    | false =>
    cases t==[103,111,110,101] with
    | true=>rfl
    | false =>
    cases t==[105,102] with
    | true=>rfl
    | false =>
    cases t==[108,111,99,107] with
    | true=>rfl
    | false =>
    cases t==[119,105,116,104] with
    | true=>rfl
    | false =>
    cases t==[115,101,116,115] with
    | true=>rfl
    | false =>
    cases t==[115,112,101,110,100,115] with
    | true=>rfl
    | false=>rfl
  refine e4_ (congrArg (λo=>Option.bind o _) h0) ?_
  rw[a0_]
  unfold okW
  cases hz:(t==[]||reserved.contains t) with
  | true =>
    have:(!(t==[])&&!(reserved.contains t))=false:=by
      rw[← Bool.not_or,hz];rfl
    rw[this,g0_]
    rfl
  | false =>
    have:(!(t==[])&&!(reserved.contains t))=true:=by
      rw[← Bool.not_or,hz];rfl
    rw[this,i3_]
    simp only[a2_]
    refine e4_ (congrArg (λo=>Option.bind o _) (nw_ hl)) ?_
    rw[a0_]
    cases t.all yi_<;>rfl
theorem jw_ {t:List UInt8} (hl:Sm t.length):ds_ t=some (okN t,()):=by
  unfold ds_ okN
  rw[ab1 hl]
  cases decide ((t.length:Int)≤12)<;>rfl
end
section
def ng_ (things:List gr_) (th n:Int):Bool:=wi th 0 (w64 ((things.length:Int) - 1))&&match at? things th with
  | some t=>wi n 0 (w64 (t.2.2.1 - 1))
  | none=>false
theorem ah0 {α:Type} {l:List α} {i:Int} (hl:Sm l.length) (h:wi i 0 (w64 ((l.length:Int) - 1))=true):∃ x,at? l i=some x:=by
  rw[fy_ (by omega) (by omega)] at h
  obtain⟨h1,h2⟩:=ce_.1 h
  obtain⟨x,hx⟩:=bd_ (l:=l) (i:=i.toNat) (by omega)
  exact⟨x,by rw[show i=((i.toNat:Nat):Int) by omega];exact ah_ hx⟩
theorem pc_ {r:ae_} (hl:Sm r.2.1.length) (th n:Int):fa_ r th n=some (ng_ r.2.1 th n,()):=by
  unfold fa_ ng_
  rw[dt_,a0_]
  cases h:wi th 0 (w64 ((r.2.1.length:Int) - 1)) with
  | false=>rfl
  | true =>
    obtain⟨x,hx⟩:=ah0 hl h
    simp only[a5_,hx,a0_,dt_,c2_]
theorem rk_ {r:ae_} (hl:Sm r.2.1.length) (th n:Int):gn_ r th n=some (ng_ r.2.1 th n,()):=by
  unfold gn_ ng_
  rw[fk_,a0_]
  cases h:wi th 0 (w64 ((r.2.1.length:Int) - 1)) with
  | false=>rfl
  | true =>
    obtain⟨x,hx⟩:=ah0 hl h
    simp only[a5_,hx,a0_,fk_,c2_]
def cOk (things:List gr_) (c:List bf_):Bool:=decide ((c.length:Int)≤8)&&c.all λl=>ng_ things l.1 l.2.1
theorem tl_ {α:Type} (l:List α) (q:α→Bool):(!(l.any λx=>!(q x)))=l.all q:=by
  induction l with
  | nil=>rfl
  | cons x l ih =>
    rw[m5_,List.all_cons,← ih]
    cases q x<;>rfl
theorem jp_ {r:ae_} (hl:Sm r.2.1.length) (c:List bf_):dr_ r c=some (cOk r.2.1 c,()):=by
  unfold dr_ cOk
  cases h8:decide ((c.length:Int)≤8) with
  | false=>rfl
  | true =>
    have h8:=f3_ h8
    simp only[a5_,c2_]
    refine e4_ (congrArg (λo=>Option.bind o _) (mg_ (show Sm c.length by omega) (λl=>!(ng_ r.2.1 l.1 l.2.1)) (λi y hy => ?_) ?_)) ?_
    · simp only[dlt (am_ hy),a5_,ah_ hy,a0_,pc_ hl]
      cases ng_ r.2.1 y.1 y.2.1<;>rfl
    · simp only[dnl,a2_]
    · rw[a0_]
      exact congrArg (λb=>some (b,())) (tl_ c _)
theorem gs_ {r:ae_} (hl:Sm r.2.1.length) {c:List bf_} (hc:Sm c.length):ct_ r c=some (cOk r.2.1 c,()):=by
  unfold ct_ cOk
  refine bn_ c (λi l=>cond (ng_ r.2.1 l.1 l.2.1) none (some (inr (false,()):Unit⊕(Bool×Unit)))) (λi=>((i:Int),())) (r0:=inl ()) (λi y hy => ?_) ?_ ?_
  · have hi:=am_ hy
    simp only[dlt hi,a5_,ah_ hy,a0_,ba_ (show Sm i by omega),rk_ hl]
    cases ng_ r.2.1 y.1 y.2.1<;>rfl
  · simp only[dnl,a2_]
  · rw[ja_ (q:=λl:bf_=>ng_ r.2.1 l.1 l.2.1)]
    cases c.all λl=>ng_ r.2.1 l.1 l.2.1 with
    | true=>rw[i3_];rfl
    | false=>rw[g0_];rfl
theorem bg5 {r:ae_} (hl:Sm r.2.1.length) (c:List bf_):lh_ r c=some (cOk r.2.1 c,()):=by
  unfold lh_ cOk
  cases h8:decide ((c.length:Int)≤8) with
  | false=>rfl
  | true =>
    have h8:=f3_ h8
    simp only[a5_,c2_]
    refine e4_ (congrArg (λo=>Option.bind o _) (mg_ (show Sm c.length by omega) (λl=>!(ng_ r.2.1 l.1 l.2.1)) (λi y hy => ?_) ?_)) ?_
    · simp only[dlt (am_ hy),a5_,ah_ hy,a0_,jy_,ng_]
      cases h:wi y.1 0 (w64 ((r.2.1.length:Int) - 1)) with
      | false=>rfl
      | true =>
        obtain⟨x,hx⟩:=ah0 hl h
        simp only[e5_,a2_,hx,a0_,c2_]
        cases wi y.2.1 0 (w64 (x.2.2.1 - 1))<;>rfl
    · simp only[dnl,a2_]
    · rw[a0_]
      exact congrArg (λb=>some (b,())) (tl_ c _)
end
section
def prv (l:List Int) (i:Nat):Int:=match i with
  | 0=>-1
  | j+1=>(l[j]?).getD 0
def cu0 (np:Nat) (l:List Int) (i:Nat) (x:Int):Bool:=decide (x≤prv l i)||decide ((np:Int)≤x)
def badQ (np:Nat) (l:List Int) (i:Nat) (x:Int):Bool:=!(wi x 0 ((np:Int) - 1))||(decide (0<i)&&decide (x≤prv l i))
def kp_ (np:Nat) (l:List Int):Bool:=(ga_ (λi x=>cond (cu0 np l i x) (some ()) none) 0 l).isNone
theorem vq_ {α ρ:Type} {q:Nat→α→Bool} {r:ρ}:∀ (l:List α) (i:Nat),ga_ (λi x=>cond (q i x) (some r) none) i l=cond (ga_ (λi x=>cond (q i x) (some ()) none) i l).isNone none (some r)
  | [],_=>rfl
  | x::l,i=>by
    unfold ga_
    cases q i x with
    | true=>rfl
    | false=>exact vq_ l (i+1)
theorem aa6 {α:Type} {q:Nat→α→Bool} (l:List α):(ga_ (λi x=>cond (q i x) (some ()) none) 0 l).isNone=true↔∀ i x,l[i]?=some x→q i x=false:=by
  rw[Option.isNone_iff_eq_none,ie_]
  constructor
  · intro h i x hx
    have:=h i x hx
    rw[b0_] at this
    cases hq:q i x with
    | false=>rfl
    | true=>rw[hq] at this;cases this
  · intro h i x hx
    rw[b0_,h i x hx]
    rfl
theorem cu3 (np:Nat) (l:List Int):(ga_ (λi x=>cond (badQ np l i x) (some ()) none) 0 l).isNone=kp_ np l:=by
  rw[k3_]
  unfold kp_
  rw[aa6,aa6]
  constructor
  · intro h i x hx
    have h0:=h i x hx
    unfold badQ at h0
    rw[c0_] at h0
    obtain⟨h1,h2⟩:=h0
    have h1:wi x 0 ((np:Int) - 1)=true:=by simpa using h1
    obtain⟨h3,h4⟩:=ce_.1 h1
    unfold cu0
    rw[c0_]
    refine⟨?_,c1_ (by omega)⟩
    cases i with
    | zero=>exact c1_ (by show ¬ x≤-1;omega)
    | succ j =>
      have:decide (0<j+1)=true:=b5_ (by omega)
      rw[this,c2_] at h2
      exact h2
  · intro h
    have pos:∀ (i:Nat) (x:Int),l[i]?=some x→0≤x∧x<np:=by
      intro i
      induction i with
      | zero =>
        intro x hx
        have h0:=h 0 x hx
        unfold cu0 at h0
        rw[c0_] at h0
        have h1:=e2_ h0.1
        have h2:=e2_ h0.2
        have h1:¬ x≤-1:=h1
        omega
      | succ j ih =>
        intro x hx
        have h0:=h (j+1) x hx
        unfold cu0 at h0
        rw[c0_] at h0
        have h1:=e2_ h0.1
        have h2:=e2_ h0.2
        obtain⟨y,hy⟩:=bd_ (l:=l) (i:=j) (by have:=am_ hx;omega)
        have h3:=ih y hy
        have h1:¬ x≤(l[j]?).getD 0:=h1
        rw[hy] at h1
        have h1:¬ x≤y:=h1
        omega
    intro i x hx
    have h0:=h i x hx
    unfold cu0 at h0
    rw[c0_] at h0
    have hp:=pos i x hx
    unfold badQ
    have:wi x 0 ((np:Int) - 1)=true:=ce_.2 ⟨hp.1,by omega⟩
    rw[this,h0.1,g0_]
    rfl
theorem sp_ {r:ae_} {l:List Int} (hl:Sm l.length):gu_ r l=some (kp_ r.2.2.1.length l,()):=by
  unfold gu_
  refine bn_ l (λi x=>cond (cu0 r.2.2.1.length l i x) (some (inr (false,()):Unit⊕(Bool×Unit))) none) (λi=>(prv l i,((i:Int),()))) (r0:=inl ()) (λi y hy => ?_) ?_ ?_
  · have hi:=am_ hy
    simp only[dlt hi,a5_,ah_ hy,a0_,ba_ (show Sm i by omega),cu0]
    have hn:prv l (i+1)=y:=by show (l[i]?).getD 0=y;rw[hy];rfl
    cases decide (y≤prv l i) with
    | true=>rfl
    | false =>
      simp only[a2_,j9_,a0_,hn]
      cases decide ((r.2.2.1.length:Int)≤y)<;>rfl
  · simp only[dnl,a2_]
  · rw[vq_]
    unfold kp_
    cases (ga_ (λi x=>cond (cu0 r.2.2.1.length l i x) (some ()) none) 0 l).isNone<;>rfl
theorem jv_ {r:ae_} (hp:Sm r.2.2.1.length) {l:List Int} (hl:Sm l.length):dg_ r l=some (kp_ r.2.2.1.length l,()):=by
  unfold dg_
  refine bn_ l (λi x=>cond (badQ r.2.2.1.length l i x) (some (inr (false,()):Unit⊕(Bool×Unit))) none) (λi=>((i:Int),())) (r0:=inl ()) (λi y hy => ?_) ?_ ?_
  · have hi:=am_ hy
    rw[show w64 ((r.2.2.1.length:Int) - 1)=(r.2.2.1.length:Int) - 1 from fy_ (by omega) (by omega)]
    simp only[dlt hi,a5_,ah_ hy,a0_,ba_ (show Sm i by omega),fk_,badQ]
    cases wi y 0 ((r.2.2.1.length:Int) - 1) with
    | false=>rfl
    | true =>
      simp only[e5_,a2_,j9_]
      cases i with
      | zero=>rfl
      | succ j =>
        obtain⟨z,hz⟩:=bd_ (l:=l) (i:=j) (by omega)
        have e:w64 (((j+1:Nat):Int) - 1)=(j:Int):=by rw[fy_ (by omega) (by omega)];omega
        have hn:prv l (j+1)=z:=by show (l[j]?).getD 0=z;rw[hz];rfl
        rw[show decide (0<((j+1:Nat):Int))=true from b5_ (by omega),e,ah_ hz,hn,show decide (0<j+1)=true from b5_ (by omega)]
        simp only[a5_,a0_,c2_]
        cases decide (y≤z)<;>rfl
  · simp only[dnl,a2_]
  · rw[vq_,cu3]
    cases kp_ r.2.2.1.length l<;>rfl
end
end Go.Proofs.YtgeehfnbhbibeaaGreatDoor.Rx
namespace Go.Proofs.YtgeehfnbhbibeaaGreatDoor.Rx
open Go Pad Rex Go.Proofs Go.Proofs.Tryz Sum
section
set_option maxRecDepth 100000
set_option maxHeartbeats 0
noncomputable def fp_ (a0:ae_):Option (Int×Unit) :=
 (((cond (decide (8<(a0.1.length:Int)))
 (some (true,()))
 (cond (decide (12<(a0.2.1.length:Int)))
 (some (true,()))
 (cond (decide (10<(a0.2.2.1.length:Int)))
 (some (true,()))
 (cond (decide (16<(a0.2.2.2.1.length:Int)))
 (some (true,()))
 (cond (decide (24<(a0.2.2.2.2.1.length:Int)))
 (some (true,()))
 (some ((decide (12<(a0.2.2.2.2.2.1.length:Int))),())))))))).bind λv0 =>
 (cond v0.1
 (some (2,()))
 (cond ((a0.1.length:Int)==0)
 (some (22,()))
 ((ag_ (ρ:=(Unit⊕(Int×Unit))) (λ(v1:(Int×Unit)) =>
 (cond (decide (v1.1<(a0.1.length:Int)))
 ((((at? a0.1 v1.1).bind λv2 =>
 ((ds_ v2).bind λv3 =>
 (cond (!v3.1)
 (some (true,()))
 ((fn_ a0.1 v1.1).bind λv4 =>
 (some (v4.1,()))))))).bind λv5 =>
 (cond v5.1
 (some (inr (inr (22,()))))
 (some (inl ((w64 (v1.1+1)),())))))
 (some (inr (inl ()))))) (0,())).bind λv6 =>
 (cd_ v6 (λv7=>((ag_ (ρ:=(Unit⊕(Int×Unit))) (λ(v9:((List (List UInt8))×(Int×Unit))) =>
 (cond (decide (v9.2.1<(a0.2.1.length:Int)))
 ((at? a0.2.1 v9.2.1).bind λv10 =>
 ((push? (α:=(List UInt8)) v9.1 [v10.1]).bind λv11 =>
 ((((ds_ v10.1).bind λv12 =>
 (cond (!v12.1)
 (some (true,()))
 ((fn_ v11 v9.2.1).bind λv13 =>
 (cond v13.1
 (some (true,()))
 ((cs_ a0 v10.2.1).bind λv14 =>
 (cond (!v14.1)
 (some (true,()))
 ((bs_ v10.2.2.1 2 6).bind λv15 =>
 (cond (!v15.1)
 (some (true,()))
 ((bs_ v10.2.2.2 0 (w64 (v10.2.2.1 - 1))).bind λv16 =>
 (some ((!v16.1),())))))))))))).bind λv17 =>
 (cond v17.1
 (some (inr (inr (21,()))))
 (some (inl (v11,((w64 (v9.2.1+1)),()))))))))
 (some (inr (inl ()))))) ([],(0,()))).bind λv18 =>
 (cd_ v18 (λv19=>((ag_ (ρ:=(Unit⊕(Int×Unit))) (λ(v21:((List (List UInt8))×(Int×Unit))) =>
 (cond (decide (v21.2.1<(a0.2.2.1.length:Int)))
 ((at? a0.2.2.1 v21.2.1).bind λv22 =>
 ((push? (α:=(List UInt8)) v21.1 [v22.1]).bind λv23 =>
 ((((ds_ v22.1).bind λv24 =>
 (cond (!v24.1)
 (some (true,()))
 ((fn_ v23 v21.2.1).bind λv25 =>
 (cond v25.1
 (some (true,()))
 (cond (v22.2.1 != (-1))
 ((cs_ a0 v22.2.1).bind λv26 =>
 (some ((!v26.1),())))
 (some (false,())))))))).bind λv27 =>
 (cond v27.1
 (some (inr (inr (24,()))))
 ((ct_ a0 v22.2.2).bind λv28 =>
 (cond (!v28.1)
 (some (inr (inr (25,()))))
 (some (inl (v23,((w64 (v21.2.1+1)),()))))))))))
 (some (inr (inl ()))))) ([],(0,()))).bind λv29 =>
 (cd_ v29 (λv30=>((ag_ (ρ:=(Unit⊕(Int×Unit))) (λ(v32:(Int×Unit)) =>
 (cond (decide (v32.1<(a0.2.2.2.1.length:Int)))
 ((at? a0.2.2.2.1 v32.1).bind λv33 =>
 ((((cs_ a0 v33.1).bind λv34 =>
 (cond (!v34.1)
 (some (true,()))
 ((cs_ a0 v33.2.1).bind λv35 =>
 (cond (!v35.1)
 (some (true,()))
 (some ((v33.1==v33.2.1),()))))))).bind λv36 =>
 (cond v36.1
 (some (inr (inr (23,()))))
 ((ct_ a0 v33.2.2).bind λv37 =>
 (cond (!v37.1)
 (some (inr (inr (25,()))))
 (some (inl ((w64 (v32.1+1)),()))))))))
 (some (inr (inl ()))))) (0,())).bind λv38 =>
 (cd_ v38 (λv39=>((ag_ (ρ:=(Unit⊕(Int×Unit))) (λ(v41:(Int×Unit)) =>
 (cond (decide (v41.1<(a0.2.2.2.2.1.length:Int)))
 ((ms_ a0 v41.1).bind λv42 =>
 (cond (!v42.1)
 (some (inr (inr (26,()))))
 ((at? a0.2.2.2.2.1 v41.1).bind λv43 =>
 ((ct_ a0 v43.2.2.2.2.1).bind λv44 =>
 (cond (!v44.1)
 (some (inr (inr (25,()))))
 (some (inl ((w64 (v41.1+1)),()))))))))
 (some (inr (inl ()))))) (0,())).bind λv45 =>
 (cd_ v45 (λv46=>((ag_ (ρ:=(Unit⊕(Int×Unit))) (λ(v48:(Int×Unit)) =>
 (cond (decide (v48.1<(a0.2.2.2.2.2.1.length:Int)))
 ((at? a0.2.2.2.2.2.1 v48.1).bind λv49 =>
 ((at? a0.2.2.2.2.2.1 v48.1).bind λv50 =>
 ((gn_ a0 v49.2.1 v50.2.2).bind λv51 =>
 (cond (!v51.1)
 (some (inr (inr (27,()))))
 ((at? a0.2.2.2.2.2.1 v48.1).bind λv52 =>
 ((ct_ a0 v52.1).bind λv53 =>
 (cond (!v53.1)
 (some (inr (inr (25,()))))
 (some (inl ((w64 (v48.1+1)),()))))))))))
 (some (inr (inl ()))))) (0,())).bind λv54 =>
 (cd_ v54 (λv55=>((bs_ a0.2.2.2.2.2.2.1 1 4).bind λv57 =>
 (cond (!v57.1)
 (some (1,()))
 ((ct_ a0 a0.2.2.2.2.2.2.2).bind λv58 =>
 (cond (!v58.1)
 (some (25,()))
 (some (0,())))))))
 (λv56=>(some v56)))))
 (λv47=>(some v47)))))
 (λv40=>(some v40)))))
 (λv31=>(some v31)))))
 (λv20=>(some v20)))))
 (λv8=>(some v8)))))))
theorem x_52:au_ (P:=prog) (cxC [c_56,c_81,c_82,c_83,c_84,c_85,c_86] []) (.p .z (.p (.j0 [.v 46 .bool] .z .z) (.p .z (.p (.p .z (.ls [.v 3 .int] [] [] 0 (.p .z (.p (.j0 [.v 70 .bool] .z .z) .z)))) (.p .z (.p (.p .z (.ls [.r 4 .str 9,.v 5 .int] [] [] 2 (.p .z (.p (.p .z (.p .z (.j0 [.v 118 .bool] .z .z))) .z)))) (.p .z (.p (.p .z (.ls [.r 4 .str 9,.v 7 .int] [] [] 4 (.p .z (.p (.p .z (.p .z (.p (.j0 [.v 156 .bool] .z .z) .z))) .z)))) (.p (.p .z (.ls [.v 9 .int] [] [] 6 (.p .z (.p (.p .z (.p (.j0 [.v 192 .bool] .z .z) .z)) .z)))) (.p (.p .z (.ls [.v 11 .int] [] [] 8 (.p .z (.p (.p .z (.p (.q [] .z .z) .z)) .z)))) (.p (.p .z (.ls [.v 12 .int] [] [] 10 (.p .z (.p (.p (.p (.q [] .z .z) .z) (.p (.q [] .z .z) .z)) .z)))) .z))))))))))) 52 [an_] [.int]=λx=>fp_ x.1:=by kernel_rfl
noncomputable def c_52:Con prog:=aw_ _ _ 52 [an_] [.int] _ x_52
noncomputable def jd_ (a0:ad_) (a1:Int):Option (Bool×Unit) :=
 ((at? a0.2.2.2.1 a1).bind λv0 =>
 ((ag_ (ρ:=(Unit⊕(Bool×Unit))) (λ(v1:(Int×Unit)) =>
 (cond (decide (v1.1<a1))
 ((at? a0.2.2.2.1 v1.1).bind λv2 =>
 (cond (v2.1==v0.1)
 (some (inr (inr (false,()))))
 (some (inl ((w64 (v1.1+1)),())))))
 (some (inr (inl ()))))) (0,())).bind λv3 =>
 (cd_ v3 (λv4=>((((ds_ v0.1).bind λv6 =>
 (cond (!v6.1)
 (some (true,()))
 ((ik_ v0.2.1 0 (w64 ((a0.1.1.length:Int) - 1))).bind λv7 =>
 (cond (!v7.1)
 (some (true,()))
 ((ik_ v0.2.2.1 (-1) (w64 ((a0.2.1.length:Int) - 1))).bind λv8 =>
 (some ((!v8.1),())))))))).bind λv9 =>
 (cond v9.1
 (some (false,()))
 (cond (v0.2.2.1==(-1))
 ((la_ v0.2.2.2.2).bind λv10 =>
 (some (v10.1,())))
 ((at? a0.2.1 v0.2.2.1).bind λv11 =>
 ((fr_ v11 v0.2.2.2.2).bind λv12 =>
 (cond (v12.1==0)
 ((at? a0.2.2.1 v0.2.2.1).bind λv13 =>
 ((ff_ v0.2.2.2.2 v13).bind λv14 =>
 (some (v14.1,()))))
 (some (false,())))))))))
 (λv5=>(some v5)))))
theorem x_55:au_ (P:=prog) (cxC [c_57,c_81,c_89,c_90,c_91] []) (.p .z (.p .z (.p (.p .z (.ls [.v 6 .int] [] [] 0 .z)) (.p (.j0 [.v 50 .bool] .z .z) .z)))) 55 [ao_,.int] [.bool]=λx=>jd_ x.1 x.2.1:=by kernel_rfl
noncomputable def c_55:Con prog:=aw_ _ _ 55 [ao_,.int] [.bool] _ x_55
noncomputable def mt_ (a0:ab_) (a1:(List ak_)):Option ((List (List Int))×Unit) :=
 ((ag_ (ρ:=(Int×Unit)) (λ(v0:(Int×(Int×Unit))) =>
 (cond (decide (v0.2.1<a0.1))
 (some (inl ((w64 (v0.1 * a0.2)),((w64 (v0.2.1+1)),()))))
 (some (inr (v0.1,()))))) (1,(0,()))).bind λv1 =>
 ((ag_ (ρ:=((List (List Int))×Unit)) (λ(v2:((List (List Int))×(Int×Unit))) =>
 (cond (decide (v2.2.1<v1.1))
 ((((mk? (α:=Int) a0.1 0).bind λv3 =>
 ((ag_ (ρ:=((List Int)×Unit)) (λ(v4:(Int×(Int×((List Int)×Unit)))) =>
 (cond (decide (0≤v4.2.1))
 ((md v4.1 a0.2).bind λv5 =>
 ((at? v4.2.2.1 v4.2.1).bind λv6 =>
 ((at? v4.2.2.1 v4.2.1).bind λv7 =>
 ((dv v4.1 a0.2).bind λv8 =>
 (some (inl (v8,((w64 (v4.2.1 - 1)),((v4.2.2.1.set v4.2.1.toNat v5),())))))))))
 (some (inr (v4.2.2.1,()))))) (v2.2.1,((w64 (a0.1 - 1)),(v3,())))).bind λv9 =>
 ((jj_ a1 v9.1).bind λv10 =>
 (cond (decide (v10.1<0))
 ((push? (α:=(List Int)) v2.1 [v9.1]).bind λv11 =>
 (some (v11,())))
 (some (v2.1,()))))))).bind λv12 =>
 (some (inl (v12.1,((w64 (v2.2.1+1)),())))))
 (some (inr (v2.1,()))))) ([],(0,()))).bind λv13 =>
 (some (v13.1,()))))
theorem x_234:au_ (P:=prog) (cxC [c_254] []) (.p .z (.p .z (.p (.p .z (.lp [.v 5 .int,.v 6 .int] [.v 5 .int] [] 0 .z)) (.p .z (.p (.p .z (.lp [.r 7 (.list .int) 55,.v 8 .int] [.r 7 (.list .int) 55] [] 2 (.p .z (.j0 [.r 7 (.list .int) 55] (.p .z (.p .z (.p (.p .z (.lp [.v 10 .int,.v 11 .int] [] [.o (.s 9) .int] 4 .z)) .z))) .z)))) .z))))) 234 [al_,(.list ap_)] [(.list (.list .int))]=λx=>mt_ x.1 x.2.1:=by kernel_rfl
noncomputable def c_234:Con prog:=aw_ _ _ 234 [al_,(.list ap_)] [(.list (.list .int))] _ x_234
noncomputable def fe_ (a0:ae_):Option (Int×Unit) :=
 (((cond (decide (8<(a0.1.length:Int)))
 (some (true,()))
 (cond (decide (12<(a0.2.1.length:Int)))
 (some (true,()))
 (cond (decide (10<(a0.2.2.1.length:Int)))
 (some (true,()))
 (cond (decide (16<(a0.2.2.2.1.length:Int)))
 (some (true,()))
 (cond (decide (24<(a0.2.2.2.2.1.length:Int)))
 (some (true,()))
 (some ((decide (12<(a0.2.2.2.2.2.1.length:Int))),())))))))).bind λv0 =>
 (cond v0.1
 (some (2,()))
 ((ag_ (ρ:=(Unit⊕(Int×Unit))) (λ(v1:(Int×Unit)) =>
 (cond (decide (v1.1<(a0.1.length:Int)))
 ((at? a0.1 v1.1).bind λv2 =>
 ((sub? a0.1 0 v1.1).bind λv3 =>
 ((((ez_ v2).bind λv4 =>
 (cond v4.1
 (cond (decide ((v2.length:Int)≤12))
 ((((ag_ (ρ:=(Unit⊕(Int×Unit))) (λ(v5:(Int×Unit)) =>
 (cond (decide (v5.1<(v3.length:Int)))
 ((at? v3 v5.1).bind λv6 =>
 (cond (v6==v2)
 (some (inr (inr (v5.1,()))))
 (some (inl ((w64 (v5.1+1)),())))))
 (some (inr (inl ()))))) (0,())).bind λv7 =>
 (cd_ v7 (λv8=>(some ((-1),())))
 (λv9=>(some v9))))).bind λv10 =>
 (some ((decide (v10.1<0)),())))
 (some (false,())))
 (some (false,()))))).bind λv11 =>
 (cond (!v11.1)
 (some (inr (inr (22,()))))
 (some (inl ((w64 (v1.1+1)),())))))))
 (some (inr (inl ()))))) (0,())).bind λv12 =>
 (cd_ v12 (λv13=>(cond ((a0.1.length:Int)==0)
 (some (22,()))
 ((ag_ (ρ:=(Unit⊕(Int×Unit))) (λ(v15:(Int×Unit)) =>
 (cond (decide (v15.1<(a0.2.1.length:Int)))
 ((at? a0.2.1 v15.1).bind λv16 =>
 ((((sub? a0.2.1 0 v15.1).bind λv17 =>
 ((((ez_ v16.1).bind λv18 =>
 (cond v18.1
 (cond (decide ((v16.1.length:Int)≤12))
 ((((ag_ (ρ:=(Unit⊕(Int×Unit))) (λ(v19:(Int×Unit)) =>
 (cond (decide (v19.1<(v17.length:Int)))
 ((at? v17 v19.1).bind λv20 =>
 (cond (v20.1==v16.1)
 (some (inr (inr (v19.1,()))))
 (some (inl ((w64 (v19.1+1)),())))))
 (some (inr (inl ()))))) (0,())).bind λv21 =>
 (cd_ v21 (λv22=>(some ((-1),())))
 (λv23=>(some v23))))).bind λv24 =>
 (some ((decide (v24.1<0)),())))
 (some (false,())))
 (some (false,()))))).bind λv25 =>
 (cond (!v25.1)
 (some (true,()))
 ((be_ v16.2.1 0 (w64 ((a0.1.length:Int) - 1))).bind λv26 =>
 (cond (!v26.1)
 (some (true,()))
 ((be_ v16.2.2.1 2 6).bind λv27 =>
 (cond (!v27.1)
 (some (true,()))
 ((be_ v16.2.2.2 0 (w64 (v16.2.2.1 - 1))).bind λv28 =>
 (some ((!v28.1),()))))))))))).bind λv29 =>
 (cond v29.1
 (some (inr (inr (21,()))))
 (some (inl ((w64 (v15.1+1)),()))))))
 (some (inr (inl ()))))) (0,())).bind λv30 =>
 (cd_ v30 (λv31=>((ag_ (ρ:=(Unit⊕(Int×Unit))) (λ(v33:(Int×Unit)) =>
 (cond (decide (v33.1<(a0.2.2.1.length:Int)))
 ((at? a0.2.2.1 v33.1).bind λv34 =>
 ((((sub? a0.2.2.1 0 v33.1).bind λv35 =>
 ((((ez_ v34.1).bind λv36 =>
 (cond v36.1
 (cond (decide ((v34.1.length:Int)≤12))
 ((((ag_ (ρ:=(Unit⊕(Int×Unit))) (λ(v37:(Int×Unit)) =>
 (cond (decide (v37.1<(v35.length:Int)))
 ((at? v35 v37.1).bind λv38 =>
 (cond (v38.1==v34.1)
 (some (inr (inr (v37.1,()))))
 (some (inl ((w64 (v37.1+1)),())))))
 (some (inr (inl ()))))) (0,())).bind λv39 =>
 (cd_ v39 (λv40=>(some ((-1),())))
 (λv41=>(some v41))))).bind λv42 =>
 (some ((decide (v42.1<0)),())))
 (some (false,())))
 (some (false,()))))).bind λv43 =>
 (cond (!v43.1)
 (some (true,()))
 ((be_ v34.2.1 0 (w64 ((a0.1.length:Int) - 1))).bind λv44 =>
 (cond (!v44.1)
 (some ((v34.2.1 != (-1)),()))
 (some (false,())))))))).bind λv45 =>
 (cond v45.1
 (some (inr (inr (24,()))))
 ((dr_ a0 v34.2.2).bind λv46 =>
 (cond (!v46.1)
 (some (inr (inr (25,()))))
 (some (inl ((w64 (v33.1+1)),()))))))))
 (some (inr (inl ()))))) (0,())).bind λv47 =>
 (cd_ v47 (λv48=>((ag_ (ρ:=(Unit⊕(Int×Unit))) (λ(v50:(Int×Unit)) =>
 (cond (decide (v50.1<(a0.2.2.2.1.length:Int)))
 ((at? a0.2.2.2.1 v50.1).bind λv51 =>
 ((((be_ v51.1 0 (w64 ((a0.1.length:Int) - 1))).bind λv52 =>
 (cond (!v52.1)
 (some (true,()))
 ((be_ v51.2.1 0 (w64 ((a0.1.length:Int) - 1))).bind λv53 =>
 (cond (!v53.1)
 (some (true,()))
 (some ((v51.1==v51.2.1),()))))))).bind λv54 =>
 (cond v54.1
 (some (inr (inr (23,()))))
 ((dr_ a0 v51.2.2).bind λv55 =>
 (cond (!v55.1)
 (some (inr (inr (25,()))))
 (some (inl ((w64 (v50.1+1)),()))))))))
 (some (inr (inl ()))))) (0,())).bind λv56 =>
 (cd_ v56 (λv57=>((ag_ (ρ:=(Unit⊕(Int×Unit))) (λ(v59:(Int×Unit)) =>
 (cond (decide (v59.1<(a0.2.2.2.2.1.length:Int)))
 ((at? a0.2.2.2.2.1 v59.1).bind λv60 =>
 ((pn_ a0 v59.1 v60).bind λv61 =>
 (cond (!v61.1)
 (some (inr (inr (26,()))))
 ((dr_ a0 v60.2.2.2.2.1).bind λv62 =>
 (cond (!v62.1)
 (some (inr (inr (25,()))))
 (some (inl ((w64 (v59.1+1)),()))))))))
 (some (inr (inl ()))))) (0,())).bind λv63 =>
 (cd_ v63 (λv64=>((ag_ (ρ:=(Unit⊕(Int×Unit))) (λ(v66:(Int×Unit)) =>
 (cond (decide (v66.1<(a0.2.2.2.2.2.1.length:Int)))
 ((at? a0.2.2.2.2.2.1 v66.1).bind λv67 =>
 ((fa_ a0 v67.2.1 v67.2.2).bind λv68 =>
 (cond (!v68.1)
 (some (inr (inr (27,()))))
 ((dr_ a0 v67.1).bind λv69 =>
 (cond (!v69.1)
 (some (inr (inr (25,()))))
 (some (inl ((w64 (v66.1+1)),()))))))))
 (some (inr (inl ()))))) (0,())).bind λv70 =>
 (cd_ v70 (λv71=>((be_ a0.2.2.2.2.2.2.1 1 4).bind λv73 =>
 (cond (!v73.1)
 (some (1,()))
 ((dr_ a0 a0.2.2.2.2.2.2.2).bind λv74 =>
 (cond (!v74.1)
 (some (25,()))
 (some (0,())))))))
 (λv72=>(some v72)))))
 (λv65=>(some v65)))))
 (λv58=>(some v58)))))
 (λv49=>(some v49)))))
 (λv32=>(some v32))))))
 (λv14=>(some v14))))))
theorem x_131:au_ (P:=prog) (cxI (λk=>cond (Nat.beq k 169) (.p .z (.j0 [.v 6 .bool] .z .z)) (cond (Nat.beq k 171) (.p .z (.j0 [.v 6 .bool] .z .z)) (cond (Nat.beq k 173) (.p .z (.j0 [.v 6 .bool] .z .z)) (cond (Nat.beq k 207) (.p .z (.j0 [.v 6 .int] .z .z)) (cond (Nat.beq k 208) (.p .z (.j0 [.v 6 .int] .z .z)) (cond (Nat.beq k 209) (.p .z (.j0 [.v 6 .int] .z .z)) (cond (Nat.beq k 236) (.p .z (.p (.p .z (.ls [.v 8 .int] [] [] 0 .z)) .z)) (cond (Nat.beq k 237) (.p .z (.p (.q [] .z .z) .z)) (cond (Nat.beq k 238) (.p .z (.p (.p .z (.ls [.v 8 .int] [] [] 0 .z)) .z)) (cond (Nat.beq k 239) (.p .z (.p (.q [] .z .z) .z)) (cond (Nat.beq k 240) (.p .z (.p (.p .z (.ls [.v 8 .int] [] [] 0 .z)) .z)) (cond (Nat.beq k 241) (.p .z (.p (.q [] .z .z) .z)) (.z))))))))))))) (λk=>Nat.beq k 164||Nat.beq k 165||Nat.beq k 170||Nat.beq k 172||Nat.beq k 174||Nat.beq k 175||Nat.beq k 176||Nat.beq k 206||false) (cxC [cn2,bz7,c_170,c_172,c_174,c_175,c_176,c_206] []) 12) (.p .z (.p (.j0 [.v 49 .bool] .z .z) (.p .z (.p (.p .z (.ls [.v 54 .int] [] [] 0 .z)) (.p .z (.p (.p .z (.ls [.v 74 .int] [] [] 2 (.p .z (.p .z (.p (.p .z (.j0 [.v 108 .bool] .z .z)) .z))))) (.p (.p .z (.ls [.v 113 .int] [] [] 4 (.p .z (.p .z (.p (.p .z (.p (.j0 [.v 137 .bool] .z .z) .z)) .z))))) (.p (.p .z (.ls [.v 147 .int] [] [] 6 (.p .z (.p .z (.p (.p .z (.p (.j0 [.v 169 .bool] .z .z) .z)) .z))))) (.p (.p .z (.ls [.v 179 .int] [] [] 8 .z)) (.p (.p .z (.ls [.v 198 .int] [] [] 10 .z)) .z)))))))))) 131 [an_] [.int]=λx=>fe_ x.1:=by kernel_rfl
noncomputable def c_131:Con prog:=aw_ _ _ 131 [an_] [.int] _ x_131
noncomputable def dy_ (a0:ab_) (a1:(List Int)):Option (Int×Unit) :=
 ((hi_ a0 [a1]).bind λv0 =>
 (some (v0.1,())))
theorem x_133:au_ (P:=prog) (cxC [c_178] []) .z 133 [al_,(.list .int)] [.int]=λx=>dy_ x.1 x.2.1:=by kernel_rfl
noncomputable def c_133:Con prog:=aw_ _ _ 133 [al_,(.list .int)] [.int] _ x_133
noncomputable def fv_ (a0:ab_) (a1:ak_):Option (Int×Unit) :=
 ((ee_ a0).bind λv0 =>
 (cond (v0.1 != 0)
 (some (v0.1,()))
 ((di_ a0 a1).bind λv1 =>
 (cond (!v1.1)
 (some (11,()))
 (some (0,()))))))
theorem x_222:au_ (P:=prog) (cxC [cn4,c_247] []) .z 222 [al_,ap_] [.int]=λx=>fv_ x.1 x.2.1:=by kernel_rfl
noncomputable def c_222:Con prog:=aw_ _ _ 222 [al_,ap_] [.int] _ x_222
noncomputable def et_ (a0:ab_) (a1:(List ak_)):Option (Int×Unit) :=
 ((ee_ a0).bind λv0 =>
 (cond (v0.1 != 0)
 (some (v0.1,()))
 (cond (decide (20<(a1.length:Int)))
 (some (2,()))
 ((((ag_ (ρ:=(Unit⊕(Bool×Unit))) (λ(v1:(Int×Unit)) =>
 (cond (decide (v1.1<(a1.length:Int)))
 ((at? a1 v1.1).bind λv2 =>
 ((di_ a0 v2).bind λv3 =>
 (cond (!v3.1)
 (some (inr (inr ((decide (0≤v1.1)),()))))
 (some (inl ((w64 (v1.1+1)),()))))))
 (some (inr (inl ()))))) (0,())).bind λv4 =>
 (cd_ v4 (λv5=>(some ((decide (0≤(-1))),())))
 (λv6=>(some v6))))).bind λv7 =>
 (cond v7.1
 (some (11,()))
 (some (0,())))))))
theorem x_251:au_ (P:=prog) (cxI (λk=>cond (Nat.beq k 264) (.p .z (.j0 [.v 4 .bool] .z .z)) (cond (Nat.beq k 272) (.p .z (.p (.p .z (.ls [.v 8 .int] [] [] 0 .z)) .z)) (.z))) (λk=>Nat.beq k 132||Nat.beq k 247||false) (cxC [cn4,c_247] []) 4) .z 251 [al_,(.list ap_)] [.int]=λx=>et_ x.1 x.2.1:=by kernel_rfl
noncomputable def c_251:Con prog:=aw_ _ _ 251 [al_,(.list ap_)] [.int] _ x_251
noncomputable def es_ (a0:ab_) (a1:(List ak_)):Option (Int×Unit) :=
 ((mk? (α:=Int) a0.1 0).bind λv0 =>
 ((ag_ (ρ:=((Unit×(Unit×((List Int)×((Int×Unit)×Unit))))⊕(Int×Unit))) (λ(v1:(Unit×(Unit×((List Int)×((Int×Unit)×Unit))))) =>
 ((fu_ a1 v1.2.2.1).bind λv2 =>
 (cond (decide (v2.1<0))
 ((ag_ (ρ:=(Int×((List Int)×Unit))) (λ(v3:(Int×((List Int)×Unit))) =>
 (((cond (decide (0≤v3.1))
 ((at? v3.2.1 v3.1).bind λv4 =>
 ((at? v3.2.1 v3.1).bind λv5 =>
 (some ((v5==(w64 (a0.2 - 1))),()))))
 (some (false,())))).bind λv6 =>
 (cond v6.1
 ((at? v3.2.1 v3.1).bind λv7 =>
 ((at? v3.2.1 v3.1).bind λv8 =>
 (some (inl ((w64 (v3.1 - 1)),((v3.2.1.set v3.1.toNat 0),()))))))
 (some (inr (v3.1,(v3.2.1,()))))))) ((w64 (a0.1 - 1)),(v1.2.2.1,()))).bind λv9 =>
 (cond (decide (v9.1<0))
 (some (inr (inr ((w64 (v1.2.2.2.1.1+1)),()))))
 ((at? v9.2.1 v9.1).bind λv10 =>
 ((at? v9.2.1 v9.1).bind λv11 =>
 ((at? v9.2.1 v9.1).bind λv12 =>
 ((at? v9.2.1 v9.1).bind λv13 =>
 (some (inl ((),((),((v9.2.1.set v9.1.toNat (w64 (v11+1))),(((w64 (v1.2.2.2.1.1+1)),()),()))))))))))))
 ((ag_ (ρ:=(Int×((List Int)×Unit))) (λ(v14:(Int×((List Int)×Unit))) =>
 (((cond (decide (0≤v14.1))
 ((at? v14.2.1 v14.1).bind λv15 =>
 ((at? v14.2.1 v14.1).bind λv16 =>
 (some ((v16==(w64 (a0.2 - 1))),()))))
 (some (false,())))).bind λv17 =>
 (cond v17.1
 ((at? v14.2.1 v14.1).bind λv18 =>
 ((at? v14.2.1 v14.1).bind λv19 =>
 (some (inl ((w64 (v14.1 - 1)),((v14.2.1.set v14.1.toNat 0),()))))))
 (some (inr (v14.1,(v14.2.1,()))))))) ((w64 (a0.1 - 1)),(v1.2.2.1,()))).bind λv20 =>
 (cond (decide (v20.1<0))
 (some (inr (inr (v1.2.2.2.1.1,()))))
 ((at? v20.2.1 v20.1).bind λv21 =>
 ((at? v20.2.1 v20.1).bind λv22 =>
 ((at? v20.2.1 v20.1).bind λv23 =>
 ((at? v20.2.1 v20.1).bind λv24 =>
 (some (inl ((),((),((v20.2.1.set v20.1.toNat (w64 (v22+1))),((v1.2.2.2.1.1,()),()))))))))))))))) ((),((),(v0,((0,()),()))))).bind λv25 =>
 (cd_ v25 (λv26=>(some (v26.2.2.2.1.1,())))
 (λv27=>(some v27)))))
theorem x_252:au_ (P:=prog) (cxI (λk=>cond (Nat.beq k 273) (.p .z (.p .z (.rf [2,3] .z .z))) (cond (Nat.beq k 278) (.p .z (.ls [] [] [.y (.c (.y (.s 0) 3) 0),.y (.s 0),.o (.s 3) .int,.b (.y (.c (.y (.s 0) 3) 0) 4) [.val .int]] 0 (.p .z (.p .z (.p (.lp [.v 4 .int] [.v 4 .int] [.o (.s 3) .int] 2 (.p (.j0 [.v 26 .bool] .z .z) .z)) .z))))) (.z))) (λk=>Nat.beq k 275||false) (cxC [c_275] []) 9) (.p .z (.p (.p .z (.rf [4] .z .z)) .z)) 252 [al_,(.list ap_)] [.int]=λx=>es_ x.1 x.2.1:=by kernel_rfl
noncomputable def c_252:Con prog:=aw_ _ _ 252 [al_,(.list ap_)] [.int] _ x_252
end
end Go.Proofs.YtgeehfnbhbibeaaGreatDoor.Rx
namespace Go.Proofs.YtgeehfnbhbibeaaGreatDoor.Rx
open Go Pad Rex Sum
section
theorem ox_ {α:Type} {l:List α} {i:Nat} (h:i≤l.length):sub? l 0 (i:Int)=some (l.take i):=by
  unfold sub?
  rw[if_pos ⟨m4_ 0,by omega,by omega⟩]
  simp
def twN {α:Type} (nm:α→List UInt8) (l:List α) (i:Nat) (t:List UInt8):Bool:=(l.take i).any λy=>nm y==t
theorem qh_ {l:List (List UInt8)} {i:Nat} {x:List UInt8} (hl:Sm l.length) (hx:l[i]?=some x):fn_ l (i:Int)=some (twN id l i x,()):=by
  have hi:=am_ hx
  have hle:(l.take i).length=i:=by rw[c9_];omega
  unfold fn_
  refine bn_ (l.take i) (λ_ y=>cond (id y==x) (some (inr (true,()):Unit⊕(Bool×Unit))) none) (λi=>((i:Int),())) (r0:=inl ()) (λk y hy => ?_) ?_ ?_
  · have hk:=am_ hy
    have hy':l[k]?=some y:=by
      rw[j5_] at hy
      split at hy
      · exact hy
      · cases hy
    simp only[dlt (show k<i by omega),a5_,ah_ hy',ah_ hx,a0_,ba_ (show Sm k by omega),id]
    cases y==x<;>rfl
  · rw[hle]
    simp only[dnl,a2_]
  · rw[hd_ (q:=λy=>id y==x)]
    unfold twN
    cases (l.take i).any λy=>id y==x<;>rfl
theorem hr_ {r:ae_} (p:Int):cs_ r p=some (wi p 0 (w64 ((r.1.length:Int) - 1)),()):=by
  unfold cs_
  rw[fk_,a0_]
structure SmR (r:ae_):Prop where
  pl:Sm r.1.length
  th:Sm r.2.1.length
  pr:Sm r.2.2.1.length
  wy:Sm r.2.2.2.1.length
  ac:Sm r.2.2.2.2.1.length
  au:Sm r.2.2.2.2.2.1.length
  go:Sm r.2.2.2.2.2.2.2.length
  pln:∀ x ∈ r.1,Sm x.length
  thn:∀ x ∈ r.2.1,Sm x.1.length
  prn:∀ x ∈ r.2.2.1,Sm x.1.length∧Sm x.2.2.length
  wyn:∀ x ∈ r.2.2.2.1,Sm x.2.2.length
  acn:∀ x ∈ r.2.2.2.2.1,Sm x.1.length∧Sm x.2.2.2.1.length∧Sm x.2.2.2.2.1.length∧Sm x.2.2.2.2.2.1.length∧Sm x.2.2.2.2.2.2.1.length∧Sm x.2.2.2.2.2.2.2.length
  aun:∀ x ∈ r.2.2.2.2.2.1,Sm x.1.length
theorem ax_ {α:Type} {l:List α} {i:Nat} {x:α} (h:l[i]?=some x):x ∈ l:=b2_ h
def rw_ (r:ae_) (p:Int):Bool:=wi p 0 (w64 ((r.1.length:Int) - 1))
def frN {α:Type} (nm:α→List UInt8) (l:List α) (i:Nat) (t:List UInt8):Bool:=okN t&&!(twN nm l i t)
def plOk (r:ae_) (i:Nat) (x:List UInt8):Bool:=frN id r.1 i x
def bk7 (r:ae_) (i:Nat) (x:gr_):Bool:=frN (·.1) r.2.1 i x.1&&(rw_ r x.2.1&&(wi x.2.2.1 2 6&&wi x.2.2.2 0 (w64 (x.2.2.1 - 1))))
def ch5 (r:ae_) (i:Nat) (x:js_):Bool:=frN (·.1) r.2.2.1 i x.1&&(rw_ r x.2.1||x.2.1==(-1))
def cd0 (r:ae_) (x:om_):Bool:=rw_ r x.1&&(rw_ r x.2.1&&!(x.1==x.2.1))
def sm_ (a:Bool) (e:Int) (b:Bool) (f:Int):Option Int:=cond a (cond b none (some f)) (some e)
def kl_ (a:Bool) (e:Int):Option Int:=cond a none (some e)
def left (o:Option Int):Unit⊕(Int×Unit):=match o with
  | none=>.inl ()
  | some e=>.inr (e,())
theorem az7 (o:Option Int):(o.map λe=>(inr (e,()):Unit⊕(Int×Unit))).getD (inl ())=left o:=by cases o<;>rfl
theorem bu_ {α:Type} (l:List α) (p:Nat→α→Option Int) {body:(Int×Unit)→Option ((Int×Unit)⊕(Unit⊕(Int×Unit)))} {τ:Type} {K:(Unit⊕(Int×Unit))→Option τ} {x:Option τ}
    (h:∀ (i:Nat) y,l[i]?=some y→body ((i:Int),())=some (match p i y with | none=>.inl (((i+1:Nat):Int),()) | some e=>.inr (.inr (e,())))) (e:body ((l.length:Int),())=some (.inr (.inl ()))) (hk:K (left (ga_ p 0 l))=x) :
    (ag_ body (0,())).bind K=x:=by
  refine bn_ l (λi y=>(p i y).map λe=>(inr (e,()):Unit⊕(Int×Unit))) (λi=>((i:Int),())) (r0:=inl ()) (λi y hy => ?_) e ?_
  · rw[h i y hy]
    cases p i y<;>rfl
  · rw[aa5,az7]
    exact hk
theorem zt_ {α β:Type} (l:List α) (p:Nat→α→Option Int) (F:Nat→β) {body:(β×(Int×Unit))→Option ((β×(Int×Unit))⊕(Unit⊕(Int×Unit)))} {τ:Type} {K:(Unit⊕(Int×Unit))→Option τ} {x:Option τ} {b0:β} (h0:F 0=b0)
    (h:∀ (i:Nat) y,l[i]?=some y→body (F i,((i:Int),()))=some (match p i y with | none=>.inl (F (i+1),(((i+1:Nat):Int),())) | some e=>.inr (.inr (e,())))) (e:body (F l.length,((l.length:Int),()))=some (.inr (.inl ()))) (hk:K (left (ga_ p 0 l))=x) :
    (ag_ body (b0,(0,()))).bind K=x:=by
  subst h0
  refine bn_ l (λi y=>(p i y).map λe=>(inr (e,()):Unit⊕(Int×Unit))) (λi=>(F i,((i:Int),()))) (r0:=inl ()) (λi y hy => ?_) e ?_
  · rw[h i y hy]
    cases p i y<;>rfl
  · rw[aa5,az7]
    exact hk
theorem el_ {o:Option Int} {K:Unit→Option (Int×Unit)} {k:Int} (h:K ()=some (k,())):cd_ (left o) K (λy=>some y)=some (o.getD k,()):=by
  cases o with
  | none=>exact h
  | some e=>rfl
end
section
def rf_ (r:ae_) (l:List ab_) (i:Nat) (x:ab_):Bool:=ng_ r.2.1 x.1 x.2&&!((l.take i).any λy=>y.1==x.1)
def uo_ (r:ae_) (i:Nat) (a:cv_):Bool :=
  frN (·.1) r.2.2.2.2.1 i a.1&&(rw_ r a.2.1&&(wi a.2.2.1 (-1) 7&&(kp_ r.2.2.1.length a.2.2.2.1&&(kp_ r.2.2.1.length a.2.2.2.2.2.2.1&&(kp_ r.2.2.1.length a.2.2.2.2.2.2.2&&(!(decide (6<(a.2.2.2.2.2.1.length:Int)))
    && ((a.2.2.2.2.2.2.1.all λp=>a.2.2.2.1.contains p)&&(!(a.2.2.2.2.2.2.2.any λp=>a.2.2.2.1.contains p)
      && (ga_ (λi x=>cond (rf_ r a.2.2.2.2.2.1 i x) none (some ())) 0 a.2.2.2.2.2.1).isNone))))))))
theorem so_ {α ρ:Type} {q:Nat→α→Bool} {r:ρ}:∀ (l:List α) (i:Nat),ga_ (λi x=>cond (q i x) none (some r)) i l=cond (ga_ (λi x=>cond (q i x) none (some ())) i l).isNone none (some r)
  | [],_=>rfl
  | x::l,i=>by
    unfold ga_
    cases q i x with
    | false=>rfl
    | true=>exact so_ l (i+1)
theorem uw_ {α:Type} {l:List α} (hl:Sm l.length) (nm:α→List UInt8) {t:List UInt8} (ht:Sm t.length) :
    ((ez_ t).bind λv1=>cond v1.1 (cond (decide ((t.length:Int)≤12)) ((((ag_ (ρ:=Unit⊕(Int×Unit)) (λ(v:Int×Unit)=>cond (decide (v.1<(l.length:Int))) ((at? l v.1).bind λy=>cond (nm y==t) (some (inr (inr (v.1,())))) (some (inl (w64 (v.1+1),())))) (some (inr (inl ())))) (0,())).bind λv=>cd_ v (λ_=>some ((-1:Int),())) (λw=>some w))).bind λv=>some (decide (v.1<0),())) (some (false,()))) (some (false,())))
      = some (okN t&&!(l.any λy=>nm y==t),()):=by
  rw[bn1 ht,a0_]
  obtain⟨n,h1,h2,_⟩:=if_lt hl (λy=>nm y==t) (body:=λ(v:Int×Unit)=>cond (decide (v.1<(l.length:Int))) ((at? l v.1).bind λy=>cond (nm y==t) (some (inr (inr (v.1,())))) (some (inl (w64 (v.1+1),())))) (some (inr (inl ())))) (λi y hy=>by
    simp only[dlt (am_ hy),a5_,ah_ hy,a0_]
    cases nm y==t<;>rfl) (by simp only[dnl,a2_])
  rw[h1,a0_,h2]
  unfold okN
  cases okW t with
  | false=>rw[g0_,e9_];rfl
  | true=>cases decide ((t.length:Int)≤12)<;>rfl
theorem vn_ {α:Type} {l:List α} (h:Sm l.length) (i:Nat):Sm (l.take i).length:=by
  rw[c9_]
  exact c6_ (m7_ _ _) h
theorem cg6 {r:ae_} (h:SmR r) {i:Nat} {a:cv_} (ha:r.2.2.2.2.1[i]?=some a):pn_ r (i:Int) a=some (uo_ r i a,()):=by
  have hi:=am_ ha
  obtain⟨s1,s2,s3,s4,s5,s6⟩:=h.acn a (ax_ ha)
  unfold pn_
  refine e4_ (congrArg (λo=>Option.bind o _) (?_:_=some (!(frN (·.1) r.2.2.2.2.1 i a.1&&(rw_ r a.2.1&&wi a.2.2.1 (-1) 7)),()))) ?_
  · rw[ox_ (g2_ hi),a0_]
    refine e4_ (congrArg (λo=>Option.bind o _) (uw_ (vn_ h.ac i) (·.1) s1)) ?_
    unfold frN twN rw_
    rw[a0_]
    cases okN a.1&&!((r.2.2.2.2.1.take i).any λy=>y.1==a.1) with
    | false=>rfl
    | true =>
      simp only[dt_,a0_]
      cases wi a.2.1 0 (w64 ((r.1.length:Int) - 1)) with
      | false=>rfl
      | true=>rfl
  · rw[a0_]
    unfold uo_
    cases frN (·.1) r.2.2.2.2.1 i a.1 with
    | false=>rfl
    | true =>
    cases rw_ r a.2.1 with
    | false=>rfl
    | true =>
    cases wi a.2.2.1 (-1) 7 with
    | false=>rfl
    | true =>
      simp only[e5_,a2_,c2_,sp_ s2,sp_ s5,sp_ s6,a0_]
      cases kp_ r.2.2.1.length a.2.2.2.1 with
      | false=>rfl
      | true =>
      cases kp_ r.2.2.1.length a.2.2.2.2.2.2.1 with
      | false=>rfl
      | true =>
      cases kp_ r.2.2.1.length a.2.2.2.2.2.2.2 with
      | false=>rfl
      | true =>
      cases h6:decide (6<(a.2.2.2.2.2.1.length:Int)) with
      | true=>rfl
      | false =>
      simp only[e5_,g4_,a2_,c2_,a0_]
      refine e4_ (congrArg (λo=>Option.bind o _) (?_:_=some (!((a.2.2.2.2.2.2.1.all λp=>a.2.2.2.1.contains p)&&!(a.2.2.2.2.2.2.2.any λp=>a.2.2.2.1.contains p)),()))) ?_
      · refine e4_ (congrArg (λo=>Option.bind o _) (mg_ s5 (λp=>!(a.2.2.2.1.contains p)) (λi y hy => ?_) ?_)) ?_
        · simp only[dlt (am_ hy),a5_,ah_ hy,a0_,on_ s2]
          cases a.2.2.2.1.contains y<;>rfl
        · simp only[dnl,a2_]
        rw[a0_,← tl_ a.2.2.2.2.2.2.1]
        cases a.2.2.2.2.2.2.1.any λp=>!(a.2.2.2.1.contains p) with
        | true=>rfl
        | false =>
        refine e4_ (congrArg (λo=>Option.bind o _) (mg_ s6 (λp=>a.2.2.2.1.contains p) (λi y hy => ?_) ?_)) ?_
        · simp only[dlt (am_ hy),a5_,ah_ hy,a0_,on_ s2]
          cases a.2.2.2.1.contains y<;>rfl
        · simp only[dnl,a2_]
        cases a.2.2.2.2.2.2.2.any λp=>a.2.2.2.1.contains p<;>rfl
      · rw[a0_]
        cases a.2.2.2.2.2.2.1.all λp=>a.2.2.2.1.contains p with
        | false=>rfl
        | true =>
        cases a.2.2.2.2.2.2.2.any λp=>a.2.2.2.1.contains p with
        | true=>rfl
        | false =>
          simp only[e5_,g4_,a2_,c2_]
          refine bn_ a.2.2.2.2.2.1 (λi x=>cond (rf_ r a.2.2.2.2.2.1 i x) none (some (inr (false,()):Unit⊕(Bool×Unit)))) (λi=>((i:Int),())) (r0:=inl ()) (λk y hy => ?_) ?_ ?_
          · have hk:=am_ hy
            simp only[dlt hk,a5_,ah_ hy,a0_,ba_ (show Sm k by omega),ox_ (g2_ hk)]
            refine e4_ (congrArg (λo=>Option.bind o _) (mg_ (vn_ s4 k) (λz=>z.1==y.1) (λn z hz => ?_) ?_)) ?_
            · simp only[dlt (am_ hz),a5_,ah_ hz,a0_]
              cases z.1==y.1<;>rfl
            · simp only[dnl,a2_]
            · rw[a0_,pc_ h.th]
              unfold rf_
              cases ng_ r.2.1 y.1 y.2 with
              | false=>rfl
              | true =>
                cases (a.2.2.2.2.2.1.take k).any λz=>z.1==y.1<;>rfl
          · simp only[dnl,a2_]
          · rw[so_]
            cases (ga_ (λi x=>cond (rf_ r a.2.2.2.2.2.1 i x) none (some ())) 0 a.2.2.2.2.2.1).isNone<;>rfl
end
section
def ad1 (r:ae_):Bool:=decide (8<(r.1.length:Int))||(decide (12<(r.2.1.length:Int))||(decide (10<(r.2.2.1.length:Int))||(decide (16<(r.2.2.2.1.length:Int))||(decide (24<(r.2.2.2.2.1.length:Int))||decide (12<(r.2.2.2.2.2.1.length:Int))))))
theorem bs9 (r:ae_):(cond (decide (8<(r.1.length:Int)))
 (some (true,()))
 (cond (decide (12<(r.2.1.length:Int)))
 (some (true,()))
 (cond (decide (10<(r.2.2.1.length:Int)))
 (some (true,()))
 (cond (decide (16<(r.2.2.2.1.length:Int)))
 (some (true,()))
 (cond (decide (24<(r.2.2.2.2.1.length:Int)))
 (some (true,()))
 (some ((decide (12<(r.2.2.2.2.2.1.length:Int))),())))))))=some (ad1 r,()):=by
  unfold ad1
  cases decide (8<(r.1.length:Int)) with
  | true=>rfl
  | false =>
  cases decide (12<(r.2.1.length:Int)) with
  | true=>rfl
  | false =>
  cases decide (10<(r.2.2.1.length:Int)) with
  | true=>rfl
  | false =>
  cases decide (16<(r.2.2.2.1.length:Int)) with
  | true=>rfl
  | false =>
  cases decide (24<(r.2.2.2.2.1.length:Int)) with
  | true=>rfl
  | false=>rfl
def cy_ (r:ae_):Int :=
  cond (ad1 r) 2 ((ga_ (λi x=>kl_ (plOk r i x) 22) 0 r.1).getD
    (cond ((r.1.length:Int)==0) 22 ((ga_ (λi x=>kl_ (bk7 r i x) 21) 0 r.2.1).getD
      ((ga_ (λi x=>sm_ (ch5 r i x) 24 (cOk r.2.1 x.2.2) 25) 0 r.2.2.1).getD
        ((ga_ (λ_ x=>sm_ (cd0 r x) 23 (cOk r.2.1 x.2.2) 25) 0 r.2.2.2.1).getD
          ((ga_ (λi x=>sm_ (uo_ r i x) 26 (cOk r.2.1 x.2.2.2.2.1) 25) 0 r.2.2.2.2.1).getD
            ((ga_ (λ_ x=>sm_ (ng_ r.2.1 x.2.1 x.2.2) 27 (cOk r.2.1 x.1) 25) 0 r.2.2.2.2.2.1).getD
              (cond (wi r.2.2.2.2.2.2.1 1 4) (cond (cOk r.2.1 r.2.2.2.2.2.2.2) 0 25) 1))))))))
theorem sq_ {r:ae_} (h:SmR r):fe_ r=some (cy_ r,()):=by
  unfold fe_
  refine e4_ (congrArg (λo=>Option.bind o _) (bs9 r)) ?_
  rw[a0_]
  unfold cy_
  cases ad1 r with
  | true=>rfl
  | false =>
  simp only[a2_]
  refine bu_ r.1 (λi x=>kl_ (plOk r i x) 22) (λi y hy => ?_) ?_ (el_ ?_)
  · have hi:=am_ hy
    simp only[dlt hi,a5_,ah_ hy,a0_,ba_ (show Sm i from c6_ (g2_ hi) h.pl),ox_ (g2_ hi)]
    refine e4_ (congrArg (λo=>Option.bind o _) (uw_ (vn_ h.pl i) id (h.pln y (ax_ hy)))) ?_
    unfold kl_ plOk frN twN
    rw[a0_]
    cases okN y&&!((r.1.take i).any λz=>id z==y)<;>rfl
  · simp only[dnl,a2_]
  cases (r.1.length:Int)==0 with
  | true=>rfl
  | false =>
  simp only[a2_]
  refine bu_ r.2.1 (λi x=>kl_ (bk7 r i x) 21) (λi y hy => ?_) ?_ (el_ ?_)
  · have hi:=am_ hy
    simp only[dlt hi,a5_,ah_ hy,a0_,ba_ (show Sm i from c6_ (g2_ hi) h.th),ox_ (g2_ hi)]
    refine e4_ (congrArg (λo=>Option.bind o _) (e4_ (congrArg (λo=>Option.bind o _) (uw_ (vn_ h.th i) (·.1) (h.thn y (ax_ hy)))) (?_:_=some (!(bk7 r i y),())))) ?_
    · simp only[dt_,a0_]
      unfold bk7 frN twN rw_
      cases okN y.1&&!((r.2.1.take i).any λz=>z.1==y.1) with
      | false=>rfl
      | true =>
        cases wi y.2.1 0 (w64 ((r.1.length:Int) - 1)) with
        | false=>rfl
        | true =>
          cases wi y.2.2.1 2 6 with
          | false=>rfl
          | true=>rfl
    · rw[a0_]
      unfold kl_
      cases bk7 r i y<;>rfl
  · simp only[dnl,a2_]
  refine bu_ r.2.2.1 (λi x=>sm_ (ch5 r i x) 24 (cOk r.2.1 x.2.2) 25) (λi y hy => ?_) ?_ (el_ ?_)
  · have hi:=am_ hy
    simp only[dlt hi,a5_,ah_ hy,a0_,ba_ (show Sm i from c6_ (g2_ hi) h.pr),ox_ (g2_ hi)]
    refine e4_ (congrArg (λo=>Option.bind o _) (e4_ (congrArg (λo=>Option.bind o _) (uw_ (vn_ h.pr i) (·.1) (h.prn y (ax_ hy)).1)) (?_:_=some (!(ch5 r i y),())))) ?_
    · simp only[dt_,a0_]
      unfold ch5 frN twN rw_
      cases okN y.1&&!((r.2.2.1.take i).any λz=>z.1==y.1) with
      | false=>rfl
      | true =>
        cases wi y.2.1 0 (w64 ((r.1.length:Int) - 1)) with
        | false=>rfl
        | true=>rfl
    · rw[a0_,jp_ h.th,a0_]
      unfold sm_
      cases ch5 r i y with
      | false=>rfl
      | true=>cases cOk r.2.1 y.2.2<;>rfl
  · simp only[dnl,a2_]
  refine bu_ r.2.2.2.1 (λi x=>sm_ (cd0 r x) 23 (cOk r.2.1 x.2.2) 25) (λi y hy => ?_) ?_ (el_ ?_)
  · have hi:=am_ hy
    simp only[dlt hi,a5_,ah_ hy,a0_,ba_ (show Sm i from c6_ (g2_ hi) h.wy)]
    refine e4_ (congrArg (λo=>Option.bind o _) (?_:_=some (!(cd0 r y),()))) ?_
    · simp only[dt_,a0_]
      unfold cd0 rw_
      cases wi y.1 0 (w64 ((r.1.length:Int) - 1)) with
      | false=>rfl
      | true =>
        cases wi y.2.1 0 (w64 ((r.1.length:Int) - 1)) with
        | false=>rfl
        | true=>simp
    · rw[a0_,jp_ h.th,a0_]
      unfold sm_
      cases cd0 r y with
      | false=>rfl
      | true=>cases cOk r.2.1 y.2.2<;>rfl
  · simp only[dnl,a2_]
  refine bu_ r.2.2.2.2.1 (λi x=>sm_ (uo_ r i x) 26 (cOk r.2.1 x.2.2.2.2.1) 25) (λi y hy => ?_) ?_ (el_ ?_)
  · have hi:=am_ hy
    simp only[dlt hi,a5_,ah_ hy,a0_,ba_ (show Sm i from c6_ (g2_ hi) h.ac),cg6 h hy,jp_ h.th]
    unfold sm_
    cases uo_ r i y with
    | false=>rfl
    | true=>cases cOk r.2.1 y.2.2.2.2.1<;>rfl
  · simp only[dnl,a2_]
  refine bu_ r.2.2.2.2.2.1 (λi x=>sm_ (ng_ r.2.1 x.2.1 x.2.2) 27 (cOk r.2.1 x.1) 25) (λi y hy => ?_) ?_ (el_ ?_)
  · have hi:=am_ hy
    simp only[dlt hi,a5_,ah_ hy,a0_,ba_ (show Sm i from c6_ (g2_ hi) h.au),pc_ h.th,jp_ h.th]
    unfold sm_
    cases ng_ r.2.1 y.2.1 y.2.2 with
    | false=>rfl
    | true=>cases cOk r.2.1 y.1<;>rfl
  · simp only[dnl,a2_]
  rw[dt_,a0_,jp_ h.th,a0_]
  cases wi r.2.2.2.2.2.2.1 1 4 with
  | false=>rfl
  | true=>cases cOk r.2.1 r.2.2.2.2.2.2.2<;>rfl
end
section
theorem uc_ {α ρ σ τ:Type} (l:List α) (k:Nat) (hk:k≤l.length) (p:Nat→α→Option ρ) (F:Nat→σ) {r0:ρ} {body:σ→Option (σ⊕ρ)} {K:ρ→Option τ} {x:Option τ}
    (h:∀ i x,i<k→l[i]?=some x→body (F i)=some (match p i x with | none=>.inl (F (i+1)) | some r=>.inr r)) (e:body (F k)=some (.inr r0)) (hx:K ((ga_ p 0 (l.take k)).getD r0)=x) :
    (ag_ body (F 0)).bind K=x:=by
  have hle:(l.take k).length=k:=by rw[c9_];omega
  refine bn_ (l.take k) p F (λi x hx => ?_) (by rw[hle];exact e) hx
  rw[j5_] at hx
  split at hx
  · exact h i x ‹_› hx
  · cases hx
theorem bn5 {r:ae_} (h:SmR r) {i:Nat} {a:cv_} (ha:r.2.2.2.2.1[i]?=some a):ms_ r (i:Int)=some (uo_ r i a,()):=by
  have hi:=am_ ha
  have hac:=h.ac
  obtain⟨s1,s2,s3,s4,s5,s6⟩:=h.acn a (ax_ ha)
  unfold ms_
  rw[ah_ ha,a0_]
  refine uc_ r.2.2.2.2.1 i (g2_ hi) (λ_ y=>cond (y.1==a.1) (some (inr (false,()):Unit⊕(Bool×Unit))) none) (λi=>((i:Int),())) (r0:=inl ()) (λk y hk hy => ?_) ?_ ?_
  · simp only[dlt hk,a5_,ah_ hy,a0_,ba_ (show Sm k by omega)]
    cases y.1==a.1<;>rfl
  · simp only[dnl,a2_]
  rw[hd_ (q:=λy:cv_=>y.1==a.1)]
  unfold uo_ frN twN
  cases (r.2.2.2.2.1.take i).any λy=>y.1==a.1 with
  | true=>rw[e5_,g0_,e9_];rfl
  | false =>
  simp only[a2_,j7_,zx_,g4_,i3_]
  refine e4_ (congrArg (λo=>Option.bind o _) (?_:_=some (!(okN a.1&&(rw_ r a.2.1&&(wi a.2.2.1 (-1) 7&&(kp_ r.2.2.1.length a.2.2.2.1&&(kp_ r.2.2.1.length a.2.2.2.2.2.2.1&&(kp_ r.2.2.1.length a.2.2.2.2.2.2.2&&!(decide (6<(a.2.2.2.2.2.1.length:Int))))))))),()))) ?_
  · simp only[jw_ s1,hr_,fk_,jv_ h.pr s2,jv_ h.pr s5,jv_ h.pr s6,a0_]
    unfold rw_
    cases okN a.1 with
    | false=>rfl
    | true =>
    cases wi a.2.1 0 (w64 ((r.1.length:Int) - 1)) with
    | false=>rfl
    | true =>
    cases wi a.2.2.1 (-1) 7 with
    | false=>rfl
    | true =>
    cases kp_ r.2.2.1.length a.2.2.2.1 with
    | false=>rfl
    | true =>
    cases kp_ r.2.2.1.length a.2.2.2.2.2.2.1 with
    | false=>rfl
    | true =>
    cases kp_ r.2.2.1.length a.2.2.2.2.2.2.2 with
    | false=>rfl
    | true=>simp
  rw[a0_]
  cases okN a.1 with
  | false=>rfl
  | true =>
  cases rw_ r a.2.1 with
  | false=>rfl
  | true =>
  cases wi a.2.2.1 (-1) 7 with
  | false=>rfl
  | true =>
  cases kp_ r.2.2.1.length a.2.2.2.1 with
  | false=>rfl
  | true =>
  cases kp_ r.2.2.1.length a.2.2.2.2.2.2.1 with
  | false=>rfl
  | true =>
  cases kp_ r.2.2.1.length a.2.2.2.2.2.2.2 with
  | false=>rfl
  | true =>
  cases decide (6<(a.2.2.2.2.2.1.length:Int)) with
  | true=>rfl
  | false =>
  simp only[c2_,e5_,g4_,a2_]
  refine bn_ a.2.2.2.2.2.2.1 (λ_ y=>cond (a.2.2.2.1.contains y) none (some (inr (false,()):Unit⊕(Bool×Unit)))) (λi=>((i:Int),())) (r0:=inl ()) (λk y hy => ?_) ?_ ?_
  · have hk:=am_ hy
    simp only[dlt hk,a5_,ah_ hy,a0_,ba_ (show Sm k by omega),ax7 s2]
    cases a.2.2.2.1.contains y<;>rfl
  · simp only[dnl,a2_]
  rw[ja_ (q:=λy=>a.2.2.2.1.contains y)]
  cases a.2.2.2.2.2.2.1.all λy=>a.2.2.2.1.contains y with
  | false=>rfl
  | true =>
  simp only[a5_,j7_,zx_,c2_]
  refine bn_ a.2.2.2.2.2.2.2 (λ_ y=>cond (a.2.2.2.1.contains y) (some (inr (false,()):Unit⊕(Bool×Unit))) none) (λi=>((i:Int),())) (r0:=inl ()) (λk y hy => ?_) ?_ ?_
  · have hk:=am_ hy
    simp only[dlt hk,a5_,ah_ hy,a0_,ba_ (show Sm k by omega),ax7 s2]
    cases a.2.2.2.1.contains y<;>rfl
  · simp only[dnl,a2_]
  rw[hd_ (q:=λy=>a.2.2.2.1.contains y)]
  cases a.2.2.2.2.2.2.2.any λy=>a.2.2.2.1.contains y with
  | true=>rfl
  | false =>
  simp only[a2_,j7_,zx_,g4_,c2_]
  refine bn_ a.2.2.2.2.2.1 (λi x=>cond (rf_ r a.2.2.2.2.2.1 i x) none (some (inr (false,()):Unit⊕(Bool×Unit)))) (λi=>((i:Int),())) (r0:=inl ()) (λk y hy => ?_) ?_ ?_
  · have hk:=am_ hy
    simp only[dlt hk,a5_,ah_ hy,a0_,ba_ (show Sm k by omega),rk_ h.th]
    unfold rf_
    cases ng_ r.2.1 y.1 y.2 with
    | false=>rfl
    | true =>
    simp only[e5_,a2_,c2_]
    refine uc_ a.2.2.2.2.2.1 k (g2_ hk) (λ_ z=>cond (z.1==y.1) (some (inr (inr (inr (false,()))):Unit⊕((Int×Unit)⊕(Unit⊕(Bool×Unit))))) none) (λi=>((i:Int),())) (r0:=inl ()) (λn z hn hz => ?_) ?_ ?_
    · simp only[dlt hn,a5_,ah_ hz,a0_,ba_ (show Sm n by omega)]
      cases z.1==y.1<;>rfl
    · simp only[dnl,a2_]
    rw[hd_ (q:=λz:ab_=>z.1==y.1)]
    cases (a.2.2.2.2.2.1.take k).any λz=>z.1==y.1<;>rfl
  · simp only[dnl,a2_]
  rw[so_]
  cases (ga_ (λi x=>cond (rf_ r a.2.2.2.2.2.1 i x) none (some ())) 0 a.2.2.2.2.2.1).isNone<;>rfl
theorem ak0 {α:Type} {nm:α→List UInt8} {l:List α} (hl:Sm l.length) {i:Nat} {x:α} (hx:l[i]?=some x):push? (α:=List UInt8) ((l.take i).map nm) [nm x]=some ((l.take (i+1)).map nm):=by
  have hi:=am_ hx
  unfold push?
  rw[if_pos (by
    simp only[d6_,c9_,d5_]
    omega)]
  rw[d7_,hx,j2_]
  rfl
theorem bk5 {α:Type} {nm:α→List UInt8} {l:List α} {i:Nat} {t:List UInt8}:twN id ((l.take (i+1)).map nm) i t=twN nm l i t:=by
  unfold twN
  rw[← List.map_take,List.take_take,Nat.min_eq_left (Nat.le_succ i),List.any_map]
  rfl
theorem cr6 {α:Type} {nm:α→List UInt8} {l:List α} {i:Nat} {x:α} (hx:l[i]?=some x):((l.take (i+1)).map nm)[i]?=some (nm x):=by
  rw[d8_,j5_,if_pos (Nat.lt_succ_self i),hx]
  rfl
theorem qi_ {r:ae_} (h:SmR r):fp_ r=some (cy_ r,()):=by
  unfold fp_
  refine e4_ (congrArg (λo=>Option.bind o _) (bs9 r)) ?_
  rw[a0_]
  unfold cy_
  cases ad1 r with
  | true=>rfl
  | false =>
  simp only[a2_]
  cases he:(r.1.length:Int)==0 with
  | true =>
    have:r.1=[]:=by
      have:=f4_.1 he
      exact g9_ (by omega)
    rw[this]
    rfl
  | false =>
  simp only[a2_]
  refine bu_ r.1 (λi x=>kl_ (plOk r i x) 22) (λi y hy => ?_) ?_ (el_ ?_)
  · have hi:=am_ hy
    simp only[dlt hi,a5_,ah_ hy,a0_,ba_ (show Sm i from c6_ (g2_ hi) h.pl),jw_ (h.pln y (ax_ hy)),qh_ h.pl hy]
    unfold kl_ plOk frN
    cases okN y with
    | false=>rfl
    | true=>cases twN id r.1 i y<;>rfl
  · simp only[dnl,a2_]
  refine zt_ r.2.1 (λi x=>kl_ (bk7 r i x) 21) (λi=>(r.2.1.take i).map (·.1)) rfl (λi y hy => ?_) ?_ (el_ ?_)
  · have hi:=am_ hy
    have hs:Sm ((r.2.1.take (i+1)).map (·.1)).length:=by
      rw[d6_,c9_]
      exact c6_ (m7_ _ _) h.th
    simp only[dlt hi,a5_,ah_ hy,a0_,ba_ (show Sm i from c6_ (g2_ hi) h.th),ak0 h.th hy,jw_ (h.thn y (ax_ hy)),qh_ hs (cr6 hy),bk5,hr_,fk_]
    unfold kl_ bk7 frN rw_
    cases okN y.1 with
    | false=>rfl
    | true =>
    cases twN (·.1) r.2.1 i y.1 with
    | true=>rfl
    | false =>
    cases wi y.2.1 0 (w64 ((r.1.length:Int) - 1)) with
    | false=>rfl
    | true =>
    cases wi y.2.2.1 2 6 with
    | false=>rfl
    | true=>cases wi y.2.2.2 0 (w64 (y.2.2.1 - 1))<;>rfl
  · simp only[dnl,a2_]
  refine zt_ r.2.2.1 (λi x=>sm_ (ch5 r i x) 24 (cOk r.2.1 x.2.2) 25) (λi=>(r.2.2.1.take i).map (·.1)) rfl (λi y hy => ?_) ?_ (el_ ?_)
  · have hi:=am_ hy
    obtain⟨s1,s2⟩:=h.prn y (ax_ hy)
    have hs:Sm ((r.2.2.1.take (i+1)).map (·.1)).length:=by
      rw[d6_,c9_]
      exact c6_ (m7_ _ _) h.pr
    simp only[dlt hi,a5_,ah_ hy,a0_,ba_ (show Sm i from c6_ (g2_ hi) h.pr),ak0 h.pr hy,jw_ s1,qh_ hs (cr6 hy),bk5,hr_,gs_ h.th s2]
    unfold sm_ ch5 frN rw_
    cases okN y.1 with
    | false=>rfl
    | true =>
    cases twN (·.1) r.2.2.1 i y.1 with
    | true=>rfl
    | false =>
    have e:(y.2.1 != -1) = !(y.2.1==-1):=rfl
    rw[e]
    cases y.2.1==-1 with
    | true =>
      cases wi y.2.1 0 (w64 ((r.1.length:Int) - 1))<;>cases cOk r.2.1 y.2.2<;>rfl
    | false =>
      cases wi y.2.1 0 (w64 ((r.1.length:Int) - 1))<;>cases cOk r.2.1 y.2.2<;>rfl
  · simp only[dnl,a2_]
  refine bu_ r.2.2.2.1 (λi x=>sm_ (cd0 r x) 23 (cOk r.2.1 x.2.2) 25) (λi y hy => ?_) ?_ (el_ ?_)
  · have hi:=am_ hy
    simp only[dlt hi,a5_,ah_ hy,a0_,ba_ (show Sm i from c6_ (g2_ hi) h.wy),hr_,gs_ h.th (h.wyn y (ax_ hy))]
    unfold sm_ cd0 rw_
    cases wi y.1 0 (w64 ((r.1.length:Int) - 1)) with
    | false=>rfl
    | true =>
    cases wi y.2.1 0 (w64 ((r.1.length:Int) - 1)) with
    | false=>rfl
    | true=>cases y.1==y.2.1<;>cases cOk r.2.1 y.2.2<;>rfl
  · simp only[dnl,a2_]
  refine bu_ r.2.2.2.2.1 (λi x=>sm_ (uo_ r i x) 26 (cOk r.2.1 x.2.2.2.2.1) 25) (λi y hy => ?_) ?_ (el_ ?_)
  · have hi:=am_ hy
    simp only[dlt hi,a5_,ah_ hy,a0_,ba_ (show Sm i from c6_ (g2_ hi) h.ac),bn5 h hy,gs_ h.th (h.acn y (ax_ hy)).2.2.1]
    unfold sm_
    cases uo_ r i y with
    | false=>rfl
    | true=>cases cOk r.2.1 y.2.2.2.2.1<;>rfl
  · simp only[dnl,a2_]
  refine bu_ r.2.2.2.2.2.1 (λi x=>sm_ (ng_ r.2.1 x.2.1 x.2.2) 27 (cOk r.2.1 x.1) 25) (λi y hy => ?_) ?_ (el_ ?_)
  · have hi:=am_ hy
    simp only[dlt hi,a5_,ah_ hy,a0_,ba_ (show Sm i from c6_ (g2_ hi) h.au),rk_ h.th,gs_ h.th (h.aun y (ax_ hy))]
    unfold sm_
    cases ng_ r.2.1 y.2.1 y.2.2 with
    | false=>rfl
    | true=>cases cOk r.2.1 y.1<;>rfl
  · simp only[dnl,a2_]
  rw[fk_,a0_,gs_ h.th h.go,a0_]
  cases wi r.2.2.2.2.2.2.1 1 4 with
  | false=>rfl
  | true=>cases cOk r.2.1 r.2.2.2.2.2.2.2<;>rfl
end
section
theorem jc_ {α τ:Type} (l:List α) (hl:Sm l.length) (q:α→Bool) {body:(Int×Unit)→Option ((Int×Unit)⊕(Unit⊕(Bool×Unit)))} {K:(Unit⊕(Bool×Unit))→Option τ} {x:Option τ}
    (h:∀ (i:Nat) y,l[i]?=some y→body ((i:Int),())=some (cond (q y) (.inr (.inr (true,()))) (.inl (w64 ((i:Int)+1),())))) (e:body ((l.length:Int),())=some (.inr (.inl ()))) (hx:K (cond (l.any q) (.inr (true,())) (.inl ()))=x) :
    (ag_ body (0,())).bind K=x:=by
  refine bn_ l (λi y=>cond (q y) (some (inr (true,()):Unit⊕(Bool×Unit))) none) (λi=>((i:Int),())) (r0:=inl ()) (λi y hy => ?_) e ?_
  · have hi:=am_ hy
    rw[h i y hy,ba_ (show Sm i by omega)]
    cases q y<;>rfl
  · rw[hd_ (q:=q)]
    cases hq:l.any q<;>rw[hq] at hx<;>exact hx
theorem hm_ {α:Type} {l:List α} {q:α→Bool} (h:l.any q=false):∀ x ∈ l,q x=false:=by
  intro x hx
  cases hq:q x with
  | false=>rfl
  | true=>rw[h4_.2 ⟨x,hx,hq⟩] at h;cases h
theorem nlt {n:Nat} {k:Int} (h:decide (k<(n:Int))=false) (hk:k≤1000000000):Sm n:=by
  have:=e2_ h
  omega
def ck1 (r:ae_):Bool:=decide (12<(r.1.length:Int))||(decide (15<(r.2.1.length:Int))||(decide (14<(r.2.2.1.length:Int))||(decide (20<(r.2.2.2.1.length:Int))||(decide (30<(r.2.2.2.2.1.length:Int))||(decide (15<(r.2.2.2.2.2.1.length:Int))||decide (20<(r.2.2.2.2.2.2.2.length:Int)))))))
theorem ck0 (r:ae_):(cond (decide (12<(r.1.length:Int)))
 (some (true,()))
 (cond (decide (15<(r.2.1.length:Int)))
 (some (true,()))
 (cond (decide (14<(r.2.2.1.length:Int)))
 (some (true,()))
 (cond (decide (20<(r.2.2.2.1.length:Int)))
 (some (true,()))
 (cond (decide (30<(r.2.2.2.2.1.length:Int)))
 (some (true,()))
 (cond (decide (15<(r.2.2.2.2.2.1.length:Int)))
 (some (true,()))
 (some ((decide (20<(r.2.2.2.2.2.2.2.length:Int))),()))))))))=some (ck1 r,()):=by
  unfold ck1
  cases decide (12<(r.1.length:Int)) with
  | true=>rfl
  | false =>
  cases decide (15<(r.2.1.length:Int)) with
  | true=>rfl
  | false =>
  cases decide (14<(r.2.2.1.length:Int)) with
  | true=>rfl
  | false =>
  cases decide (20<(r.2.2.2.1.length:Int)) with
  | true=>rfl
  | false =>
  cases decide (30<(r.2.2.2.2.1.length:Int)) with
  | true=>rfl
  | false =>
  cases decide (15<(r.2.2.2.2.2.1.length:Int)) with
  | true=>rfl
  | false=>rfl
theorem bt9 (r:ae_):∃ b,mv_ r=some (b,())∧(b=false→SmR r∧r.2.1.length≤15∧r.2.2.2.2.2.2.2.length≤20∧r.2.2.2.2.1.length≤30):=by
  unfold mv_
  have e0:=ck0 r
  cases hm:ck1 r with
  | true =>
    rw[hm] at e0
    exact⟨true,e4_ (congrArg (λo=>Option.bind o _) e0) rfl,λh=>by cases h⟩
  | false =>
  rw[hm] at e0
  unfold ck1 at hm
  simp only[c0_] at hm
  obtain⟨h1,h2,h3,h4,h5,h6,h7⟩:=hm
  have l1:=nlt h1 (by decide)
  have l2:=nlt h2 (by decide)
  have l3:=nlt h3 (by decide)
  have l4:=nlt h4 (by decide)
  have l5:=nlt h5 (by decide)
  have l6:=nlt h6 (by decide)
  have l7:=nlt h7 (by decide)
  have b2:=e2_ h2
  have b5:=e2_ h5
  have b7:=e2_ h7
  let qa:cv_→Bool:=λy=>decide (100<(y.1.length:Int))||(decide (20<(y.2.2.2.2.1.length:Int))||(decide (20<(y.2.2.2.1.length:Int))||(decide (20<(y.2.2.2.2.2.1.length:Int))||(decide (20<(y.2.2.2.2.2.2.1.length:Int))||decide (20<(y.2.2.2.2.2.2.2.length:Int))))))
  let b1:=r.1.any λx=>decide (100<(x.length:Int))
  let bt:=r.2.1.any λx=>decide (100<(x.1.length:Int))
  let bp:=r.2.2.1.any λx=>decide (100<(x.1.length:Int))||decide (20<(x.2.2.length:Int))
  let bw:=r.2.2.2.1.any λx=>decide (20<(x.2.2.length:Int))
  let ba:=r.2.2.2.2.1.any qa
  let bo:=r.2.2.2.2.2.1.any λx=>decide (20<(x.1.length:Int))
  refine⟨b1||(bt||(bp||(bw||(ba||bo)))),?_,?_⟩
  · refine e4_ (congrArg (λo=>Option.bind o _) e0) ?_
    rw[a0_]
    simp only[a2_]
    refine jc_ r.1 l1 (λx=>decide (100<(x.length:Int))) (λi y hy => ?_) ?_ ?_
    · simp only[dlt (am_ hy),a5_,ah_ hy,a0_]
      cases decide (100<(y.length:Int))<;>rfl
    · simp only[dnl,a2_]
    show cd_ (cond b1 _ _) _ _=_
    cases b1 with
    | true=>rfl
    | false =>
    refine jc_ r.2.1 l2 (λx=>decide (100<(x.1.length:Int))) (λi y hy => ?_) ?_ ?_
    · simp only[dlt (am_ hy),a5_,ah_ hy,a0_]
      cases decide (100<(y.1.length:Int))<;>rfl
    · simp only[dnl,a2_]
    show cd_ (cond bt _ _) _ _=_
    cases bt with
    | true=>rfl
    | false =>
    refine jc_ r.2.2.1 l3 (λx=>decide (100<(x.1.length:Int))||decide (20<(x.2.2.length:Int))) (λi y hy => ?_) ?_ ?_
    · simp only[dlt (am_ hy),a5_,ah_ hy,a0_]
      cases decide (100<(y.1.length:Int)) with
      | true=>rfl
      | false=>cases decide (20<(y.2.2.length:Int))<;>rfl
    · simp only[dnl,a2_]
    show cd_ (cond bp _ _) _ _=_
    cases bp with
    | true=>rfl
    | false =>
    refine jc_ r.2.2.2.1 l4 (λx=>decide (20<(x.2.2.length:Int))) (λi y hy => ?_) ?_ ?_
    · simp only[dlt (am_ hy),a5_,ah_ hy,a0_]
      cases decide (20<(y.2.2.length:Int))<;>rfl
    · simp only[dnl,a2_]
    show cd_ (cond bw _ _) _ _=_
    cases bw with
    | true=>rfl
    | false =>
    refine jc_ r.2.2.2.2.1 l5 qa (λi y hy => ?_) ?_ ?_
    · simp only[dlt (am_ hy),a5_,ah_ hy,a0_,qa]
      cases decide (100<(y.1.length:Int)) with
      | true=>rfl
      | false =>
      cases decide (20<(y.2.2.2.2.1.length:Int)) with
      | true=>rfl
      | false =>
      cases decide (20<(y.2.2.2.1.length:Int)) with
      | true=>rfl
      | false =>
      cases decide (20<(y.2.2.2.2.2.1.length:Int)) with
      | true=>rfl
      | false =>
      cases decide (20<(y.2.2.2.2.2.2.1.length:Int)) with
      | true=>rfl
      | false=>cases decide (20<(y.2.2.2.2.2.2.2.length:Int))<;>rfl
    · simp only[dnl,a2_]
    show cd_ (cond ba _ _) _ _=_
    cases ba with
    | true=>rfl
    | false =>
    refine jc_ r.2.2.2.2.2.1 l6 (λx=>decide (20<(x.1.length:Int))) (λi y hy => ?_) ?_ ?_
    · simp only[dlt (am_ hy),a5_,ah_ hy,a0_]
      cases decide (20<(y.1.length:Int))<;>rfl
    · simp only[dnl,a2_]
    show cd_ (cond bo _ _) _ _=_
    cases bo<;>rfl
  · intro hb
    simp only[c0_] at hb
    obtain⟨g1,g2,g3,g4,g5,g6⟩:=hb
    refine⟨⟨l1,l2,l3,l4,l5,l6,l7,λx hx=>nlt (hm_ g1 x hx) (by decide),λx hx=>nlt (hm_ g2 x hx) (by decide),λx hx => ?_,λx hx=>nlt (hm_ g4 x hx) (by decide),λx hx => ?_,λx hx=>nlt (hm_ g6 x hx) (by decide)⟩,by omega,by omega,by omega⟩
    · have:=hm_ g3 x hx
      simp only[c0_] at this
      exact⟨nlt this.1 (by decide),nlt this.2 (by decide)⟩
    · have:=hm_ g5 x hx
      simp only[qa,c0_] at this
      obtain⟨a1,a2,a3,a4,a5,a6⟩:=this
      exact⟨nlt a1 (by decide),nlt a3 (by decide),nlt a2 (by decide),nlt a4 (by decide),nlt a5 (by decide),nlt a6 (by decide)⟩
structure SmG (g:ad_):Prop where
  room:SmR g.1
  th:g.1.2.1.length≤15
  go:g.1.2.2.2.2.2.2.2.length≤20
  ac:g.1.2.2.2.2.1.length≤30
  lk:g.2.1.length≤10
  cd:g.2.2.1.length≤10
  nt:g.2.2.2.1.length≤20
  lkn:∀ x ∈ g.2.1,¬ (3<x.1∧5<x.2)
  cdn:∀ x ∈ g.2.2.1,x.length≤10
  ntn:∀ x ∈ g.2.2.2.1,x.1.length≤100∧x.2.2.2.1.length≤20∧x.2.2.2.2.2.2.2.2.2.1.length≤10
theorem bt8 (g:ad_):∃ b,kj_ g=some (b,())∧(b=false→SmG g):=by
  unfold kj_
  obtain⟨b0,e0,h0⟩:=bt9 g.1
  rw[e0]
  simp only[a0_]
  cases b0 with
  | true=>exact⟨true,rfl,λh=>by cases h⟩
  | false =>
  obtain⟨r1,r2,r3,r4⟩:=h0 rfl
  cases h1:decide (10<(g.2.1.length:Int)) with
  | true=>exact⟨true,rfl,λh=>by cases h⟩
  | false =>
  cases h2:decide (10<(g.2.2.1.length:Int)) with
  | true=>exact⟨true,rfl,λh=>by cases h⟩
  | false =>
  cases h3:decide (20<(g.2.2.2.1.length:Int)) with
  | true=>exact⟨true,rfl,λh=>by cases h⟩
  | false =>
  have l1:=nlt h1 (by decide)
  have l2:=nlt h2 (by decide)
  have l3:=nlt h3 (by decide)
  let ql:ab_→Bool:=λy=>decide (3<y.1)&&decide (5<y.2)
  let qn:cp_→Bool:=λy=>decide (100<(y.1.length:Int))||(decide (20<(y.2.2.2.1.length:Int))||decide (10<(y.2.2.2.2.2.2.2.2.2.1.length:Int)))
  let b1:=g.2.1.any ql
  let b2:=g.2.2.1.any λx=>decide (10<(x.length:Int))
  let b3:=g.2.2.2.1.any qn
  refine⟨b1||(b2||b3),?_,?_⟩
  · simp only[a0_,a2_]
    refine jc_ g.2.1 l1 ql (λi y hy => ?_) ?_ ?_
    · simp only[dlt (am_ hy),a5_,ah_ hy,a0_,ql]
      cases decide (3<y.1) with
      | false=>rfl
      | true=>cases decide (5<y.2)<;>rfl
    · simp only[dnl,a2_]
    show cd_ (cond b1 _ _) _ _=_
    cases b1 with
    | true=>rfl
    | false =>
    refine jc_ g.2.2.1 l2 (λx=>decide (10<(x.length:Int))) (λi y hy => ?_) ?_ ?_
    · simp only[dlt (am_ hy),a5_,ah_ hy,a0_]
      cases decide (10<(y.length:Int))<;>rfl
    · simp only[dnl,a2_]
    show cd_ (cond b2 _ _) _ _=_
    cases b2 with
    | true=>rfl
    | false =>
    refine jc_ g.2.2.2.1 l3 qn (λi y hy => ?_) ?_ ?_
    · simp only[dlt (am_ hy),a5_,ah_ hy,a0_,qn]
      cases decide (100<(y.1.length:Int)) with
      | true=>rfl
      | false =>
      cases decide (20<(y.2.2.2.1.length:Int)) with
      | true=>rfl
      | false=>cases decide (10<(y.2.2.2.2.2.2.2.2.2.1.length:Int))<;>rfl
    · simp only[dnl,a2_]
    show cd_ (cond b3 _ _) _ _=_
    cases b3<;>rfl
  · intro hb
    simp only[c0_] at hb
    obtain⟨g1,g2,g3⟩:=hb
    have c1:=e2_ h1
    have c2:=e2_ h2
    have c3:=e2_ h3
    refine⟨r1,r2,r3,r4,by omega,by omega,by omega,λx hx => ?_,λx hx => ?_,λx hx => ?_⟩
    · have:=hm_ g1 x hx
      intro hc
      simp only[ql,b5_ hc.1,b5_ hc.2] at this
      cases this
    · have:=e2_ (hm_ g2 x hx)
      omega
    · have:=hm_ g3 x hx
      simp only[qn,c0_] at this
      have d1:=e2_ this.1
      have d2:=e2_ this.2.1
      have d3:=e2_ this.2.2
      omega
end
end Go.Proofs.YtgeehfnbhbibeaaGreatDoor.Rx
namespace Go.Proofs.YtgeehfnbhbibeaaGreatDoor.Rx
open Go Pad Rex Go.Proofs Go.Proofs.Tryz Sum
section
set_option maxRecDepth 100000
set_option maxHeartbeats 0
noncomputable def hg_ (a0:ad_):Option (Int×Unit) :=
 ((fp_ a0.1).bind λv0 =>
 (cond (v0.1 != 0)
 (some (v0.1,()))
 (((cond (decide (8<(a0.2.1.length:Int)))
 (some (true,()))
 (some ((decide (16<(a0.2.2.2.1.length:Int))),())))).bind λv1 =>
 (cond v1.1
 (some (2,()))
 ((ag_ (ρ:=(Unit⊕(Int×Unit))) (λ(v2:(Int×Unit)) =>
 (cond (decide (v2.1<(a0.2.1.length:Int)))
 ((at? a0.2.1 v2.1).bind λv3 =>
 ((ed_ v3).bind λv4 =>
 (cond (v4.1 != 0)
 (some (inr (inr (v4.1,()))))
 (some (inl ((w64 (v2.1+1)),()))))))
 (some (inr (inl ()))))) (0,())).bind λv5 =>
 (cd_ v5 (λv6=>(cond ((a0.2.2.1.length:Int) != (a0.2.1.length:Int))
 (some (12,()))
 ((ag_ (ρ:=(Unit⊕(Int×Unit))) (λ(v8:(Int×Unit)) =>
 (cond (decide (v8.1<(a0.2.2.1.length:Int)))
 ((at? a0.2.1 v8.1).bind λv9 =>
 ((at? a0.2.2.1 v8.1).bind λv10 =>
 ((fq_ v9 v10).bind λv11 =>
 (cond (v11.1 != 0)
 (some (inr (inr (12,()))))
 (some (inl ((w64 (v8.1+1)),())))))))
 (some (inr (inl ()))))) (0,())).bind λv12 =>
 (cd_ v12 (λv13=>((ag_ (ρ:=(Unit⊕(Int×Unit))) (λ(v15:(Int×Unit)) =>
 (cond (decide (v15.1<(a0.1.2.2.2.2.1.length:Int)))
 ((at? a0.1.2.2.2.2.1 v15.1).bind λv16 =>
 (cond (decide ((a0.2.1.length:Int)≤v16.2.2.1))
 (some (inr (inr (26,()))))
 (some (inl ((w64 (v15.1+1)),())))))
 (some (inr (inl ()))))) (0,())).bind λv17 =>
 (cd_ v17 (λv18=>((ag_ (ρ:=(Unit⊕(Int×Unit))) (λ(v20:(Int×Unit)) =>
 (cond (decide (v20.1<(a0.2.2.2.1.length:Int)))
 ((jd_ a0 v20.1).bind λv21 =>
 (cond (!v21.1)
 (some (inr (inr (40,()))))
 ((at? a0.2.2.2.1 v20.1).bind λv22 =>
 ((ct_ a0.1 v22.2.2.2.1).bind λv23 =>
 (cond (!v23.1)
 (some (inr (inr (25,()))))
 (some (inl ((w64 (v20.1+1)),()))))))))
 (some (inr (inl ()))))) (0,())).bind λv24 =>
 (cd_ v24 (λv25=>((ik_ a0.2.2.2.2 1 100).bind λv27 =>
 (cond (!v27.1)
 (some (1,()))
 (some (0,())))))
 (λv26=>(some v26)))))
 (λv19=>(some v19)))))
 (λv14=>(some v14))))))
 (λv7=>(some v7))))))))
theorem x_24:au_ (P:=prog) (cxC [c_52,c_53,c_54,c_55,c_56,c_57] []) (.p .z (.p .z (.p .z (.p (.j0 [.v 24 .bool] .z .z) (.p (.p .z (.ls [.v 4 .int] [] [] 0 .z)) (.p .z (.p (.p .z (.ls [.v 6 .int] [] [] 2 (.p .z (.p (.p (.q [] .z .z) .z) .z)))) (.p (.p .z (.ls [.v 7 .int] [] [] 4 (.p .z (.p (.p (.q [] .z .z) .z) .z)))) (.p (.p .z (.ls [.v 8 .int] [] [] 6 (.p .z (.p (.p .z (.p (.q [] .z .z) .z)) .z)))) .z))))))))) 24 [ao_] [.int]=λx=>hg_ x.1:=by kernel_rfl
noncomputable def c_24:Con prog:=aw_ _ _ 24 [ao_] [.int] _ x_24
noncomputable def ep_ (a0:ae_) (a1:ai_):Option (Int×Unit) :=
 ((fp_ a0).bind λv0 =>
 (cond (v0.1 != 0)
 (some (v0.1,()))
 (((cond ((a1.1.length:Int) != (a0.2.1.length:Int))
 (some (true,()))
 (cond ((a1.2.1.length:Int) != (a0.2.2.1.length:Int))
 (some (true,()))
 (some (((a1.2.2.length:Int) != a0.2.2.2.2.2.2.1),()))))).bind λv1 =>
 (cond v1.1
 (some (28,()))
 ((ag_ (ρ:=(Unit⊕(Int×Unit))) (λ(v2:(Int×Unit)) =>
 (cond (decide (v2.1<(a1.1.length:Int)))
 ((at? a1.1 v2.1).bind λv3 =>
 ((gn_ a0 v2.1 v3).bind λv4 =>
 (cond (!v4.1)
 (some (inr (inr (28,()))))
 (some (inl ((w64 (v2.1+1)),()))))))
 (some (inr (inl ()))))) (0,())).bind λv5 =>
 (cd_ v5 (λv6=>((ag_ (ρ:=(Unit⊕(Int×Unit))) (λ(v8:(Int×Unit)) =>
 (cond (decide (v8.1<(a1.2.1.length:Int)))
 ((at? a1.2.1 v8.1).bind λv9 =>
 ((((cs_ a0 v9).bind λv10 =>
 (cond (!v10.1)
 (cond (v9 != (-1))
 ((bs_ v9 (w64 ((w64 ((-2) - a0.2.2.2.2.2.2.1))+1)) (-2)).bind λv11 =>
 (some ((!v11.1),())))
 (some (false,())))
 (some (false,()))))).bind λv12 =>
 (cond v12.1
 (some (inr (inr (28,()))))
 (some (inl ((w64 (v8.1+1)),()))))))
 (some (inr (inl ()))))) (0,())).bind λv13 =>
 (cd_ v13 (λv14=>((ag_ (ρ:=(Unit⊕(Int×Unit))) (λ(v16:(Int×Unit)) =>
 (cond (decide (v16.1<(a1.2.2.length:Int)))
 ((at? a1.2.2 v16.1).bind λv17 =>
 ((cs_ a0 v17).bind λv18 =>
 (cond (!v18.1)
 (some (inr (inr (28,()))))
 (some (inl ((w64 (v16.1+1)),()))))))
 (some (inr (inl ()))))) (0,())).bind λv19 =>
 (cd_ v19 (λv20=>(some (0,())))
 (λv21=>(some v21)))))
 (λv15=>(some v15)))))
 (λv7=>(some v7))))))))
theorem x_158:au_ (P:=prog) (cxC [c_52,c_83,c_84,c_86] []) (.p .z (.p .z (.p .z (.p (.j0 [.v 38 .bool] .z .z) (.p (.p .z (.ls [.v 6 .int] [] [] 0 (.p .z (.p (.p (.q [] .z .z) .z) .z)))) (.p (.p .z (.ls [.v 7 .int] [] [] 2 (.p .z (.p (.p .z (.j0 [.v 83 .bool] .z .z)) .z)))) (.p (.p .z (.ls [.v 9 .int] [] [] 4 (.p .z (.p (.p (.q [] .z .z) .z) .z)))) .z))))))) 158 [an_,aq_] [.int]=λx=>ep_ x.1 x.2.1:=by kernel_rfl
noncomputable def c_158:Con prog:=aw_ _ _ 158 [an_,aq_] [.int] _ x_158
noncomputable def jk_ (a0:ab_) (a1:(List ak_)):Option (Int×Int×Unit) :=
 ((er_ a0 a1).bind λv0 =>
 (cond (v0.1 != 0)
 (some (0,(v0.1,())))
 ((mt_ a0 a1).bind λv1 =>
 (some ((v1.1.length:Int),(0,()))))))
theorem x_203:au_ (P:=prog) (cxC [c_233,c_234] []) .z 203 [al_,(.list ap_)] [.int,.int]=λx=>jk_ x.1 x.2.1:=by kernel_rfl
noncomputable def c_203:Con prog:=aw_ _ _ 203 [al_,(.list ap_)] [.int,.int] _ x_203
noncomputable def jm_ (a0:ab_) (a1:ak_) (a2:(List Int)):Option (Bool×Int×Unit) :=
 ((fv_ a0 a1).bind λv0 =>
 (cond (v0.1 != 0)
 (some (false,(v0.1,())))
 ((dy_ a0 a2).bind λv1 =>
 (cond (v1.1 != 0)
 (some (false,(v1.1,())))
 ((ft_ a1 a2).bind λv2 =>
 (some (v2.1,(0,()))))))))
theorem x_183:au_ (P:=prog) (cxC [c_133,c_222,c_223] []) .z 183 [al_,ap_,(.list .int)] [.bool,.int]=λx=>jm_ x.1 x.2.1 x.2.2.1:=by kernel_rfl
noncomputable def c_183:Con prog:=aw_ _ _ 183 [al_,ap_,(.list .int)] [.bool,.int] _ x_183
noncomputable def ii_ (a0:ae_):Option (ai_×Int×Unit) :=
 ((fe_ a0).bind λv0 =>
 (cond (v0.1 != 0)
 (some (([],([],[])),(v0.1,())))
 ((mk? (α:=Int) a0.2.2.2.2.2.2.1 0).bind λv1 =>
 ((ag_ (ρ:=(((List Int)×Unit)×Unit)) (λ(v2:(Int×(((List Int)×Unit)×Unit))) =>
 (cond (decide (v2.1<(a0.2.1.length:Int)))
 ((at? a0.2.1 v2.1).bind λv3 =>
 ((push? (α:=Int) v2.2.1.1 [v3.2.2.2]).bind λv4 =>
 (some (inl ((w64 (v2.1+1)),((v4,()),()))))))
 (some (inr ((v2.2.1.1,()),()))))) (0,(([],()),()))).bind λv5 =>
 ((ag_ (ρ:=(((List Int)×Unit)×Unit)) (λ(v6:(Int×(((List Int)×Unit)×Unit))) =>
 (cond (decide (v6.1<(a0.2.2.1.length:Int)))
 ((at? a0.2.2.1 v6.1).bind λv7 =>
 ((push? (α:=Int) v6.2.1.1 [v7.2.1]).bind λv8 =>
 (some (inl ((w64 (v6.1+1)),((v8,()),()))))))
 (some (inr ((v6.2.1.1,()),()))))) (0,(([],()),()))).bind λv9 =>
 ((push? (α:=Int) [] v5.1.1).bind λv10 =>
 ((push? (α:=Int) [] v9.1.1).bind λv11 =>
 ((push? (α:=Int) [] v1).bind λv12 =>
 ((((ag_ (ρ:=(((List Int)×Unit)⊕(Bool×((List Int)×Unit)))) (λ(v13:(Int×((List Int)×Unit))) =>
 (cond (decide (v13.1<101))
 ((((ag_ (ρ:=(Unit⊕(Int×Unit))) (λ(v14:(Int×Unit)) =>
 (cond (decide (v14.1<(a0.2.2.2.2.2.1.length:Int)))
 ((at? a0.2.2.2.2.2.1 v14.1).bind λv15 =>
 ((((at? v13.2.1 v15.2.1).bind λv16 =>
 ((at? v13.2.1 v15.2.1).bind λv17 =>
 (cond (v17 != v15.2.2)
 ((bb_ (a0,(v13.2.1,(v11,v12))) v15.1).bind λv18 =>
 (some (v18.1,())))
 (some (false,())))))).bind λv19 =>
 (cond v19.1
 (some (inr (inr (v14.1,()))))
 (some (inl ((w64 (v14.1+1)),()))))))
 (some (inr (inl ()))))) (0,())).bind λv20 =>
 (cd_ v20 (λv21=>(some ((-1),())))
 (λv22=>(some v22))))).bind λv23 =>
 (cond (decide (v23.1<0))
 (some (inr (inr ((!true),(v13.2.1,())))))
 ((at? a0.2.2.2.2.2.1 v23.1).bind λv24 =>
 ((at? a0.2.2.2.2.2.1 v23.1).bind λv25 =>
 ((at? v13.2.1 v24.2.1).bind λv26 =>
 ((at? v13.2.1 v24.2.1).bind λv27 =>
 (some (inl ((w64 (v13.1+1)),((v13.2.1.set v24.2.1.toNat v25.2.2),()))))))))))
 (some (inr (inl (v13.2.1,())))))) (0,(v10,()))).bind λv28 =>
 (cd_ v28 (λv29=>(some ((!false),(v29.1,()))))
 (λv30=>(some v30))))).bind λv31 =>
 (cond v31.1
 (some (([],([],[])),(27,())))
 (some ((v31.2.1,(v11,v12)),(0,())))))))))))))
theorem x_101:au_ (P:=prog) (cxI (λk=>cond (Nat.beq k 137) (.p .z (.p (.j0 [.v 6 .bool,.o (.c (.s 0) 8) .int] .z .z) .z)) (cond (Nat.beq k 185) (.p .z (.p (.p .z (.ls [.v 4 .int] [] [.o (.c (.s 0) 8) .int] 0 (.p .z (.p .z (.p (.j0 [.v 3 .int] .z .z) .z))))) .z)) (cond (Nat.beq k 224) (.p .z (.p (.p .z (.ls [.v 8 .int] [] [] 0 .z)) .z)) (cond (Nat.beq k 225) (.p .z (.j0 [.v 3 .bool] .z .z)) (.z))))) (λk=>Nat.beq k 130||Nat.beq k 131||Nat.beq k 140||false) (cxC [bz9,c_131] [xr_]) 6) (.p .z (.p .z (.p .z (.p (.p .z (.lp [.v 23 .int] [] [.b (.s 5) [.row .int 3,.keep,.keep]] 0 .z)) (.p (.p .z (.lp [.v 38 .int] [] [.b (.s 5) [.keep,.row .int 3,.keep]] 2 .z)) .z))))) 101 [an_] [aq_,.int]=λx=>ii_ x.1:=by kernel_rfl
noncomputable def c_101:Con prog:=aw_ _ _ 101 [an_] [aq_,.int] _ x_101
noncomputable def bw_ (a0:ae_) (a1:ai_):Option (Int×Unit) :=
 ((fe_ a0).bind λv0 =>
 (cond (v0.1 != 0)
 (some (v0.1,()))
 (((cond ((a1.1.length:Int) != (a0.2.1.length:Int))
 (some (true,()))
 (cond ((a1.2.1.length:Int) != (a0.2.2.1.length:Int))
 (some (true,()))
 (some (((a1.2.2.length:Int) != a0.2.2.2.2.2.2.1),()))))).bind λv1 =>
 (cond v1.1
 (some (28,()))
 ((ag_ (ρ:=(Unit⊕(Int×Unit))) (λ(v2:(Int×Unit)) =>
 (cond (decide (v2.1<(a1.1.length:Int)))
 ((at? a1.1 v2.1).bind λv3 =>
 ((fa_ a0 v2.1 v3).bind λv4 =>
 (cond (!v4.1)
 (some (inr (inr (28,()))))
 (some (inl ((w64 (v2.1+1)),()))))))
 (some (inr (inl ()))))) (0,())).bind λv5 =>
 (cd_ v5 (λv6=>((ag_ (ρ:=(Unit⊕(Int×Unit))) (λ(v8:(Int×Unit)) =>
 (cond (decide (v8.1<(a1.2.1.length:Int)))
 ((at? a1.2.1 v8.1).bind λv9 =>
 ((be_ v9 (w64 ((w64 ((-2) - a0.2.2.2.2.2.2.1))+1)) (w64 ((a0.1.length:Int) - 1))).bind λv10 =>
 (cond (!v10.1)
 (some (inr (inr (28,()))))
 (some (inl ((w64 (v8.1+1)),()))))))
 (some (inr (inl ()))))) (0,())).bind λv11 =>
 (cd_ v11 (λv12=>((ag_ (ρ:=(Unit⊕(Int×Unit))) (λ(v14:(Int×Unit)) =>
 (cond (decide (v14.1<(a1.2.2.length:Int)))
 ((at? a1.2.2 v14.1).bind λv15 =>
 ((be_ v15 0 (w64 ((a0.1.length:Int) - 1))).bind λv16 =>
 (cond (!v16.1)
 (some (inr (inr (28,()))))
 (some (inl ((w64 (v14.1+1)),()))))))
 (some (inr (inl ()))))) (0,())).bind λv17 =>
 (cd_ v17 (λv18=>(some (0,())))
 (λv19=>(some v19)))))
 (λv13=>(some v13)))))
 (λv7=>(some v7))))))))
theorem x_128:au_ (P:=prog) (cxC [c_131,cn2,bz7] []) (.p .z (.p .z (.p (.j0 [.v 40 .bool] .z .z) (.p (.p .z (.ls [.v 44 .int] [] [] 0 .z)) (.p (.p .z (.ls [.v 58 .int] [] [] 2 .z)) (.p (.p .z (.ls [.v 77 .int] [] [] 4 .z)) .z)))))) 128 [an_,aq_] [.int]=λx=>bw_ x.1 x.2.1:=by kernel_rfl
noncomputable def ca0:Con prog:=aw_ _ _ 128 [an_,aq_] [.int] _ x_128
noncomputable def cz_ (a0:ab_) (a1:(List ak_)):Option (Int×Int×Unit) :=
 ((et_ a0 a1).bind λv0 =>
 (cond (v0.1 != 0)
 (some (0,(v0.1,())))
 ((es_ a0 a1).bind λv1 =>
 (some (v1.1,(0,()))))))
theorem x_231:au_ (P:=prog) (cxC [c_251,c_252] []) .z 231 [al_,(.list ap_)] [.int,.int]=λx=>cz_ x.1 x.2.1:=by kernel_rfl
noncomputable def c_231:Con prog:=aw_ _ _ 231 [al_,(.list ap_)] [.int,.int] _ x_231
end
end Go.Proofs.YtgeehfnbhbibeaaGreatDoor.Rx
namespace Go.Proofs.YtgeehfnbhbibeaaGreatDoor.Rx
open Go Pad Rex Sum
section
theorem ju_ {α ρ:Type} {p:Nat→α→Option ρ} {e:ρ} (h:∀ i x,p i x≠some e):∀ (l:List α) (i:Nat),ga_ p i l≠some e
  | [],_=>by simp[ga_]
  | x::l,i=>by
    unfold ga_
    cases hp:p i x with
    | some r =>
      intro he
      cases he
      exact h i x hp
    | none=>exact ju_ h l (i+1)
theorem ge_ {o:Option Int} {k:Int} (h:o.getD k=0) (hn:o≠some 0):o=none∧k=0:=by
  cases o with
  | none=>exact⟨rfl,h⟩
  | some e =>
    have:e=0:=h
    subst this
    exact absurd rfl hn
theorem xm_ {a:Bool} {e:Int} (h:e≠0):kl_ a e≠some 0:=by
  unfold kl_
  cases a with
  | true=>simp
  | false=>simpa using h
theorem xl_ {a b:Bool} {e f:Int} (h:e≠0) (k:f≠0):sm_ a e b f≠some 0:=by
  unfold sm_
  cases a with
  | false=>simpa using h
  | true =>
    cases b with
    | true=>simp
    | false=>simpa using k
theorem kk_ {a:Bool} {e:Int} (h:kl_ a e=none):a=true:=by cases a with
  | true=>rfl
  | false=>cases h
theorem oa_ {a b:Bool} {e f:Int} (h:sm_ a e b f=none):a=true∧b=true:=by
  cases a with
  | false=>cases h
  | true=>cases b with
    | true=>exact⟨rfl,rfl⟩
    | false=>cases h
theorem de_ {α ρ:Type} {p:Nat→α→Option ρ} {l:List α} (h:ga_ p 0 l=none) {i:Nat} {x:α} (hx:l[i]?=some x):p i x=none:=by
  have:=(ie_ l 0).1 h i x hx
  rwa [b0_] at this
structure OkR (r:ae_):Prop where
  many:ad1 r=false
  pl:∀ (i:Nat) x,r.1[i]?=some x→plOk r i x=true
  ne:r.1≠[]
  th:∀ (i:Nat) x,r.2.1[i]?=some x→bk7 r i x=true
  pr:∀ (i:Nat) x,r.2.2.1[i]?=some x→ch5 r i x=true∧cOk r.2.1 x.2.2=true
  wy:∀ (i:Nat) x,r.2.2.2.1[i]?=some x→cd0 r x=true∧cOk r.2.1 x.2.2=true
  ac:∀ (i:Nat) x,r.2.2.2.2.1[i]?=some x→uo_ r i x=true∧cOk r.2.1 x.2.2.2.2.1=true
  au:∀ (i:Nat) x,r.2.2.2.2.2.1[i]?=some x→ng_ r.2.1 x.2.1 x.2.2=true∧cOk r.2.1 x.1=true
  py:wi r.2.2.2.2.2.2.1 1 4=true
  go:cOk r.2.1 r.2.2.2.2.2.2.2=true
theorem bq_ {r:ae_} (h:cy_ r=0):OkR r:=by
  unfold cy_ at h
  cases hm:ad1 r with
  | true=>rw[hm] at h;exact absurd (show (2:Int)=0 from h) (by decide)
  | false =>
  rw[hm] at h
  have h:(ga_ (λi x=>kl_ (plOk r i x) 22) 0 r.1).getD _=0:=h
  obtain⟨h1,h⟩:=ge_ h (ju_ (λi x=>xm_ (by decide)) _ _)
  cases he:(r.1.length:Int)==0 with
  | true=>rw[he] at h;exact absurd (show (22:Int)=0 from h) (by decide)
  | false =>
  rw[he] at h
  have h:(ga_ (λi x=>kl_ (bk7 r i x) 21) 0 r.2.1).getD _=0:=h
  obtain⟨h2,h⟩:=ge_ h (ju_ (λi x=>xm_ (by decide)) _ _)
  obtain⟨h3,h⟩:=ge_ h (ju_ (λi x=>xl_ (by decide) (by decide)) _ _)
  obtain⟨h4,h⟩:=ge_ h (ju_ (λi x=>xl_ (by decide) (by decide)) _ _)
  obtain⟨h5,h⟩:=ge_ h (ju_ (λi x=>xl_ (by decide) (by decide)) _ _)
  obtain⟨h6,h⟩:=ge_ h (ju_ (λi x=>xl_ (by decide) (by decide)) _ _)
  cases h7:wi r.2.2.2.2.2.2.1 1 4 with
  | false=>rw[h7] at h;exact absurd (show (1:Int)=0 from h) (by decide)
  | true =>
  rw[h7] at h
  cases h8:cOk r.2.1 r.2.2.2.2.2.2.2 with
  | false=>rw[h8] at h;exact absurd (show (25:Int)=0 from h) (by decide)
  | true =>
  refine⟨hm,λi x hx=>kk_ (de_ h1 hx),λe => ?_,λi x hx=>kk_ (de_ h2 hx),λi x hx=>oa_ (de_ h3 hx),λi x hx=>oa_ (de_ h4 hx),λi x hx=>oa_ (de_ h5 hx),λi x hx=>oa_ (de_ h6 hx),h7,h8⟩
  rw[e] at he
  cases he
def inR (r:ae_) (p:Int):Bool:=wi p (w64 ((w64 ((-2) - r.2.2.2.2.2.2.1))+1)) (w64 ((r.1.length:Int) - 1))
def ad3 (r:ae_) (s:ai_):Bool:=((s.1.length:Int) != (r.2.1.length:Int))||(((s.2.1.length:Int) != (r.2.2.1.length:Int))||((s.2.2.length:Int) != r.2.2.2.2.2.2.1))
def ckS (r:ae_) (s:ai_):Int :=
  cond (ad3 r s) 28 ((ga_ (λi n=>kl_ (ng_ r.2.1 (i:Int) n) 28) 0 s.1).getD ((ga_ (λ_ p=>kl_ (inR r p) 28) 0 s.2.1).getD ((ga_ (λ_ p=>kl_ (rw_ r p) 28) 0 s.2.2).getD 0)))
def my_ (r:ae_) (s:ai_):Int:=cond (cy_ r != 0) (cy_ r) (ckS r s)
theorem bt5 (r:ae_) (s:ai_):(cond ((s.1.length:Int) != (r.2.1.length:Int))
 (some (true,()))
 (cond ((s.2.1.length:Int) != (r.2.2.1.length:Int))
 (some (true,()))
 (some (((s.2.2.length:Int) != r.2.2.2.2.2.2.1),()))))=some (ad3 r s,()):=by
  unfold ad3
  cases (s.1.length:Int) != (r.2.1.length:Int) with
  | true=>rfl
  | false =>
  cases (s.2.1.length:Int) != (r.2.2.1.length:Int) with
  | true=>rfl
  | false=>rfl
theorem az6 {r:ae_} {s:ai_} (h:ad3 r s=false):s.1.length=r.2.1.length∧s.2.1.length=r.2.2.1.length∧(s.2.2.length:Int)=r.2.2.2.2.2.2.1:=by
  unfold ad3 at h
  simp only[c0_,bne_eq_false_iff_eq] at h
  omega
theorem ev_ {r:ae_} (h:SmR r) (s:ai_):bw_ r s=some (my_ r s,()):=by
  unfold bw_ my_
  rw[sq_ h,a0_]
  cases hr:cy_ r != 0 with
  | true=>rfl
  | false =>
  have ok:=bq_ (by simpa using hr)
  simp only[a2_]
  refine e4_ (congrArg (λo=>Option.bind o _) (bt5 r s)) ?_
  rw[a0_]
  unfold ckS
  cases hl:ad3 r s with
  | true=>rfl
  | false =>
  obtain⟨l1,l2,l3⟩:=az6 hl
  have hp:=ce_.1 ok.py
  have m1:Sm s.1.length:=by rw[l1];exact h.th
  have m2:Sm s.2.1.length:=by rw[l2];exact h.pr
  have m3:Sm s.2.2.length:=by show s.2.2.length≤1000000000;omega
  simp only[a2_]
  refine bu_ s.1 (λi n=>kl_ (ng_ r.2.1 (i:Int) n) 28) (λi y hy => ?_) ?_ (el_ ?_)
  · have hi:=am_ hy
    simp only[dlt hi,a5_,ah_ hy,a0_,ba_ (show Sm i by omega),pc_ h.th]
    unfold kl_
    cases ng_ r.2.1 (i:Int) y<;>rfl
  · simp only[dnl,a2_]
  refine bu_ s.2.1 (λ_ p=>kl_ (inR r p) 28) (λi y hy => ?_) ?_ (el_ ?_)
  · have hi:=am_ hy
    simp only[dlt hi,a5_,ah_ hy,a0_,ba_ (show Sm i by omega),dt_]
    unfold kl_ inR
    cases wi y (w64 ((w64 ((-2) - r.2.2.2.2.2.2.1))+1)) (w64 ((r.1.length:Int) - 1))<;>rfl
  · simp only[dnl,a2_]
  refine bu_ s.2.2 (λ_ p=>kl_ (rw_ r p) 28) (λi y hy => ?_) ?_ (el_ ?_)
  · have hi:=am_ hy
    simp only[dlt hi,a5_,ah_ hy,a0_,ba_ (show Sm i by omega),dt_]
    unfold kl_ rw_
    cases wi y 0 (w64 ((r.1.length:Int) - 1))<;>rfl
  · simp only[dnl,a2_]
  rfl
theorem cr8 {r:ae_} (h:SmR r) (hp:wi r.2.2.2.2.2.2.1 1 4=true) (p:Int):inR r p=(rw_ r p||(p==-1||wi p (w64 ((w64 ((-2) - r.2.2.2.2.2.2.1))+1)) (-2))):=by
  have hp:=ce_.1 hp
  have hpl:=h.pl
  have e1:w64 ((r.1.length:Int) - 1)=(r.1.length:Int) - 1:=fy_ (by omega) (by omega)
  have e2:w64 ((-2) - r.2.2.2.2.2.2.1)=(-2) - r.2.2.2.2.2.2.1:=fy_ (by omega) (by omega)
  have e3:w64 (((-2) - r.2.2.2.2.2.2.1)+1)=((-2) - r.2.2.2.2.2.2.1)+1:=fy_ (by omega) (by omega)
  unfold inR rw_
  rw[e1,e2,e3,k3_]
  simp only[c8_,ce_,f4_]
  omega
theorem ug_ {r:ae_} (h:SmR r) (s:ai_):ep_ r s=some (my_ r s,()):=by
  unfold ep_ my_
  rw[qi_ h,a0_]
  cases hr:cy_ r != 0 with
  | true=>rfl
  | false =>
  have ok:=bq_ (by simpa using hr)
  simp only[a2_]
  refine e4_ (congrArg (λo=>Option.bind o _) (bt5 r s)) ?_
  rw[a0_]
  unfold ckS
  cases hl:ad3 r s with
  | true=>rfl
  | false =>
  obtain⟨l1,l2,l3⟩:=az6 hl
  have hp:=ce_.1 ok.py
  have m1:Sm s.1.length:=by rw[l1];exact h.th
  have m2:Sm s.2.1.length:=by rw[l2];exact h.pr
  have m3:Sm s.2.2.length:=by show s.2.2.length≤1000000000;omega
  simp only[a2_]
  refine bu_ s.1 (λi n=>kl_ (ng_ r.2.1 (i:Int) n) 28) (λi y hy => ?_) ?_ (el_ ?_)
  · have hi:=am_ hy
    simp only[dlt hi,a5_,ah_ hy,a0_,ba_ (show Sm i by omega),rk_ h.th]
    unfold kl_
    cases ng_ r.2.1 (i:Int) y<;>rfl
  · simp only[dnl,a2_]
  refine bu_ s.2.1 (λ_ p=>kl_ (inR r p) 28) (λi y hy => ?_) ?_ (el_ ?_)
  · have hi:=am_ hy
    simp only[dlt hi,a5_,ah_ hy,a0_,ba_ (show Sm i by omega),hr_,fk_]
    rw[cr8 h ok.py]
    unfold kl_ rw_
    have e:(y != -1) = !(y==-1):=rfl
    rw[e]
    cases wi y 0 (w64 ((r.1.length:Int) - 1)) with
    | true=>rfl
    | false =>
    cases y==-1 with
    | true=>rfl
    | false=>cases wi y (w64 ((w64 ((-2) - r.2.2.2.2.2.2.1))+1)) (-2)<;>rfl
  · simp only[dnl,a2_]
  refine bu_ s.2.2 (λ_ p=>kl_ (rw_ r p) 28) (λi y hy => ?_) ?_ (el_ ?_)
  · have hi:=am_ hy
    simp only[dlt hi,a5_,ah_ hy,a0_,ba_ (show Sm i by omega),hr_]
    unfold kl_ rw_
    cases wi y 0 (w64 ((r.1.length:Int) - 1))<;>rfl
  · simp only[dnl,a2_]
  rfl
end
section
def gi (l:List Int) (i:Int):Int:=(at? l i).getD 0
theorem mr_ {l:List Int} {i x:Int} (h:at? l i=some x):gi l i=x:=by unfold gi;rw[h];rfl
theorem ol_ {l:List Int} {i:Int} (h0:0≤i) (h1:i<l.length):at? l i=some (gi l i):=by
  obtain⟨x,hx⟩:=bd_ (l:=l) (i:=i.toNat) (by omega)
  have:at? l i=some x:=by rw[show i=((i.toNat:Nat):Int) by omega];exact ah_ hx
  rw[this,mr_ this]
def InC (n:Nat) (c:List bf_):Prop:=∀ l ∈ c,0≤l.1∧l.1<n
theorem ua_ {things:List gr_} (hl:Sm things.length) {c:List bf_} (h:cOk things c=true):InC things.length c∧c.length≤8:=by
  unfold cOk at h
  rw[a1_] at h
  refine⟨λl hm => ?_,by have:=f3_ h.1;omega⟩
  have h2:=f0_.1 h.2 l hm
  unfold ng_ at h2
  rw[a1_] at h2
  have:=ce_.1 h2.1
  rw[fy_ (by omega) (by omega)] at this
  omega
def dl_ (th:List Int) (c:List bf_):Bool:=c.all λl=>!((gi th l.1==l.2.1)==l.2.2)
theorem cb6 {α:Type} (l:List α) (q:α→Bool):(!(l.any q))=l.all λx=>!(q x):=by
  induction l with
  | nil=>rfl
  | cons x l ih =>
    rw[m5_,List.all_cons,← ih]
    cases q x<;>rfl
theorem mi_ {t:hb_} {c:List bf_} (hc:Sm c.length) (hi:InC t.2.1.length c):bb_ t c=some (dl_ t.2.1 c,()):=by
  unfold bb_ dl_
  refine e4_ (congrArg (λo=>Option.bind o _) (mg_ hc (λl=>(gi t.2.1 l.1==l.2.1)==l.2.2) (λi y hy => ?_) ?_)) ?_
  · have:=hi y (ax_ hy)
    simp only[dlt (am_ hy),a5_,ah_ hy,ol_ this.1 this.2,a0_]
    cases (gi t.2.1 y.1==y.2.1)==y.2.2<;>rfl
  · simp only[dnl,a2_]
  · rw[a0_]
    exact congrArg (λb=>some (b,())) (cb6 c _)
theorem jb_ {s:ai_} {c:List bf_} (hc:Sm c.length) (hi:InC s.1.length c):bl_ s c=some (dl_ s.1 c,()):=by
  unfold bl_ dl_
  refine bn_ c (λi l=>cond ((gi s.1 l.1==l.2.1)==l.2.2) (some (inr (false,()):Unit⊕(Bool×Unit))) none) (λi=>((i:Int),())) (r0:=inl ()) (λi y hy => ?_) ?_ ?_
  · have:=hi y (ax_ hy)
    have hl:=am_ hy
    simp only[dlt hl,a5_,ah_ hy,ol_ this.1 this.2,a0_,ba_ (show Sm i by omega)]
    cases (gi s.1 y.1==y.2.1)==y.2.2<;>rfl
  · simp only[dnl,a2_]
  · rw[hd_ (q:=λl:bf_=>(gi s.1 l.1==l.2.1)==l.2.2),← cb6]
    cases c.any λl=>(gi s.1 l.1==l.2.1)==l.2.2<;>rfl
end
end Go.Proofs.YtgeehfnbhbibeaaGreatDoor.Rx
