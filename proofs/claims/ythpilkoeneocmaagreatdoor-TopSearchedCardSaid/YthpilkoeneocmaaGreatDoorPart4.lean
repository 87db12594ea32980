/- A part of the proof: what the functions of the program compute, shown over the model. -/
import Derived.KernelRfl
import Derived.Test.YthpilkoeneocmaaGreatDoorPart1
import Derived.Test.YthpilkoeneocmaaGreatDoorPart3
set_option linter.unusedSectionVars false
set_option linter.unusedVariables false
set_option linter.unusedSimpArgs false
namespace Go.Proofs.YthpilkoeneocmaaGreatDoor.Rx
open Go Pad Rex Go.Proofs Go.RowKit Go.Proofs.Tryz Sum
section
set_option maxRecDepth 100000
set_option maxHeartbeats 400000
def ep_ (a0:Bool):Option ((List UInt8)×Unit):=cond a0 (some ([116,114,117,101],())) (some ([102,97,108,115,101],()))
theorem ok_219:cg5 prog 219 [.bool] [.str] (λx=>ep_ x.1):=by
 intro w S Fr hv vs x r hG hI ha hF
 match vs,ha with
 | [v],⟨hv1,_⟩ =>
  obtain rfl:v = .bool x.1:=fb_ (a:=ofD .bool x.1) (by rw[bu5];exact hv1) (by cases x.1<;>rfl)
  refine (ad7 x.1 w).mono λe w' he => ?_
  obtain⟨rfl,rfl⟩:=he
  refine⟨S,[],PH.Le.refl _,hI,rfl,?_⟩
  have e1:r.1=Lib.formatBool x.1:=by
   obtain⟨b,u⟩:=x
   cases b with
   | true=>obtain rfl:=a6_ hF;rfl
   | false=>obtain rfl:=a6_ hF;rfl
  have:=bj3 (hv:=λ_=>undef) (S:=S) r.1
  rw[← e1]
  exact this
noncomputable def c_219:Con prog:=cnv 219 [.bool] [.str] (λx=>ep_ x.1) ok_219
theorem td_ {w w':World} {S:PH} {O:List HP} {B:Nat} (h:Inv w S O) (hB:B=w.heap.size) (hb:Below B w w'):Inv w' S O:=by
 subst hB
 exact h.world hb.os hb.output λb o e=>(hb.block b (i8_.1 e).1).trans e
theorem cr0 {T e:TypeId} {B b:Nat} {bs:List Value} {w w':World} (hk:∀ (k:Nat) (o:Obj),w.heap[k]?=some o→w'.heap[k]?=some o) (h:Lib.IsBuilderF T e B b bs w):Lib.IsBuilderF T e B b bs w':=by
 have key:∀ {p:Value},Lib.BuilderAtF T e B b p bs w→Lib.BuilderAtF T e B b p bs w':=by
  rintro p ⟨h1,v,h2,⟨h3,h4⟩,h5⟩
  refine⟨h1,v,hk _ _ h2,⟨h3,?_⟩,h5⟩
  rcases h4 with h4 | ⟨g,cap,cur,fz,g1,g2,g3,g4⟩
  ·exact .inl h4
  ·exact .inr ⟨g,cap,cur,fz,g1,g2,hk _ _ g3,g4⟩
 exact h.elim (λh=>.inl (key h)) λh=>.inr (key h)
theorem ap9 {w:World} {n:Nat} {os:Array Obj}:∀ (k:Nat) (o:Obj),w.heap[k]?=some o→(Go.Sort.grow (w.drewN n) os).heap[k]?=some o:=by
 intro k o h
 show (w.heap++os)[k]?=some o
 rw[Array.getElem?_append_left (i8_.1 h).1]
 exact h
theorem tab_is {w:World} {S:PH} {O:List HP} (hG:GlS S) (hI:Inv w S O):Lib.TabIs prog w "internal/strconv.uint64pow10" .u64 Lib.pow10Tab:=by
 obtain⟨T,fz,h⟩:=hG.2 1 pow10V rfl
 have h2:=Own.in_ hI.own _ _ h
 unfold Lib.TabIs World.var?
 rw[laysM171.m17]
 show (match w.heap[1]? with
  | some (.cells cs _ _)=>some cs
  | _=>none)=_
 rw[h2]
 simp[pow10V,Lib.pow10Tab]
def ch1 (n:Int):List UInt8:=Lib.itoa n++[32]
def ao6 (l:List Int):List UInt8:=l.flatMap ch1
def ia_ (ls:List (List Int)):List UInt8:=ls.flatMap ao6
def inI (n:Int):Bool:=decide (-9223372036854775808≤n)&&decide (n≤9223372036854775807)
def gf_ (a0:List (List Int)):Option ((List UInt8)×Unit):=cond (a0.all (λl=>l.all inI)&&Nat.ble (ia_ a0).length 2147483648) (some (ia_ a0,())) none
def NInv (v:Value) (n:Nat) (w0:World) (b:Nat) (acc:List UInt8) (f:Pad.Fr) (w:World):Prop :=
 Below w0.heap.size w0 w∧Lib.IsBuilderF 280 5 w0.heap.size b (Lib.byteCells acc) w∧f 3 = .pointer (some ⟨b,0,none⟩)∧f 8=v∧f 9 = .int .i64 n∧f.ds=[]
theorem ca7:∀ (k i:Nat),forS (λ(_:Nat) (_:Unit)=>some ()) k i ()=some ()
 | 0,_=>rfl
 | k+1,i=>ca7 k (i+1)
theorem sh45:Shape prog 46 false 1:=zw_ (by kernel_rfl)
theorem sh3':Shape prog 3 false 1:=zw_ (by kernel_rfl)
theorem cb_216:fe_ prog 216:=⟨_,func216,rfl,by kernel_rfl⟩
theorem cb_217:fe_ prog 217:=⟨_,func217,rfl,by kernel_rfl⟩
theorem cb_218:fe_ prog 218:=⟨_,func218,rfl,by kernel_rfl⟩
theorem bc1 {P:Program} {n k d:Nat} {ro:Option Nat} {f:Pad.Fr} {w:World} {K:Pad.Fr→World→Prop} {ty:TypeId} {pos:String} {af:Array Edge} {gd:Option (Nat×Bool)} {vs:List Value} {g:Operand} {args:Array Operand} {ct:Array TypeId} {R:Ending→World→Prop}
  (hd:Nat.blt d n=true) (hk:fe_ P k) (hg:ev f g = .func (.func k) #[] #[]) (hargs:(args.map (ev f)) ++ #[]=vs.toArray) (hc:Calls P k vs.toArray w R) (kont:∀ e w',R e w'→∃ v,e = .returned v∧K (upd f d v) w') :
  OP P n ro ⟨some d,.call ⟨.value g,args,ct⟩,ty,pos,af,gd⟩ f w K :=
 ne_ (sp_ hk hg hargs) hc λe w' he=>by
  obtain⟨v,h1,h2⟩:=kont e w' he
  exact⟨v,h1,hd,h2⟩
theorem str_op {P:Program} [Tb P] {f:Pad.Fr} {w:World} {d:Nat} {x y:Operand} {ty T2:TypeId} {pos:String} {af:Array Edge} {gd:Option (Nat×Bool)} {a b c:Str} (hx:Pad.ev f x = .string ⟨a.toArray⟩) (hy:Pad.ev f y = .string ⟨b.toArray⟩) (h:cat? a b=some c) :
  (execOp (Pad.ev f) ⟨some d,.binOp .add 9 x y T2,ty,pos,af,gd⟩).run P w = .ok (.value (.string ⟨c.toArray⟩)) w:=by
 have h1:=br1 (P:=P) (T:=9) (w:=w) h
 have h2:=gz_ (P:=P) (T:=9) (op:=.add) (w:=w) (X:=x) (Y:=y) (v:=.string ⟨a.toArray⟩) (u:=.string ⟨b.toArray⟩) trivial
 simp[execOp,Sem.run_bind,hx,hy,h1,h2,Result.andThen]
theorem bv0 {w:World} {S:PH} {Fr:List HP} {v:Value} {ls:List (List Int)} (hG:GlS S) (hI:Inv w S Fr) (hr:RVt (.list (.list .int)) S v ls) (hin:(ls.all λl=>l.all inI)=true) (hlen:(ia_ ls).length≤2147483648) :
  Calls prog 196 [v].toArray w λe w'=>e = .returned (.string ⟨(ia_ ls).toArray⟩)∧Inv w' S Fr:=by
 letI:Enc (List Int):=(Ty.list .int).enc
 letI:Enc Int:=Ty.int.enc
 obtain⟨a0,cap0,hv2,_,hmax,_⟩:=@ix_ (List Int) (Ty.list .int).enc S v ls hr
 have hk0:ls.length≤9223372036854775807:=by
  unfold maxLen at hmax
  omega
 refine sd_ (n:=27) func196 rfl rfl rfl ?_
 refine bl_ (be_ (wa_ (v:=.string ⟨#[]⟩) rfl rfl (dv_ ?_)))
 have hz:=zeroValue280
 refine bl_ (be_ (wo_ (dh_ (v:=.pointer (some ⟨w.heap.size,0,none⟩)) (w':=w.alloc (.cells #[.pointer none,.slice none 0 0] 280)) rfl (by simp only[execOp,Instr.alloc,Sem.run_bind,hz w,Result.andThen_ok];rfl) (dv_ ?_))))
 have hI1:Inv (w.alloc (.cells #[.pointer none,.slice none 0 0] 280)) S Fr:=hI.world rfl rfl λb o e=>(Below.heap_alloc w _ b (i8_.1 e).1).trans e
 have hB1:Below w.heap.size w (w.alloc (.cells #[.pointer none,.slice none 0 0] 280)):=⟨rfl,rfl,rfl,by simp,λk hk=>Below.heap_alloc w _ k hk⟩
 have hD1:Lib.IsBuilderF 280 5 w.heap.size w.heap.size (Lib.byteCells []) (w.alloc (.cells #[.pointer none,.slice none 0 0] 280)):=.inl ⟨c4_ _,.slice none 0 0,Array.getElem?_push_size,⟨rfl,.inl ⟨rfl,rfl⟩⟩,by simp[Value.ownBlock]⟩
 refine bl_ (bl_ (be_ (wm_ (v:=v) rfl rfl (wo_ (bc2 rfl underlying33 hv2 (wm_ (v:=.int .i64 0) rfl rfl (dv_ ?_)))))))
 refine as9 (λf w'=>NInv v ls.length w w.heap.size (ia_ ls) f w') ?_ ?_
 ·refine ff_ (bn5 (σ:=Unit) (k:=ls.length) (I:=λi _ f w'=>NInv v ls.length w w.heap.size (ia_ (ls.take i)) f w'∧f 10 = .int .i64 (i:Int)) (ca7 _ _) ⟨⟨hB1,hD1,rfl,rfl,rfl,rfl⟩,rfl⟩ ?_ ?_)
  ·rintro i _ f w1 o hi ⟨⟨b1,b2,b3,b4,b5,b6⟩,b7⟩ _
   have I1:=td_ hI rfl b1
   refine bl_ (be_ (wo_ (aa5 rfl b7 b5 (dv_ (bl_ (nb_ rfl (len_t hi) (lz_ (bl_ (ff_ ?_)))))))))
   obtain⟨l,hl⟩:∃ l,ls[i]?=some l:=⟨_,a7_ hi⟩
   have hat:at? ls (i:Int)=some l:=by rw[az0];exact hl
   refine bl_ (be_ (wo_ (@pa_ _ _ _ _ _ _ _ _ _ _ _ _ _ _ _ (List Int) (Ty.list .int).enc S ls 46 (i:Int) _ rfl underlying33 sh45 b4 hr b7 hat ?_)))
   have hp:cr5 (.list .int) S (cx_ v i 1) l:=rq_ (t:=.list .int) (x:=l) hr hat
   refine wo_ (bu0 (α:=List Int) (S:=S) (e:=l) rfl sh45 rfl (hp.at_ I1) λu hu => ?_)
   refine wa_ (v:=u) rfl rfl (dv_ ?_)
   obtain⟨a1,cap1,hu2,_,hmax1,_⟩:=@ix_ Int Ty.int.enc S u l hu
   have hk1:l.length≤9223372036854775807:=by
    unfold maxLen at hmax1
    omega
   refine bl_ (be_ (wm_ (v:=u) rfl rfl (wo_ (bc2 rfl underlying46 hu2 (wm_ (v:=.int .i64 0) rfl rfl (dv_ ?_))))))
   have htk:ia_ (ls.take (i+1))=ia_ (ls.take i)++ao6 l:=by
    rw[d9_,hl]
    simp[ia_]
   have hle:(ia_ (ls.take (i+1))).length≤2147483648:=by
    have:ia_ ls=ia_ (ls.take (i+1))++ia_ (ls.drop (i+1)):=by
     unfold ia_
     rw[← q6_,g5_]
    rw[this,a8_] at hlen
    omega
   have hinl:∀ n ∈ l,inI n=true:=λn hn=>f2_.1 (f2_.1 hin l (b4_ hl)) n hn
   refine as9 (λf w'=>NInv v ls.length w w.heap.size (ia_ (ls.take (i+1))) f w'∧f 10 = .int .i64 (i:Int)) ?_ ?_
   ·refine ff_ (bn5 (σ:=Unit) (k:=l.length) (I:=λj _ f w'=>NInv v ls.length w w.heap.size (ia_ (ls.take i)++ao6 (l.take j)) f w'∧f 10 = .int .i64 (i:Int)∧f 14=u∧f 15 = .int .i64 l.length∧f 16 = .int .i64 (j:Int)) (ca7 _ _)
     ⟨⟨b1,by rw[show ao6 (l.take 0)=[] from rfl,e9_];exact b2,b3,b4,b5,b6⟩,b7,rfl,rfl,rfl⟩ ?_ ?_)
    ·rintro j _ f w1 o hj ⟨⟨b1,b2,b3,b4,b5,b6⟩,b7,b8,b9,b10⟩ _
     have I1:=td_ hI rfl b1
     refine bl_ (be_ (wo_ (aa5 rfl b10 b9 (dv_ (bl_ (nb_ rfl (len_t hj) (lz_ (bl_ (ff_ ?_)))))))))
     obtain⟨n,hn⟩:∃ n,l[j]?=some n:=⟨_,a7_ hj⟩
     have hatn:at? l (j:Int)=some n:=by rw[az0];exact hn
     refine bl_ (be_ (wo_ (@pa_ _ _ _ _ _ _ _ _ _ _ _ _ _ _ _ Int Ty.int.enc S l 3 (j:Int) _ rfl underlying46 sh3' b8 hu b10 hatn ?_)))
     have hpn:cr5 .int S (cx_ u j 1) n:=rq_ (t:=.int) (x:=n) hu hatn
     refine wo_ (aw4 rfl sh3' rfl (hpn.at_ I1) ?_)
     refine wa_ (v:=.int .i64 n) rfl rfl (dv_ ?_)
     refine be_ (wm_ (v:=.int .i64 n) rfl rfl ?_)
     have hni:=hinl n (b4_ hn)
     unfold inI at hni
     rw[a1_] at hni
     have htj:ao6 (l.take (j+1))=ao6 (l.take j)++ch1 n:=by
      rw[d9_,hn]
      simp[ao6]
     have hlej:(ia_ (ls.take i)++(ao6 (l.take j)++ch1 n)).length≤2147483648:=by
      have:ao6 l=ao6 (l.take (j+1))++ao6 (l.drop (j+1)):=by
       unfold ao6
       rw[← q6_,g5_]
      rw[htk,this,htj,a8_,a8_] at hle
      rw[a8_]
      omega
     refine wo_ (bc1 (vs:=[.int .i64 n]) rfl cb_217 rfl (args1 rfl) (sh_Itoa n (f0_ hni.1) (f0_ hni.2) w1 (tab_is hG I1)) λe w2 he => ?_)
     obtain⟨rfl,k,os,rfl⟩:=he
     refine⟨_,rfl,?_⟩
     have b1':Below w.heap.size w (Go.Sort.grow (w1.drewN k) os):=b1.trans ⟨rfl,rfl,rfl,by simp[Go.Sort.grow,World.drewN],λk hk=>by
      have h1:k<w1.heap.size:=f5_ hk b1.size
      exact (ap9 k _ (d6_ h1)).trans (d6_ h1).symm⟩
     have b2':=cr0 (ap9 (n:=k) (os:=os)) b2
     have hcat:cat? (Lib.itoa n) [32]=some (ch1 n):=by
      unfold cat?
      have:Nat.ble ((Lib.itoa n).length+([32]:Str).length) 2147483648=true:=by
       refine h8_ ?_
       have h1:(ch1 n).length=(Lib.itoa n).length+1:=by simp[ch1]
       rw[a8_,a8_,h1] at hlej
       show (Lib.itoa n).length+1≤_
       omega
      rw[this]
      rfl
     refine wo_ (dh_ (v:=.string ⟨(ch1 n).toArray⟩) (w':=Go.Sort.grow (w1.drewN k) os) rfl (str_op rfl rfl hcat) ?_)
     refine wo_ (bc1 (vs:=[.pointer (some ⟨w.heap.size,0,none⟩),.string ⟨(ch1 n).toArray⟩]) rfl cb_216 rfl (args2 b3 rfl) (zj_ w.heap.size w.heap.size (Lib.byteCells (ia_ (ls.take i)++ao6 (l.take j))) ⟨(ch1 n).toArray⟩ _ b2' ?_ b1'.size) λe w2 he => ?_)
     ·rw[Lib.byteCells_length]
      show (ia_ (ls.take i)++ao6 (l.take j)).length+(ch1 n).toArray.size≤_
      rw[List.size_toArray,a8_]
      rw[a8_,a8_] at hlej
      omega
     obtain⟨rfl,c1,c2,c3⟩:=he
     refine⟨_,rfl,dv_ ?_⟩
     have c1':Lib.IsBuilderF 280 5 w.heap.size w.heap.size (Lib.byteCells (ia_ (ls.take i)++ao6 (l.take (j+1)))) w2:=by
      rw[htj,← b3_,Lib.byteCells_append]
      exact .inr c1
     exact be_ (wo_ (bu1 rfl b10 rfl (wm_ rfl rfl (dv_ ⟨⟨b1'.trans c2,c1',b3,b4,b5,b6⟩,b7,b8,b9,be5 hj hk1⟩))))
    ·rintro f w1 ⟨⟨b1,b2,b3,b4,b5,b6⟩,b7,b8,b9,b10⟩
     rw[d2_,← htk] at b2
     exact bl_ (be_ (wo_ (aa5 rfl b10 b9 (dv_ (bl_ (jm_ rfl (len_f _) (sj_ ⟨⟨b1,b2,b3,b4,b5,b6⟩,b7⟩)))))))
   ·rintro f w1 ⟨⟨b1,b2,b3,b4,b5,b6⟩,b7⟩
    refine be_ (wo_ (bu1 rfl b7 rfl (wm_ rfl rfl (dv_ ⟨⟨b1,b2,b3,b4,b5,b6⟩,be5 hi hk0⟩))))
  ·rintro f w1 ⟨⟨b1,b2,b3,b4,b5,b6⟩,b7⟩
   rw[d2_] at b2
   exact bl_ (be_ (wo_ (aa5 rfl b7 b5 (dv_ (bl_ (jm_ rfl (len_f _) (sj_ ⟨b1,b2,b3,b4,b5,b6⟩)))))))
 ·rintro f w1 ⟨b1,b2,b3,b4,b5,b6⟩
  have I1:=td_ hI rfl b1
  refine bl_ (be_ (wo_ (bc1 (vs:=[.pointer (some ⟨w.heap.size,0,none⟩)]) rfl cb_218 rfl (args1 b3) (bq3 w.heap.size w.heap.size (ia_ ls) w1 b2 b1.size) λe w2 he => ?_)))
  obtain⟨rfl,c1,c2,c3⟩:=he
  refine⟨_,rfl,wa_ (v:=.string ⟨(ia_ ls).toArray⟩) rfl rfl (dv_ (ww_ ⟨b6,_,res1 rfl rfl,rfl,td_ hI rfl (b1.trans c2)⟩))⟩
theorem ok_196:cg5 prog 196 [.list (.list .int)] [.str] (λx=>gf_ x.1):=by
 intro w S Fr hv vs x r hG hI ha hF
 match vs,ha with
 | [v],⟨hv1,_⟩ =>
  obtain⟨ls,u⟩:=x
  have hF:cond (ls.all (λl=>l.all inI)&&Nat.ble (ia_ ls).length 2147483648) (some (ia_ ls,())) none=some r:=hF
  obtain⟨hc,hF⟩:=bo_ hF
  simp only[a1_] at hc
  obtain⟨hin,hlen⟩:=hc
  obtain rfl:=a6_ hF
  have hr:RVt (.list (.list .int)) S v ls:=rv_ (hv:=hv) hv1
  refine (bv0 hG hI hr hin (b7_ hlen)).mono λe w' he => ?_
  obtain⟨rfl,hI'⟩:=he
  exact⟨S,[],PH.Le.refl _,hI',rfl,bj3 (hv:=λ_=>undef) (S:=S) (ia_ ls)⟩
noncomputable def c_196:Con prog:=cnv 196 [.list (.list .int)] [.str] (λx=>gf_ x.1) ok_196
end
end Go.Proofs.YthpilkoeneocmaaGreatDoor.Rx
namespace Go.Proofs.YthpilkoeneocmaaGreatDoor.Pad
open Go
section
abbrev sn:Value:=.slice none 0 0
theorem AllP.v {l:List Nat} {sps:List Sp} {f:Fr} {vals:Nat→Value} {S':PH} (h:AllP l (λj=>∀ t,sps[j]?=some t→(∀ d,t.dst=some d→f d=vals j)∧t.fact (t.deps.map vals) S')) (i:Nat) {a d:Nat} {t:Sp} {x:Value}
  (e:(l[i]?,sps[a]?,t.dst,t.fact (t.deps.map vals) S')=(some a,some t,some d,vals a=x)):f d=x :=
 h.u i (h3_ e).1 (h3_ (h3_ e).2).1 (h3_ (h3_ e).2).2
theorem fo {A:Value→Prop} {B C:Value→PH→Prop} {S:PH} {v:Value} (c:C v S) (a:A v:=by exact rfl) (b:B v S:=by exact rfl):∃ v S',A v∧S.Le S'∧B v S'∧C v S':=⟨v,S,a,lr,b,c⟩
section
variable {P:Program} {n:Nat} {ro:Option Nat} {ops:Array Oper} {sps:List Sp} {tks:List Tok} {f0:Fr} {S:PH} {i:Nat} {s:Sp}
theorem ob_ {o:Oper} (ho:(ops[i]?,o.guard)=(some o,none)) (h:∀ {vals:Nat→Value} {f:Fr} {w:World} {S':PH} {X:List HP},S.Le S' →
  AllP s.anc (λj=>∀ t,sps[j]?=some t→(∀ d,t.dst=some d→f d=vals j)∧t.fact (t.deps.map vals) S') →
  (∀ d,(∀ (j:Nat) (t:Sp),sps[j]?=some t→t.dst=some d→i ∈ t.anc∨i=j)→f d=f0 d) →
  Inv w S' (s.cons.map (lt_ tks vals)++(s.rd.map (lt_ tks vals)++X)) →
  OP P n ro o f w λf' w'=>∃ v S'',f'=wz_ f s.dst v∧S'.Le S''∧s.fact (s.deps.map (upv vals i v)) S'' ∧
   Inv w' S'' (s.prod.map (lt_ tks (upv vals i v))++(s.rd.map (lt_ tks vals)++X))):Ob P n ro ops sps tks f0 S i s :=
 λ_ _ _ _ _ a b c d=>pl_ ho (h a b c d)
end
section
variable {P:Program} {n:Nat} {ro:Option Nat} {f:Fr} {w:World} {K:Fr→World→Prop} {d k:Nat} {ty:TypeId} {pos:String} {af:Array Edge} {gd:Option (Nat×Bool)} {x y:Operand} {v:Value} {T:TypeId} {S:PH}
end
end
end Go.Proofs.YthpilkoeneocmaaGreatDoor.Pad
namespace Go.Proofs.YthpilkoeneocmaaGreatDoor.Rx
open Go Pad Rex Go.Proofs Go.Proofs.Tryz Sum
section
set_option maxRecDepth 100000
set_option maxHeartbeats 400000
def ivs (l:List Int):List Value:=l.map λn=>.int .i64 n
def as5 (m n:Nat) (a:Int):List Int:=List.replicate n a++List.replicate (m - n) 0
theorem bc3 {P:Program} {n d:Nat} {ro:Option Nat} {f:Pad.Fr} {w:World} {K:Pad.Fr→World→Prop} {ty T E B:TypeId} {pos:String} {af:Array Edge} {gd:Option (Nat×Bool)} {x y:Operand} {S:PH} {O:List HP} {g o dl dc sl sc:Nat} {ad:Addr} {cs:Array Value} {ys:List Value}
  (hd:Nat.blt d n=true) (hT:P.underlying T=some (.slice E)) (hs:(P.info? E).map (·.size)=some 1) (hx:Pad.ev f x = .slice (some ⟨g,o,none⟩) dl dc) (hy:Pad.ev f y = .slice (some ad) sl sc) (hI:Inv w S (ly_ g B cs::O))
  (hn:ys.length=Nat.min sl dl) (hsrc:∀ j v,ys[j]?=some v→w.cell? (ad.add j)=some v) (hfit:o+ys.length≤cs.size) (h1:∀ v ∈ ys,v.oneCell'=true)
  (k:∀ w',Inv w' S (ly_ g B (cs.toList.take o++ys++cs.toList.drop (o+ys.length)).toArray::O)→K (upd f d (.int .i64 (ys.length:Nat))) w') :
  OP P n ro ⟨some d,.call ⟨.builtin .copy,#[x,y],#[T,T]⟩,ty,pos,af,gd⟩ f w K:=by
 have h:=run_copy_row (P:=P) w T T ty E g o dl dc ad sl sc cs B ys hT hs hI.blk hn hsrc hfit h1
 exact dh_ hd (by simp[execOp,resolve,invoke,builtin,hx,hy,h,Result.andThen];rfl) (k _ hI.setRow)
theorem cm3 {P:Program} {n d:Nat} {ro:Option Nat} {f:Pad.Fr} {w:World} {K:Pad.Fr→World→Prop} {ty T E:TypeId} {pos:String} {af:Array Edge} {gd:Option (Nat×Bool)} {x y:Operand} {dl dc sl sc:Nat} {ap ad:Option Addr}
  (hd:Nat.blt d n=true) (hT:P.underlying T=some (.slice E)) (hs:(P.info? E).map (·.size)=some 1) (hx:Pad.ev f x = .slice ap dl dc) (hy:Pad.ev f y = .slice ad sl sc)
  (hn:Nat.min sl dl=0) (k:K (upd f d (.int .i64 0)) w) :
  OP P n ro ⟨some d,.call ⟨.builtin .copy,#[x,y],#[T,T]⟩,ty,pos,af,gd⟩ f w K:=by
 have h:=run_copy_none (P:=P) w T T ty E ap ad dl dc sl sc hT hs hn
 exact dh_ hd (by simp[execOp,resolve,invoke,builtin,hx,hy,h,Result.andThen];rfl) k
theorem op_make {n d:Nat} {ro:Option Nat} {f:Pad.Fr} {w:World} {K:Pad.Fr→World→Prop} {ty:TypeId} {pos:String} {af:Array Edge} {gd:Option (Nat×Bool)} {x y:Operand} {S:PH} {O:List HP} {m:Nat}
  (hd:Nat.blt d n=true) (hx:Pad.ev f x = .int .i64 m) (hy:Pad.ev f y = .int .i64 m) (hm:m≤2147483648) (hI:Inv w S O)
  (k:∀ g w',Inv w' S (ly_ g 3 (ivs (List.replicate m 0)).toArray::O)→K (upd f d (.slice (some ⟨g,0,none⟩) m m)) w') :
  OP prog n ro ⟨some d,.makeSlice 46 x y,ty,pos,af,gd⟩ f w K:=by
 obtain⟨bytes,zv,⟨ei,hE⟩,hb,hr⟩:=kf_ (show ro_ prog 3 .int=some (0:Int) by kernel_rfl)
 have hzv:zv = .int .i64 0:=nh_ (hr S)
 have hbb:(ei.bytes:Int) * (m:Int)≤281474976710656:=by
  have h1:(ei.bytes:Int)≤65536:=by rw[hE.hb];omega
  have h2:(ei.bytes:Int) * (m:Int)≤65536 * 2147483648:=Int.mul_le_mul h1 (by omega) (by omega) (by omega)
  omega
 have h:=run_make (P:=prog) w 46 3 ei zv underlying46 hE.hi hE.hz .i64 .i64 m m (by omega) (j9_ _) hbb (by omega)
 have hsz:ei.size=1:=hE.hs
 have hc:madeCells zv.cells ((m:Int).toNat * ei.size)=(ivs (List.replicate m 0)).toArray:=by
  have h2:=me_ zv.cells m
  have h3:zv.cells.size=1:=by rw[hzv];rfl
  rw[h3] at h2
  rw[hsz,b9_]
  apply Array.toList_inj.1
  rw[h2,hzv]
  simp[Value.cells,ivs]
 rw[hc] at h
 exact dh_ hd (by rw[b9_] at h;simp[execOp,Sem.run_bind,hx,hy,h,Result.andThen]) (k _ _ (hI.alloc 3 _))
theorem cb_199:fe_ prog 199:=⟨_,func199,rfl,by kernel_rfl⟩
theorem ch9 {m:Nat} (h:m≤2147483648):wu64 (m:Int)=(m:Int):=by
 unfold wu64 IntKind.wrap
 simp[IntKind.signed,IntKind.bits]
 omega
theorem in3:(prog.info? 3).map (·.size)=some 1:=by kernel_rfl
theorem by9 {m n q:Nat} {a:Int} (h:n+q≤m):(ivs (as5 m n a)).take n++ivs (List.replicate q a)++(ivs (as5 m n a)).drop (n+q)=ivs (as5 m (n+q) a):=by
 unfold ivs as5
 rw[← List.map_take,← List.map_drop,← j1_,← j1_]
 congr 1
 have h1:(List.replicate n a++List.replicate (m - n) (0:Int)).take n=List.replicate n a:=by
  rw[List.take_append_of_le_length (by simp),g8_ (by simp)]
 have h2:(List.replicate n a++List.replicate (m - n) (0:Int)).drop (n+q)=List.replicate (m - (n+q)) 0:=by
  rw[List.drop_append,List.drop_of_length_le (by simp)]
  simp
  omega
 rw[h1,h2,List.replicate_append_replicate]
theorem ivs_len (l:List Int):(ivs l).length=l.length:=by simp[ivs]
theorem ck0 {m n:Nat} {a:Int} (h:n≤m):(as5 m n a).length=m:=by simp[as5];omega
theorem rowR_at {m n j:Nat} {a:Int} (h:j<n):(ivs (as5 m n a))[j]?=some (.int .i64 a):=by
 unfold ivs as5
 rw[e3_,b1_ (by simpa using h),k1_,if_pos h]
 rfl
theorem ivs_one {l:List Int}:∀ v ∈ ivs l,v.oneCell'=true:=by
 intro v hv
 obtain⟨n,_,rfl⟩:=d3_.1 hv
 rfl
theorem sl_l {f:Pad.Fr} {w:World} {d m n g:Nat} {x y:Operand} {ty:TypeId} {pos:String} {af:Array Edge} {gd:Option (Nat×Bool)} (hx:Pad.ev f x = .slice (some ⟨g,0,none⟩) m m) (hy:Pad.ev f y = .int .i64 n) (h:n<m) :
  (execOp (Pad.ev f) ⟨some d,.slice 46 x (some y) none none,ty,pos,af,gd⟩).run prog w = .ok (.value (.slice (some ⟨g,n,none⟩) (m - n) (m - n))) w:=by
 have:=ct6 (P:=prog) (w:=w) (T:=46) (E:=3) (a:=some ⟨g,0,none⟩) (len:=m) (cap:=m) (lo:=(n:Int)) underlying46 sh3' (by omega) (by omega)
 have hne:¬ m=n:=by omega
 have e:(⟨g,0,none⟩:Addr).add (n * 1)=⟨g,n,none⟩:=by rw[q4_,fp_,b0_]
 simp only[sliced,hne,i0_,h0_,b9_,e] at this
 simp[execOp,hx,hy,this,Result.andThen]
theorem sl_h {f:Pad.Fr} {w:World} {d m n g:Nat} {x y:Operand} {ty:TypeId} {pos:String} {af:Array Edge} {gd:Option (Nat×Bool)} (hx:Pad.ev f x = .slice (some ⟨g,0,none⟩) m m) (hy:Pad.ev f y = .int .i64 n) (h:n<m) :
  (execOp (Pad.ev f) ⟨some d,.slice 46 x none (some y) none,ty,pos,af,gd⟩).run prog w = .ok (.value (.slice (some ⟨g,0,none⟩) n m)) w:=by
 have:=ct7 (P:=prog) (w:=w) (T:=46) (E:=3) (a:=some ⟨g,0,none⟩) (len:=m) (cap:=m) (hi:=(n:Int)) underlying46 sh3' (by omega) (by omega)
 have hne:¬ m=0:=by omega
 simp[sliced,hne,Addr.add] at this
 simp[execOp,hx,hy,this,Result.andThen]
theorem op_uI {n d:Nat} {ro:Option Nat} {f:Pad.Fr} {w:World} {K:Pad.Fr→World→Prop} {ty:TypeId} {pos:String} {af:Array Edge} {gd:Option (Nat×Bool)} {x:Operand} {m:Nat} (hd:Nat.blt d n=true) (hx:Pad.ev f x = .int .u64 (m:Int)) (hm:m≤2147483648)
  (k:K (upd f d (.int .i64 (m:Int))) w):OP prog n ro ⟨some d,.convert 262 3 x,ty,pos,af,gd⟩ f w K:=by
 have h64:IntKind.i64.wrap (m:Int)=m:=by rw[IntKind.wrap_i64];omega
 exact dh_ hd (by simp[execOp,hx,convert,run_underlying underlying262,run_underlying underlying3,Conv.intToInt,h64]) k
theorem bb2 {S:PH}:∀ (l:List Int),@RepL Int Ty.int.enc S (ivs l) l
 | []=>rfl
 | a::l=>⟨[.int .i64 a],ivs l,rfl,rfl,bb2 l⟩
def RI (m g:Nat) (a:Int) (S:PH) (Fr:List HP) (k:Nat) (f:Pad.Fr) (w:World):Prop :=
 k≤m∧(0<m→0<k)∧∃ S',S.Le S'∧Inv w S' (ly_ g 3 (ivs (as5 m k a)).toArray::Fr)∧f 7 = .slice (some ⟨g,0,none⟩) m m∧f 8 = .int .i64 (k:Int)∧f.ds=[]
theorem ck4 {w:World} {S:PH} {Fr:List HP} {v:Value} {m:Nat} {a:Int} (hI:Inv w S Fr) (hr:RVt (.list .int) S v [a]) (hm:m≤2147483648) :
  Calls prog 154 [v,.int .i64 (m:Int)].toArray w λe w'=>∃ u S',e = .returned u∧S.Le S'∧Inv w' S' (@Row Int Ty.int.enc 3 u (List.replicate m a)::Fr):=by
 obtain⟨a0,cap0,hv2,_,hmax,hnil,hrow⟩:=@ix_ Int Ty.int.enc S v [a] hr
 obtain⟨ad,rfl⟩:∃ ad,a0=some ad:=by
  cases a0 with
  | none=>have:=(hnil rfl).1;simp at this
  | some ad=>exact⟨ad,rfl⟩
 refine sd_ (n:=48) func154 rfl rfl rfl ?_
 refine bl_ (be_ (wa_ (v:=sn) rfl rfl (dv_ ?_)))
 refine bl_ (bl_ (be_ (wm_ (v:=.int .i64 m) rfl rfl (wo_ (aa5 (a:=(m:Int)) (b:=0) rfl rfl rfl (dv_ ?_))))))
 refine jm_ rfl (b6_ (by omega)) (lz_ ?_)
 refine bl_ (be_ (wm_ (v:=v) rfl rfl (wo_ (bc2 rfl underlying46 hv2 ?_))))
 refine wo_ (ct9 (a:=1) rfl rfl underlying3 underlying262 (wm_ (v:=.int .i64 m) rfl rfl (wo_ (ct9 (a:=(m:Int)) rfl rfl underlying3 underlying262 ?_))))
 rw[ch9 hm,show wu64 1=((1:Nat):Int) from rfl]
 refine wo_ (bc1 (vs:=[.int .u64 ((1:Nat):Int),.int .u64 (m:Int)]) rfl cb_199 rfl (args2 rfl rfl) (sh_Mul 1 m (by omega) (by omega) w) λe w2 he => ?_)
 obtain⟨rfl,rfl⟩:=he
 rw[show (1 * m / 18446744073709551616:Nat)=0 by omega,show (1 * m % 18446744073709551616:Nat)=m by omega]
 refine⟨_,rfl,?_⟩
 refine wm_ (v:=.tuple #[.int .u64 ((0:Nat):Int),.int .u64 (m:Int)]) rfl rfl (wo_ (aa6 (v:=.int .u64 ((0:Nat):Int)) rfl rfl rfl (wo_ (aa6 (v:=.int .u64 (m:Int)) rfl rfl rfl (wa_ (v:=.int .u64 ((0:Nat):Int)) rfl rfl (wa_ (v:=.int .u64 (m:Int)) rfl rfl (dv_ ?_)))))))
 refine bl_ (bl_ (be_ (wm_ (v:=.int .u64 ((0:Nat):Int)) rfl rfl (wo_ (cu0 (a:=((0:Nat):Int)) (b:=0) rfl rfl rfl (wm_ (v:=.bool false) rfl rfl (wk_ rfl rfl rfl (nw_ (v:=.int .u64 (m:Int)) rfl rfl (wk_ rfl rfl rfl (cu0 (a:=(m:Int)) (b:=9223372036854775807) rfl rfl rfl ?_))))))))))
 have hdf:decide ((9223372036854775807:Int)<(m:Int))=false:=b6_ (by omega)
 rw[hdf]
 refine wo_ (bt9 (b:=.bool false) rfl rfl rfl rfl (dv_ (jm_ rfl rfl (lz_ ?_))))
 refine bl_ (be_ (wm_ (v:=.int .u64 (m:Int)) rfl rfl (wo_ (op_uI (m:=m) rfl rfl hm ?_))))
 refine wo_ (op_make (m:=m) rfl rfl rfl hm hI λg w3 I3=>wa_ (v:=.slice (some ⟨g,0,none⟩) m m) rfl rfl (dv_ ?_))
 have hcell:w3.cell? ad=some (.int .i64 a):=by
  obtain⟨es,h1,h2⟩:=hrow ad rfl 0 a rfl
  have h1:es=[.int .i64 a]:=h1
  have h3:=PH.cell_in I3.in_ (h2 0 (.int .i64 a) (by rw[h1];rfl))
  simpa [Addr.add] using h3
 have hl3:(ivs (List.replicate m (0:Int))).length=m:=by simp[ivs]
 refine bl_ (as9 (λf w'=>∃ k,RI m g a S Fr k f w') ?_ ?_)
 ·refine be_ (wm_ (v:=.slice (some ⟨g,0,none⟩) m m) rfl rfl (wm_ (v:=v) rfl rfl ?_))
  by_cases h0:m=0
  ·subst h0
   refine wo_ (cm3 (dl:=0) (dc:=0) (sl:=1) (sc:=cap0) rfl underlying46 in3 rfl hv2 rfl (wa_ (v:=.int .i64 0) rfl rfl (dv_ ?_)))
   exact⟨0,c4_ _,λh=>h,S,lr,I3,rfl,rfl,rfl⟩
  ·refine wo_ (bc3 (g:=g) (o:=0) (dl:=m) (dc:=m) (sl:=1) (sc:=cap0) (ad:=ad) (ys:=[.int .i64 a]) rfl underlying46 in3 rfl hv2 I3 ?_ ?_ ?_ ?_ λw4 I4=>wa_ (v:=.int .i64 1) rfl rfl (dv_ ?_))
   ·show 1=Nat.min 1 m
    exact (Nat.min_eq_left (by omega)).symm
   ·intro j u hj
    cases j with
    | zero =>
     obtain rfl:=a6_ hj
     simpa [Addr.add] using hcell
    | succ j=>simp at hj
   ·simp[hl3]
    omega
   ·intro u hu
    simp at hu
    subst hu
    rfl
   ·refine⟨1,by omega,λ_=>by omega,S,lr,?_,rfl,rfl,rfl⟩
    have:=by9 (m:=m) (n:=0) (q:=1) (a:=a) (by omega)
    have e0:as5 m 0 a=List.replicate m 0:=by simp[as5]
    rw[e0] at this
    rw[← this]
    exact I4
 ·rintro f w4 ⟨k0,hk0⟩
  refine bl_ (ff_ (si_ (I:=λk f w'=>RI m g a S Fr k f w') (λk=>m - k) k0 hk0 ?_))
  rintro k f w5 ⟨r1,r2,S5,le5,r3,r4,r5,r6⟩
  refine bl_ (bl_ (be_ (wm_ rfl r5 (wm_ rfl r4 (wo_ (bc2 rfl underlying46 rfl (wo_ (aa5 rfl rfl rfl (dv_ ?_)))))))))
  by_cases hkm:k<m
  ·refine nb_ rfl (len_t hkm) (lz_ ?_)
   refine ff_ (wp_draw (sps:=[spV 38 [] 0 (.int .i64 k),spV 39 [] 1 (.slice (some ⟨g,0,none⟩) m m),spV 40 [] 2 (.int .i64 k),spV 41 [1,2] 3 (.slice (some ⟨g,k,none⟩) (m - k) (m - k)),spV 42 [] 4 (.slice (some ⟨g,0,none⟩) m m),spV 43 [] 5 (.int .i64 k),
    spV 44 [4,5] 6 (.slice (some ⟨g,0,none⟩) k m),⟨some 45,[1,2,3,4,5,6],[7],λvs _=>fr0 vs 0 = .int .i64 (Nat.min k (m - k):Nat),[],[0],[1],λ_ h=>h⟩,spV 46 [0,1,2,3,4,5,6,7] 8 (.int .i64 ((k+Nat.min k (m - k):Nat):Int)),spV 8 (lrg 9) 9 (.int .i64 ((k+Nat.min k (m - k):Nat):Int))])
    (tks:=[⟨none,some 7,[],λ_=>ly_ g 3 (ivs (as5 m k a)).toArray⟩,⟨some 7,none,[],λ_=>ly_ g 3 (ivs (as5 m (k+Nat.min k (m - k)) a)).toArray⟩]) (O:=Fr) rfl (by kernel_rfl) r3
    ⟨ob_ rfl λl A K I=>nw_ rfl ((K 8 (yd_ rfl)).trans r5) (fo I),ob_ rfl λl A K I=>nw_ rfl ((K 7 (yd_ rfl)).trans r4) (fo I),ob_ rfl λl A K I=>nw_ rfl ((K 8 (yd_ rfl)).trans r5) (fo I),
     ob_ rfl λl A K I=>dh_ rfl (sl_l (A.v 0 rfl) (A.v 1 rfl) hkm) (fo I),ob_ rfl λl A K I=>nw_ rfl ((K 7 (yd_ rfl)).trans r4) (fo I),ob_ rfl λl A K I=>nw_ rfl ((K 8 (yd_ rfl)).trans r5) (fo I),
     ob_ rfl λl A K I=>dh_ rfl (sl_h (A.v 0 rfl) (A.v 1 rfl) hkm) (fo I),?_,?_,ob_ rfl λl A K I=>pb_ rfl (A.v 8 rfl) (fo I),trivial⟩ ?_)
   ·intro vs f w_ U X le A K I
    have hq:Nat.min k (m - k)≤k∧k+Nat.min k (m - k)≤m:=⟨Nat.min_le_left _ _,by have:Nat.min k (m - k)≤m - k:=m5_ _ _;omega⟩
    refine pl_ rfl (bc3 (g:=g) (o:=k) (dl:=m - k) (dc:=m - k) (sl:=k) (sc:=m) (ad:=⟨g,0,none⟩) (ys:=ivs (List.replicate (Nat.min k (m - k)) a)) rfl underlying46 in3 (A.v 2 rfl) (A.v 5 rfl) I (by simp[ivs]) ?_ ?_ ivs_one λw6 I6 => ?_)
    ·intro j u hj
     have hj2:j<Nat.min k (m - k):=by
      have:=(a3_.1 hj).1
      simpa [ivs] using this
     have e:u = .int .i64 a:=by
      unfold ivs at hj
      rw[e3_,k1_,if_pos hj2] at hj
      exact (a6_ hj).symm
     rw[fp_,b0_,I.cell,e]
     have:=rowR_at (m:=m) (n:=k) (j:=j) (a:=a) (by omega)
     simpa using this
    ·have:(ivs (as5 m k a)).toArray.size=m:=by simp[ivs_len,ck0 r1]
     rw[this]
     simpa [ivs] using hq.2
    ·have el:(ivs (List.replicate (Nat.min k (m - k)) a)).length=Nat.min k (m - k):=by simp[ivs]
     have e:=by9 (m:=m) (n:=k) (q:=Nat.min k (m - k)) (a:=a) hq.2
     rw[el] at I6
     refine⟨_,U,rfl,lr,by rw[el];rfl,?_⟩
     show Inv w6 U (ly_ g 3 (ivs (as5 m (k+Nat.min k (m - k)) a)).toArray::_)
     rw[← e]
     exact I6
   ·intro vs f w_ U X le A K I
    have hq:k+Nat.min k (m - k)≤m:=by
     have:Nat.min k (m - k)≤m - k:=m5_ _ _
     omega
    have e:w64 ((k:Int)+(Nat.min k (m - k):Nat))=((k+Nat.min k (m - k):Nat):Int):=by
     rw[ma_ (by omega) (by omega)]
     rfl
    refine pl_ rfl (bu1 rfl (A.v 0 rfl) (A.v 7 rfl) ?_)
    rw[e]
    exact fo I
   ·intro vs f6 w6 S6 ds6 le6 hF hK hI6
    have hq:0<Nat.min k (m - k)∧k+Nat.min k (m - k)≤m:=by
     have h1:Nat.min k (m - k)≤m - k:=m5_ _ _
     refine⟨Nat.lt_min.2 ⟨r2 (by omega),by omega⟩,by omega⟩
    have e8:f6 8 = .int .i64 ((k+Nat.min k (m - k):Nat):Int):=hF.v 9 rfl
    have e7:f6 7 = .slice (some ⟨g,0,none⟩) m m:=(hK 7 (co4 rfl)).trans r4
    exact⟨k+Nat.min k (m - k),by omega,hq.2,λ_=>by omega,S6,le5.trans le6,hI6,e7,e8,ds6.trans r6⟩
  ·refine jm_ rfl (b6_ (by omega)) (sj_ ?_)
   obtain rfl:k=m:=by omega
   refine bl_ (be_ (wm_ rfl r4 (wa_ (v:=.slice (some ⟨g,0,none⟩) k k) rfl rfl (dv_ (ww_ ⟨r6,.slice (some ⟨g,0,none⟩) k k,res1 rfl rfl,_,S5,rfl,le5,?_⟩)))))
   refine Inv.shut (A:=@Row Int Ty.int.enc 3 _ (List.replicate k a)) r3 (.inr ⟨g,k,[],ivs (List.replicate k a),[],by simp,by simp[as5],bb2 _,by simp,by simp only[maxLen];omega,by simp⟩)
noncomputable def fv_ (a0:List Int) (a1:Int):Option (List Int):=match a0 with
 | [a]=>mk? a1 a
 | _=>none
noncomputable def rp_154:Rpt prog:=⟨154,[.list .int,.int],.int,3,λx=>fv_ x.1 x.2.1,λ{w S Fr hv vs x r} hG hI ha hF=>by
 obtain⟨l,c,u⟩:=x
 match vs,ha with
 | [v1,v2],⟨h1,h2,_⟩ =>
  have hF:fv_ l c=some r:=hF
  match l,hF,h1 with
  | [a],hF,h1 =>
   obtain⟨c0,c1,rfl⟩:=ag8 (show mk? c a=some r from hF)
   obtain⟨m,rfl⟩:=Int.eq_ofNat_of_zero_le c0
   obtain rfl:v2 = .int .i64 (m:Int):=nh_ (S:=S) (rv_ (hv:=hv) (t:=.int) h2)
   have hr:RVt (.list .int) S v1 [a]:=rv_ (hv:=hv) h1
   rw[b9_]
   refine (ck4 hI hr (by omega)).mono λe w' he => ?_
   obtain⟨u,S',h3,h4,h5⟩:=he
   exact⟨u,S',h3,h4,h5⟩⟩
end
section
set_option maxRecDepth 100000
set_option maxHeartbeats 0
theorem cz_68:ro_ prog 3 .int=some (show Int from 0):=by kernel_rfl
theorem ce_68:Rex.elemOf prog 46=some 3:=by kernel_rfl
noncomputable def ay2:Cpy prog:=⟨68,.int,3,λhc hI h=>bg6 func68 rfl rfl rfl ce_68 cz_68 rfl hc hI h⟩
theorem cz_69:ro_ prog 4 .bool=some (show Bool from false):=by kernel_rfl
theorem ce_69:Rex.elemOf prog 56=some 4:=by kernel_rfl
noncomputable def cp_69:Cpy prog:=⟨69,.bool,4,λhc hI h=>bg6 func69 rfl rfl rfl ce_69 cz_69 rfl hc hI h⟩
end
section
set_option maxRecDepth 100000
set_option maxHeartbeats 0
noncomputable def oe_ (a0:ae_):Option (Bool×Unit) :=
 (((cond (decide (12<(a0.1.length:Int)))
 (some (true,()))
 (cond (decide (15<(a0.2.1.length:Int)))
 (some (true,()))
 (cond (decide (14<(a0.2.2.1.length:Int)))
 (some (true,()))
 (cond (decide (20<(a0.2.2.2.1.length:Int)))
 (some (true,()))
 (cond (decide (30<(a0.2.2.2.2.1.length:Int)))
 (some (true,()))
 (cond (decide (15<(a0.2.2.2.2.2.1.length:Int)))
 (some (true,()))
 (some ((decide (20<(a0.2.2.2.2.2.2.2.length:Int))),()))))))))).bind λv0 =>
 (cond v0.1
 (some (true,()))
 ((af_ (ρ:=(Unit⊕(Bool×Unit))) (λ(v1:(Int×Unit)) =>
 (cond (decide (v1.1<(a0.1.length:Int)))
 ((at? a0.1 v1.1).bind λv2 =>
 (cond (decide (100<(v2.length:Int)))
 (some (inr (inr (true,()))))
 (some (inl ((w64 (v1.1+1)),())))))
 (some (inr (inl ()))))) (0,())).bind λv3 =>
 (cd_ v3 (λv4=>((af_ (ρ:=(Unit⊕(Bool×Unit))) (λ(v6:(Int×Unit)) =>
 (cond (decide (v6.1<(a0.2.1.length:Int)))
 ((at? a0.2.1 v6.1).bind λv7 =>
 (cond (decide (100<(v7.1.length:Int)))
 (some (inr (inr (true,()))))
 (some (inl ((w64 (v6.1+1)),())))))
 (some (inr (inl ()))))) (0,())).bind λv8 =>
 (cd_ v8 (λv9=>((af_ (ρ:=(Unit⊕(Bool×Unit))) (λ(v11:(Int×Unit)) =>
 (cond (decide (v11.1<(a0.2.2.1.length:Int)))
 ((((at? a0.2.2.1 v11.1).bind λv12 =>
 (cond (decide (100<(v12.1.length:Int)))
 (some (true,()))
 ((at? a0.2.2.1 v11.1).bind λv13 =>
 (some ((decide (20<(v13.2.2.length:Int))),())))))).bind λv14 =>
 (cond v14.1
 (some (inr (inr (true,()))))
 (some (inl ((w64 (v11.1+1)),())))))
 (some (inr (inl ()))))) (0,())).bind λv15 =>
 (cd_ v15 (λv16=>((af_ (ρ:=(Unit⊕(Bool×Unit))) (λ(v18:(Int×Unit)) =>
 (cond (decide (v18.1<(a0.2.2.2.1.length:Int)))
 ((at? a0.2.2.2.1 v18.1).bind λv19 =>
 (cond (decide (20<(v19.2.2.length:Int)))
 (some (inr (inr (true,()))))
 (some (inl ((w64 (v18.1+1)),())))))
 (some (inr (inl ()))))) (0,())).bind λv20 =>
 (cd_ v20 (λv21=>((af_ (ρ:=(Unit⊕(Bool×Unit))) (λ(v23:(Int×Unit)) =>
 (cond (decide (v23.1<(a0.2.2.2.2.1.length:Int)))
 ((at? a0.2.2.2.2.1 v23.1).bind λv24 =>
 (((cond (decide (100<(v24.1.length:Int)))
 (some (true,()))
 (cond (decide (20<(v24.2.2.2.2.1.length:Int)))
 (some (true,()))
 (cond (decide (20<(v24.2.2.2.1.length:Int)))
 (some (true,()))
 (cond (decide (20<(v24.2.2.2.2.2.1.length:Int)))
 (some (true,()))
 (cond (decide (20<(v24.2.2.2.2.2.2.1.length:Int)))
 (some (true,()))
 (some ((decide (20<(v24.2.2.2.2.2.2.2.length:Int))),())))))))).bind λv25 =>
 (cond v25.1
 (some (inr (inr (true,()))))
 (some (inl ((w64 (v23.1+1)),()))))))
 (some (inr (inl ()))))) (0,())).bind λv26 =>
 (cd_ v26 (λv27=>((af_ (ρ:=(Unit⊕(Bool×Unit))) (λ(v29:(Int×Unit)) =>
 (cond (decide (v29.1<(a0.2.2.2.2.2.1.length:Int)))
 ((at? a0.2.2.2.2.2.1 v29.1).bind λv30 =>
 (cond (decide (20<(v30.1.length:Int)))
 (some (inr (inr (true,()))))
 (some (inl ((w64 (v29.1+1)),())))))
 (some (inr (inl ()))))) (0,())).bind λv31 =>
 (cd_ v31 (λv32=>(some (false,())))
 (λv33=>(some v33)))))
 (λv28=>(some v28)))))
 (λv22=>(some v22)))))
 (λv17=>(some v17)))))
 (λv10=>(some v10)))))
 (λv5=>(some v5))))))
theorem x_35:au_ (P:=prog) (cxC [] []) (.p .z (.p (.j0 [.v 49 .bool] .z .z) (.p (.p .z (.ls [.v 3 .int] [] [] 0 .z)) (.p (.p .z (.ls [.v 4 .int] [] [] 2 .z)) (.p (.p .z (.ls [.v 5 .int] [] [] 4 (.p .z (.p (.j0 [.v 103 .bool] .z .z) .z)))) (.p (.p .z (.ls [.v 6 .int] [] [] 6 .z)) (.p (.p .z (.ls [.v 7 .int] [] [] 8 (.p .z (.p (.p .z (.j0 [.v 164 .bool] .z .z)) .z)))) (.p (.p .z (.ls [.v 9 .int] [] [] 10 .z)) .z)))))))) 35 [an_] [.bool]=λx=>oe_ x.1:=by kernel_rfl
noncomputable def c_35:Con prog:=av_ _ _ 35 [an_] [.bool] _ x_35
noncomputable def bv_ (a0:Int) (a1:Int) (a2:Int):Option (Bool×Unit) :=
 (cond (decide (a1≤a0))
 (some ((decide (a0≤a2)),()))
 (some (false,())))
theorem x_72:au_ (P:=prog) (cxC [] []) .z 72 [.int,.int,.int] [.bool]=λx=>bv_ x.1 x.2.1 x.2.2.1:=by kernel_rfl
noncomputable def c_72:Con prog:=av_ _ _ 72 [.int,.int,.int] [.bool] _ x_72
noncomputable def aj0  : Option ((List (List UInt8))×Unit) :=
 (some (([[97,116],[115,116,97,116,101,115],[115,116,97,114,116],[103,111,110,101],[105,102],[108,111,99,107],[119,105,116,104],[115,101,116,115],[115,112,101,110,100,115],[98,114,105,110,103,115]]:List (List UInt8)),()))
theorem x_188:au_ (P:=prog) (cxC [] []) .z 188 [] [(.list .str)]=λx=>aj0:=by kernel_rfl
noncomputable def c_188:Con prog:=av_ _ _ 188 [] [(.list .str)] _ x_188
noncomputable def gn_ (a0:(List (List UInt8))) (a1:Int):Option (Bool×Unit) :=
 ((af_ (ρ:=(Unit⊕(Bool×Unit))) (λ(v0:(Int×Unit)) =>
 (cond (decide (v0.1<a1))
 ((at? a0 v0.1).bind λv1 =>
 ((at? a0 a1).bind λv2 =>
 (cond (v1==v2)
 (some (inr (inr (true,()))))
 (some (inl ((w64 (v0.1+1)),()))))))
 (some (inr (inl ()))))) (0,())).bind λv3 =>
 (cd_ v3 (λv4=>(some (false,())))
 (λv5=>(some v5))))
theorem x_78:au_ (P:=prog) (cxC [] []) (.p .z (.p (.p .z (.ls [.v 5 .int] [] [] 0 (.p .z (.p (.p (.q [] .z .z) .z) .z)))) .z)) 78 [(.list .str),.int] [.bool]=λx=>gn_ x.1 x.2.1:=by kernel_rfl
noncomputable def c_78:Con prog:=av_ _ _ 78 [(.list .str),.int] [.bool] _ x_78
noncomputable def no_ (a0:(List Int)) (a1:Int):Option (Bool×Unit) :=
 ((af_ (ρ:=(Unit⊕(Bool×Unit))) (λ(v0:(Int×Unit)) =>
 (cond (decide (v0.1<(a0.length:Int)))
 ((at? a0 v0.1).bind λv1 =>
 (cond (v1==a1)
 (some (inr (inr (true,()))))
 (some (inl ((w64 (v0.1+1)),())))))
 (some (inr (inl ()))))) (0,())).bind λv2 =>
 (cd_ v2 (λv3=>(some (false,())))
 (λv4=>(some v4))))
theorem x_134:au_ (P:=prog) (cxC [] []) (.p .z (.p (.p .z (.ls [.v 5 .int] [] [] 0 .z)) .z)) 134 [(.list .int),.int] [.bool]=λx=>no_ x.1 x.2.1:=by kernel_rfl
noncomputable def c_134:Con prog:=av_ _ _ 134 [(.list .int),.int] [.bool] _ x_134
noncomputable def bn_ (a0:Int) (a1:Int) (a2:Int):Option (Bool×Unit) :=
 (cond (decide (a1≤a0))
 (some ((decide (a0≤a2)),()))
 (some (false,())))
theorem x_80:au_ (P:=prog) (cxC [] []) .z 80 [.int,.int,.int] [.bool]=λx=>bn_ x.1 x.2.1 x.2.2.1:=by kernel_rfl
noncomputable def c_80:Con prog:=av_ _ _ 80 [.int,.int,.int] [.bool] _ x_80
noncomputable def js_ (a0:Int) (a1:Int) (a2:Int):Option (Bool×Unit) :=
 (cond (decide (a1≤a0))
 (some ((decide (a0≤a2)),()))
 (some (false,())))
theorem x_41:au_ (P:=prog) (cxC [] []) .z 41 [.int,.int,.int] [.bool]=λx=>js_ x.1 x.2.1 x.2.2.1:=by kernel_rfl
noncomputable def c_41:Con prog:=av_ _ _ 41 [.int,.int,.int] [.bool] _ x_41
noncomputable def mg_ (a0:ak_):Option (Bool×Unit) :=
 (cond (a0.1==0)
 (cond (a0.2.1==0)
 (cond (a0.2.2.1==0)
 (cond (a0.2.2.2.1==0)
 (cond (a0.2.2.2.2.1==0)
 (cond ((a0.2.2.2.2.2.1.length:Int)==0)
 (some ((!a0.2.2.2.2.2.2),()))
 (some (false,())))
 (some (false,())))
 (some (false,())))
 (some (false,())))
 (some (false,())))
 (some (false,())))
theorem x_82:au_ (P:=prog) (cxC [] []) .z 82 [aq_] [.bool]=λx=>mg_ x.1:=by kernel_rfl
noncomputable def c_82:Con prog:=av_ _ _ 82 [aq_] [.bool] _ x_82
noncomputable def hj_ (a0:(List Int)) (a1:(List Int)):Option (Bool×Unit) :=
 (cond ((a0.length:Int) != (a1.length:Int))
 (some (false,()))
 ((af_ (ρ:=(Unit⊕(Bool×Unit))) (λ(v0:(Int×Unit)) =>
 (cond (decide (v0.1<(a0.length:Int)))
 ((at? a0 v0.1).bind λv1 =>
 ((at? a1 v0.1).bind λv2 =>
 (cond (v1 != v2)
 (some (inr (inr (false,()))))
 (some (inl ((w64 (v0.1+1)),()))))))
 (some (inr (inl ()))))) (0,())).bind λv3 =>
 (cd_ v3 (λv4=>(some (true,())))
 (λv5=>(some v5)))))
theorem x_213:au_ (P:=prog) (cxC [] []) (.p .z (.p .z (.p (.p .z (.ls [.v 5 .int] [] [] 0 (.p .z (.p (.p (.q [] .z .z) .z) .z)))) .z))) 213 [(.list .int),(.list .int)] [.bool]=λx=>hj_ x.1 x.2.1:=by kernel_rfl
noncomputable def c_213:Con prog:=av_ _ _ 213 [(.list .int),(.list .int)] [.bool] _ x_213
noncomputable def fc_ (a0:(List Int)) (a1:Int):Option (Int×Unit) :=
 ((af_ (ρ:=(Int×Unit)) (λ(v0:(Int×(Int×Unit))) =>
 (cond (decide (v0.2.1<(a0.length:Int)))
 ((((at? a0 v0.2.1).bind λv1 =>
 (cond (v1==a1)
 (some ((w64 (v0.1+1)),()))
 (some (v0.1,()))))).bind λv2 =>
 (some (inl (v2.1,((w64 (v0.2.1+1)),())))))
 (some (inr (v0.1,()))))) (0,(0,()))).bind λv3 =>
 (some (v3.1,())))
theorem x_136:au_ (P:=prog) (cxC [] []) (.p .z (.p .z (.p (.p .z (.lp [.v 5 .int,.v 6 .int] [.v 5 .int] [] 0 (.p .z (.j0 [.v 5 .int] .z .z)))) .z))) 136 [(.list .int),.int] [.int]=λx=>fc_ x.1 x.2.1:=by kernel_rfl
noncomputable def c_136:Con prog:=av_ _ _ 136 [(.list .int),.int] [.int] _ x_136
noncomputable def bk_ (a0:aj_) (a1:(List bi_)):Option (Bool×Unit) :=
 ((af_ (ρ:=(Unit⊕(Bool×Unit))) (λ(v0:(Int×Unit)) =>
 (cond (decide (v0.1<(a1.length:Int)))
 ((at? a1 v0.1).bind λv1 =>
 ((at? a0.1 v1.1).bind λv2 =>
 ((at? a1 v0.1).bind λv3 =>
 ((at? a1 v0.1).bind λv4 =>
 (cond ((v2==v3.2.1)==v4.2.2)
 (some (inr (inr (false,()))))
 (some (inl ((w64 (v0.1+1)),()))))))))
 (some (inr (inl ()))))) (0,())).bind λv5 =>
 (cd_ v5 (λv6=>(some (true,())))
 (λv7=>(some v7))))
theorem x_13:au_ (P:=prog) (cxC [] []) (.p .z (.p (.p .z (.ls [.v 5 .int] [] [] 0 (.p .z (.p (.p (.q [] .z .z) .z) .z)))) .z)) 13 [ao_,(.list cc_)] [.bool]=λx=>bk_ x.1 x.2.1:=by kernel_rfl
noncomputable def c_13:Con prog:=av_ _ _ 13 [ao_,(.list cc_)] [.bool] _ x_13
noncomputable def go_ (a0:aj_):Option (aj_×Unit) :=
 ((push? (α:=Int) [] a0.1).bind λv0 =>
 ((push? (α:=Int) [] a0.2.1).bind λv1 =>
 ((push? (α:=Int) [] a0.2.2).bind λv2 =>
 (some ((v0,(v1,v2)),())))))
theorem x_142:au_ (P:=prog) (cxC [] []) .z 142 [ao_] [ao_]=λx=>go_ x.1:=by kernel_rfl
noncomputable def c_142:Con prog:=av_ _ _ 142 [ao_] [ao_] _ x_142
def an_87:An:=.z
noncomputable def cs_87 (f:List (Con prog)):List (Con prog):=f++[]
noncomputable def cl_87:List (Cpy prog):=[]
noncomputable def cx_87 (f:List (Con prog)):Cx prog:=cxC (cs_87 f) cl_87
noncomputable def g_87 (cg_:Int→Option ((List UInt8)×Unit)) (a0:Int):Option ((List UInt8)×Unit) :=
 ((sub? [48,49,50,51,52,53,54,55,56,57] (Int.tmod a0 10) (w64 ((Int.tmod a0 10)+1))).bind λv0 =>
 (cond (decide (a0<10))
 (some (v0,()))
 ((cg_ (w64 (Int.tdiv a0 10))).bind λv1 =>
 ((cat? v1.1 v0).bind λv2 =>
 (some (v2,()))))))
theorem xr_87:(λ(F:Int→Option ((List UInt8)×Unit)) (h:cg5 prog 87 [.int] [.str] (λx=>F x.1))=>au_ (cx_87 [cnv 87 [.int] [.str] _ h]) an_87 87 [.int] [.str])=λF h x=>g_87 F x.1:=by kernel_rfl
noncomputable def ed_:Nat→Int→Option ((List UInt8)×Unit)
 | 0=>λ_=>none
 | n+1=>g_87 (ed_ n)
theorem ok_87:∀ n,cg5 prog 87 [.int] [.str] (λx=>ed_ n x.1)
 | 0=>λ_ _ _ h=>(by cases h)
 | n+1=>λhG hI ha h=>(av_ _ _ 87 [.int] [.str] _ (congrFun (congrFun xr_87 (ed_ n)) (ok_87 n))).ok hG hI ha h
noncomputable def cg_ (a0:Int):Option ((List UInt8)×Unit):=ed_ 20 a0
noncomputable def c_87:Con prog:=cnv 87 [.int] [.str] (λx=>cg_ x.1) (ok_87 20)
noncomputable def hv_ (a0:aj_) (a1:Int):Option (Int×Unit) :=
 ((af_ (ρ:=(Int×Unit)) (λ(v0:(Int×(Int×Unit))) =>
 (cond (decide (v0.2.1<(a0.2.1.length:Int)))
 ((((at? a0.2.1 v0.2.1).bind λv1 =>
 (cond (v1==(w64 ((-2) - a1)))
 (some ((w64 (v0.1+1)),()))
 (some (v0.1,()))))).bind λv2 =>
 (some (inl (v2.1,((w64 (v0.2.1+1)),())))))
 (some (inr (v0.1,()))))) (0,(0,()))).bind λv3 =>
 (some (v3.1,())))
theorem x_190:au_ (P:=prog) (cxC [] []) (.p .z (.p .z (.p (.p .z (.lp [.v 5 .int,.v 6 .int] [.v 5 .int] [] 0 (.p .z (.j0 [.v 5 .int] .z .z)))) .z))) 190 [ao_,.int] [.int]=λx=>hv_ x.1 x.2.1:=by kernel_rfl
noncomputable def c_190:Con prog:=av_ _ _ 190 [ao_,.int] [.int] _ x_190
noncomputable def km_ (a0:ac_) (a1:(List Int)):Option ((List ak_)×Unit) :=
 ((af_ (ρ:=((List ak_)×Unit)) (λ(v0:((List ak_)×(Int×Unit))) =>
 (cond (decide (v0.2.1<(a1.length:Int)))
 ((at? a1 v0.2.1).bind λv1 =>
 ((at? a0.2.2.2.1 v1).bind λv2 =>
 ((push? (α:=ak_) v0.1 [v2.2.2.2.2]).bind λv3 =>
 (some (inl (v3,((w64 (v0.2.1+1)),())))))))
 (some (inr (v0.1,()))))) ([],(0,()))).bind λv4 =>
 (some (v4.1,())))
theorem x_215:au_ (P:=prog) (cxC [] []) (.p .z (.p .z (.p (.p .z (.lp [.r 5 aq_ 79,.v 6 .int] [.r 5 aq_ 79] [] 0 .z)) .z))) 215 [ap_,(.list .int)] [(.list aq_)]=λx=>km_ x.1 x.2.1:=by kernel_rfl
noncomputable def c_215:Con prog:=av_ _ _ 215 [ap_,(.list .int)] [(.list aq_)] _ x_215
noncomputable def ih_ (a0:ac_) (a1:aa_) (a2:Int):Option ((List Int)×Unit) :=
 ((af_ (ρ:=((List Int)×Unit)) (λ(v0:((List Int)×(Int×Unit))) =>
 (cond (decide (v0.2.1<(a0.2.2.2.1.length:Int)))
 ((((((at? a1.2 v0.2.1).bind λv1 =>
 (cond v1
 ((at? a0.2.2.2.1 v0.2.1).bind λv2 =>
 (some ((v2.2.2.1==a2),())))
 (some (false,()))))).bind λv3 =>
 (cond v3.1
 ((push? (α:=Int) v0.1 [v0.2.1]).bind λv4 =>
 (some (v4,())))
 (some (v0.1,()))))).bind λv5 =>
 (some (inl (v5.1,((w64 (v0.2.1+1)),())))))
 (some (inr (v0.1,()))))) ([],(0,()))).bind λv6 =>
 (some (v6.1,())))
theorem x_192:au_ (P:=prog) (cxC [] []) (.p .z (.p .z (.p (.p .z (.lp [.r 7 .int 3,.v 8 .int] [.r 7 .int 3] [] 0 (.p .z (.j0 [.r 7 .int 3] (.j0 [.v 30 .bool] .z .z) .z)))) .z))) 192 [ap_,al_,.int] [(.list .int)]=λx=>ih_ x.1 x.2.1 x.2.2.1:=by kernel_rfl
noncomputable def c_192:Con prog:=av_ _ _ 192 [ap_,al_,.int] [(.list .int)] _ x_192
noncomputable def bg_ (a0:Int) (a1:Int) (a2:Int):Option (Bool×Unit) :=
 (cond (decide (a1≤a0))
 (some ((decide (a0≤a2)),()))
 (some (false,())))
theorem x_116:au_ (P:=prog) (cxC [] []) .z 116 [.int,.int,.int] [.bool]=λx=>bg_ x.1 x.2.1 x.2.2.1:=by kernel_rfl
noncomputable def cq7:Con prog:=av_ _ _ 116 [.int,.int,.int] [.bool] _ x_116
noncomputable def fi_ (a0:(List Int)) (a1:(List Int)):Option (Int×Int×Unit) :=
 ((af_ (ρ:=(Int×((List Int)×((List Int)×Unit)))) (λ(v0:(Int×(Int×((List Int)×((List Int)×Unit))))) =>
 (cond (decide (v0.2.1<(a0.length:Int)))
 ((at? a0 v0.2.1).bind λv1 =>
 ((((at? a1 v0.2.1).bind λv2 =>
 (cond (v1==v2)
 (some ((w64 (v0.1+1)),()))
 (some (v0.1,()))))).bind λv3 =>
 (cond (decide (v1<(10:Int)))
 ((at? v0.2.2.1 v1).bind λv4 =>
 ((at? v0.2.2.1 v1).bind λv5 =>
 (cond (decide (v1<(10:Int)))
 ((at? v0.2.2.1 v1).bind λv6 =>
 ((at? v0.2.2.1 v1).bind λv7 =>
 ((at? a1 v0.2.1).bind λv8 =>
 (cond (decide (v8<(10:Int)))
 ((at? v0.2.2.2.1 v8).bind λv9 =>
 ((at? v0.2.2.2.1 v8).bind λv10 =>
 (cond (decide (v8<(10:Int)))
 ((at? v0.2.2.2.1 v8).bind λv11 =>
 ((at? v0.2.2.2.1 v8).bind λv12 =>
 (some (inl (v3.1,((w64 (v0.2.1+1)),((v0.2.2.1.set v1.toNat (w64 (v5+1))),((v0.2.2.2.1.set v8.toNat (w64 (v10+1))),()))))))))
 none)))
 none))))
 none)))
 none)))
 (some (inr (v0.1,(v0.2.2.1,(v0.2.2.2.1,()))))))) (0,(0,([0,0,0,0,0,0,0,0,0,0],([0,0,0,0,0,0,0,0,0,0],()))))).bind λv13 =>
 ((af_ (ρ:=(Int×Unit)) (λ(v14:(Int×(Int×Unit))) =>
 (cond (decide (v14.2.1<10))
 (cond (decide (v14.2.1<(10:Int)))
 ((at? v13.2.1 v14.2.1).bind λv15 =>
 ((at? v13.2.1 v14.2.1).bind λv16 =>
 (cond (decide (v14.2.1<(10:Int)))
 ((at? v13.2.2.1 v14.2.1).bind λv17 =>
 ((at? v13.2.2.1 v14.2.1).bind λv18 =>
 (some (inl ((w64 (v14.1+(bl5 v16 v18))),((w64 (v14.2.1+1)),()))))))
 none)))
 none)
 (some (inr (v14.1,()))))) (0,(0,()))).bind λv19 =>
 (some (v13.1,((w64 (v19.1 - v13.1)),())))))
theorem x_227:au_ (P:=prog) (cxC [] []) (.p .z (.p .z (.p (.p .z (.lp [.v 4 .int,.v 13 .int] [.v 4 .int] [.o (.s 6) .int,.o (.s 7) .int] 0 (.p .z (.p .z (.p (.p .z (.j0 [.v 4 .int] .z .z)) .z))))) (.p (.p .z (.lp [.v 5 .int,.v 40 .int] [.v 5 .int] [] 2 .z)) .z)))) 227 [(.list .int),(.list .int)] [.int,.int]=λx=>fi_ x.1 x.2.1:=by kernel_rfl
noncomputable def c_227:Con prog:=av_ _ _ 227 [(.list .int),(.list .int)] [.int,.int] _ x_227
noncomputable def cv_ (a0:(List bi_)):Option ((List bi_)×Unit) :=
 ((push? (α:=bi_) [] a0).bind λv0 =>
 (some (v0,())))
theorem x_48:au_ (P:=prog) (cxC [] []) .z 48 [(.list cc_)] [(.list cc_)]=λx=>cv_ x.1:=by kernel_rfl
noncomputable def c_48:Con prog:=av_ _ _ 48 [(.list cc_)] [(.list cc_)] _ x_48
noncomputable def eb_ (a0:(List Int)):Option ((List Int)×Unit) :=
 ((push? (α:=Int) [] a0).bind λv0 =>
 (some (v0,())))
theorem x_49:au_ (P:=prog) (cxC [] []) .z 49 [(.list .int)] [(.list .int)]=λx=>eb_ x.1:=by kernel_rfl
noncomputable def c_49:Con prog:=av_ _ _ 49 [(.list .int)] [(.list .int)] _ x_49
noncomputable def hi_ (a0:ak_):Option (ak_×Unit) :=
 ((push? (α:=Int) [] a0.2.2.2.2.2.1).bind λv0 =>
 (some ((a0.1,(a0.2.1,(a0.2.2.1,(a0.2.2.2.1,(a0.2.2.2.2.1,(v0,a0.2.2.2.2.2.2)))))),())))
theorem x_21:au_ (P:=prog) (cxC [] []) .z 21 [aq_] [aq_]=λx=>hi_ x.1:=by kernel_rfl
noncomputable def c_21:Con prog:=av_ _ _ 21 [aq_] [aq_] _ x_21
noncomputable def bf_ (a0:Int) (a1:Int) (a2:Int):Option (Bool×Unit) :=
 (cond (decide (a1≤a0))
 (some ((decide (a0≤a2)),()))
 (some (false,())))
theorem x_106:au_ (P:=prog) (cxC [] []) .z 106 [.int,.int,.int] [.bool]=λx=>bf_ x.1 x.2.1 x.2.2.1:=by kernel_rfl
noncomputable def cd9:Con prog:=av_ _ _ 106 [.int,.int,.int] [.bool] _ x_106
noncomputable def ef_ (a0:(List (List UInt8))) (a1:(List UInt8)):Option (Int×Unit) :=
 ((af_ (ρ:=(Unit⊕(Int×Unit))) (λ(v0:(Int×Unit)) =>
 (cond (decide (v0.1<(a0.length:Int)))
 ((at? a0 v0.1).bind λv1 =>
 (cond (a1==v1)
 (some (inr (inr (v0.1,()))))
 (some (inl ((w64 (v0.1+1)),())))))
 (some (inr (inl ()))))) (0,())).bind λv2 =>
 (cd_ v2 (λv3=>(some ((-1),())))
 (λv4=>(some v4))))
theorem x_224:au_ (P:=prog) (cxC [] []) (.p .z (.p (.p .z (.ls [.v 8 .int] [] [] 0 .z)) .z)) 224 [(.list .str),.str] [.int]=λx=>ef_ x.1 x.2.1:=by kernel_rfl
noncomputable def c_224:Con prog:=av_ _ _ 224 [(.list .str),.str] [.int] _ x_224
noncomputable def vo_ (a0:(List UInt8)):Option ((List UInt8)×Unit) :=
 (some (a0,()))
theorem x_108:au_ (P:=prog) (cxC [] []) .z 108 [.str] [.str]=λx=>vo_ x.1:=by kernel_rfl
noncomputable def c_108:Con prog:=av_ _ _ 108 [.str] [.str] _ x_108
noncomputable def vn_ (a0:hq_):Option ((List UInt8)×Unit) :=
 (some (a0.1,()))
theorem x_110:au_ (P:=prog) (cxC [] []) .z 110 [rp_] [.str]=λx=>vn_ x.1:=by kernel_rfl
noncomputable def c_110:Con prog:=av_ _ _ 110 [rp_] [.str] _ x_110
noncomputable def yp_ (a0:kz_):Option ((List UInt8)×Unit) :=
 (some (a0.1,()))
theorem x_112:au_ (P:=prog) (cxC [] []) .z 112 [qh_] [.str]=λx=>yp_ x.1:=by kernel_rfl
noncomputable def c_112:Con prog:=av_ _ _ 112 [qh_] [.str] _ x_112
noncomputable def zr_ (a0:dg_):Option ((List UInt8)×Unit) :=
 (some (a0.1,()))
theorem x_165:au_ (P:=prog) (cxC [] []) .z 165 [nf_] [.str]=λx=>zr_ x.1:=by kernel_rfl
noncomputable def c_165:Con prog:=av_ _ _ 165 [nf_] [.str] _ x_165
noncomputable def hu_ (a0:ae_) (a1:(List Int)):Option (Bool×Unit) :=
 ((af_ (ρ:=(Unit⊕(Bool×Unit))) (λ(v0:(Int×(Int×Unit))) =>
 (cond (decide (v0.2.1<(a1.length:Int)))
 ((at? a1 v0.2.1).bind λv1 =>
 (((cond (decide (v1≤v0.1))
 (some (true,()))
 (some ((decide ((a0.2.2.1.length:Int)≤v1)),())))).bind λv2 =>
 (cond v2.1
 (some (inr (inr (false,()))))
 (some (inl (v1,((w64 (v0.2.1+1)),())))))))
 (some (inr (inl ()))))) ((-1),(0,()))).bind λv3 =>
 (cd_ v3 (λv4=>(some (true,())))
 (λv5=>(some v5))))
theorem x_166:au_ (P:=prog) (cxC [] []) (.p .z (.p .z (.p (.p .z (.ls [.v 5 .int,.v 10 .int] [] [] 0 (.p .z (.p .z (.p (.p .z (.p (.j0 [.v 23 .bool] .z .z) .z)) .z))))) .z))) 166 [an_,(.list .int)] [.bool]=λx=>hu_ x.1 x.2.1:=by kernel_rfl
noncomputable def c_166:Con prog:=av_ _ _ 166 [an_,(.list .int)] [.bool] _ x_166
noncomputable def fm_ (a0:(List Int)) (a1:Int):Option (Int×Unit) :=
 ((af_ (ρ:=(Unit⊕(Int×Unit))) (λ(v0:(Int×Unit)) =>
 (cond (decide (v0.1<(a0.length:Int)))
 ((at? a0 v0.1).bind λv1 =>
 (cond (a1==v1)
 (some (inr (inr (v0.1,()))))
 (some (inl ((w64 (v0.1+1)),())))))
 (some (inr (inl ()))))) (0,())).bind λv2 =>
 (cd_ v2 (λv3=>(some ((-1),())))
 (λv4=>(some v4))))
theorem x_128:au_ (P:=prog) (cxC [] []) (.p .z (.p (.p .z (.ls [.v 8 .int] [] [] 0 .z)) .z)) 128 [(.list .int),.int] [.int]=λx=>fm_ x.1 x.2.1:=by kernel_rfl
noncomputable def c_128:Con prog:=av_ _ _ 128 [(.list .int),.int] [.int] _ x_128
noncomputable def cb_ (a0:Int) (a1:Int) (a2:Int):Option (Bool×Unit) :=
 (cond (decide (a1≤a0))
 (some ((decide (a0≤a2)),()))
 (some (false,())))
theorem x_63:au_ (P:=prog) (cxC [] []) .z 63 [.int,.int,.int] [.bool]=λx=>cb_ x.1 x.2.1 x.2.2.1:=by kernel_rfl
noncomputable def c_63:Con prog:=av_ _ _ 63 [.int,.int,.int] [.bool] _ x_63
noncomputable def od_ (a0:(List UInt8)):Option (Bool×Unit) :=
 (((cond (a0==[])
 (some ((a0==[]),()))
 (cond (a0==[97,116])
 (some ((a0==[97,116]),()))
 (cond (a0==[115,116,97,116,101,115])
 (some ((a0==[115,116,97,116,101,115]),()))
 (cond (a0==[115,116,97,114,116])
 (some ((a0==[115,116,97,114,116]),()))
 (cond (a0==[103,111,110,101])
 (some ((a0==[103,111,110,101]),()))
 (cond (a0==[105,102])
 (some ((a0==[105,102]),()))
 (cond (a0==[108,111,99,107])
 (some ((a0==[108,111,99,107]),()))
 (cond (a0==[119,105,116,104])
 (some ((a0==[119,105,116,104]),()))
 (cond (a0==[115,101,116,115])
 (some ((a0==[115,101,116,115]),()))
 (cond (a0==[115,112,101,110,100,115])
 (some ((a0==[115,112,101,110,100,115]),()))
 (some ((a0==[98,114,105,110,103,115]),()))))))))))))).bind λv0 =>
 (cond v0.1
 (some (false,()))
 ((af_ (ρ:=(Unit⊕(Bool×Unit))) (λ(v1:(Int×Unit)) =>
 (cond (decide (v1.1<(a0.length:Int)))
 ((((at? a0 v1.1).bind λv2 =>
 (cond (decide (((UInt8.toNat v2):Int)<97))
 (some (true,()))
 ((at? a0 v1.1).bind λv3 =>
 (some ((decide (122<((UInt8.toNat v3):Int))),())))))).bind λv4 =>
 (cond v4.1
 (some (inr (inr (false,()))))
 (some (inl ((w64 (v1.1+1)),())))))
 (some (inr (inl ()))))) (0,())).bind λv5 =>
 (cd_ v5 (λv6=>(some (true,())))
 (λv7=>(some v7))))))
theorem x_120:au_ (P:=prog) (cxC [] []) (.p .z (.p (.p .z (.j0 [.v 5 .bool] .z .z)) (.p (.p .z (.ls [.v 19 .int] [] [] 1 (.p .z (.p .z (.p (.p .z (.j0 [.v 31 .bool] .z .z)) .z))))) .z))) 120 [.str] [.bool]=λx=>od_ x.1:=by kernel_rfl
noncomputable def c_120:Con prog:=av_ _ _ 120 [.str] [.bool] _ x_120
noncomputable def lo_ (a0:ak_):Option (Bool×Unit) :=
 (cond (a0.1==0)
 (cond (a0.2.1==0)
 (cond (a0.2.2.1==0)
 (cond (a0.2.2.2.1==0)
 (cond (a0.2.2.2.2.1==0)
 (cond ((a0.2.2.2.2.2.1.length:Int)==0)
 (some ((!a0.2.2.2.2.2.2),()))
 (some (false,())))
 (some (false,())))
 (some (false,())))
 (some (false,())))
 (some (false,())))
 (some (false,())))
theorem x_121:au_ (P:=prog) (cxC [] []) .z 121 [aq_] [.bool]=λx=>lo_ x.1:=by kernel_rfl
noncomputable def c_121:Con prog:=av_ _ _ 121 [aq_] [.bool] _ x_121
noncomputable def bd_ (a0:hz_) (a1:(List bi_)):Option (Bool×Unit) :=
 ((((af_ (ρ:=(Unit⊕(Bool×Unit))) (λ(v0:(Int×Unit)) =>
 (cond (decide (v0.1<(a1.length:Int)))
 ((at? a1 v0.1).bind λv1 =>
 ((at? a0.2.1 v1.1).bind λv2 =>
 (cond ((v2==v1.2.1)==v1.2.2)
 (some (inr (inr ((decide (0≤v0.1)),()))))
 (some (inl ((w64 (v0.1+1)),()))))))
 (some (inr (inl ()))))) (0,())).bind λv3 =>
 (cd_ v3 (λv4=>(some ((decide (0≤(-1))),())))
 (λv5=>(some v5))))).bind λv6 =>
 (some ((!v6.1),())))
theorem x_127:au_ (P:=prog) (cxI (λk=>cond (Nat.beq k 123) (.p .z (.j0 [.v 4 .bool] .z .z)) (cond (Nat.beq k 177) (.p .z (.p (.p .z (.ls [.v 8 .int] [] [] 0 .z)) .z)) (cond (Nat.beq k 180) (.p .z (.p (.q [] .z .z) .z)) (.z)))) (λk=>false) (cxC [] []) 4) .z 127 [(.ref fr_),(.list cc_)] [.bool]=λx=>bd_ x.1 x.2.1:=by kernel_rfl
noncomputable def cd7:Con prog:=av_ _ _ 127 [(.ref fr_),(.list cc_)] [.bool] _ x_127
noncomputable def dt_ (a0:hz_) (a1:Int):Option (Int×Unit) :=
 ((af_ (ρ:=(Int×Unit)) (λ(v0:(Int×(Int×Unit))) =>
 (cond (decide (v0.2.1<(a0.2.2.1.length:Int)))
 ((((at? a0.2.2.1 v0.2.1).bind λv1 =>
 (cond (v1==(w64 ((-2) - a1)))
 (some ((w64 (v0.1+1)),()))
 (some (v0.1,()))))).bind λv2 =>
 (some (inl (v2.1,((w64 (v0.2.1+1)),())))))
 (some (inr (v0.1,()))))) (0,(0,()))).bind λv3 =>
 (some (v3.1,())))
theorem x_187:au_ (P:=prog) (cxC [] []) (.p .z (.p (.p .z (.lp [.v 4 .int,.v 13 .int] [.v 4 .int] [] 0 (.p .z (.p .z (.j0 [.v 4 .int] .z .z))))) .z)) 187 [(.ref fr_),.int] [.int]=λx=>dt_ x.1 x.2.1:=by kernel_rfl
noncomputable def c_187:Con prog:=av_ _ _ 187 [(.ref fr_),.int] [.int] _ x_187
noncomputable def ml_ (a0:aa_):Option ((List UInt8)×Unit) :=
 ((af_ (ρ:=((List UInt8)×Unit)) (λ(v0:((List UInt8)×(Int×Unit))) =>
 (cond (decide (v0.2.1<(a0.2.length:Int)))
 ((at? a0.2 v0.2.1).bind λv1 =>
 ((ep_ v1).bind λv2 =>
 ((cat? v2.1 [32]).bind λv3 =>
 ((cat? v0.1 v3).bind λv4 =>
 (some (inl (v4,((w64 (v0.2.1+1)),()))))))))
 (some (inr (v0.1,()))))) ([],(0,()))).bind λv5 =>
 (some (v5.1,())))
theorem x_197:au_ (P:=prog) (cxC [c_219] []) (.p .z (.p .z (.p (.p .z (.lp [.v 3 .str,.v 9 .int] [.v 3 .str] [] 0 .z)) .z))) 197 [al_] [.str]=λx=>ml_ x.1:=by kernel_rfl
noncomputable def c_197:Con prog:=av_ _ _ 197 [al_] [.str] _ x_197
noncomputable def aj1 (a0:ad_):Option (Bool×Unit) :=
 (some (true,()))
theorem x_98:au_ (P:=prog) (cxC [] []) .z 98 [cm_] [.bool]=λx=>aj1 x.1:=by kernel_rfl
noncomputable def c_98:Con prog:=av_ _ _ 98 [cm_] [.bool] _ x_98
noncomputable def bs_ (a0:Int) (a1:Int) (a2:Int):Option (Bool×Unit) :=
 (cond (decide (a1≤a0))
 (some ((decide (a0≤a2)),()))
 (some (false,())))
theorem x_52:au_ (P:=prog) (cxC [] []) .z 52 [.int,.int,.int] [.bool]=λx=>bs_ x.1 x.2.1 x.2.2.1:=by kernel_rfl
noncomputable def c_52:Con prog:=av_ _ _ 52 [.int,.int,.int] [.bool] _ x_52
noncomputable def eg_ (a0:en_) (a1:Int):Option (Int×Unit) :=
 ((at? a0.1 a1).bind λv0 =>
 ((af_ (ρ:=(Int×Unit)) (λ(v1:(Int×(Int×Unit))) =>
 (cond (decide (v1.2.1<(v0.length:Int)))
 ((((at? v0 v1.2.1).bind λv2 =>
 ((at? a0.2 v2.2).bind λv3 =>
 (cond (v3 != (-1))
 (some ((bl5 v1.1 v3),()))
 (some (v1.1,())))))).bind λv4 =>
 (some (inl (v4.1,((w64 (v1.2.1+1)),())))))
 (some (inr (v1.1,()))))) (1099511627776,(0,()))).bind λv5 =>
 (cond (v5.1==1099511627776)
 (some ((-1),()))
 (some (v5.1,())))))
theorem x_55:au_ (P:=prog) (cxC [] []) (.p .z (.p .z (.p (.p .z (.lp [.v 5 .int,.v 15 .int] [.v 5 .int] [] 0 (.p .z (.p .z (.j0 [.v 5 .int] .z .z))))) .z))) 55 [dp_,.int] [.int]=λx=>eg_ x.1 x.2.1:=by kernel_rfl
noncomputable def c_55:Con prog:=av_ _ _ 55 [dp_,.int] [.int] _ x_55
noncomputable def kk_ (a0:br_):Option (Bool×Unit) :=
 ((af_ (ρ:=(Unit⊕(Bool×Unit))) (λ(v0:(Int×Unit)) =>
 (cond (decide (v0.1<(a0.2.length:Int)))
 ((at? a0.2 v0.1).bind λv1 =>
 (cond (decide (100<(v1.length:Int)))
 (some (inr (inr (true,()))))
 (some (inl ((w64 (v0.1+1)),())))))
 (some (inr (inl ()))))) (0,())).bind λv2 =>
 (cd_ v2 (λv3=>(some (false,())))
 (λv4=>(some v4))))
theorem x_9:au_ (P:=prog) (cxC [] []) (.p .z (.p (.p .z (.ls [.v 3 .int] [] [] 0 .z)) .z)) 9 [bw_] [.bool]=λx=>kk_ x.1:=by kernel_rfl
noncomputable def c_9:Con prog:=av_ _ _ 9 [bw_] [.bool] _ x_9
noncomputable def hm_ (a0:(List ab_)) (a1:ab_):Option (Int×Unit) :=
 ((af_ (ρ:=(Unit⊕(Int×Unit))) (λ(v0:(Int×Unit)) =>
 (cond (decide (v0.1<(a0.length:Int)))
 ((at? a0 v0.1).bind λv1 =>
 (cond ((a1.1==v1.1)&&(a1.2==v1.2))
 (some (inr (inr (v0.1,()))))
 (some (inl ((w64 (v0.1+1)),())))))
 (some (inr (inl ()))))) (0,())).bind λv2 =>
 (cd_ v2 (λv3=>(some ((-1),())))
 (λv4=>(some v4))))
theorem x_223:au_ (P:=prog) (cxC [] []) (.p .z (.p (.p .z (.ls [.v 8 .int] [] [] 0 (.p .z (.p .z (.p (.p .z (.p (.q [] .z .z) .z)) .z))))) .z)) 223 [(.list ag_),ag_] [.int]=λx=>hm_ x.1 x.2.1:=by kernel_rfl
noncomputable def c_223:Con prog:=av_ _ _ 223 [(.list ag_),ag_] [.int] _ x_223
noncomputable def dy_ (a0:ey_):Option (Int×Unit) :=
 ((af_ (ρ:=(Unit⊕(Int×Unit))) (λ(v0:(Int×Unit)) =>
 (cond (decide (v0.1<(a0.2.2.2.length:Int)))
 ((at? a0.2.2.2 v0.1).bind λv1 =>
 (cond (v1.1==a0.2.2.1)
 ((((at? a0.2.2.2 v0.1).bind λv2 =>
 (some (v2.2,())))).bind λv3 =>
 (some (inr (inr v3))))
 (some (inl ((w64 (v0.1+1)),())))))
 (some (inr (inl ()))))) (0,())).bind λv4 =>
 (cd_ v4 (λv5=>none)
 (λv6=>(some v6))))
theorem x_102:au_ (P:=prog) (cxI (λk=>cond (Nat.beq k 157) (.p .z (.p (.p .z (.ls [.v 8 .int] [] [] 0 .z)) .z)) (cond (Nat.beq k 158) (.p .z (.p (.q [] .z .z) .z)) (.z))) (λk=>false) (cxC [] []) 3) (.p .z (.p (.q [] .z .z) .z)) 102 [(.ref cf_)] [.int]=λx=>dy_ x.1:=by kernel_rfl
noncomputable def c_102:Con prog:=av_ _ _ 102 [(.ref cf_)] [.int] _ x_102
noncomputable def ec_ (a0:(List Int)) (a1:(List Int)):Option (Bool×Unit) :=
 (cond ((a0.length:Int) != (a1.length:Int))
 (some (false,()))
 ((af_ (ρ:=(Unit⊕(Bool×Unit))) (λ(v0:(Int×Unit)) =>
 (cond (decide (v0.1<(a0.length:Int)))
 ((at? a0 v0.1).bind λv1 =>
 ((at? a1 v0.1).bind λv2 =>
 (cond (v1 != v2)
 (some (inr (inr (false,()))))
 (some (inl ((w64 (v0.1+1)),()))))))
 (some (inr (inl ()))))) (0,())).bind λv3 =>
 (cd_ v3 (λv4=>(some (true,())))
 (λv5=>(some v5)))))
theorem x_76:au_ (P:=prog) (cxC [] []) (.p .z (.p .z (.p (.p .z (.ls [.v 5 .int] [] [] 0 (.p .z (.p (.p (.q [] .z .z) .z) .z)))) .z))) 76 [(.list .int),(.list .int)] [.bool]=λx=>ec_ x.1 x.2.1:=by kernel_rfl
noncomputable def c_76:Con prog:=av_ _ _ 76 [(.list .int),(.list .int)] [.bool] _ x_76
end
section
set_option maxRecDepth 100000
set_option maxHeartbeats 0
noncomputable def lp_ (a0:ac_):Option (Bool×Unit) :=
 ((((oe_ a0.1).bind λv0 =>
 (cond v0.1
 (some (true,()))
 (cond (decide (10<(a0.2.1.length:Int)))
 (some (true,()))
 (cond (decide (10<(a0.2.2.1.length:Int)))
 (some (true,()))
 (some ((decide (20<(a0.2.2.2.1.length:Int))),()))))))).bind λv1 =>
 (cond v1.1
 (some (true,()))
 ((af_ (ρ:=(Unit⊕(Bool×Unit))) (λ(v2:(Int×Unit)) =>
 (cond (decide (v2.1<(a0.2.1.length:Int)))
 ((((at? a0.2.1 v2.1).bind λv3 =>
 (cond (decide (3<v3.1))
 ((at? a0.2.1 v2.1).bind λv4 =>
 (some ((decide (5<v4.2)),())))
 (some (false,()))))).bind λv5 =>
 (cond v5.1
 (some (inr (inr (true,()))))
 (some (inl ((w64 (v2.1+1)),())))))
 (some (inr (inl ()))))) (0,())).bind λv6 =>
 (cd_ v6 (λv7=>((af_ (ρ:=(Unit⊕(Bool×Unit))) (λ(v9:(Int×Unit)) =>
 (cond (decide (v9.1<(a0.2.2.1.length:Int)))
 ((at? a0.2.2.1 v9.1).bind λv10 =>
 (cond (decide (10<(v10.length:Int)))
 (some (inr (inr (true,()))))
 (some (inl ((w64 (v9.1+1)),())))))
 (some (inr (inl ()))))) (0,())).bind λv11 =>
 (cd_ v11 (λv12=>((af_ (ρ:=(Unit⊕(Bool×Unit))) (λ(v14:(Int×Unit)) =>
 (cond (decide (v14.1<(a0.2.2.2.1.length:Int)))
 ((at? a0.2.2.2.1 v14.1).bind λv15 =>
 (((cond (decide (100<(v15.1.length:Int)))
 (some (true,()))
 (cond (decide (20<(v15.2.2.2.1.length:Int)))
 (some (true,()))
 (some ((decide (10<(v15.2.2.2.2.2.2.2.2.2.1.length:Int))),()))))).bind λv16 =>
 (cond v16.1
 (some (inr (inr (true,()))))
 (some (inl ((w64 (v14.1+1)),()))))))
 (some (inr (inl ()))))) (0,())).bind λv17 =>
 (cd_ v17 (λv18=>(some (false,())))
 (λv19=>(some v19)))))
 (λv13=>(some v13)))))
 (λv8=>(some v8))))))
theorem x_16:au_ (P:=prog) (cxC [c_35] []) (.p .z (.p (.j0 [.v 27 .bool] .z .z) (.p (.p .z (.ls [.v 3 .int] [] [] 0 (.p .z (.p (.j0 [.v 50 .bool] .z .z) .z)))) (.p (.p .z (.ls [.v 4 .int] [] [] 2 .z)) (.p (.p .z (.ls [.v 5 .int] [] [] 4 (.p .z (.p (.p .z (.j0 [.v 93 .bool] .z .z)) .z)))) .z))))) 16 [ap_] [.bool]=λx=>lp_ x.1:=by kernel_rfl
noncomputable def c_16:Con prog:=av_ _ _ 16 [ap_] [.bool] _ x_16
noncomputable def hn_ (a0:ae_) (a1:Int) (a2:Int):Option (Bool×Unit) :=
 ((bv_ a1 0 (w64 ((a0.2.1.length:Int) - 1))).bind λv0 =>
 (cond v0.1
 ((at? a0.2.1 a1).bind λv1 =>
 ((bv_ a2 0 (w64 (v1.2.2.1 - 1))).bind λv2 =>
 (some (v2.1,()))))
 (some (false,()))))
theorem x_70:au_ (P:=prog) (cxC [c_72] []) .z 70 [an_,.int,.int] [.bool]=λx=>hn_ x.1 x.2.1 x.2.2.1:=by kernel_rfl
noncomputable def c_70:Con prog:=av_ _ _ 70 [an_,.int,.int] [.bool] _ x_70
noncomputable def db_ (a0:ae_) (a1:Int):Option (Bool×Unit) :=
 ((bv_ a1 0 (w64 ((a0.1.length:Int) - 1))).bind λv0 =>
 (some (v0.1,())))
theorem x_71:au_ (P:=prog) (cxC [c_72] []) .z 71 [an_,.int] [.bool]=λx=>db_ x.1 x.2.1:=by kernel_rfl
noncomputable def c_71:Con prog:=av_ _ _ 71 [an_,.int] [.bool] _ x_71
noncomputable def ii_ (a0:(List UInt8)):Option (Bool×Unit) :=
 ((af_ (ρ:=(Unit⊕(Bool×Unit))) (λ(v0:(Int×Unit)) =>
 (cond (decide (v0.1<(a0.length:Int)))
 ((((at? a0 v0.1).bind λv1 =>
 (cond (decide (((UInt8.toNat v1):Int)<97))
 (some (true,()))
 ((at? a0 v0.1).bind λv2 =>
 (some ((decide (122<((UInt8.toNat v2):Int))),())))))).bind λv3 =>
 (cond v3.1
 (some (inr (inr (false,()))))
 (some (inl ((w64 (v0.1+1)),())))))
 (some (inr (inl ()))))) (0,())).bind λv4 =>
 (cd_ v4 (λv5=>((af_ (ρ:=(Unit⊕(Bool×Unit))) (λ(v7:(Int×Unit)) =>
 (cond (decide (v7.1<(([[97,116],[115,116,97,116,101,115],[115,116,97,114,116],[103,111,110,101],[105,102],[108,111,99,107],[119,105,116,104],[115,101,116,115],[115,112,101,110,100,115],[98,114,105,110,103,115]]:List (List UInt8)).length:Int)))
 ((at? ([[97,116],[115,116,97,116,101,115],[115,116,97,114,116],[103,111,110,101],[105,102],[108,111,99,107],[119,105,116,104],[115,101,116,115],[115,112,101,110,100,115],[98,114,105,110,103,115]]:List (List UInt8)) v7.1).bind λv8 =>
 (cond (v8==a0)
 (some (inr (inr (false,()))))
 (some (inl ((w64 (v7.1+1)),())))))
 (some (inr (inl ()))))) (0,())).bind λv9 =>
 (cd_ v9 (λv10=>(some ((!(a0==[])),())))
 (λv11=>(some v11)))))
 (λv6=>(some v6))))
theorem x_132:au_ (P:=prog) (cxC [c_188] []) (.p .z (.p (.p .z (.ls [.v 3 .int] [] [] 0 (.p .z (.p (.j0 [.v 21 .bool] .z .z) .z)))) (.p .z (.p (.p .z (.ls [.v 5 .int] [] [] 2 .z)) .z)))) 132 [.str] [.bool]=λx=>ii_ x.1:=by kernel_rfl
noncomputable def c_132:Con prog:=av_ _ _ 132 [.str] [.bool] _ x_132
noncomputable def du_ (a0:ae_) (a1:(List Int)):Option (Bool×Unit) :=
 ((af_ (ρ:=(Unit⊕(Bool×Unit))) (λ(v0:(Int×Unit)) =>
 (cond (decide (v0.1<(a1.length:Int)))
 ((((at? a1 v0.1).bind λv1 =>
 ((bv_ v1 0 (w64 ((a0.2.2.1.length:Int) - 1))).bind λv2 =>
 (cond (!v2.1)
 (some (true,()))
 (cond (decide (0<v0.1))
 ((at? a1 v0.1).bind λv3 =>
 ((at? a1 (w64 (v0.1 - 1))).bind λv4 =>
 (some ((decide (v3≤v4)),()))))
 (some (false,()))))))).bind λv5 =>
 (cond v5.1
 (some (inr (inr (false,()))))
 (some (inl ((w64 (v0.1+1)),())))))
 (some (inr (inl ()))))) (0,())).bind λv6 =>
 (cd_ v6 (λv7=>(some (true,())))
 (λv8=>(some v8))))
theorem x_133:au_ (P:=prog) (cxC [c_72] []) (.p .z (.p (.p .z (.ls [.v 5 .int] [] [] 0 (.p .z (.p (.j0 [.v 37 .bool] (.q [] .z .z) .z) .z)))) .z)) 133 [an_,(.list .int)] [.bool]=λx=>du_ x.1 x.2.1:=by kernel_rfl
noncomputable def c_133:Con prog:=av_ _ _ 133 [an_,(.list .int)] [.bool] _ x_133
noncomputable def fd_ (a0:ab_):Option (Int×Unit) :=
 ((((bn_ a0.1 1 4).bind λv0 =>
 (cond (!v0.1)
 (some (true,()))
 ((bn_ a0.2 2 10).bind λv1 =>
 (some ((!v1.1),())))))).bind λv2 =>
 (cond v2.1
 (some (10,()))
 (some (0,()))))
theorem x_37:au_ (P:=prog) (cxC [c_80] []) (.p .z (.p (.j0 [.v 12 .bool] .z .z) .z)) 37 [ag_] [.int]=λx=>fd_ x.1:=by kernel_rfl
noncomputable def c_37:Con prog:=av_ _ _ 37 [ag_] [.int] _ x_37
noncomputable def hd_ (a0:ab_) (a1:(List Int)):Option (Bool×Unit) :=
 (cond ((a1.length:Int) != a0.1)
 (some (false,()))
 ((af_ (ρ:=(Unit⊕(Bool×Unit))) (λ(v0:(Int×Unit)) =>
 (cond (decide (v0.1<(a1.length:Int)))
 ((at? a1 v0.1).bind λv1 =>
 ((bn_ v1 0 (w64 (a0.2 - 1))).bind λv2 =>
 (cond (!v2.1)
 (some (inr (inr (false,()))))
 (some (inl ((w64 (v0.1+1)),()))))))
 (some (inr (inl ()))))) (0,())).bind λv3 =>
 (cd_ v3 (λv4=>(some (true,())))
 (λv5=>(some v5)))))
theorem x_81:au_ (P:=prog) (cxC [c_80] []) (.p .z (.p .z (.p (.p .z (.ls [.v 5 .int] [] [] 0 (.p .z (.p (.p (.q [] .z .z) .z) .z)))) .z))) 81 [ag_,(.list .int)] [.bool]=λx=>hd_ x.1 x.2.1:=by kernel_rfl
noncomputable def c_81:Con prog:=av_ _ _ 81 [ag_,(.list .int)] [.bool] _ x_81
noncomputable def jy_ (a0:ak_) (a1:ak_):Option (Bool×Unit) :=
 (cond (a0.1==a1.1)
 (cond (a0.2.1==a1.2.1)
 (cond (a0.2.2.1==a1.2.2.1)
 (cond (a0.2.2.2.1==a1.2.2.2.1)
 (cond (a0.2.2.2.2.1==a1.2.2.2.2.1)
 (cond (a0.2.2.2.2.2.2==a1.2.2.2.2.2.2)
 ((hj_ a0.2.2.2.2.2.1 a1.2.2.2.2.2.1).bind λv0 =>
 (some (v0.1,())))
 (some (false,())))
 (some (false,())))
 (some (false,())))
 (some (false,())))
 (some (false,())))
 (some (false,())))
theorem x_189:au_ (P:=prog) (cxC [c_213] []) .z 189 [aq_,aq_] [.bool]=λx=>jy_ x.1 x.2.1:=by kernel_rfl
noncomputable def c_189:Con prog:=av_ _ _ 189 [aq_,aq_] [.bool] _ x_189
noncomputable def jk_ (a0:(List Int)) (a1:(List Int)):Option (Int×Int×Unit) :=
 ((af_ (ρ:=(Int×Unit)) (λ(v0:(Int×(Int×Unit))) =>
 (cond (decide (v0.2.1<(a0.length:Int)))
 ((((at? a0 v0.2.1).bind λv1 =>
 ((at? a1 v0.2.1).bind λv2 =>
 (cond (v1==v2)
 (some ((w64 (v0.1+1)),()))
 (some (v0.1,())))))).bind λv3 =>
 (some (inl (v3.1,((w64 (v0.2.1+1)),())))))
 (some (inr (v0.1,()))))) (0,(0,()))).bind λv4 =>
 ((af_ (ρ:=(Int×Unit)) (λ(v5:(Int×(Int×Unit))) =>
 (cond (decide (v5.2.1<10))
 ((fc_ a0 v5.2.1).bind λv6 =>
 ((fc_ a1 v5.2.1).bind λv7 =>
 (some (inl ((w64 (v5.1+(bl5 v6.1 v7.1))),((w64 (v5.2.1+1)),()))))))
 (some (inr (v5.1,()))))) (0,(0,()))).bind λv8 =>
 (some (v4.1,((w64 (v8.1 - v4.1)),())))))
theorem x_137:au_ (P:=prog) (cxC [c_136] []) (.p .z (.p .z (.p (.p .z (.lp [.v 6 .int,.v 8 .int] [.v 6 .int] [] 0 (.p .z (.j0 [.v 6 .int] (.p (.q [] .z .z) .z) .z)))) (.p (.p .z (.lp [.v 7 .int,.v 9 .int] [.v 7 .int] [] 2 .z)) .z)))) 137 [(.list .int),(.list .int)] [.int,.int]=λx=>jk_ x.1 x.2.1:=by kernel_rfl
noncomputable def c_137:Con prog:=av_ _ _ 137 [(.list .int),(.list .int)] [.int,.int] _ x_137
noncomputable def hb_ (a0:ae_) (a1:aj_):Option (aj_×Bool×Unit) :=
 ((push? (α:=Int) [] a1.1).bind λv0 =>
 ((push? (α:=Int) [] a1.2.1).bind λv1 =>
 ((push? (α:=Int) [] a1.2.2).bind λv2 =>
 ((af_ (ρ:=(((List Int)×(((List Int)×((List Int)×((List Int)×Unit)))×Unit))⊕(aj_×(Bool×Unit)))) (λ(v3:(Int×((List Int)×(((List Int)×((List Int)×((List Int)×Unit)))×Unit)))) =>
 (cond (decide (v3.1≤100))
 ((af_ (ρ:=(Int×Unit)) (λ(v4:(Int×(Int×Unit))) =>
 (((cond (decide (v4.2.1<(a0.2.2.2.2.2.1.length:Int)))
 (some ((decide (v4.1<0)),()))
 (some (false,())))).bind λv5 =>
 (cond v5.1
 ((((at? a0.2.2.2.2.2.1 v4.2.1).bind λv6 =>
 ((((bk_ (v3.2.1,(v1,v2)) v6.1).bind λv7 =>
 (cond v7.1
 ((at? v3.2.1 v6.2.1).bind λv8 =>
 ((at? v3.2.1 v6.2.1).bind λv9 =>
 (some ((v9 != v6.2.2),()))))
 (some (false,()))))).bind λv10 =>
 (cond v10.1
 (some (v4.2.1,()))
 (some (v4.1,())))))).bind λv11 =>
 (some (inl (v11.1,((w64 (v4.2.1+1)),())))))
 (some (inr (v4.1,())))))) ((-1),(0,()))).bind λv12 =>
 (cond (decide (v12.1<0))
 (some (inr (inr ((v3.2.1,(v1,v2)),(true,())))))
 ((at? a0.2.2.2.2.2.1 v12.1).bind λv13 =>
 ((at? a0.2.2.2.2.2.1 v12.1).bind λv14 =>
 ((at? v3.2.1 v13.2.1).bind λv15 =>
 ((at? v3.2.1 v13.2.1).bind λv16 =>
 (some (inl ((w64 (v3.1+1)),((v3.2.1.set v13.2.1.toNat v14.2.2),((v3.2.2.1.1,(v3.2.2.1.2.1,(v3.2.2.1.2.2.1,()))),())))))))))))
 (some (inr (inl (v3.2.1,((v3.2.2.1.1,(v3.2.2.1.2.1,(v3.2.2.1.2.2.1,()))),()))))))) (0,(v0,(([],([],([],()))),())))).bind λv17 =>
 (cd_ v17 (λv18=>(some (([],([],[])),(false,()))))
 (λv19=>(some v19)))))))
theorem x_143:au_ (P:=prog) (cxI (λk=>.z) (λk=>Nat.beq k 13||false) (cxC [c_13] []) 2) (.p .z (.p .z (.p (.p .z (.ls [.v 7 .int] [] [.o (.c (.s 6) 0) .int,.b (.s 4) [.row .int 3,.row .int 3,.row .int 3]] 0 (.p .z (.p (.p .z (.p (.p .z (.lp [.v 8 .int,.v 9 .int] [.v 8 .int] [] 2 (.p (.j0 [.v 25 .bool] .z .z) (.j0 [.v 8 .int] (.p .z (.j0 [.v 49 .bool] .z .z)) .z)))) .z)) .z)))) .z))) 143 [an_,ao_] [ao_,.bool]=λx=>hb_ x.1 x.2.1:=by kernel_rfl
noncomputable def c_143:Con prog:=av_ _ _ 143 [an_,ao_] [ao_,.bool] _ x_143
noncomputable def jr_ (a0:ac_) (a1:aa_):Option (aa_×Unit) :=
 ((go_ a1.1).bind λv0 =>
 ((push? (α:=Bool) [] a1.2).bind λv1 =>
 ((af_ (ρ:=((List Bool)×Unit)) (λ(v2:(Int×((List Bool)×Unit))) =>
 (cond (decide (v2.1<(a0.2.2.2.1.length:Int)))
 ((at? a0.2.2.2.1 v2.1).bind λv3 =>
 ((af_ (ρ:=((List Bool)×Unit)) (λ(v4:(Int×((List Bool)×Unit))) =>
 (cond (decide (v4.1<(v0.1.2.2.length:Int)))
 ((((((at? v0.1.2.2 v4.1).bind λv5 =>
 (cond (v5==v3.2.1)
 ((bk_ v0.1 v3.2.2.2.1).bind λv6 =>
 (some (v6.1,())))
 (some (false,()))))).bind λv7 =>
 (cond v7.1
 ((at? v4.2.1 v2.1).bind λv8 =>
 ((at? v4.2.1 v2.1).bind λv9 =>
 (some ((v4.2.1.set v2.1.toNat true),()))))
 (some (v4.2.1,()))))).bind λv10 =>
 (some (inl ((w64 (v4.1+1)),(v10.1,())))))
 (some (inr (v4.2.1,()))))) (0,(v2.2.1,()))).bind λv11 =>
 (some (inl ((w64 (v2.1+1)),(v11.1,()))))))
 (some (inr (v2.2.1,()))))) (0,(v1,()))).bind λv12 =>
 (some ((v0.1,v12.1),())))))
theorem x_86:au_ (P:=prog) (cxI (λk=>.z) (λk=>Nat.beq k 13||Nat.beq k 142||false) (cxC [c_13,c_142] []) 2) (.p .z (.p .z (.p (.p .z (.lp [.v 6 .int] [] [.o (.c (.s 5) 3) .bool] 0 (.p .z (.p (.p .z (.p .z (.lp [.v 8 .int] [] [.o (.c (.s 5) 3) .bool] 2 (.p .z (.j0 [.o (.c (.s 5) 3) .bool] (.j0 [.v 46 .bool] .z .z) .z))))) .z)))) .z))) 86 [ap_,al_] [al_]=λx=>jr_ x.1 x.2.1:=by kernel_rfl
noncomputable def c_86:Con prog:=av_ _ _ 86 [ap_,al_] [al_] _ x_86
noncomputable def jb_ (a0:aa_):Option ((List UInt8)×Unit) :=
 ((af_ (ρ:=((List UInt8)×Unit)) (λ(v0:((List UInt8)×(Int×Unit))) =>
 (cond (decide (v0.2.1<(a0.1.1.length:Int)))
 ((at? a0.1.1 v0.2.1).bind λv1 =>
 ((cg_ v1).bind λv2 =>
 ((cat? v0.1 v2.1).bind λv3 =>
 ((cat? v3 [32]).bind λv4 =>
 (some (inl (v4,((w64 (v0.2.1+1)),()))))))))
 (some (inr (v0.1,()))))) ([],(0,()))).bind λv5 =>
 ((af_ (ρ:=((List UInt8)×Unit)) (λ(v6:((List UInt8)×(Int×Unit))) =>
 (cond (decide (v6.2.1<(a0.1.2.1.length:Int)))
 ((at? a0.1.2.1 v6.2.1).bind λv7 =>
 ((cg_ (w64 (v7+10))).bind λv8 =>
 ((cat? v6.1 v8.1).bind λv9 =>
 ((cat? v9 [32]).bind λv10 =>
 (some (inl (v10,((w64 (v6.2.1+1)),()))))))))
 (some (inr (v6.1,()))))) (v5.1,(0,()))).bind λv11 =>
 ((af_ (ρ:=((List UInt8)×Unit)) (λ(v12:((List UInt8)×(Int×Unit))) =>
 (cond (decide (v12.2.1<(a0.1.2.2.length:Int)))
 ((at? a0.1.2.2 v12.2.1).bind λv13 =>
 ((cg_ v13).bind λv14 =>
 ((cat? v12.1 v14.1).bind λv15 =>
 ((cat? v15 [32]).bind λv16 =>
 (some (inl (v16,((w64 (v12.2.1+1)),()))))))))
 (some (inr (v12.1,()))))) (v11.1,(0,()))).bind λv17 =>
 ((af_ (ρ:=((List UInt8)×Unit)) (λ(v18:((List UInt8)×(Int×Unit))) =>
 (cond (decide (v18.2.1<(a0.2.length:Int)))
 ((((at? a0.2 v18.2.1).bind λv19 =>
 (cond v19
 ((cg_ v18.2.1).bind λv20 =>
 ((cat? v18.1 v20.1).bind λv21 =>
 ((cat? v21 [32]).bind λv22 =>
 (some (v22,())))))
 (some (v18.1,()))))).bind λv23 =>
 (some (inl (v23.1,((w64 (v18.2.1+1)),())))))
 (some (inr (v18.1,()))))) (v17.1,(0,()))).bind λv24 =>
 (some (v24.1,()))))))
theorem x_43:au_ (P:=prog) (cxC [c_87] []) (.p .z (.p .z (.p (.p .z (.lp [.v 3 .str,.v 4 .int] [.v 3 .str] [] 0 .z)) (.p (.p .z (.lp [.v 3 .str,.v 5 .int] [.v 3 .str] [] 2 .z)) (.p (.p .z (.lp [.v 3 .str,.v 6 .int] [.v 3 .str] [] 4 .z)) (.p (.p .z (.lp [.v 3 .str,.v 7 .int] [.v 3 .str] [] 6 (.p .z (.j0 [.v 3 .str] .z .z)))) .z)))))) 43 [al_] [.str]=λx=>jb_ x.1:=by kernel_rfl
noncomputable def c_43:Con prog:=av_ _ _ 43 [al_] [.str] _ x_43
noncomputable def kp_ (a0:ae_) (a1:aj_) (a2:ai_):Option (Bool×Unit) :=
 ((bv_ a2.1 0 (w64 (a0.2.2.2.2.2.2.1 - 1))).bind λv0 =>
 (cond (!v0.1)
 (some (false,()))
 ((at? a1.2.2 a2.1).bind λv1 =>
 (cond (a2.2.1==1)
 ((bv_ a2.2.2 0 (w64 ((a0.2.2.2.1.length:Int) - 1))).bind λv2 =>
 (cond v2.1
 ((at? a0.2.2.2.1 a2.2.2).bind λv3 =>
 (cond (v3.1==v1)
 ((at? a0.2.2.2.1 a2.2.2).bind λv4 =>
 ((bk_ a1 v4.2.2).bind λv5 =>
 (some (v5.1,()))))
 ((at? a0.2.2.2.1 a2.2.2).bind λv6 =>
 (cond (v6.2.1==v1)
 ((at? a0.2.2.2.1 a2.2.2).bind λv7 =>
 ((bk_ a1 v7.2.2).bind λv8 =>
 (some (v8.1,()))))
 (some (false,()))))))
 (some (false,()))))
 (cond (a2.2.1==2)
 ((bv_ a2.2.2 0 (w64 ((a0.2.2.1.length:Int) - 1))).bind λv9 =>
 (cond v9.1
 ((at? a1.2.1 a2.2.2).bind λv10 =>
 (cond (v10==v1)
 ((at? a0.2.2.1 a2.2.2).bind λv11 =>
 ((bk_ a1 v11.2.2).bind λv12 =>
 (cond v12.1
 ((hv_ a1 a2.1).bind λv13 =>
 (some ((decide (v13.1<3)),())))
 (some (false,())))))
 (some (false,()))))
 (some (false,()))))
 (cond (a2.2.1==3)
 ((bv_ a2.2.2 0 (w64 ((a0.2.2.1.length:Int) - 1))).bind λv14 =>
 (cond v14.1
 ((at? a1.2.1 a2.2.2).bind λv15 =>
 (some ((v15==(w64 ((-2) - a2.1))),())))
 (some (false,()))))
 (cond (a2.2.1==4)
 ((bv_ a2.2.2 0 (w64 ((a0.2.2.2.2.1.length:Int) - 1))).bind λv16 =>
 (cond (!v16.1)
 (some (false,()))
 ((at? a0.2.2.2.2.1 a2.2.2).bind λv17 =>
 ((af_ (ρ:=(Unit⊕(Bool×Unit))) (λ(v18:(Int×Unit)) =>
 (cond (decide (v18.1<(v17.2.2.2.1.length:Int)))
 ((at? v17.2.2.2.1 v18.1).bind λv19 =>
 ((at? a1.2.1 v19).bind λv20 =>
 (cond (v20 != (w64 ((-2) - a2.1)))
 (some (inr (inr (false,()))))
 (some (inl ((w64 (v18.1+1)),()))))))
 (some (inr (inl ()))))) (0,())).bind λv21 =>
 (cd_ v21 (λv22=>((af_ (ρ:=(Unit⊕(Bool×Unit))) (λ(v24:(Int×Unit)) =>
 (cond (decide (v24.1<(v17.2.2.2.2.2.2.2.length:Int)))
 ((at? v17.2.2.2.2.2.2.2 v24.1).bind λv25 =>
 ((at? a1.2.1 v25).bind λv26 =>
 (cond (v26 != (-1))
 (some (inr (inr (false,()))))
 (some (inl ((w64 (v24.1+1)),()))))))
 (some (inr (inl ()))))) (0,())).bind λv27 =>
 (cd_ v27 (λv28=>(cond (v17.2.1==v1)
 ((bk_ a1 v17.2.2.2.2.1).bind λv30 =>
 (cond v30.1
 ((hv_ a1 a2.1).bind λv31 =>
 (some ((decide ((w64 ((w64 (v31.1 - (v17.2.2.2.2.2.2.1.length:Int)))+(v17.2.2.2.2.2.2.2.length:Int)))≤3)),())))
 (some (false,()))))
 (some (false,()))))
 (λv29=>(some v29)))))
 (λv23=>(some v23)))))))
 (some (false,())))))))))
theorem x_140:au_ (P:=prog) (cxC [c_13,c_72,c_190] []) (.p .z (.p .z (.p (.q [] .z .z) (.p (.p .z (.p .z (.p (.p (.q [] .z .z) .z) (.p .z (.p (.p (.q [] .z .z) .z) (.p .z (.p .z (.p .z (.p (.p .z (.p .z (.p (.p .z (.ls [.v 10 .int] [] [] 1 .z)) (.p (.p .z (.ls [.v 11 .int] [] [] 3 .z)) .z)))) .z))))))))) .z)))) 140 [an_,ao_,ar_] [.bool]=λx=>kp_ x.1 x.2.1 x.2.2.1:=by kernel_rfl
noncomputable def c_140:Con prog:=av_ _ _ 140 [an_,ao_,ar_] [.bool] _ x_140
noncomputable def em_ (a0:ab_):Option (Int×Unit) :=
 ((((bg_ a0.1 1 4).bind λv0 =>
 (cond (!v0.1)
 (some (true,()))
 ((bg_ a0.2 2 10).bind λv1 =>
 (some ((!v1.1),())))))).bind λv2 =>
 (cond v2.1
 (some (10,()))
 (some (0,()))))
theorem x_59:au_ (P:=prog) (cxC [cq7] []) (.p .z (.p (.j0 [.v 12 .bool] .z .z) .z)) 59 [ag_] [.int]=λx=>em_ x.1:=by kernel_rfl
noncomputable def c_59:Con prog:=av_ _ _ 59 [ag_] [.int] _ x_59
noncomputable def az_ (a0:ab_) (a1:Int):Option (Bool×Unit) :=
 ((bg_ a1 0 (w64 (a0.1 - 1))).bind λv0 =>
 (some (v0.1,())))
theorem x_145:au_ (P:=prog) (cxC [cq7] []) .z 145 [ag_,.int] [.bool]=λx=>az_ x.1 x.2.1:=by kernel_rfl
noncomputable def c_145:Con prog:=av_ _ _ 145 [ag_,.int] [.bool] _ x_145
noncomputable def bq_ (a0:ab_) (a1:Int):Option (Bool×Unit) :=
 ((bg_ a1 0 (w64 (a0.2 - 1))).bind λv0 =>
 (some (v0.1,())))
theorem x_146:au_ (P:=prog) (cxC [cq7] []) .z 146 [ag_,.int] [.bool]=λx=>bq_ x.1 x.2.1:=by kernel_rfl
noncomputable def c_146:Con prog:=av_ _ _ 146 [ag_,.int] [.bool] _ x_146
noncomputable def ik_ (a0:ak_) (a1:(List Int)):Option (Bool×Unit) :=
 (cond (a0.1==1)
 ((at? a1 a0.2.1).bind λv0 =>
 (some ((v0==a0.2.2.2.1),())))
 (cond (a0.1==2)
 ((sub? a1 a0.2.1 (w64 (a0.2.2.1+1))).bind λv1 =>
 ((af_ (ρ:=(Int×Unit)) (λ(v2:(Int×(Int×Unit))) =>
 (cond (decide (v2.2.1<(v1.length:Int)))
 ((at? v1 v2.2.1).bind λv3 =>
 (some (inl ((w64 (v2.1+v3)),((w64 (v2.2.1+1)),())))))
 (some (inr (v2.1,()))))) (0,(0,()))).bind λv4 =>
 (some ((v4.1==a0.2.2.2.1),()))))
 (cond (a0.1==3)
 ((at? a1 a0.2.1).bind λv5 =>
 ((at? a1 a0.2.2.1).bind λv6 =>
 (some ((decide (v5<v6)),()))))
 (cond (a0.1==4)
 ((at? a1 a0.2.1).bind λv7 =>
 ((at? a1 a0.2.2.1).bind λv8 =>
 (some ((v7==v8),()))))
 (cond (a0.1==5)
 ((af_ (ρ:=(Int×Unit)) (λ(v9:(Int×(Int×Unit))) =>
 (cond (decide (v9.2.1<(a1.length:Int)))
 ((((at? a1 v9.2.1).bind λv10 =>
 (cond (v10==a0.2.2.2.1)
 (some ((w64 (v9.1+1)),()))
 (some (v9.1,()))))).bind λv11 =>
 (some (inl (v11.1,((w64 (v9.2.1+1)),())))))
 (some (inr (v9.1,()))))) (0,(0,()))).bind λv12 =>
 (some ((v12.1==a0.2.2.2.2.1),())))
 (cond (a0.1==6)
 ((fi_ a1 a0.2.2.2.2.2.1).bind λv13 =>
 (cond (v13.1==a0.2.2.2.1)
 (some ((v13.2.1==a0.2.2.2.2.1),()))
 (some (false,()))))
 ((at? a1 a0.2.1).bind λv14 =>
 ((md v14 a0.2.2.2.1).bind λv15 =>
 (some ((v15==a0.2.2.2.2.1),()))))))))))
theorem x_212:au_ (P:=prog) (cxC [c_227] []) (.p .z (.p (.p .z (.p .z (.p (.p (.q [] .z .z) .z) (.p .z (.p (.p .z (.p (.p .z (.lp [.v 5 .int,.v 35 .int] [.v 5 .int] [] 1 .z)) .z)) (.p .z (.p (.p (.q [] .z .z) .z) (.p .z (.p (.p (.q [] .z .z) .z) (.p .z (.p (.p .z (.p (.p .z (.lp [.v 8 .int,.v 77 .int] [.v 8 .int] [] 3 (.p .z (.p .z (.j0 [.v 8 .int] .z .z))))) .z)) .z))))))))))) (.p (.q [] .z .z) .z))) 212 [aq_,(.list .int)] [.bool]=λx=>ik_ x.1 x.2.1:=by kernel_rfl
noncomputable def c_212:Con prog:=av_ _ _ 212 [aq_,(.list .int)] [.bool] _ x_212
noncomputable def mk_ (a0:ae_):Option (ae_×Unit) :=
 ((push? (α:=(List UInt8)) [] a0.1).bind λv0 =>
 ((push? (α:=hq_) [] a0.2.1).bind λv1 =>
 ((push? (α:=kz_) [] a0.2.2.1).bind λv2 =>
 ((push? (α:=pz_) [] a0.2.2.2.1).bind λv3 =>
 ((push? (α:=dg_) [] a0.2.2.2.2.1).bind λv4 =>
 ((push? (α:=rf_) [] a0.2.2.2.2.2.1).bind λv5 =>
 ((cv_ a0.2.2.2.2.2.2.2).bind λv6 =>
 ((af_ (ρ:=((List kz_)×Unit)) (λ(v7:(Int×((List kz_)×Unit))) =>
 (cond (decide (v7.1<(v7.2.1.length:Int)))
 ((at? v7.2.1 v7.1).bind λv8 =>
 ((at? v7.2.1 v7.1).bind λv9 =>
 ((cv_ v9.2.2).bind λv10 =>
 ((at? v7.2.1 v7.1).bind λv11 =>
 ((at? v7.2.1 v7.1).bind λv12 =>
 (some (inl ((w64 (v7.1+1)),((v7.2.1.set v7.1.toNat (v12.1,(v12.2.1,v10.1))),())))))))))
 (some (inr (v7.2.1,()))))) (0,(v2,()))).bind λv13 =>
 ((af_ (ρ:=((List pz_)×Unit)) (λ(v14:(Int×((List pz_)×Unit))) =>
 (cond (decide (v14.1<(v14.2.1.length:Int)))
 ((at? v14.2.1 v14.1).bind λv15 =>
 ((at? v14.2.1 v14.1).bind λv16 =>
 ((cv_ v16.2.2).bind λv17 =>
 ((at? v14.2.1 v14.1).bind λv18 =>
 ((at? v14.2.1 v14.1).bind λv19 =>
 (some (inl ((w64 (v14.1+1)),((v14.2.1.set v14.1.toNat (v19.1,(v19.2.1,v17.1))),())))))))))
 (some (inr (v14.2.1,()))))) (0,(v3,()))).bind λv20 =>
 ((af_ (ρ:=((List dg_)×Unit)) (λ(v21:(Int×((List dg_)×Unit))) =>
 (cond (decide (v21.1<(v21.2.1.length:Int)))
 ((at? v21.2.1 v21.1).bind λv22 =>
 ((at? v21.2.1 v21.1).bind λv23 =>
 ((eb_ v23.2.2.2.1).bind λv24 =>
 ((eb_ v23.2.2.2.2.2.2.1).bind λv25 =>
 ((eb_ v23.2.2.2.2.2.2.2).bind λv26 =>
 ((cv_ v23.2.2.2.2.1).bind λv27 =>
 ((push? (α:=ab_) [] v23.2.2.2.2.2.1).bind λv28 =>
 ((at? v21.2.1 v21.1).bind λv29 =>
 ((at? v21.2.1 v21.1).bind λv30 =>
 (some (inl ((w64 (v21.1+1)),((v21.2.1.set v21.1.toNat (v23.1,(v23.2.1,(v23.2.2.1,(v24.1,(v27.1,(v28,(v25.1,v26.1)))))))),())))))))))))))
 (some (inr (v21.2.1,()))))) (0,(v4,()))).bind λv31 =>
 ((af_ (ρ:=((List rf_)×Unit)) (λ(v32:(Int×((List rf_)×Unit))) =>
 (cond (decide (v32.1<(v32.2.1.length:Int)))
 ((at? v32.2.1 v32.1).bind λv33 =>
 ((at? v32.2.1 v32.1).bind λv34 =>
 ((cv_ v34.1).bind λv35 =>
 ((at? v32.2.1 v32.1).bind λv36 =>
 ((at? v32.2.1 v32.1).bind λv37 =>
 (some (inl ((w64 (v32.1+1)),((v32.2.1.set v32.1.toNat (v35.1,v37.2)),())))))))))
 (some (inr (v32.2.1,()))))) (0,(v5,()))).bind λv38 =>
 (some ((v0,(v1,(v13.1,(v20.1,(v31.1,(v38.1,(a0.2.2.2.2.2.2.1,v6.1))))))),())))))))))))))
theorem x_20:au_ (P:=prog) (cxC [c_48,c_49] []) (.p .z (.p .z (.p (.p .z (.lp [.v 4 .int] [] [.o (.s 20) qh_] 0 .z)) (.p (.p .z (.lp [.v 5 .int] [] [.o (.s 24) al7] 2 .z)) (.p (.p .z (.lp [.v 6 .int] [] [.o (.s 28) nf_] 4 .z)) (.p (.p .z (.lp [.v 8 .int] [] [.o (.s 32) zu_] 6 .z)) .z)))))) 20 [an_] [an_]=λx=>mk_ x.1:=by kernel_rfl
noncomputable def c_20:Con prog:=av_ _ _ 20 [an_] [an_] _ x_20
noncomputable def di_ (a0:(List (List UInt8))) (a1:(List UInt8)):Option (Bool×Unit) :=
 ((ef_ a0 a1).bind λv0 =>
 (some ((decide (0≤v0.1)),())))
theorem x_201:au_ (P:=prog) (cxC [c_224] []) .z 201 [(.list .str),.str] [.bool]=λx=>di_ x.1 x.2.1:=by kernel_rfl
noncomputable def c_201:Con prog:=av_ _ _ 201 [(.list .str),.str] [.bool] _ x_201
noncomputable def fy_ (a0:ae_) (a1:Int) (a2:Int):Option (Bool×Unit) :=
 ((bf_ a1 0 (w64 ((a0.2.1.length:Int) - 1))).bind λv0 =>
 (cond v0.1
 ((at? a0.2.1 a1).bind λv1 =>
 ((bf_ a2 0 (w64 (v1.2.2.1 - 1))).bind λv2 =>
 (some (v2.1,()))))
 (some (false,()))))
theorem x_115:au_ (P:=prog) (cxC [cd9] []) .z 115 [an_,.int,.int] [.bool]=λx=>fy_ x.1 x.2.1 x.2.2.1:=by kernel_rfl
noncomputable def cq8:Con prog:=av_ _ _ 115 [an_,.int,.int] [.bool] _ x_115
noncomputable def bm_ (a0:(List Int)) (a1:Int):Option (Bool×Unit) :=
 ((fm_ a0 a1).bind λv0 =>
 (some ((decide (0≤v0.1)),())))
theorem x_67:au_ (P:=prog) (cxC [c_128] []) .z 67 [(.list .int),.int] [.bool]=λx=>bm_ x.1 x.2.1:=by kernel_rfl
noncomputable def c_67:Con prog:=av_ _ _ 67 [(.list .int),.int] [.bool] _ x_67
noncomputable def mm_ (a0:ae_) (a1:(List bi_)):Option (Bool×Unit) :=
 (cond (decide ((a1.length:Int)≤8))
 ((((af_ (ρ:=(Unit⊕(Bool×Unit))) (λ(v0:(Int×Unit)) =>
 (cond (decide (v0.1<(a1.length:Int)))
 ((at? a1 v0.1).bind λv1 =>
 ((((cb_ v1.1 0 (w64 ((a0.2.1.length:Int) - 1))).bind λv2 =>
 (cond (!v2.1)
 (some (true,()))
 ((at? a0.2.1 v1.1).bind λv3 =>
 ((cb_ v1.2.1 0 (w64 (v3.2.2.1 - 1))).bind λv4 =>
 (some ((!v4.1),()))))))).bind λv5 =>
 (cond v5.1
 (some (inr (inr ((decide (0≤v0.1)),()))))
 (some (inl ((w64 (v0.1+1)),()))))))
 (some (inr (inl ()))))) (0,())).bind λv6 =>
 (cd_ v6 (λv7=>(some ((decide (0≤(-1))),())))
 (λv8=>(some v8))))).bind λv9 =>
 (some ((!v9.1),())))
 (some (false,())))
theorem x_62:au_ (P:=prog) (cxI (λk=>cond (Nat.beq k 123) (.p .z (.j0 [.v 4 .bool] .z .z)) (cond (Nat.beq k 124) (.p .z (.j0 [.v 3 .bool] (.q [] .z .z) .z)) (cond (Nat.beq k 177) (.p .z (.p (.p .z (.ls [.v 8 .int] [] [] 0 .z)) .z)) (.z)))) (λk=>Nat.beq k 63||false) (cxC [c_63] []) 4) .z 62 [an_,(.list cc_)] [.bool]=λx=>mm_ x.1 x.2.1:=by kernel_rfl
noncomputable def c_62:Con prog:=av_ _ _ 62 [an_,(.list cc_)] [.bool] _ x_62
noncomputable def dj_ (a0:hz_) (a1:ai_):Option (Bool×Unit) :=
 ((bf_ a1.1 0 (w64 ((a0.2.2.2.length:Int) - 1))).bind λv0 =>
 (cond (!v0.1)
 (some (false,()))
 ((at? a0.2.2.2 a1.1).bind λv1 =>
 (cond (a1.2.1==1)
 ((bf_ a1.2.2 0 (w64 ((a0.1.2.2.2.1.length:Int) - 1))).bind λv2 =>
 (cond (!v2.1)
 (some (false,()))
 ((at? a0.1.2.2.2.1 a1.2.2).bind λv3 =>
 (cond (v3.1==v1)
 ((bd_ a0 v3.2.2).bind λv4 =>
 (some (v4.1,())))
 (cond (v3.2.1==v1)
 ((bd_ a0 v3.2.2).bind λv5 =>
 (some (v5.1,())))
 (some (false,())))))))
 (cond (a1.2.1==2)
 ((bf_ a1.2.2 0 (w64 ((a0.2.2.1.length:Int) - 1))).bind λv6 =>
 (cond v6.1
 ((at? a0.2.2.1 a1.2.2).bind λv7 =>
 (cond (v7==v1)
 ((at? a0.1.2.2.1 a1.2.2).bind λv8 =>
 ((bd_ a0 v8.2.2).bind λv9 =>
 (cond v9.1
 ((dt_ a0 a1.1).bind λv10 =>
 (some ((decide (v10.1<3)),())))
 (some (false,())))))
 (some (false,()))))
 (some (false,()))))
 (cond (a1.2.1==3)
 ((bf_ a1.2.2 0 (w64 ((a0.2.2.1.length:Int) - 1))).bind λv11 =>
 (cond v11.1
 ((at? a0.2.2.1 a1.2.2).bind λv12 =>
 (some ((v12==(w64 ((-2) - a1.1))),())))
 (some (false,()))))
 (cond (a1.2.1==4)
 ((bf_ a1.2.2 0 (w64 ((a0.1.2.2.2.2.1.length:Int) - 1))).bind λv13 =>
 (cond (!v13.1)
 (some (false,()))
 ((at? a0.1.2.2.2.2.1 a1.2.2).bind λv14 =>
 (cond (v14.2.1==v1)
 ((((af_ (ρ:=(Unit⊕(Bool×Unit))) (λ(v15:(Int×Unit)) =>
 (cond (decide (v15.1<(v14.2.2.2.1.length:Int)))
 ((at? v14.2.2.2.1 v15.1).bind λv16 =>
 ((at? a0.2.2.1 v16).bind λv17 =>
 (cond (!(v17==(w64 ((-2) - a1.1))))
 (some (inr (inr ((decide (0≤v15.1)),()))))
 (some (inl ((w64 (v15.1+1)),()))))))
 (some (inr (inl ()))))) (0,())).bind λv18 =>
 (cd_ v18 (λv19=>(some ((decide (0≤(-1))),())))
 (λv20=>(some v20))))).bind λv21 =>
 (cond (!v21.1)
 ((bd_ a0 v14.2.2.2.2.1).bind λv22 =>
 (cond v22.1
 ((((af_ (ρ:=(Unit⊕(Bool×Unit))) (λ(v23:(Int×Unit)) =>
 (cond (decide (v23.1<(v14.2.2.2.2.2.2.2.length:Int)))
 ((at? v14.2.2.2.2.2.2.2 v23.1).bind λv24 =>
 ((at? a0.2.2.1 v24).bind λv25 =>
 (cond (!(v25==(-1)))
 (some (inr (inr ((decide (0≤v23.1)),()))))
 (some (inl ((w64 (v23.1+1)),()))))))
 (some (inr (inl ()))))) (0,())).bind λv26 =>
 (cd_ v26 (λv27=>(some ((decide (0≤(-1))),())))
 (λv28=>(some v28))))).bind λv29 =>
 (cond (!v29.1)
 ((dt_ a0 a1.1).bind λv30 =>
 (some ((decide ((w64 ((w64 (v30.1 - (v14.2.2.2.2.2.2.1.length:Int)))+(v14.2.2.2.2.2.2.2.length:Int)))≤3)),())))
 (some (false,()))))
 (some (false,()))))
 (some (false,()))))
 (some (false,()))))))
 (some (false,())))))))))
theorem x_130:au_ (P:=prog) (cxI (λk=>cond (Nat.beq k 169) (.p .z (.j0 [.v 4 .bool] .z .z)) (cond (Nat.beq k 184) (.p .z (.p (.q [] .z .z) .z)) (cond (Nat.beq k 209) (.p .z (.p (.p .z (.ls [.v 8 .int] [] [] 0 .z)) .z)) (.z)))) (λk=>Nat.beq k 106||Nat.beq k 127||Nat.beq k 187||false) (cxC [cd9,cd7,c_187] []) 7) (.p .z (.p (.p (.q [] .z .z) .z) (.p (.q [] .z .z) (.p .z (.p .z (.p .z (.p (.p .z (.p .z (.p (.p (.p (.q [] .z .z) .z) .z) (.p .z (.p (.p (.q [] .z .z) .z) (.p .z (.p (.p (.q [] .z .z) .z) (.p .z (.p (.p (.p (.q [] .z .z) .z) .z) .z))))))))) .z))))))) 130 [(.ref fr_),ar_] [.bool]=λx=>dj_ x.1 x.2.1:=by kernel_rfl
noncomputable def c_130:Con prog:=av_ _ _ 130 [(.ref fr_),ar_] [.bool] _ x_130
noncomputable def ln_ (a0:aa_):Option ((List UInt8)×Unit) :=
 ((gf_ ([a0.1.1,a0.1.2.1,a0.1.2.2]:List (List Int))).bind λv0 =>
 ((ml_ a0).bind λv1 =>
 ((cat? v0.1 v1.1).bind λv2 =>
 (some (v2,())))))
theorem x_151:au_ (P:=prog) (cxC [c_196,c_197] []) .z 151 [al_] [.str]=λx=>ln_ x.1:=by kernel_rfl
noncomputable def c_151:Con prog:=av_ _ _ 151 [al_] [.str] _ x_151
noncomputable def cj_ (a0:br_) (a1:(List Int)):Option (en_×Int×Unit) :=
 ((((bs_ (a0.1.length:Int) 1 300).bind λv0 =>
 (cond (!v0.1)
 (some (true,()))
 (cond ((a0.2.length:Int) != (a0.1.length:Int))
 (some (true,()))
 (some (((a1.length:Int) != (a0.1.length:Int)),())))))).bind λv1 =>
 (cond v1.1
 (some ((a0.2,a1),(60,())))
 ((af_ (ρ:=((((List (List ad_))×((List Int)×Unit))×Unit)⊕(en_×(Int×Unit)))) (λ(v2:(Int×(((List (List ad_))×((List Int)×Unit))×Unit))) =>
 (cond (decide (v2.1<(a0.2.length:Int)))
 ((at? a0.2 v2.1).bind λv3 =>
 (((cond (decide (100<(v3.length:Int)))
 (some (true,()))
 ((((af_ (ρ:=(Unit⊕(Bool×Unit))) (λ(v4:(Int×Unit)) =>
 (cond (decide (v4.1<(v3.length:Int)))
 ((at? v3 v4.1).bind λv5 =>
 ((bs_ v5.2 0 (w64 ((a0.1.length:Int) - 1))).bind λv6 =>
 (cond (!v6.1)
 (some (inr (inr ((decide (0≤v4.1)),()))))
 (some (inl ((w64 (v4.1+1)),()))))))
 (some (inr (inl ()))))) (0,())).bind λv7 =>
 (cd_ v7 (λv8=>(some ((decide (0≤(-1))),())))
 (λv9=>(some v9))))).bind λv10 =>
 (some (v10.1,()))))).bind λv11 =>
 (cond v11.1
 (some (inr (inr ((a0.2,a1),(60,())))))
 (some (inl ((w64 (v2.1+1)),((v2.2.1.1,(v2.2.1.2.1,())),())))))))
 (some (inr (inl ((v2.2.1.1,(v2.2.1.2.1,())),())))))) (0,(([],([],())),()))).bind λv12 =>
 (cd_ v12 (λv13=>((af_ (ρ:=((((List (List ad_))×((List Int)×Unit))×Unit)⊕(en_×(Int×Unit)))) (λ(v15:(Int×(((List (List ad_))×((List Int)×Unit))×Unit))) =>
 (cond (decide (v15.1<(a1.length:Int)))
 ((at? a1 v15.1).bind λv16 =>
 ((eg_ (a0.2,a1) v15.1).bind λv17 =>
 (((cond (v17.1 != (-1))
 (some ((w64 (v17.1+1)),()))
 (some (v17.1,())))).bind λv18 =>
 (((cond (v16 != 0)
 (some ((v16 != v18.1),()))
 (some (false,())))).bind λv19 =>
 (cond v19.1
 (some (inr (inr ((a0.2,a1),(60,())))))
 (some (inl ((w64 (v15.1+1)),((v15.2.1.1,(v15.2.1.2.1,())),())))))))))
 (some (inr (inl ((v15.2.1.1,(v15.2.1.2.1,())),())))))) (0,((v13.1.1,(v13.1.2.1,())),()))).bind λv20 =>
 (cd_ v20 (λv21=>(some ((a0.2,a1),(0,()))))
 (λv22=>(some v22)))))
 (λv14=>(some v14))))))
theorem x_24:au_ (P:=prog) (cxI (λk=>cond (Nat.beq k 53) (.p .z (.j0 [.v 4 .bool] .z .z)) (cond (Nat.beq k 99) (.p .z (.p (.p .z (.ls [.v 8 .int] [] [] 0 .z)) .z)) (.z))) (λk=>Nat.beq k 52||Nat.beq k 55||false) (cxC [c_52,c_55] []) 4) (.p .z (.p .z (.p .z (.p (.j0 [.v 35 .bool] .z .z) (.p (.p .z (.ls [.v 40 .int] [] [.b (.s 4) [.val (.list (.list cm_)),.val (.list .int)]] 0 (.p .z (.p .z (.p (.p .z (.j0 [.v 51 .bool] .z .z)) .z))))) (.p (.p .z (.ls [.v 56 .int] [] [.b (.s 4) [.val (.list (.list cm_)),.val (.list .int)]] 2 (.p .z (.p .z (.p (.p .z (.p .z (.j0 [.v 12 .int] .z (.j0 [.v 74 .bool] .z .z)))) .z))))) .z)))))) 24 [bw_,(.list .int)] [dp_,.int]=λx=>cj_ x.1 x.2.1:=by kernel_rfl
noncomputable def c_24:Con prog:=av_ _ _ 24 [bw_,(.list .int)] [dp_,.int] _ x_24
noncomputable def dx_ (a0:(List ab_)) (a1:ab_):Option (Bool×Unit) :=
 ((hm_ a0 a1).bind λv0 =>
 (some ((decide (0≤v0.1)),())))
theorem x_200:au_ (P:=prog) (cxC [c_223] []) .z 200 [(.list ag_),ag_] [.bool]=λx=>dx_ x.1 x.2.1:=by kernel_rfl
noncomputable def c_200:Con prog:=av_ _ _ 200 [(.list ag_),ag_] [.bool] _ x_200
noncomputable def jc_ (a0:aj_) (a1:aj_):Option (Bool×Unit) :=
 ((ec_ a0.1 a1.1).bind λv0 =>
 (cond v0.1
 ((ec_ a0.2.1 a1.2.1).bind λv1 =>
 (cond v1.1
 ((ec_ a0.2.2 a1.2.2).bind λv2 =>
 (some (v2.1,())))
 (some (false,()))))
 (some (false,()))))
theorem x_34:au_ (P:=prog) (cxC [c_76] []) .z 34 [ao_,ao_] [.bool]=λx=>jc_ x.1 x.2.1:=by kernel_rfl
noncomputable def c_34:Con prog:=av_ _ _ 34 [ao_,ao_] [.bool] _ x_34
end
section
set_option maxRecDepth 100000
set_option maxHeartbeats 0
noncomputable def dc_ (a0:ae_) (a1:(List bi_)):Option (Bool×Unit) :=
 ((af_ (ρ:=(Unit⊕(Bool×Unit))) (λ(v0:(Int×Unit)) =>
 (cond (decide (v0.1<(a1.length:Int)))
 ((at? a1 v0.1).bind λv1 =>
 ((at? a1 v0.1).bind λv2 =>
 ((hn_ a0 v1.1 v2.2.1).bind λv3 =>
 (cond (!v3.1)
 (some (inr (inr (false,()))))
 (some (inl ((w64 (v0.1+1)),())))))))
 (some (inr (inl ()))))) (0,())).bind λv4 =>
 (cd_ v4 (λv5=>(some ((decide ((a1.length:Int)≤8)),())))
 (λv6=>(some v6))))
theorem x_40:au_ (P:=prog) (cxC [c_70] []) (.p .z (.p (.p .z (.ls [.v 5 .int] [] [] 0 (.p .z (.p (.p (.q [] .z .z) .z) .z)))) .z)) 40 [an_,(.list cc_)] [.bool]=λx=>dc_ x.1 x.2.1:=by kernel_rfl
noncomputable def c_40:Con prog:=av_ _ _ 40 [an_,(.list cc_)] [.bool] _ x_40
noncomputable def ei_ (a0:(List UInt8)):Option (Bool×Unit) :=
 (cond (decide ((a0.length:Int)≤12))
 ((ii_ a0).bind λv0 =>
 (some (v0.1,())))
 (some (false,())))
theorem x_77:au_ (P:=prog) (cxC [c_132] []) .z 77 [.str] [.bool]=λx=>ei_ x.1:=by kernel_rfl
noncomputable def c_77:Con prog:=av_ _ _ 77 [.str] [.bool] _ x_77
noncomputable def gq_ (a0:ab_) (a1:(List Int)):Option (Int×Unit) :=
 ((fd_ a0).bind λv0 =>
 (cond (v0.1 != 0)
 (some (v0.1,()))
 ((hd_ a0 a1).bind λv1 =>
 (cond (!v1.1)
 (some (12,()))
 (some (0,()))))))
theorem x_38:au_ (P:=prog) (cxC [c_37,c_81] []) .z 38 [ag_,(.list .int)] [.int]=λx=>gq_ x.1 x.2.1:=by kernel_rfl
noncomputable def c_38:Con prog:=av_ _ _ 38 [ag_,(.list .int)] [.int] _ x_38
noncomputable def he_ (a0:ab_) (a1:ak_):Option (Bool×Unit) :=
 ((bn_ a1.2.1 0 (w64 (a0.1 - 1))).bind λv0 =>
 ((bn_ a1.2.2.1 0 (w64 (a0.1 - 1))).bind λv1 =>
 (((cond (a1.1==1)
 (((cond v0.1
 ((bn_ a1.2.2.2.1 0 (w64 (a0.2 - 1))).bind λv2 =>
 (some (v2.1,())))
 (some (false,())))).bind λv3 =>
 (some (v3.1,((a1.2.1,(0,(a1.2.2.2.1,(0,([],()))))),()))))
 (cond (a1.1==2)
 (((cond v0.1
 (cond v1.1
 (cond (decide (a1.2.1≤a1.2.2.1))
 ((bn_ a1.2.2.2.1 0 100).bind λv4 =>
 (some (v4.1,())))
 (some (false,())))
 (some (false,())))
 (some (false,())))).bind λv5 =>
 (some (v5.1,((a1.2.1,(a1.2.2.1,(a1.2.2.2.1,(0,([],()))))),()))))
 (((cond (a1.1==3)
 (some ((a1.1==3),()))
 (some ((a1.1==4),())))).bind λv6 =>
 (cond v6.1
 (((cond v0.1
 (cond v1.1
 (some ((a1.2.1 != a1.2.2.1),()))
 (some (false,())))
 (some (false,())))).bind λv7 =>
 (some (v7.1,((a1.2.1,(a1.2.2.1,(0,(0,([],()))))),()))))
 (cond (a1.1==5)
 ((((bn_ a1.2.2.2.1 0 (w64 (a0.2 - 1))).bind λv8 =>
 (cond v8.1
 ((bn_ a1.2.2.2.2.1 0 a0.1).bind λv9 =>
 (some (v9.1,())))
 (some (false,()))))).bind λv10 =>
 (some (v10.1,((0,(0,(a1.2.2.2.1,(a1.2.2.2.2.1,([],()))))),()))))
 (cond (a1.1==6)
 ((((hd_ a0 a1.2.2.2.2.2.1).bind λv11 =>
 (cond v11.1
 ((bn_ a1.2.2.2.1 0 a0.1).bind λv12 =>
 (cond v12.1
 ((bn_ a1.2.2.2.2.1 0 a0.1).bind λv13 =>
 (some (v13.1,())))
 (some (false,()))))
 (some (false,()))))).bind λv14 =>
 (some (v14.1,((0,(0,(a1.2.2.2.1,(a1.2.2.2.2.1,(a1.2.2.2.2.2.1,()))))),()))))
 (cond (a1.1==7)
 (((cond v0.1
 ((bn_ a1.2.2.2.1 2 10).bind λv15 =>
 (cond v15.1
 ((bn_ a1.2.2.2.2.1 0 (w64 (a1.2.2.2.1 - 1))).bind λv16 =>
 (some (v16.1,())))
 (some (false,()))))
 (some (false,())))).bind λv17 =>
 (some (v17.1,((a1.2.1,(0,(a1.2.2.2.1,(a1.2.2.2.2.1,([],()))))),()))))
 (some (false,((0,(0,(0,(0,([],()))))),()))))))))))).bind λv18 =>
 (cond v18.1
 ((jy_ a1 (a1.1,(v18.2.1.1,(v18.2.1.2.1,(v18.2.1.2.2.1,(v18.2.1.2.2.2.1,(v18.2.1.2.2.2.2.1,a1.2.2.2.2.2.2))))))).bind λv19 =>
 (some (v19.1,())))
 (some (false,()))))))
theorem x_135:au_ (P:=prog) (cxC [c_80,c_81,c_189] []) (.p .z (.p (.q [] .z .z) (.p .z (.p .z (.j0 [.v 8 .bool,.b (.s 7) [.keep,.val .int,.val .int,.val .int,.val .int,.val (.list .int),.keep]] (.p .z (.p .z (.p (.j0 [.v 8 .bool] .z .z) (.p .z (.p (.j0 [.v 8 .bool] .z .z) (.j0 [.v 72 .bool] .z (.p (.j0 [.v 8 .bool] .z .z) (.p .z (.p (.j0 [.v 8 .bool] .z .z) (.p .z (.p (.j0 [.v 8 .bool] .z .z) (.p .z (.p (.j0 [.v 8 .bool] .z .z) .z))))))))))))) .z))))) 135 [ag_,aq_] [.bool]=λx=>he_ x.1 x.2.1:=by kernel_rfl
noncomputable def c_135:Con prog:=av_ _ _ 135 [ag_,aq_] [.bool] _ x_135
noncomputable def ge_ (a0:ak_) (a1:(List Int)):Option (Bool×Unit) :=
 (((cond (a0.1==1)
 ((at? a1 a0.2.1).bind λv0 =>
 (some ((v0==a0.2.2.2.1),())))
 (cond (a0.1==2)
 ((af_ (ρ:=(Int×Unit)) (λ(v1:(Int×(Int×Unit))) =>
 (cond (decide (v1.2.1≤a0.2.2.1))
 ((at? a1 v1.2.1).bind λv2 =>
 (some (inl ((w64 (v1.1+v2)),((w64 (v1.2.1+1)),())))))
 (some (inr (v1.1,()))))) (0,(a0.2.1,()))).bind λv3 =>
 (some ((v3.1==a0.2.2.2.1),())))
 (cond (a0.1==3)
 ((at? a1 a0.2.1).bind λv4 =>
 ((at? a1 a0.2.2.1).bind λv5 =>
 (some ((decide (v4<v5)),()))))
 (cond (a0.1==4)
 ((at? a1 a0.2.1).bind λv6 =>
 ((at? a1 a0.2.2.1).bind λv7 =>
 (some ((v6==v7),()))))
 (cond (a0.1==5)
 ((fc_ a1 a0.2.2.2.1).bind λv8 =>
 (some ((v8.1==a0.2.2.2.2.1),())))
 (cond (a0.1==6)
 ((jk_ a1 a0.2.2.2.2.2.1).bind λv9 =>
 (cond (v9.1==a0.2.2.2.1)
 (some ((v9.2.1==a0.2.2.2.2.1),()))
 (some (false,()))))
 (cond (a0.1==7)
 ((at? a1 a0.2.1).bind λv10 =>
 ((md v10 a0.2.2.2.1).bind λv11 =>
 (some ((v11==a0.2.2.2.2.1),()))))
 (some (false,())))))))))).bind λv12 =>
 (some ((v12.1 != a0.2.2.2.2.2.2),())))
theorem x_84:au_ (P:=prog) (cxC [c_136,c_137] []) (.p .z (.p .z (.j0 [.v 5 .bool] (.p .z (.p .z (.p (.q [] .z .z) (.p .z (.p (.p .z (.p (.p .z (.lp [.v 6 .int,.v 7 .int] [.v 6 .int] [] 1 .z)) .z)) (.p .z (.p (.q [] .z .z) (.p .z (.p (.q [] .z .z) (.p .z (.p (.q [] .z .z) (.p .z (.p .z (.p .z (.p (.q [] .z .z) .z))))))))))))))) .z))) 84 [aq_,(.list .int)] [.bool]=λx=>ge_ x.1 x.2.1:=by kernel_rfl
noncomputable def c_84:Con prog:=av_ _ _ 84 [aq_,(.list .int)] [.bool] _ x_84
noncomputable def fn_ (a0:ae_) (a1:aj_):Option ((List ai_)×Unit) :=
 ((af_ (ρ:=((List ai_)×Unit)) (λ(v0:((List ai_)×(Int×Unit))) =>
 (cond (decide (v0.2.1<a0.2.2.2.2.2.2.1))
 ((af_ (ρ:=((List ai_)×Unit)) (λ(v1:((List ai_)×(Int×Unit))) =>
 (cond (decide (v1.2.1≤4))
 ((af_ (ρ:=((List ai_)×Unit)) (λ(v2:((List ai_)×(Int×Unit))) =>
 (cond (decide (v2.2.1<24))
 ((((kp_ a0 a1 (v0.2.1,(v1.2.1,v2.2.1))).bind λv3 =>
 (cond v3.1
 ((push? (α:=ai_) v2.1 [(v0.2.1,(v1.2.1,v2.2.1))]).bind λv4 =>
 (some (v4,())))
 (some (v2.1,()))))).bind λv5 =>
 (some (inl (v5.1,((w64 (v2.2.1+1)),())))))
 (some (inr (v2.1,()))))) (v1.1,(0,()))).bind λv6 =>
 (some (inl (v6.1,((w64 (v1.2.1+1)),())))))
 (some (inr (v1.1,()))))) (v0.1,(1,()))).bind λv7 =>
 (some (inl (v7.1,((w64 (v0.2.1+1)),())))))
 (some (inr (v0.1,()))))) ([],(0,()))).bind λv8 =>
 (some (v8.1,())))
theorem x_88:au_ (P:=prog) (cxC [c_140] []) (.p .z (.p .z (.p (.p .z (.lp [.r 5 ar_ 65,.v 6 .int] [.r 5 ar_ 65] [] 0 (.p .z (.p (.p .z (.lp [.r 5 ar_ 65,.v 7 .int] [.r 5 ar_ 65] [] 2 (.p .z (.p (.p .z (.lp [.r 5 ar_ 65,.v 8 .int] [.r 5 ar_ 65] [] 4 (.p .z (.j0 [.r 5 ar_ 65] .z .z)))) .z)))) .z)))) .z))) 88 [an_,ao_] [(.list ar_)]=λx=>fn_ x.1 x.2.1:=by kernel_rfl
noncomputable def c_88:Con prog:=av_ _ _ 88 [an_,ao_] [(.list ar_)] _ x_88
noncomputable def hc_ (a0:ae_) (a1:aj_) (a2:ai_):Option (aj_×Bool×Unit) :=
 ((push? (α:=Int) [] a1.1).bind λv0 =>
 ((push? (α:=Int) [] a1.2.1).bind λv1 =>
 ((push? (α:=Int) [] a1.2.2).bind λv2 =>
 ((at? a1.2.2 a2.1).bind λv3 =>
 (((cond (a2.2.1==1)
 ((at? a0.2.2.2.1 a2.2.2).bind λv4 =>
 ((at? a0.2.2.2.1 a2.2.2).bind λv5 =>
 ((at? v2 a2.1).bind λv6 =>
 ((at? v2 a2.1).bind λv7 =>
 (some (v0,(v1,((v2.set a2.1.toNat (w64 ((w64 (v4.1+v5.2.1)) - v3))),()))))))))
 (cond (a2.2.1==2)
 ((at? v1 a2.2.2).bind λv8 =>
 ((at? v1 a2.2.2).bind λv9 =>
 (some (v0,((v1.set a2.2.2.toNat (w64 ((-2) - a2.1))),(v2,()))))))
 (cond (a2.2.1==3)
 ((at? v1 a2.2.2).bind λv10 =>
 ((at? v1 a2.2.2).bind λv11 =>
 (some (v0,((v1.set a2.2.2.toNat v3),(v2,()))))))
 (cond (a2.2.1==4)
 ((at? a0.2.2.2.2.1 a2.2.2).bind λv12 =>
 ((af_ (ρ:=((List Int)×Unit)) (λ(v13:(Int×((List Int)×Unit))) =>
 (cond (decide (v13.1<(v12.2.2.2.2.2.2.1.length:Int)))
 ((at? v12.2.2.2.2.2.2.1 v13.1).bind λv14 =>
 ((at? v13.2.1 v14).bind λv15 =>
 ((at? v13.2.1 v14).bind λv16 =>
 (some (inl ((w64 (v13.1+1)),((v13.2.1.set v14.toNat (-1)),())))))))
 (some (inr (v13.2.1,()))))) (0,(v1,()))).bind λv17 =>
 ((af_ (ρ:=((List Int)×Unit)) (λ(v18:(Int×((List Int)×Unit))) =>
 (cond (decide (v18.1<(v12.2.2.2.2.2.2.2.length:Int)))
 ((at? v12.2.2.2.2.2.2.2 v18.1).bind λv19 =>
 ((at? v18.2.1 v19).bind λv20 =>
 ((at? v18.2.1 v19).bind λv21 =>
 (some (inl ((w64 (v18.1+1)),((v18.2.1.set v19.toNat (w64 ((-2) - a2.1))),())))))))
 (some (inr (v18.2.1,()))))) (0,(v17.1,()))).bind λv22 =>
 ((af_ (ρ:=((List Int)×Unit)) (λ(v23:(Int×((List Int)×Unit))) =>
 (cond (decide (v23.1<(v12.2.2.2.2.2.1.length:Int)))
 ((at? v12.2.2.2.2.2.1 v23.1).bind λv24 =>
 ((at? v12.2.2.2.2.2.1 v23.1).bind λv25 =>
 ((at? v23.2.1 v24.1).bind λv26 =>
 ((at? v23.2.1 v24.1).bind λv27 =>
 (some (inl ((w64 (v23.1+1)),((v23.2.1.set v24.1.toNat v25.2),()))))))))
 (some (inr (v23.2.1,()))))) (0,(v0,()))).bind λv28 =>
 (some (v28.1,(v22.1,(v2,()))))))))
 (some (v0,(v1,(v2,()))))))))).bind λv29 =>
 ((hb_ a0 (v29.1,(v29.2.1,v29.2.2.1))).bind λv30 =>
 (some (v30.1,(v30.2.1,())))))))))
theorem x_90:au_ (P:=prog) (cxI (λk=>.z) (λk=>Nat.beq k 143||false) (cxC [c_143] []) 2) (.p .z (.p .z (.p (.q [] .z .z) (.j0 [.o (.c (.s 8) 0) .int,.o (.c (.s 8) 1) .int,.o (.c (.s 8) 2) .int] (.p .z (.p .z (.p .z (.p .z (.p .z (.p .z (.p .z (.p .z (.p (.p .z (.p (.p .z (.lp [.v 12 .int] [] [.o (.c (.s 8) 1) .int] 1 .z)) (.p (.p .z (.lp [.v 13 .int] [] [.o (.c (.s 8) 1) .int] 3 .z)) (.p .z (.lp [.v 14 .int] [] [.o (.c (.s 8) 0) .int] 5 .z))))) .z))))))))) .z)))) 90 [an_,ao_,ar_] [ao_,.bool]=λx=>hc_ x.1 x.2.1 x.2.2.1:=by kernel_rfl
noncomputable def c_90:Con prog:=av_ _ _ 90 [an_,ao_,ar_] [ao_,.bool] _ x_90
noncomputable def co_ (a0:ab_) (a1:(List Int)):Option (Bool×Unit) :=
 (cond ((a1.length:Int)==a0.1)
 ((((af_ (ρ:=(Unit⊕(Bool×Unit))) (λ(v0:(Int×Unit)) =>
 (cond (decide (v0.1<(a1.length:Int)))
 ((at? a1 v0.1).bind λv1 =>
 ((bq_ a0 v1).bind λv2 =>
 (cond (!v2.1)
 (some (inr (inr ((decide (0≤v0.1)),()))))
 (some (inl ((w64 (v0.1+1)),()))))))
 (some (inr (inl ()))))) (0,())).bind λv3 =>
 (cd_ v3 (λv4=>(some ((decide (0≤(-1))),())))
 (λv5=>(some v5))))).bind λv6 =>
 (some ((!v6.1),())))
 (some (false,())))
theorem x_147:au_ (P:=prog) (cxI (λk=>cond (Nat.beq k 169) (.p .z (.j0 [.v 4 .bool] .z .z)) (cond (Nat.beq k 209) (.p .z (.p (.p .z (.ls [.v 8 .int] [] [] 0 .z)) .z)) (.z))) (λk=>Nat.beq k 146||false) (cxC [c_146] []) 4) .z 147 [ag_,(.list .int)] [.bool]=λx=>co_ x.1 x.2.1:=by kernel_rfl
noncomputable def c_147:Con prog:=av_ _ _ 147 [ag_,(.list .int)] [.bool] _ x_147
noncomputable def ek_ (a0:ak_) (a1:(List Int)):Option (Bool×Unit) :=
 ((ik_ a0 a1).bind λv0 =>
 (some ((v0.1 != a0.2.2.2.2.2.2),())))
theorem x_176:au_ (P:=prog) (cxC [c_212] []) (.p .z (.p (.q [] .z .z) .z)) 176 [aq_,(.list .int)] [.bool]=λx=>ek_ x.1 x.2.1:=by kernel_rfl
noncomputable def c_176:Con prog:=av_ _ _ 176 [aq_,(.list .int)] [.bool] _ x_176
noncomputable def mj_ (a0:ac_):Option (ac_×Unit) :=
 ((mk_ a0.1).bind λv0 =>
 ((push? (α:=ab_) [] a0.2.1).bind λv1 =>
 ((push? (α:=cy_) [] a0.2.2.2.1).bind λv2 =>
 ((af_ (ρ:=(((List (List Int))×Unit)×Unit)) (λ(v3:(Int×(((List (List Int))×Unit)×Unit))) =>
 (cond (decide (v3.1<(a0.2.2.1.length:Int)))
 ((at? a0.2.2.1 v3.1).bind λv4 =>
 ((push? (α:=Int) [] v4).bind λv5 =>
 ((push? (α:=(List Int)) v3.2.1.1 ([v5]:List (List Int))).bind λv6 =>
 (some (inl ((w64 (v3.1+1)),((v6,()),())))))))
 (some (inr ((v3.2.1.1,()),()))))) (0,(([],()),()))).bind λv7 =>
 ((af_ (ρ:=((List cy_)×Unit)) (λ(v8:(Int×((List cy_)×Unit))) =>
 (cond (decide (v8.1<(v8.2.1.length:Int)))
 ((at? v8.2.1 v8.1).bind λv9 =>
 ((at? v8.2.1 v8.1).bind λv10 =>
 ((push? (α:=bi_) [] v10.2.2.2.1).bind λv11 =>
 ((at? v8.2.1 v8.1).bind λv12 =>
 ((at? v8.2.1 v8.1).bind λv13 =>
 ((at? (v8.2.1.set v8.1.toNat (v13.1,(v13.2.1,(v13.2.2.1,(v11,v13.2.2.2.2))))) v8.1).bind λv14 =>
 ((at? (v8.2.1.set v8.1.toNat (v13.1,(v13.2.1,(v13.2.2.1,(v11,v13.2.2.2.2))))) v8.1).bind λv15 =>
 ((hi_ v15.2.2.2.2).bind λv16 =>
 ((at? (v8.2.1.set v8.1.toNat (v13.1,(v13.2.1,(v13.2.2.1,(v11,v13.2.2.2.2))))) v8.1).bind λv17 =>
 ((at? (v8.2.1.set v8.1.toNat (v13.1,(v13.2.1,(v13.2.2.1,(v11,v13.2.2.2.2))))) v8.1).bind λv18 =>
 (some (inl ((w64 (v8.1+1)),(((v8.2.1.set v8.1.toNat (v13.1,(v13.2.1,(v13.2.2.1,(v11,v13.2.2.2.2))))).set v8.1.toNat (v18.1,(v18.2.1,(v18.2.2.1,(v18.2.2.2.1,v16.1))))),()))))))))))))))
 (some (inr (v8.2.1,()))))) (0,(v2,()))).bind λv19 =>
 (some ((v0.1,(v1,(v7.1.1,(v19.1,a0.2.2.2.2)))),())))))))
theorem x_6:au_ (P:=prog) (cxC [c_20,c_21] []) (.p .z (.p .z (.p (.p .z (.lp [.v 4 .int] [] [.b (.s 3) [.keep,.keep,.keep,.keep,.keep,.keep,.keep,.keep,.keep,.row (.list .int) 46,.keep,.keep]] 0 .z)) (.p (.p .z (.lp [.v 5 .int] [] [.o (.s 16) qi_] 2 .z)) .z)))) 6 [ap_] [ap_]=λx=>mj_ x.1:=by kernel_rfl
noncomputable def c_6:Con prog:=av_ _ _ 6 [ap_] [ap_] _ x_6
noncomputable def fx_ (a0:(List UInt8)):Option (Bool×Unit) :=
 ((af_ (ρ:=(Unit⊕(Bool×Unit))) (λ(v0:(Int×Unit)) =>
 (cond (decide (v0.1<(a0.length:Int)))
 ((((at? a0 v0.1).bind λv1 =>
 (cond (decide (((UInt8.toNat v1):Int)<97))
 (some (true,()))
 ((at? a0 v0.1).bind λv2 =>
 (some ((decide (122<((UInt8.toNat v2):Int))),())))))).bind λv3 =>
 (cond v3.1
 (some (inr (inr (false,()))))
 (some (inl ((w64 (v0.1+1)),())))))
 (some (inr (inl ()))))) (0,())).bind λv4 =>
 (cd_ v4 (λv5=>(cond (!(a0==[]))
 ((di_ ([[97,116],[115,116,97,116,101,115],[115,116,97,114,116],[103,111,110,101],[105,102],[108,111,99,107],[119,105,116,104],[115,101,116,115],[115,112,101,110,100,115],[98,114,105,110,103,115]]:List (List UInt8)) a0).bind λv7 =>
 (some ((!v7.1),())))
 (some (false,()))))
 (λv6=>(some v6))))
theorem x_159:au_ (P:=prog) (cxC [c_201] []) (.p .z (.p (.p .z (.ls [.v 6 .int] [] [] 0 (.p .z (.p .z (.p (.p .z (.j0 [.v 18 .bool] .z .z)) .z))))) .z)) 159 [.str] [.bool]=λx=>fx_ x.1:=by kernel_rfl
noncomputable def c_159:Con prog:=av_ _ _ 159 [.str] [.bool] _ x_159
noncomputable def eh_ (a0:ae_) (a1:(List bi_)):Option (Bool×Unit) :=
 (cond (decide ((a1.length:Int)≤8))
 ((((af_ (ρ:=(Unit⊕(Bool×Unit))) (λ(v0:(Int×Unit)) =>
 (cond (decide (v0.1<(a1.length:Int)))
 ((at? a1 v0.1).bind λv1 =>
 ((fy_ a0 v1.1 v1.2.1).bind λv2 =>
 (cond (!v2.1)
 (some (inr (inr ((decide (0≤v0.1)),()))))
 (some (inl ((w64 (v0.1+1)),()))))))
 (some (inr (inl ()))))) (0,())).bind λv3 =>
 (cd_ v3 (λv4=>(some ((decide (0≤(-1))),())))
 (λv5=>(some v5))))).bind λv6 =>
 (some ((!v6.1),())))
 (some (false,())))
theorem x_113:au_ (P:=prog) (cxI (λk=>cond (Nat.beq k 123) (.p .z (.j0 [.v 4 .bool] .z .z)) (cond (Nat.beq k 177) (.p .z (.p (.p .z (.ls [.v 8 .int] [] [] 0 .z)) .z)) (.z))) (λk=>Nat.beq k 115||false) (cxC [cq8] []) 4) .z 113 [an_,(.list cc_)] [.bool]=λx=>eh_ x.1 x.2.1:=by kernel_rfl
noncomputable def c_113:Con prog:=av_ _ _ 113 [an_,(.list cc_)] [.bool] _ x_113
noncomputable def ji_ (a0:br_) (a1:(List Int)):Option (Int×Unit) :=
 ((cj_ a0 a1).bind λv0 =>
 (some (v0.2.1,())))
theorem x_8:au_ (P:=prog) (cxC [c_24] []) .z 8 [bw_,(.list .int)] [.int]=λx=>ji_ x.1 x.2.1:=by kernel_rfl
noncomputable def c_8:Con prog:=av_ _ _ 8 [bw_,(.list .int)] [.int] _ x_8
noncomputable def ig_ (a0:br_) (a1:(List Int)) (a2:ab_) (a3:Int):Option (en_×Int×Unit) :=
 ((cj_ a0 a1).bind λv0 =>
 (cond (v0.2.1 != 0)
 (some (v0.1,(v0.2.1,())))
 ((((bs_ a2.1 0 200).bind λv1 =>
 (cond (!v1.1)
 (some (true,()))
 ((bs_ a2.2 0 99).bind λv2 =>
 (cond (!v2.1)
 (some (true,()))
 ((bs_ a3 0 2000).bind λv3 =>
 (some ((!v3.1),())))))))).bind λv4 =>
 (cond v4.1
 (some (v0.1,(1,())))
 (some (v0.1,(0,())))))))
theorem x_25:au_ (P:=prog) (cxC [c_24,c_52] []) (.p .z (.p .z (.p .z (.p (.j0 [.v 36 .bool] .z .z) .z)))) 25 [bw_,(.list .int),ag_,.int] [dp_,.int]=λx=>ig_ x.1 x.2.1 x.2.2.1 x.2.2.2.1:=by kernel_rfl
noncomputable def c_25:Con prog:=av_ _ _ 25 [bw_,(.list .int),ag_,.int] [dp_,.int] _ x_25
noncomputable def dd_ (a0:ey_) (a1:Int) (a2:Int):Option (Bool×Unit) :=
 ((dx_ a0.2.2.2 (a1,a2)).bind λv0 =>
 (some (v0.1,())))
theorem x_156:au_ (P:=prog) (cxC [c_200] []) .z 156 [(.ref cf_),.int,.int] [.bool]=λx=>dd_ x.1 x.2.1 x.2.2.1:=by kernel_rfl
noncomputable def c_156:Con prog:=av_ _ _ 156 [(.ref cf_),.int,.int] [.bool] _ x_156
noncomputable def et_ (a0:aa_) (a1:aa_):Option (Bool×Unit) :=
 ((((jc_ a0.1 a1.1).bind λv0 =>
 (cond (!v0.1)
 (some (true,()))
 (some (((a0.2.length:Int) != (a1.2.length:Int)),()))))).bind λv1 =>
 (cond v1.1
 (some (false,()))
 ((af_ (ρ:=(Unit⊕(Bool×Unit))) (λ(v2:(Int×Unit)) =>
 (cond (decide (v2.1<(a0.2.length:Int)))
 ((at? a0.2 v2.1).bind λv3 =>
 ((at? a1.2 v2.1).bind λv4 =>
 (cond (v3 != v4)
 (some (inr (inr (false,()))))
 (some (inl ((w64 (v2.1+1)),()))))))
 (some (inr (inl ()))))) (0,())).bind λv5 =>
 (cd_ v5 (λv6=>(some (true,())))
 (λv7=>(some v7))))))
theorem x_15:au_ (P:=prog) (cxC [c_34] []) (.p .z (.p (.j0 [.v 20 .bool] .z .z) (.p (.p .z (.ls [.v 5 .int] [] [] 0 (.p .z (.p (.p (.q [] .z .z) .z) .z)))) .z))) 15 [al_,al_] [.bool]=λx=>et_ x.1 x.2.1:=by kernel_rfl
noncomputable def c_15:Con prog:=av_ _ _ 15 [al_,al_] [.bool] _ x_15
end
section
set_option maxRecDepth 100000
set_option maxHeartbeats 0
noncomputable def oa_ (a0:ae_) (a1:Int):Option (Bool×Unit) :=
 ((at? a0.2.2.2.2.1 a1).bind λv0 =>
 ((af_ (ρ:=(Unit⊕(Bool×Unit))) (λ(v1:(Int×Unit)) =>
 (cond (decide (v1.1<a1))
 ((at? a0.2.2.2.2.1 v1.1).bind λv2 =>
 (cond (v2.1==v0.1)
 (some (inr (inr (false,()))))
 (some (inl ((w64 (v1.1+1)),())))))
 (some (inr (inl ()))))) (0,())).bind λv3 =>
 (cd_ v3 (λv4=>((((ei_ v0.1).bind λv6 =>
 (cond (!v6.1)
 (some (true,()))
 ((db_ a0 v0.2.1).bind λv7 =>
 (cond (!v7.1)
 (some (true,()))
 ((bv_ v0.2.2.1 (-1) 7).bind λv8 =>
 (cond (!v8.1)
 (some (true,()))
 ((du_ a0 v0.2.2.2.1).bind λv9 =>
 (cond (!v9.1)
 (some (true,()))
 ((du_ a0 v0.2.2.2.2.2.2.1).bind λv10 =>
 (cond (!v10.1)
 (some (true,()))
 ((du_ a0 v0.2.2.2.2.2.2.2).bind λv11 =>
 (cond (!v11.1)
 (some (true,()))
 (some ((decide (6<(v0.2.2.2.2.2.1.length:Int))),()))))))))))))))).bind λv12 =>
 (cond v12.1
 (some (false,()))
 ((af_ (ρ:=(Unit⊕(Bool×Unit))) (λ(v13:(Int×Unit)) =>
 (cond (decide (v13.1<(v0.2.2.2.2.2.2.1.length:Int)))
 ((at? v0.2.2.2.2.2.2.1 v13.1).bind λv14 =>
 ((no_ v0.2.2.2.1 v14).bind λv15 =>
 (cond (!v15.1)
 (some (inr (inr (false,()))))
 (some (inl ((w64 (v13.1+1)),()))))))
 (some (inr (inl ()))))) (0,())).bind λv16 =>
 (cd_ v16 (λv17=>((af_ (ρ:=(Unit⊕(Bool×Unit))) (λ(v19:(Int×Unit)) =>
 (cond (decide (v19.1<(v0.2.2.2.2.2.2.2.length:Int)))
 ((at? v0.2.2.2.2.2.2.2 v19.1).bind λv20 =>
 ((no_ v0.2.2.2.1 v20).bind λv21 =>
 (cond v21.1
 (some (inr (inr (false,()))))
 (some (inl ((w64 (v19.1+1)),()))))))
 (some (inr (inl ()))))) (0,())).bind λv22 =>
 (cd_ v22 (λv23=>((af_ (ρ:=(Unit⊕(Bool×Unit))) (λ(v25:(Int×Unit)) =>
 (cond (decide (v25.1<(v0.2.2.2.2.2.1.length:Int)))
 ((at? v0.2.2.2.2.2.1 v25.1).bind λv26 =>
 ((at? v0.2.2.2.2.2.1 v25.1).bind λv27 =>
 ((hn_ a0 v26.1 v27.2).bind λv28 =>
 (cond (!v28.1)
 (some (inr (inr (false,()))))
 ((af_ (ρ:=(Unit⊕((Int×Unit)⊕(Unit⊕(Bool×Unit))))) (λ(v29:(Int×Unit)) =>
 (cond (decide (v29.1<v25.1))
 ((at? v0.2.2.2.2.2.1 v29.1).bind λv30 =>
 ((at? v0.2.2.2.2.2.1 v25.1).bind λv31 =>
 (cond (v30.1==v31.1)
 (some (inr (inr (inr (inr (false,()))))))
 (some (inl ((w64 (v29.1+1)),()))))))
 (some (inr (inl ()))))) (0,())).bind λv32 =>
 (cd_ v32 (λv33=>(some (inl ((w64 (v25.1+1)),()))))
 (λv34=>(some v34))))))))
 (some (inr (inl ()))))) (0,())).bind λv35 =>
 (cd_ v35 (λv36=>(some (true,())))
 (λv37=>(some v37)))))
 (λv24=>(some v24)))))
 (λv18=>(some v18)))))))
 (λv5=>(some v5)))))
theorem x_79:au_ (P:=prog) (cxC [c_70,c_71,c_72,c_77,c_133,c_134] []) (.p .z (.p .z (.p (.p .z (.ls [.v 6 .int] [] [] 0 .z)) (.p (.j0 [.v 73 .bool] .z .z) (.p (.p .z (.ls [.v 7 .int] [] [] 2 .z)) (.p (.p .z (.ls [.v 8 .int] [] [] 4 .z)) (.p (.p .z (.ls [.v 9 .int] [] [] 6 (.p .z (.p (.p .z (.p .z (.ls [.v 10 .int] [] [] 8 .z))) .z)))) .z))))))) 79 [an_,.int] [.bool]=λx=>oa_ x.1 x.2.1:=by kernel_rfl
noncomputable def c_79:Con prog:=av_ _ _ 79 [an_,.int] [.bool] _ x_79
noncomputable def gr_ (a0:ab_) (a1:ak_):Option (Int×Unit) :=
 ((fd_ a0).bind λv0 =>
 (cond (v0.1 != 0)
 (some (v0.1,()))
 ((he_ a0 a1).bind λv1 =>
 (cond (!v1.1)
 (some (11,()))
 (some (0,()))))))
theorem x_83:au_ (P:=prog) (cxC [c_37,c_135] []) .z 83 [ag_,aq_] [.int]=λx=>gr_ x.1 x.2.1:=by kernel_rfl
noncomputable def c_83:Con prog:=av_ _ _ 83 [ag_,aq_] [.int] _ x_83
noncomputable def fo_ (a0:ab_) (a1:(List ak_)):Option (Int×Unit) :=
 ((fd_ a0).bind λv0 =>
 (cond (v0.1 != 0)
 (some (v0.1,()))
 (cond (decide (20<(a1.length:Int)))
 (some (2,()))
 ((af_ (ρ:=(Unit⊕(Int×Unit))) (λ(v1:(Int×Unit)) =>
 (cond (decide (v1.1<(a1.length:Int)))
 ((at? a1 v1.1).bind λv2 =>
 ((he_ a0 v2).bind λv3 =>
 (cond (!v3.1)
 (some (inr (inr (11,()))))
 (some (inl ((w64 (v1.1+1)),()))))))
 (some (inr (inl ()))))) (0,())).bind λv4 =>
 (cd_ v4 (λv5=>(some (0,())))
 (λv6=>(some v6)))))))
theorem x_228:au_ (P:=prog) (cxC [c_37,c_135] []) (.p .z (.p .z (.p .z (.p (.p .z (.ls [.v 6 .int] [] [] 0 (.p .z (.p (.p (.q [] .z .z) .z) .z)))) .z)))) 228 [ag_,(.list aq_)] [.int]=λx=>fo_ x.1 x.2.1:=by kernel_rfl
noncomputable def c_228:Con prog:=av_ _ _ 228 [ag_,(.list aq_)] [.int] _ x_228
noncomputable def kr_ (a0:(List ak_)) (a1:(List Int)):Option (Int×Unit) :=
 ((af_ (ρ:=(Unit⊕(Int×Unit))) (λ(v0:(Int×Unit)) =>
 (cond (decide (v0.1<(a0.length:Int)))
 ((at? a0 v0.1).bind λv1 =>
 ((ge_ v1 a1).bind λv2 =>
 (cond (!v2.1)
 (some (inr (inr (v0.1,()))))
 (some (inl ((w64 (v0.1+1)),()))))))
 (some (inr (inl ()))))) (0,())).bind λv3 =>
 (cd_ v3 (λv4=>(some ((-1),())))
 (λv5=>(some v5))))
theorem x_233:au_ (P:=prog) (cxC [c_84] []) (.p .z (.p (.p .z (.ls [.v 5 .int] [] [] 0 .z)) .z)) 233 [(.list aq_),(.list .int)] [.int]=λx=>kr_ x.1 x.2.1:=by kernel_rfl
noncomputable def c_233:Con prog:=av_ _ _ 233 [(.list aq_),(.list .int)] [.int] _ x_233
noncomputable def mi_ (a0:ac_) (a1:aa_) (a2:ai_):Option (aa_×Unit) :=
 ((hc_ a0.1 a1.1 a2).bind λv0 =>
 ((jr_ a0 (v0.1,a1.2)).bind λv1 =>
 (some (v1.1,()))))
theorem x_45:au_ (P:=prog) (cxC [c_86,c_90] []) .z 45 [ap_,al_,ar_] [al_]=λx=>mi_ x.1 x.2.1 x.2.2.1:=by kernel_rfl
noncomputable def c_45:Con prog:=av_ _ _ 45 [ap_,al_,ar_] [al_] _ x_45
noncomputable def cp_ (a0:ab_) (a1:ak_):Option (Bool×Unit) :=
 (((cond (a1.1==1)
 ((az_ a0 a1.2.1).bind λv0 =>
 (cond v0.1
 ((bq_ a0 a1.2.2.2.1).bind λv1 =>
 (some (v1.1,((a1.2.1,(0,(a1.2.2.2.1,(0,([],()))))),()))))
 (some (false,((a1.2.1,(0,(a1.2.2.2.1,(0,([],()))))),())))))
 (cond (a1.1==2)
 ((az_ a0 a1.2.1).bind λv2 =>
 (cond v2.1
 ((az_ a0 a1.2.2.1).bind λv3 =>
 (cond v3.1
 (cond (decide (a1.2.1≤a1.2.2.1))
 ((bg_ a1.2.2.2.1 0 100).bind λv4 =>
 (some (v4.1,((a1.2.1,(a1.2.2.1,(a1.2.2.2.1,(0,([],()))))),()))))
 (some (false,((a1.2.1,(a1.2.2.1,(a1.2.2.2.1,(0,([],()))))),()))))
 (some (false,((a1.2.1,(a1.2.2.1,(a1.2.2.2.1,(0,([],()))))),())))))
 (some (false,((a1.2.1,(a1.2.2.1,(a1.2.2.2.1,(0,([],()))))),())))))
 (((cond (a1.1==3)
 (some ((a1.1==3),()))
 (some ((a1.1==4),())))).bind λv5 =>
 (cond v5.1
 ((az_ a0 a1.2.1).bind λv6 =>
 (cond v6.1
 ((az_ a0 a1.2.2.1).bind λv7 =>
 (cond v7.1
 (some ((a1.2.1 != a1.2.2.1),((a1.2.1,(a1.2.2.1,(0,(0,([],()))))),())))
 (some (false,((a1.2.1,(a1.2.2.1,(0,(0,([],()))))),())))))
 (some (false,((a1.2.1,(a1.2.2.1,(0,(0,([],()))))),())))))
 (cond (a1.1==5)
 ((bq_ a0 a1.2.2.2.1).bind λv8 =>
 (cond v8.1
 ((bg_ a1.2.2.2.2.1 0 a0.1).bind λv9 =>
 (some (v9.1,((0,(0,(a1.2.2.2.1,(a1.2.2.2.2.1,([],()))))),()))))
 (some (false,((0,(0,(a1.2.2.2.1,(a1.2.2.2.2.1,([],()))))),())))))
 (cond (a1.1==6)
 ((bg_ a1.2.2.2.1 0 a0.1).bind λv10 =>
 (cond v10.1
 ((bg_ a1.2.2.2.2.1 0 a0.1).bind λv11 =>
 (cond v11.1
 ((co_ a0 a1.2.2.2.2.2.1).bind λv12 =>
 (some (v12.1,((0,(0,(a1.2.2.2.1,(a1.2.2.2.2.1,(a1.2.2.2.2.2.1,()))))),()))))
 (some (false,((0,(0,(a1.2.2.2.1,(a1.2.2.2.2.1,(a1.2.2.2.2.2.1,()))))),())))))
 (some (false,((0,(0,(a1.2.2.2.1,(a1.2.2.2.2.1,(a1.2.2.2.2.2.1,()))))),())))))
 (cond (a1.1==7)
 ((az_ a0 a1.2.1).bind λv13 =>
 (cond v13.1
 ((bg_ a1.2.2.2.1 2 10).bind λv14 =>
 (cond v14.1
 ((bg_ a1.2.2.2.2.1 0 (w64 (a1.2.2.2.1 - 1))).bind λv15 =>
 (some (v15.1,((a1.2.1,(0,(a1.2.2.2.1,(a1.2.2.2.2.1,([],()))))),()))))
 (some (false,((a1.2.1,(0,(a1.2.2.2.1,(a1.2.2.2.2.1,([],()))))),())))))
 (some (false,((a1.2.1,(0,(a1.2.2.2.1,(a1.2.2.2.2.1,([],()))))),())))))
 (some (false,((0,(0,(0,(0,([],()))))),()))))))))))).bind λv16 =>
 (cond v16.1
 (cond (a1.2.1==v16.2.1.1)
 (cond (a1.2.2.1==v16.2.1.2.1)
 (cond (a1.2.2.2.1==v16.2.1.2.2.1)
 (cond (a1.2.2.2.2.1==v16.2.1.2.2.2.1)
 (some (((a1.2.2.2.2.2.1.length:Int)==(v16.2.1.2.2.2.2.1.length:Int)),()))
 (some (false,())))
 (some (false,())))
 (some (false,())))
 (some (false,())))
 (some (false,()))))
theorem x_93:au_ (P:=prog) (cxC [cq7,c_145,c_146,c_147] []) (.p .z (.p .z (.p .z (.j0 [.v 6 .bool,.b (.s 5) [.keep,.val .int,.val .int,.val .int,.val .int,.val (.list .int),.keep]] (.p .z (.p .z (.p .z (.p .z (.p .z (.j0 [.v 65 .bool] .z .z)))))) .z)))) 93 [ag_,aq_] [.bool]=λx=>cp_ x.1 x.2.1:=by kernel_rfl
noncomputable def c_93:Con prog:=av_ _ _ 93 [ag_,aq_] [.bool] _ x_93
noncomputable def el_ (a0:(List ak_)) (a1:(List Int)):Option (Int×Unit) :=
 ((af_ (ρ:=(Unit⊕(Int×Unit))) (λ(v0:(Int×Unit)) =>
 (cond (decide (v0.1<(a0.length:Int)))
 ((at? a0 v0.1).bind λv1 =>
 ((ek_ v1 a1).bind λv2 =>
 (cond (!v2.1)
 (some (inr (inr (v0.1,()))))
 (some (inl ((w64 (v0.1+1)),()))))))
 (some (inr (inl ()))))) (0,())).bind λv3 =>
 (cd_ v3 (λv4=>(some ((-1),())))
 (λv5=>(some v5))))
theorem x_150:au_ (P:=prog) (cxI (λk=>cond (Nat.beq k 144) (.p .z (.p (.p .z (.ls [.v 8 .int] [] [] 0 .z)) .z)) (.z)) (λk=>Nat.beq k 176||false) (cxC [c_176] []) 3) .z 150 [(.list aq_),(.list .int)] [.int]=λx=>el_ x.1 x.2.1:=by kernel_rfl
noncomputable def c_150:Con prog:=av_ _ _ 150 [(.list aq_),(.list .int)] [.int] _ x_150
noncomputable def qz_ (a0:ae_) (a1:Int) (a2:dg_):Option (Bool×Unit) :=
 ((((sub? a0.2.2.2.2.1 0 a1).bind λv0 =>
 ((((fx_ a2.1).bind λv1 =>
 (cond v1.1
 (cond (decide ((a2.1.length:Int)≤12))
 ((((af_ (ρ:=(Unit⊕(Int×Unit))) (λ(v2:(Int×Unit)) =>
 (cond (decide (v2.1<(v0.length:Int)))
 ((at? v0 v2.1).bind λv3 =>
 (cond (v3.1==a2.1)
 (some (inr (inr (v2.1,()))))
 (some (inl ((w64 (v2.1+1)),())))))
 (some (inr (inl ()))))) (0,())).bind λv4 =>
 (cd_ v4 (λv5=>(some ((-1),())))
 (λv6=>(some v6))))).bind λv7 =>
 (some ((decide (v7.1<0)),())))
 (some (false,())))
 (some (false,()))))).bind λv8 =>
 (cond (!v8.1)
 (some (true,()))
 ((bf_ a2.2.1 0 (w64 ((a0.1.length:Int) - 1))).bind λv9 =>
 (cond (!v9.1)
 (some (true,()))
 ((bf_ a2.2.2.1 (-1) 7).bind λv10 =>
 (some ((!v10.1),()))))))))).bind λv11 =>
 (cond v11.1
 (some (false,()))
 ((((hu_ a0 a2.2.2.2.1).bind λv12 =>
 (cond (!v12.1)
 (some (true,()))
 ((hu_ a0 a2.2.2.2.2.2.2.1).bind λv13 =>
 (cond (!v13.1)
 (some (true,()))
 ((hu_ a0 a2.2.2.2.2.2.2.2).bind λv14 =>
 (cond (!v14.1)
 (some (true,()))
 (some ((decide (6<(a2.2.2.2.2.2.1.length:Int))),()))))))))).bind λv15 =>
 (cond v15.1
 (some (false,()))
 ((((((af_ (ρ:=(Unit⊕(Bool×Unit))) (λ(v16:(Int×Unit)) =>
 (cond (decide (v16.1<(a2.2.2.2.2.2.2.1.length:Int)))
 ((at? a2.2.2.2.2.2.2.1 v16.1).bind λv17 =>
 ((bm_ a2.2.2.2.1 v17).bind λv18 =>
 (cond (!v18.1)
 (some (inr (inr ((decide (0≤v16.1)),()))))
 (some (inl ((w64 (v16.1+1)),()))))))
 (some (inr (inl ()))))) (0,())).bind λv19 =>
 (cd_ v19 (λv20=>(some ((decide (0≤(-1))),())))
 (λv21=>(some v21))))).bind λv22 =>
 (cond v22.1
 (some (true,()))
 ((((af_ (ρ:=(Unit⊕(Bool×Unit))) (λ(v23:(Int×Unit)) =>
 (cond (decide (v23.1<(a2.2.2.2.2.2.2.2.length:Int)))
 ((at? a2.2.2.2.2.2.2.2 v23.1).bind λv24 =>
 ((bm_ a2.2.2.2.1 v24).bind λv25 =>
 (cond v25.1
 (some (inr (inr ((decide (0≤v23.1)),()))))
 (some (inl ((w64 (v23.1+1)),()))))))
 (some (inr (inl ()))))) (0,())).bind λv26 =>
 (cd_ v26 (λv27=>(some ((decide (0≤(-1))),())))
 (λv28=>(some v28))))).bind λv29 =>
 (some (v29.1,())))))).bind λv30 =>
 (cond v30.1
 (some (false,()))
 ((af_ (ρ:=(Unit⊕(Bool×Unit))) (λ(v31:(Int×Unit)) =>
 (cond (decide (v31.1<(a2.2.2.2.2.2.1.length:Int)))
 ((at? a2.2.2.2.2.2.1 v31.1).bind λv32 =>
 ((sub? a2.2.2.2.2.2.1 0 v31.1).bind λv33 =>
 ((((af_ (ρ:=(Unit⊕(Bool×Unit))) (λ(v34:(Int×Unit)) =>
 (cond (decide (v34.1<(v33.length:Int)))
 ((at? v33 v34.1).bind λv35 =>
 (cond (v35.1==v32.1)
 (some (inr (inr ((decide (0≤v34.1)),()))))
 (some (inl ((w64 (v34.1+1)),())))))
 (some (inr (inl ()))))) (0,())).bind λv36 =>
 (cd_ v36 (λv37=>(some ((decide (0≤(-1))),())))
 (λv38=>(some v38))))).bind λv39 =>
 ((((fy_ a0 v32.1 v32.2).bind λv40 =>
 (cond (!v40.1)
 (some (true,()))
 (some (v39.1,()))))).bind λv41 =>
 (cond v41.1
 (some (inr (inr (false,()))))
 (some (inl ((w64 (v31.1+1)),()))))))))
 (some (inr (inl ()))))) (0,())).bind λv42 =>
 (cd_ v42 (λv43=>(some (true,())))
 (λv44=>(some v44))))))))))
theorem x_114:au_ (P:=prog) (cxI (λk=>cond (Nat.beq k 164) (.p .z (.j0 [.v 6 .bool] .z .z)) (cond (Nat.beq k 169) (.p .z (.j0 [.v 4 .bool] .z .z)) (cond (Nat.beq k 170) (.p .z (.j0 [.v 4 .bool] .z .z)) (cond (Nat.beq k 208) (.p .z (.j0 [.v 6 .int] .z .z)) (cond (Nat.beq k 209) (.p .z (.p (.p .z (.ls [.v 8 .int] [] [] 0 .z)) .z)) (cond (Nat.beq k 210) (.p .z (.p (.p .z (.ls [.v 8 .int] [] [] 0 .z)) .z)) (cond (Nat.beq k 225) (.p .z (.p (.p .z (.ls [.v 8 .int] [] [] 0 .z)) .z)) (cond (Nat.beq k 226) (.p .z (.p (.q [] .z .z) .z)) (.z))))))))) (λk=>Nat.beq k 67||Nat.beq k 106||Nat.beq k 115||Nat.beq k 159||Nat.beq k 165||Nat.beq k 166||false) (cxC [c_67,cd9,cq8,c_159,c_165,c_166] []) 12) (.p .z (.p (.j0 [.v 35 .bool] (.q [] .z .z) .z) (.p (.j0 [.v 60 .bool] .z .z) (.p .z (.p .z (.p (.j0 [.v 72 .bool] .z .z) (.p (.p .z (.ls [.v 76 .int] [] [] 0 (.p .z (.p .z (.p (.p .z (.p .z (.j0 [.v 96 .bool] .z .z))) .z))))) .z))))))) 114 [an_,.int,nf_] [.bool]=λx=>qz_ x.1 x.2.1 x.2.2.1:=by kernel_rfl
noncomputable def c_114:Con prog:=av_ _ _ 114 [an_,.int,nf_] [.bool] _ x_114
noncomputable def il_ (a0:ab_) (a1:(List (List Int))):Option (Int×Unit) :=
 ((em_ a0).bind λv0 =>
 (cond (v0.1 != 0)
 (some (v0.1,()))
 ((((af_ (ρ:=(Unit⊕(Bool×Unit))) (λ(v1:(Int×Unit)) =>
 (cond (decide (v1.1<(a1.length:Int)))
 ((at? a1 v1.1).bind λv2 =>
 ((co_ a0 v2).bind λv3 =>
 (cond (!v3.1)
 (some (inr (inr ((decide (0≤v1.1)),()))))
 (some (inl ((w64 (v1.1+1)),()))))))
 (some (inr (inl ()))))) (0,())).bind λv4 =>
 (cd_ v4 (λv5=>(some ((decide (0≤(-1))),())))
 (λv6=>(some v6))))).bind λv7 =>
 (cond v7.1
 (some (12,()))
 (some (0,()))))))
theorem x_117:au_ (P:=prog) (cxI (λk=>cond (Nat.beq k 172) (.p .z (.j0 [.v 4 .bool] .z .z)) (cond (Nat.beq k 211) (.p .z (.p (.p .z (.ls [.v 8 .int] [] [] 0 .z)) .z)) (.z))) (λk=>Nat.beq k 59||Nat.beq k 147||false) (cxC [c_59,c_147] []) 4) .z 117 [ag_,(.list (.list .int))] [.int]=λx=>il_ x.1 x.2.1:=by kernel_rfl
noncomputable def c_117:Con prog:=av_ _ _ 117 [ag_,(.list (.list .int))] [.int] _ x_117
noncomputable def cn_ (a0:ey_) (a1:Int):Option (Int×Unit) :=
 ((at? a0.1.1 a1).bind λv0 =>
 ((af_ (ρ:=(Unit⊕(Int×Unit))) (λ(v1:(Int×Unit)) =>
 (cond (decide (v1.1<(v0.length:Int)))
 ((md a0.2.1.2 (v0.length:Int)).bind λv2 =>
 ((md (w64 (v2+v1.1)) (v0.length:Int)).bind λv3 =>
 ((dd_ a0 a1 v3).bind λv4 =>
 (cond (!v4.1)
 (some (inr (inr (v3,()))))
 (some (inl ((w64 (v1.1+1)),())))))))
 (some (inr (inl ()))))) (0,())).bind λv5 =>
 (cd_ v5 (λv6=>(some ((-1),())))
 (λv7=>(some v7)))))
theorem x_100:au_ (P:=prog) (cxC [c_156] []) (.p .z (.p .z (.p (.p .z (.ls [.v 18 .int] [] [] 0 .z)) .z))) 100 [(.ref cf_),.int] [.int]=λx=>cn_ x.1 x.2.1:=by kernel_rfl
noncomputable def c_100:Con prog:=av_ _ _ 100 [(.ref cf_),.int] [.int] _ x_100
end
section
set_option maxRecDepth 100000
set_option maxHeartbeats 0
noncomputable def gp_ (a0:ae_):Option (Int×Unit) :=
 (((cond (decide (8<(a0.1.length:Int)))
 (some (true,()))
 (cond (decide (12<(a0.2.1.length:Int)))
 (some (true,()))
 (cond (decide (10<(a0.2.2.1.length:Int)))
 (some (true,()))
 (cond (decide (16<(a0.2.2.2.1.length:Int)))
 (some (true,()))
 (cond (decide (24<(a0.2.2.2.2.1.length:Int)))
 (some (true,()))
 (some ((decide (12<(a0.2.2.2.2.2.1.length:Int))),())))))))).bind λv0 =>
 (cond v0.1
 (some (2,()))
 (cond ((a0.1.length:Int)==0)
 (some (22,()))
 ((af_ (ρ:=(Unit⊕(Int×Unit))) (λ(v1:(Int×Unit)) =>
 (cond (decide (v1.1<(a0.1.length:Int)))
 ((((at? a0.1 v1.1).bind λv2 =>
 ((ei_ v2).bind λv3 =>
 (cond (!v3.1)
 (some (true,()))
 ((gn_ a0.1 v1.1).bind λv4 =>
 (some (v4.1,()))))))).bind λv5 =>
 (cond v5.1
 (some (inr (inr (22,()))))
 (some (inl ((w64 (v1.1+1)),())))))
 (some (inr (inl ()))))) (0,())).bind λv6 =>
 (cd_ v6 (λv7=>((af_ (ρ:=(Unit⊕(Int×Unit))) (λ(v9:((List (List UInt8))×(Int×Unit))) =>
 (cond (decide (v9.2.1<(a0.2.1.length:Int)))
 ((at? a0.2.1 v9.2.1).bind λv10 =>
 ((push? (α:=(List UInt8)) v9.1 ([v10.1]:List (List UInt8))).bind λv11 =>
 ((((ei_ v10.1).bind λv12 =>
 (cond (!v12.1)
 (some (true,()))
 ((gn_ v11 v9.2.1).bind λv13 =>
 (cond v13.1
 (some (true,()))
 ((db_ a0 v10.2.1).bind λv14 =>
 (cond (!v14.1)
 (some (true,()))
 ((bv_ v10.2.2.1 2 6).bind λv15 =>
 (cond (!v15.1)
 (some (true,()))
 ((bv_ v10.2.2.2 0 (w64 (v10.2.2.1 - 1))).bind λv16 =>
 (some ((!v16.1),())))))))))))).bind λv17 =>
 (cond v17.1
 (some (inr (inr (21,()))))
 (some (inl (v11,((w64 (v9.2.1+1)),()))))))))
 (some (inr (inl ()))))) ([],(0,()))).bind λv18 =>
 (cd_ v18 (λv19=>((af_ (ρ:=(Unit⊕(Int×Unit))) (λ(v21:((List (List UInt8))×(Int×Unit))) =>
 (cond (decide (v21.2.1<(a0.2.2.1.length:Int)))
 ((at? a0.2.2.1 v21.2.1).bind λv22 =>
 ((push? (α:=(List UInt8)) v21.1 ([v22.1]:List (List UInt8))).bind λv23 =>
 ((((ei_ v22.1).bind λv24 =>
 (cond (!v24.1)
 (some (true,()))
 ((gn_ v23 v21.2.1).bind λv25 =>
 (cond v25.1
 (some (true,()))
 (cond (v22.2.1 != (-1))
 ((db_ a0 v22.2.1).bind λv26 =>
 (some ((!v26.1),())))
 (some (false,())))))))).bind λv27 =>
 (cond v27.1
 (some (inr (inr (24,()))))
 ((dc_ a0 v22.2.2).bind λv28 =>
 (cond (!v28.1)
 (some (inr (inr (25,()))))
 (some (inl (v23,((w64 (v21.2.1+1)),()))))))))))
 (some (inr (inl ()))))) ([],(0,()))).bind λv29 =>
 (cd_ v29 (λv30=>((af_ (ρ:=(Unit⊕(Int×Unit))) (λ(v32:(Int×Unit)) =>
 (cond (decide (v32.1<(a0.2.2.2.1.length:Int)))
 ((at? a0.2.2.2.1 v32.1).bind λv33 =>
 ((((db_ a0 v33.1).bind λv34 =>
 (cond (!v34.1)
 (some (true,()))
 ((db_ a0 v33.2.1).bind λv35 =>
 (cond (!v35.1)
 (some (true,()))
 (some ((v33.1==v33.2.1),()))))))).bind λv36 =>
 (cond v36.1
 (some (inr (inr (23,()))))
 ((dc_ a0 v33.2.2).bind λv37 =>
 (cond (!v37.1)
 (some (inr (inr (25,()))))
 (some (inl ((w64 (v32.1+1)),()))))))))
 (some (inr (inl ()))))) (0,())).bind λv38 =>
 (cd_ v38 (λv39=>((af_ (ρ:=(Unit⊕(Int×Unit))) (λ(v41:(Int×Unit)) =>
 (cond (decide (v41.1<(a0.2.2.2.2.1.length:Int)))
 ((oa_ a0 v41.1).bind λv42 =>
 (cond (!v42.1)
 (some (inr (inr (26,()))))
 ((at? a0.2.2.2.2.1 v41.1).bind λv43 =>
 ((dc_ a0 v43.2.2.2.2.1).bind λv44 =>
 (cond (!v44.1)
 (some (inr (inr (25,()))))
 (some (inl ((w64 (v41.1+1)),()))))))))
 (some (inr (inl ()))))) (0,())).bind λv45 =>
 (cd_ v45 (λv46=>((af_ (ρ:=(Unit⊕(Int×Unit))) (λ(v48:(Int×Unit)) =>
 (cond (decide (v48.1<(a0.2.2.2.2.2.1.length:Int)))
 ((at? a0.2.2.2.2.2.1 v48.1).bind λv49 =>
 ((at? a0.2.2.2.2.2.1 v48.1).bind λv50 =>
 ((hn_ a0 v49.2.1 v50.2.2).bind λv51 =>
 (cond (!v51.1)
 (some (inr (inr (27,()))))
 ((at? a0.2.2.2.2.2.1 v48.1).bind λv52 =>
 ((dc_ a0 v52.1).bind λv53 =>
 (cond (!v53.1)
 (some (inr (inr (25,()))))
 (some (inl ((w64 (v48.1+1)),()))))))))))
 (some (inr (inl ()))))) (0,())).bind λv54 =>
 (cd_ v54 (λv55=>((bv_ a0.2.2.2.2.2.2.1 1 4).bind λv57 =>
 (cond (!v57.1)
 (some (1,()))
 ((dc_ a0 a0.2.2.2.2.2.2.2).bind λv58 =>
 (cond (!v58.1)
 (some (25,()))
 (some (0,())))))))
 (λv56=>(some v56)))))
 (λv47=>(some v47)))))
 (λv40=>(some v40)))))
 (λv31=>(some v31)))))
 (λv20=>(some v20)))))
 (λv8=>(some v8)))))))
theorem x_36:au_ (P:=prog) (cxC [c_40,c_70,c_71,c_72,c_77,c_78,c_79] []) (.p .z (.p (.j0 [.v 46 .bool] .z .z) (.p .z (.p (.p .z (.ls [.v 3 .int] [] [] 0 (.p .z (.p (.j0 [.v 70 .bool] .z .z) .z)))) (.p .z (.p (.p .z (.ls [.r 4 .str 9,.v 5 .int] [] [] 2 (.p .z (.p (.p .z (.p .z (.j0 [.v 118 .bool] .z .z))) .z)))) (.p .z (.p (.p .z (.ls [.r 4 .str 9,.v 7 .int] [] [] 4 (.p .z (.p (.p .z (.p .z (.p (.j0 [.v 156 .bool] .z .z) .z))) .z)))) (.p (.p .z (.ls [.v 9 .int] [] [] 6 (.p .z (.p (.p .z (.p (.j0 [.v 192 .bool] .z .z) .z)) .z)))) (.p (.p .z (.ls [.v 11 .int] [] [] 8 (.p .z (.p (.p .z (.p (.q [] .z .z) .z)) .z)))) (.p (.p .z (.ls [.v 12 .int] [] [] 10 (.p .z (.p (.p (.p (.q [] .z .z) .z) (.p (.q [] .z .z) .z)) .z)))) .z))))))))))) 36 [an_] [.int]=λx=>gp_ x.1:=by kernel_rfl
noncomputable def c_36:Con prog:=av_ _ _ 36 [an_] [.int] _ x_36
noncomputable def kl_ (a0:ac_) (a1:Int):Option (Bool×Unit) :=
 ((at? a0.2.2.2.1 a1).bind λv0 =>
 ((af_ (ρ:=(Unit⊕(Bool×Unit))) (λ(v1:(Int×Unit)) =>
 (cond (decide (v1.1<a1))
 ((at? a0.2.2.2.1 v1.1).bind λv2 =>
 (cond (v2.1==v0.1)
 (some (inr (inr (false,()))))
 (some (inl ((w64 (v1.1+1)),())))))
 (some (inr (inl ()))))) (0,())).bind λv3 =>
 (cd_ v3 (λv4=>((((ei_ v0.1).bind λv6 =>
 (cond (!v6.1)
 (some (true,()))
 ((js_ v0.2.1 0 (w64 ((a0.1.1.length:Int) - 1))).bind λv7 =>
 (cond (!v7.1)
 (some (true,()))
 ((js_ v0.2.2.1 (-1) (w64 ((a0.2.1.length:Int) - 1))).bind λv8 =>
 (some ((!v8.1),())))))))).bind λv9 =>
 (cond v9.1
 (some (false,()))
 (cond (v0.2.2.1==(-1))
 ((mg_ v0.2.2.2.2).bind λv10 =>
 (some (v10.1,())))
 ((at? a0.2.1 v0.2.2.1).bind λv11 =>
 ((gr_ v11 v0.2.2.2.2).bind λv12 =>
 (cond (v12.1==0)
 ((at? a0.2.2.1 v0.2.2.1).bind λv13 =>
 ((ge_ v0.2.2.2.2 v13).bind λv14 =>
 (some (v14.1,()))))
 (some (false,())))))))))
 (λv5=>(some v5)))))
theorem x_39:au_ (P:=prog) (cxC [c_41,c_77,c_82,c_83,c_84] []) (.p .z (.p .z (.p (.p .z (.ls [.v 6 .int] [] [] 0 .z)) (.p (.j0 [.v 50 .bool] .z .z) .z)))) 39 [ap_,.int] [.bool]=λx=>kl_ x.1 x.2.1:=by kernel_rfl
noncomputable def c_39:Con prog:=av_ _ _ 39 [ap_,.int] [.bool] _ x_39
noncomputable def oc_ (a0:ab_) (a1:(List ak_)):Option ((List (List Int))×Unit) :=
 ((af_ (ρ:=(Int×Unit)) (λ(v0:(Int×(Int×Unit))) =>
 (cond (decide (v0.2.1<a0.1))
 (some (inl ((w64 (v0.1 * a0.2)),((w64 (v0.2.1+1)),()))))
 (some (inr (v0.1,()))))) (1,(0,()))).bind λv1 =>
 ((af_ (ρ:=((List (List Int))×Unit)) (λ(v2:((List (List Int))×(Int×Unit))) =>
 (cond (decide (v2.2.1<v1.1))
 ((((mk? (α:=Int) a0.1 0).bind λv3 =>
 ((af_ (ρ:=((List Int)×Unit)) (λ(v4:(Int×(Int×((List Int)×Unit)))) =>
 (cond (decide (0≤v4.2.1))
 ((md v4.1 a0.2).bind λv5 =>
 ((at? v4.2.2.1 v4.2.1).bind λv6 =>
 ((at? v4.2.2.1 v4.2.1).bind λv7 =>
 ((dv v4.1 a0.2).bind λv8 =>
 (some (inl (v8,((w64 (v4.2.1 - 1)),((v4.2.2.1.set v4.2.1.toNat v5),())))))))))
 (some (inr (v4.2.2.1,()))))) (v2.2.1,((w64 (a0.1 - 1)),(v3,())))).bind λv9 =>
 ((kr_ a1 v9.1).bind λv10 =>
 (cond (decide (v10.1<0))
 ((push? (α:=(List Int)) v2.1 ([v9.1]:List (List Int))).bind λv11 =>
 (some (v11,())))
 (some (v2.1,()))))))).bind λv12 =>
 (some (inl (v12.1,((w64 (v2.2.1+1)),())))))
 (some (inr (v2.1,()))))) ([],(0,()))).bind λv13 =>
 (some (v13.1,()))))
theorem x_229:au_ (P:=prog) (cxC [c_233] []) (.p .z (.p .z (.p (.p .z (.lp [.v 5 .int,.v 6 .int] [.v 5 .int] [] 0 .z)) (.p .z (.p (.p .z (.lp [.r 7 (.list .int) 46,.v 8 .int] [.r 7 (.list .int) 46] [] 2 (.p .z (.j0 [.r 7 (.list .int) 46] (.p .z (.p .z (.p (.p .z (.lp [.v 10 .int,.v 11 .int] [] [.o (.s 9) .int] 4 .z)) .z))) .z)))) .z))))) 229 [ag_,(.list aq_)] [(.list (.list .int))]=λx=>oc_ x.1 x.2.1:=by kernel_rfl
noncomputable def c_229:Con prog:=av_ _ _ 229 [ag_,(.list aq_)] [(.list (.list .int))] _ x_229
noncomputable def dl_ (a0:ab_) (a1:(List ak_)):Option (Int×Unit) :=
 ((em_ a0).bind λv0 =>
 (cond (v0.1 != 0)
 (some (v0.1,()))
 (cond (decide (20<(a1.length:Int)))
 (some (2,()))
 ((((af_ (ρ:=(Unit⊕(Bool×Unit))) (λ(v1:(Int×Unit)) =>
 (cond (decide (v1.1<(a1.length:Int)))
 ((at? a1 v1.1).bind λv2 =>
 ((cp_ a0 v2).bind λv3 =>
 (cond (!v3.1)
 (some (inr (inr ((decide (0≤v1.1)),()))))
 (some (inl ((w64 (v1.1+1)),()))))))
 (some (inr (inl ()))))) (0,())).bind λv4 =>
 (cd_ v4 (λv5=>(some ((decide (0≤(-1))),())))
 (λv6=>(some v6))))).bind λv7 =>
 (cond v7.1
 (some (11,()))
 (some (0,())))))))
theorem x_46:au_ (P:=prog) (cxI (λk=>cond (Nat.beq k 91) (.p .z (.j0 [.v 4 .bool] .z .z)) (cond (Nat.beq k 144) (.p .z (.p (.p .z (.ls [.v 8 .int] [] [] 0 .z)) .z)) (.z))) (λk=>Nat.beq k 59||Nat.beq k 93||false) (cxC [c_59,c_93] []) 4) .z 46 [ag_,(.list aq_)] [.int]=λx=>dl_ x.1 x.2.1:=by kernel_rfl
noncomputable def c_46:Con prog:=av_ _ _ 46 [ag_,(.list aq_)] [.int] _ x_46
noncomputable def dk_ (a0:ab_) (a1:(List ak_)):Option (Int×Unit) :=
 ((mk? (α:=Int) a0.1 0).bind λv0 =>
 ((af_ (ρ:=((Unit×(Unit×((List Int)×((Int×Unit)×Unit))))⊕(Int×Unit))) (λ(v1:(Unit×(Unit×((List Int)×((Int×Unit)×Unit))))) =>
 ((el_ a1 v1.2.2.1).bind λv2 =>
 (cond (decide (v2.1<0))
 ((af_ (ρ:=(Int×((List Int)×Unit))) (λ(v3:(Int×((List Int)×Unit))) =>
 (((cond (decide (0≤v3.1))
 ((at? v3.2.1 v3.1).bind λv4 =>
 ((at? v3.2.1 v3.1).bind λv5 =>
 (some ((v5==(w64 (a0.2 - 1))),()))))
 (some (false,())))).bind λv6 =>
 (cond v6.1
 ((at? v3.2.1 v3.1).bind λv7 =>
 ((at? v3.2.1 v3.1).bind λv8 =>
 (some (inl ((w64 (v3.1 - 1)),((v3.2.1.set v3.1.toNat 0),()))))))
 (some (inr (v3.1,(v3.2.1,()))))))) ((w64 (a0.1 - 1)),(v1.2.2.1,()))).bind λv9 =>
 (cond (decide (v9.1<0))
 (some (inr (inr ((w64 (v1.2.2.2.1.1+1)),()))))
 ((at? v9.2.1 v9.1).bind λv10 =>
 ((at? v9.2.1 v9.1).bind λv11 =>
 ((at? v9.2.1 v9.1).bind λv12 =>
 ((at? v9.2.1 v9.1).bind λv13 =>
 (some (inl ((),((),((v9.2.1.set v9.1.toNat (w64 (v11+1))),(((w64 (v1.2.2.2.1.1+1)),()),()))))))))))))
 ((af_ (ρ:=(Int×((List Int)×Unit))) (λ(v14:(Int×((List Int)×Unit))) =>
 (((cond (decide (0≤v14.1))
 ((at? v14.2.1 v14.1).bind λv15 =>
 ((at? v14.2.1 v14.1).bind λv16 =>
 (some ((v16==(w64 (a0.2 - 1))),()))))
 (some (false,())))).bind λv17 =>
 (cond v17.1
 ((at? v14.2.1 v14.1).bind λv18 =>
 ((at? v14.2.1 v14.1).bind λv19 =>
 (some (inl ((w64 (v14.1 - 1)),((v14.2.1.set v14.1.toNat 0),()))))))
 (some (inr (v14.1,(v14.2.1,()))))))) ((w64 (a0.1 - 1)),(v1.2.2.1,()))).bind λv20 =>
 (cond (decide (v20.1<0))
 (some (inr (inr (v1.2.2.2.1.1,()))))
 ((at? v20.2.1 v20.1).bind λv21 =>
 ((at? v20.2.1 v20.1).bind λv22 =>
 ((at? v20.2.1 v20.1).bind λv23 =>
 ((at? v20.2.1 v20.1).bind λv24 =>
 (some (inl ((),((),((v20.2.1.set v20.1.toNat (w64 (v22+1))),((v1.2.2.2.1.1,()),()))))))))))))))) ((),((),(v0,((0,()),()))))).bind λv25 =>
 (cd_ v25 (λv26=>(some (v26.2.2.2.1.1,())))
 (λv27=>(some v27)))))
theorem x_47:au_ (P:=prog) (cxI (λk=>cond (Nat.beq k 148) (.p .z (.p .z (.rf [2,3] .z .z))) (cond (Nat.beq k 194) (.p .z (.ls [] [] [.y (.c (.y (.s 0) 3) 0),.y (.s 0),.o (.s 3) .int,.b (.y (.c (.y (.s 0) 3) 0) 4) [.val .int]] 0 (.p .z (.p .z (.p (.lp [.v 4 .int] [.v 4 .int] [.o (.s 3) .int] 2 (.p (.j0 [.v 26 .bool] .z .z) .z)) .z))))) (.z))) (λk=>Nat.beq k 150||false) (cxC [c_150] []) 9) (.p .z (.p (.p .z (.rf [4] .z .z)) .z)) 47 [ag_,(.list aq_)] [.int]=λx=>dk_ x.1 x.2.1:=by kernel_rfl
noncomputable def c_47:Con prog:=av_ _ _ 47 [ag_,(.list aq_)] [.int] _ x_47
noncomputable def gc_ (a0:ae_):Option (Int×Unit) :=
 (((cond (decide (8<(a0.1.length:Int)))
 (some (true,()))
 (cond (decide (12<(a0.2.1.length:Int)))
 (some (true,()))
 (cond (decide (10<(a0.2.2.1.length:Int)))
 (some (true,()))
 (cond (decide (16<(a0.2.2.2.1.length:Int)))
 (some (true,()))
 (cond (decide (24<(a0.2.2.2.2.1.length:Int)))
 (some (true,()))
 (some ((decide (12<(a0.2.2.2.2.2.1.length:Int))),())))))))).bind λv0 =>
 (cond v0.1
 (some (2,()))
 ((af_ (ρ:=(Unit⊕(Int×Unit))) (λ(v1:(Int×Unit)) =>
 (cond (decide (v1.1<(a0.1.length:Int)))
 ((at? a0.1 v1.1).bind λv2 =>
 ((sub? a0.1 0 v1.1).bind λv3 =>
 ((((fx_ v2).bind λv4 =>
 (cond v4.1
 (cond (decide ((v2.length:Int)≤12))
 ((((af_ (ρ:=(Unit⊕(Int×Unit))) (λ(v5:(Int×Unit)) =>
 (cond (decide (v5.1<(v3.length:Int)))
 ((at? v3 v5.1).bind λv6 =>
 (cond (v6==v2)
 (some (inr (inr (v5.1,()))))
 (some (inl ((w64 (v5.1+1)),())))))
 (some (inr (inl ()))))) (0,())).bind λv7 =>
 (cd_ v7 (λv8=>(some ((-1),())))
 (λv9=>(some v9))))).bind λv10 =>
 (some ((decide (v10.1<0)),())))
 (some (false,())))
 (some (false,()))))).bind λv11 =>
 (cond (!v11.1)
 (some (inr (inr (22,()))))
 (some (inl ((w64 (v1.1+1)),())))))))
 (some (inr (inl ()))))) (0,())).bind λv12 =>
 (cd_ v12 (λv13=>(cond ((a0.1.length:Int)==0)
 (some (22,()))
 ((af_ (ρ:=(Unit⊕(Int×Unit))) (λ(v15:(Int×Unit)) =>
 (cond (decide (v15.1<(a0.2.1.length:Int)))
 ((at? a0.2.1 v15.1).bind λv16 =>
 ((((sub? a0.2.1 0 v15.1).bind λv17 =>
 ((((fx_ v16.1).bind λv18 =>
 (cond v18.1
 (cond (decide ((v16.1.length:Int)≤12))
 ((((af_ (ρ:=(Unit⊕(Int×Unit))) (λ(v19:(Int×Unit)) =>
 (cond (decide (v19.1<(v17.length:Int)))
 ((at? v17 v19.1).bind λv20 =>
 (cond (v20.1==v16.1)
 (some (inr (inr (v19.1,()))))
 (some (inl ((w64 (v19.1+1)),())))))
 (some (inr (inl ()))))) (0,())).bind λv21 =>
 (cd_ v21 (λv22=>(some ((-1),())))
 (λv23=>(some v23))))).bind λv24 =>
 (some ((decide (v24.1<0)),())))
 (some (false,())))
 (some (false,()))))).bind λv25 =>
 (cond (!v25.1)
 (some (true,()))
 ((bf_ v16.2.1 0 (w64 ((a0.1.length:Int) - 1))).bind λv26 =>
 (cond (!v26.1)
 (some (true,()))
 ((bf_ v16.2.2.1 2 6).bind λv27 =>
 (cond (!v27.1)
 (some (true,()))
 ((bf_ v16.2.2.2 0 (w64 (v16.2.2.1 - 1))).bind λv28 =>
 (some ((!v28.1),()))))))))))).bind λv29 =>
 (cond v29.1
 (some (inr (inr (21,()))))
 (some (inl ((w64 (v15.1+1)),()))))))
 (some (inr (inl ()))))) (0,())).bind λv30 =>
 (cd_ v30 (λv31=>((af_ (ρ:=(Unit⊕(Int×Unit))) (λ(v33:(Int×Unit)) =>
 (cond (decide (v33.1<(a0.2.2.1.length:Int)))
 ((at? a0.2.2.1 v33.1).bind λv34 =>
 ((((sub? a0.2.2.1 0 v33.1).bind λv35 =>
 ((((fx_ v34.1).bind λv36 =>
 (cond v36.1
 (cond (decide ((v34.1.length:Int)≤12))
 ((((af_ (ρ:=(Unit⊕(Int×Unit))) (λ(v37:(Int×Unit)) =>
 (cond (decide (v37.1<(v35.length:Int)))
 ((at? v35 v37.1).bind λv38 =>
 (cond (v38.1==v34.1)
 (some (inr (inr (v37.1,()))))
 (some (inl ((w64 (v37.1+1)),())))))
 (some (inr (inl ()))))) (0,())).bind λv39 =>
 (cd_ v39 (λv40=>(some ((-1),())))
 (λv41=>(some v41))))).bind λv42 =>
 (some ((decide (v42.1<0)),())))
 (some (false,())))
 (some (false,()))))).bind λv43 =>
 (cond (!v43.1)
 (some (true,()))
 ((bf_ v34.2.1 0 (w64 ((a0.1.length:Int) - 1))).bind λv44 =>
 (cond (!v44.1)
 (some ((v34.2.1 != (-1)),()))
 (some (false,())))))))).bind λv45 =>
 (cond v45.1
 (some (inr (inr (24,()))))
 ((eh_ a0 v34.2.2).bind λv46 =>
 (cond (!v46.1)
 (some (inr (inr (25,()))))
 (some (inl ((w64 (v33.1+1)),()))))))))
 (some (inr (inl ()))))) (0,())).bind λv47 =>
 (cd_ v47 (λv48=>((af_ (ρ:=(Unit⊕(Int×Unit))) (λ(v50:(Int×Unit)) =>
 (cond (decide (v50.1<(a0.2.2.2.1.length:Int)))
 ((at? a0.2.2.2.1 v50.1).bind λv51 =>
 ((((bf_ v51.1 0 (w64 ((a0.1.length:Int) - 1))).bind λv52 =>
 (cond (!v52.1)
 (some (true,()))
 ((bf_ v51.2.1 0 (w64 ((a0.1.length:Int) - 1))).bind λv53 =>
 (cond (!v53.1)
 (some (true,()))
 (some ((v51.1==v51.2.1),()))))))).bind λv54 =>
 (cond v54.1
 (some (inr (inr (23,()))))
 ((eh_ a0 v51.2.2).bind λv55 =>
 (cond (!v55.1)
 (some (inr (inr (25,()))))
 (some (inl ((w64 (v50.1+1)),()))))))))
 (some (inr (inl ()))))) (0,())).bind λv56 =>
 (cd_ v56 (λv57=>((af_ (ρ:=(Unit⊕(Int×Unit))) (λ(v59:(Int×Unit)) =>
 (cond (decide (v59.1<(a0.2.2.2.2.1.length:Int)))
 ((at? a0.2.2.2.2.1 v59.1).bind λv60 =>
 ((qz_ a0 v59.1 v60).bind λv61 =>
 (cond (!v61.1)
 (some (inr (inr (26,()))))
 ((eh_ a0 v60.2.2.2.2.1).bind λv62 =>
 (cond (!v62.1)
 (some (inr (inr (25,()))))
 (some (inl ((w64 (v59.1+1)),()))))))))
 (some (inr (inl ()))))) (0,())).bind λv63 =>
 (cd_ v63 (λv64=>((af_ (ρ:=(Unit⊕(Int×Unit))) (λ(v66:(Int×Unit)) =>
 (cond (decide (v66.1<(a0.2.2.2.2.2.1.length:Int)))
 ((at? a0.2.2.2.2.2.1 v66.1).bind λv67 =>
 ((fy_ a0 v67.2.1 v67.2.2).bind λv68 =>
 (cond (!v68.1)
 (some (inr (inr (27,()))))
 ((eh_ a0 v67.1).bind λv69 =>
 (cond (!v69.1)
 (some (inr (inr (25,()))))
 (some (inl ((w64 (v66.1+1)),()))))))))
 (some (inr (inl ()))))) (0,())).bind λv70 =>
 (cd_ v70 (λv71=>((bf_ a0.2.2.2.2.2.2.1 1 4).bind λv73 =>
 (cond (!v73.1)
 (some (1,()))
 ((eh_ a0 a0.2.2.2.2.2.2.2).bind λv74 =>
 (cond (!v74.1)
 (some (25,()))
 (some (0,())))))))
 (λv72=>(some v72)))))
 (λv65=>(some v65)))))
 (λv58=>(some v58)))))
 (λv49=>(some v49)))))
 (λv32=>(some v32))))))
 (λv14=>(some v14))))))
theorem x_58:au_ (P:=prog) (cxI (λk=>cond (Nat.beq k 107) (.p .z (.j0 [.v 6 .bool] .z .z)) (cond (Nat.beq k 109) (.p .z (.j0 [.v 6 .bool] .z .z)) (cond (Nat.beq k 111) (.p .z (.j0 [.v 6 .bool] .z .z)) (cond (Nat.beq k 160) (.p .z (.j0 [.v 6 .int] .z .z)) (cond (Nat.beq k 161) (.p .z (.j0 [.v 6 .int] .z .z)) (cond (Nat.beq k 162) (.p .z (.j0 [.v 6 .int] .z .z)) (cond (Nat.beq k 202) (.p .z (.p (.p .z (.ls [.v 8 .int] [] [] 0 .z)) .z)) (cond (Nat.beq k 203) (.p .z (.p (.q [] .z .z) .z)) (cond (Nat.beq k 204) (.p .z (.p (.p .z (.ls [.v 8 .int] [] [] 0 .z)) .z)) (cond (Nat.beq k 205) (.p .z (.p (.q [] .z .z) .z)) (cond (Nat.beq k 206) (.p .z (.p (.p .z (.ls [.v 8 .int] [] [] 0 .z)) .z)) (cond (Nat.beq k 207) (.p .z (.p (.q [] .z .z) .z)) (.z))))))))))))) (λk=>Nat.beq k 106||Nat.beq k 108||Nat.beq k 110||Nat.beq k 112||Nat.beq k 113||Nat.beq k 114||Nat.beq k 115||Nat.beq k 159||false) (cxC [cd9,c_108,c_110,c_112,c_113,c_114,cq8,c_159] []) 12) (.p .z (.p (.j0 [.v 49 .bool] .z .z) (.p .z (.p (.p .z (.ls [.v 54 .int] [] [] 0 .z)) (.p .z (.p (.p .z (.ls [.v 74 .int] [] [] 2 (.p .z (.p .z (.p (.p .z (.j0 [.v 108 .bool] .z .z)) .z))))) (.p (.p .z (.ls [.v 113 .int] [] [] 4 (.p .z (.p .z (.p (.p .z (.p (.j0 [.v 137 .bool] .z .z) .z)) .z))))) (.p (.p .z (.ls [.v 147 .int] [] [] 6 (.p .z (.p .z (.p (.p .z (.p (.j0 [.v 169 .bool] .z .z) .z)) .z))))) (.p (.p .z (.ls [.v 179 .int] [] [] 8 .z)) (.p (.p .z (.ls [.v 198 .int] [] [] 10 .z)) .z)))))))))) 58 [an_] [.int]=λx=>gc_ x.1:=by kernel_rfl
noncomputable def c_58:Con prog:=av_ _ _ 58 [an_] [.int] _ x_58
noncomputable def ew_ (a0:ab_) (a1:(List Int)):Option (Int×Unit) :=
 ((il_ a0 ([a1]:List (List Int))).bind λv0 =>
 (some (v0.1,())))
theorem x_60:au_ (P:=prog) (cxC [c_117] []) .z 60 [ag_,(.list .int)] [.int]=λx=>ew_ x.1 x.2.1:=by kernel_rfl
noncomputable def c_60:Con prog:=av_ _ _ 60 [ag_,(.list .int)] [.int] _ x_60
noncomputable def gt_ (a0:ab_) (a1:ak_):Option (Int×Unit) :=
 ((em_ a0).bind λv0 =>
 (cond (v0.1 != 0)
 (some (v0.1,()))
 ((cp_ a0 a1).bind λv1 =>
 (cond (!v1.1)
 (some (11,()))
 (some (0,()))))))
theorem x_175:au_ (P:=prog) (cxC [c_59,c_93] []) .z 175 [ag_,aq_] [.int]=λx=>gt_ x.1 x.2.1:=by kernel_rfl
noncomputable def c_175:Con prog:=av_ _ _ 175 [ag_,aq_] [.int] _ x_175
noncomputable def es_ (a0:ey_):Option (Int×Unit) :=
 ((af_ (ρ:=((List ai_)×Unit)) (λ(v0:((List Int)×((List ai_)×Unit))) =>
 (cond (decide (0<(v0.1.length:Int)))
 ((at? v0.1 0).bind λv1 =>
 ((at? v0.1 0).bind λv2 =>
 ((at? a0.1.1 v2).bind λv3 =>
 ((af_ (ρ:=((List Int)×((List ai_)×Unit))) (λ(v4:((List Int)×(Int×((List ai_)×Unit)))) =>
 (cond (decide (v4.2.1<(v3.length:Int)))
 ((((at? v3 v4.2.1).bind λv5 =>
 ((dd_ a0 v2 v4.2.1).bind λv6 =>
 (cond (!v6.1)
 (some (v4.1,(v4.2.2.1,())))
 (((cond (v2==a0.2.2.1)
 (some ((v4.2.1,()),()))
 (some (((dm_ (0,0) v4.2.2.1 v2).2,()),())))).bind λv7 =>
 (((cond (!(lu_ v4.2.2.1 v5.2))
 ((push? (α:=Int) v4.1 [v5.2]).bind λv8 =>
 (some (v8,())))
 (some (v4.1,())))).bind λv9 =>
 (((cond (!(lu_ v4.2.2.1 v5.2))
 (some (true,()))
 (cond ((dm_ (0,0) v4.2.2.1 v5.2).1==(w64 ((dm_ (0,0) v4.2.2.1 v2).1+1)))
 (some ((decide (v7.1.1<(dm_ (0,0) v4.2.2.1 v5.2).2)),()))
 (some (false,()))))).bind λv10 =>
 (cond v10.1
 (some (v9.1,((fh_ v4.2.2.1 v5.2 ((w64 ((dm_ (0,0) v4.2.2.1 v2).1+1)),v7.1.1)),())))
 (some (v9.1,(v4.2.2.1,()))))))))))).bind λv11 =>
 (some (inl (v11.1,((w64 (v4.2.1+1)),(v11.2.1,()))))))
 (some (inr (v4.1,(v4.2.2.1,())))))) (v0.1,(0,(v0.2.1,())))).bind λv12 =>
 ((sub? v12.1 1 (v12.1.length:Int)).bind λv13 =>
 (some (inl (v13,(v12.2.1,())))))))))
 (some (inr (v0.2.1,()))))) ([a0.2.2.1],((fh_ [] a0.2.2.1 (0,(-1))),()))).bind λv14 =>
 ((af_ (ρ:=(Int×Unit)) (λ(v15:(Int×(Int×(Int×Unit)))) =>
 (cond (decide (v15.2.2.1<(a0.1.1.length:Int)))
 (((((cond (lu_ v14.1 v15.2.2.1)
 ((cn_ a0 v15.2.2.1).bind λv16 =>
 (cond (decide (0≤v16.1))
 (cond (decide (v15.1<0))
 (some (true,()))
 (some ((decide ((dm_ (0,0) v14.1 v15.2.2.1).1<v15.1)),())))
 (some (false,()))))
 (some (false,())))).bind λv17 =>
 (cond v17.1
 (some ((dm_ (0,0) v14.1 v15.2.2.1).1,((dm_ (0,0) v14.1 v15.2.2.1).2,())))
 (some (v15.1,(v15.2.1,())))))).bind λv18 =>
 (some (inl (v18.1,(v18.2.1,((w64 (v15.2.2.1+1)),()))))))
 (some (inr (v15.2.1,()))))) ((-1),((-1),(0,())))).bind λv19 =>
 (some (v19.1,()))))
theorem x_101:au_ (P:=prog) (cxC [c_100,c_156] []) (.p .z (.p .z (.p (.p .z (.lp [.r 4 .int 3] [] [.m (.s 3) .int ag_] 0 (.p .z (.p (.p .z (.p .z (.lp [.r 4 .int 3,.v 45 .int] [.r 4 .int 3] [.m (.s 3) .int ag_] 2 (.p .z (.p .z (.j0 [.r 4 .int 3,.m (.s 3) .int ag_] (.p .z (.p .z (.p .z (.j0 [.b (.s 8) [.keep,.val .int]] .z (.p .z (.j0 [.r 4 .int 3] .z (.j0 [.v 102 .bool] .z .z))))))) .z)))))) .z)))) (.p .z (.p (.p .z (.lp [.v 11 .int,.v 12 .int,.v 114 .int] [.v 12 .int] [] 4 (.p .z (.p .z (.j0 [.v 11 .int,.v 12 .int] (.p .z (.p .z (.j0 [.v 139 .bool] .z .z))) .z))))) .z))))) 101 [(.ref cf_)] [.int]=λx=>es_ x.1:=by kernel_rfl
noncomputable def c_101:Con prog:=av_ _ _ 101 [(.ref cf_)] [.int] _ x_101
end
section
set_option maxRecDepth 100000
set_option maxHeartbeats 0
noncomputable def gm_ (a0:ac_):Option (Int×Unit) :=
 ((gp_ a0.1).bind λv0 =>
 (cond (v0.1 != 0)
 (some (v0.1,()))
 (((cond (decide (8<(a0.2.1.length:Int)))
 (some (true,()))
 (some ((decide (16<(a0.2.2.2.1.length:Int))),())))).bind λv1 =>
 (cond v1.1
 (some (2,()))
 ((af_ (ρ:=(Unit⊕(Int×Unit))) (λ(v2:(Int×Unit)) =>
 (cond (decide (v2.1<(a0.2.1.length:Int)))
 ((at? a0.2.1 v2.1).bind λv3 =>
 ((fd_ v3).bind λv4 =>
 (cond (v4.1 != 0)
 (some (inr (inr (v4.1,()))))
 (some (inl ((w64 (v2.1+1)),()))))))
 (some (inr (inl ()))))) (0,())).bind λv5 =>
 (cd_ v5 (λv6=>(cond ((a0.2.2.1.length:Int) != (a0.2.1.length:Int))
 (some (12,()))
 ((af_ (ρ:=(Unit⊕(Int×Unit))) (λ(v8:(Int×Unit)) =>
 (cond (decide (v8.1<(a0.2.2.1.length:Int)))
 ((at? a0.2.1 v8.1).bind λv9 =>
 ((at? a0.2.2.1 v8.1).bind λv10 =>
 ((gq_ v9 v10).bind λv11 =>
 (cond (v11.1 != 0)
 (some (inr (inr (12,()))))
 (some (inl ((w64 (v8.1+1)),())))))))
 (some (inr (inl ()))))) (0,())).bind λv12 =>
 (cd_ v12 (λv13=>((af_ (ρ:=(Unit⊕(Int×Unit))) (λ(v15:(Int×Unit)) =>
 (cond (decide (v15.1<(a0.1.2.2.2.2.1.length:Int)))
 ((at? a0.1.2.2.2.2.1 v15.1).bind λv16 =>
 (cond (decide ((a0.2.1.length:Int)≤v16.2.2.1))
 (some (inr (inr (26,()))))
 (some (inl ((w64 (v15.1+1)),())))))
 (some (inr (inl ()))))) (0,())).bind λv17 =>
 (cd_ v17 (λv18=>((af_ (ρ:=(Unit⊕(Int×Unit))) (λ(v20:(Int×Unit)) =>
 (cond (decide (v20.1<(a0.2.2.2.1.length:Int)))
 ((kl_ a0 v20.1).bind λv21 =>
 (cond (!v21.1)
 (some (inr (inr (40,()))))
 ((at? a0.2.2.2.1 v20.1).bind λv22 =>
 ((dc_ a0.1 v22.2.2.2.1).bind λv23 =>
 (cond (!v23.1)
 (some (inr (inr (25,()))))
 (some (inl ((w64 (v20.1+1)),()))))))))
 (some (inr (inl ()))))) (0,())).bind λv24 =>
 (cd_ v24 (λv25=>((js_ a0.2.2.2.2 1 100).bind λv27 =>
 (cond (!v27.1)
 (some (1,()))
 (some (0,())))))
 (λv26=>(some v26)))))
 (λv19=>(some v19)))))
 (λv14=>(some v14))))))
 (λv7=>(some v7))))))))
theorem x_17:au_ (P:=prog) (cxC [c_36,c_37,c_38,c_39,c_40,c_41] []) (.p .z (.p .z (.p .z (.p (.j0 [.v 24 .bool] .z .z) (.p (.p .z (.ls [.v 4 .int] [] [] 0 .z)) (.p .z (.p (.p .z (.ls [.v 6 .int] [] [] 2 (.p .z (.p (.p (.q [] .z .z) .z) .z)))) (.p (.p .z (.ls [.v 7 .int] [] [] 4 (.p .z (.p (.p (.q [] .z .z) .z) .z)))) (.p (.p .z (.ls [.v 8 .int] [] [] 6 (.p .z (.p (.p .z (.p (.q [] .z .z) .z)) .z)))) .z))))))))) 17 [ap_] [.int]=λx=>gm_ x.1:=by kernel_rfl
noncomputable def c_17:Con prog:=av_ _ _ 17 [ap_] [.int] _ x_17
noncomputable def ej_ (a0:ae_) (a1:aj_):Option (Int×Unit) :=
 ((gp_ a0).bind λv0 =>
 (cond (v0.1 != 0)
 (some (v0.1,()))
 (((cond ((a1.1.length:Int) != (a0.2.1.length:Int))
 (some (true,()))
 (cond ((a1.2.1.length:Int) != (a0.2.2.1.length:Int))
 (some (true,()))
 (some (((a1.2.2.length:Int) != a0.2.2.2.2.2.2.1),()))))).bind λv1 =>
 (cond v1.1
 (some (28,()))
 ((af_ (ρ:=(Unit⊕(Int×Unit))) (λ(v2:(Int×Unit)) =>
 (cond (decide (v2.1<(a1.1.length:Int)))
 ((at? a1.1 v2.1).bind λv3 =>
 ((hn_ a0 v2.1 v3).bind λv4 =>
 (cond (!v4.1)
 (some (inr (inr (28,()))))
 (some (inl ((w64 (v2.1+1)),()))))))
 (some (inr (inl ()))))) (0,())).bind λv5 =>
 (cd_ v5 (λv6=>((af_ (ρ:=(Unit⊕(Int×Unit))) (λ(v8:(Int×Unit)) =>
 (cond (decide (v8.1<(a1.2.1.length:Int)))
 ((at? a1.2.1 v8.1).bind λv9 =>
 ((((db_ a0 v9).bind λv10 =>
 (cond (!v10.1)
 (cond (v9 != (-1))
 ((bv_ v9 (w64 ((w64 ((-2) - a0.2.2.2.2.2.2.1))+1)) (-2)).bind λv11 =>
 (some ((!v11.1),())))
 (some (false,())))
 (some (false,()))))).bind λv12 =>
 (cond v12.1
 (some (inr (inr (28,()))))
 (some (inl ((w64 (v8.1+1)),()))))))
 (some (inr (inl ()))))) (0,())).bind λv13 =>
 (cd_ v13 (λv14=>((af_ (ρ:=(Unit⊕(Int×Unit))) (λ(v16:(Int×Unit)) =>
 (cond (decide (v16.1<(a1.2.2.length:Int)))
 ((at? a1.2.2 v16.1).bind λv17 =>
 ((db_ a0 v17).bind λv18 =>
 (cond (!v18.1)
 (some (inr (inr (28,()))))
 (some (inl ((w64 (v16.1+1)),()))))))
 (some (inr (inl ()))))) (0,())).bind λv19 =>
 (cd_ v19 (λv20=>(some (0,())))
 (λv21=>(some v21)))))
 (λv15=>(some v15)))))
 (λv7=>(some v7))))))))
theorem x_31:au_ (P:=prog) (cxC [c_36,c_70,c_71,c_72] []) (.p .z (.p .z (.p .z (.p (.j0 [.v 38 .bool] .z .z) (.p (.p .z (.ls [.v 6 .int] [] [] 0 (.p .z (.p (.p (.q [] .z .z) .z) .z)))) (.p (.p .z (.ls [.v 7 .int] [] [] 2 (.p .z (.p (.p .z (.j0 [.v 83 .bool] .z .z)) .z)))) (.p (.p .z (.ls [.v 9 .int] [] [] 4 (.p .z (.p (.p (.q [] .z .z) .z) .z)))) .z))))))) 31 [an_,ao_] [.int]=λx=>ej_ x.1 x.2.1:=by kernel_rfl
noncomputable def c_31:Con prog:=av_ _ _ 31 [an_,ao_] [.int] _ x_31
noncomputable def ks_ (a0:ab_) (a1:(List ak_)):Option (Int×Int×Unit) :=
 ((fo_ a0 a1).bind λv0 =>
 (cond (v0.1 != 0)
 (some (0,(v0.1,())))
 ((oc_ a0 a1).bind λv1 =>
 (some ((v1.1.length:Int),(0,()))))))
theorem x_214:au_ (P:=prog) (cxC [c_228,c_229] []) .z 214 [ag_,(.list aq_)] [.int,.int]=λx=>ks_ x.1 x.2.1:=by kernel_rfl
noncomputable def c_214:Con prog:=av_ _ _ 214 [ag_,(.list aq_)] [.int,.int] _ x_214
noncomputable def ck_ (a0:ab_) (a1:(List ak_)):Option (Int×Int×Unit) :=
 ((dl_ a0 a1).bind λv0 =>
 (cond (v0.1 != 0)
 (some (0,(v0.1,())))
 ((dk_ a0 a1).bind λv1 =>
 (some (v1.1,(0,()))))))
theorem x_19:au_ (P:=prog) (cxC [c_46,c_47] []) .z 19 [ag_,(.list aq_)] [.int,.int]=λx=>ck_ x.1 x.2.1:=by kernel_rfl
noncomputable def c_19:Con prog:=av_ _ _ 19 [ag_,(.list aq_)] [.int,.int] _ x_19
noncomputable def ku_ (a0:ab_) (a1:ak_) (a2:(List Int)):Option (Bool×Int×Unit) :=
 ((gt_ a0 a1).bind λv0 =>
 (cond (v0.1 != 0)
 (some (false,(v0.1,())))
 ((ew_ a0 a2).bind λv1 =>
 (cond (v1.1 != 0)
 (some (false,(v1.1,())))
 ((ek_ a1 a2).bind λv2 =>
 (some (v2.1,(0,()))))))))
theorem x_122:au_ (P:=prog) (cxC [c_60,c_175,c_176] []) .z 122 [ag_,aq_,(.list .int)] [.bool,.int]=λx=>ku_ x.1 x.2.1 x.2.2.1:=by kernel_rfl
noncomputable def c_122:Con prog:=av_ _ _ 122 [ag_,aq_,(.list .int)] [.bool,.int] _ x_122
noncomputable def jq_ (a0:ae_):Option (aj_×Int×Unit) :=
 ((gc_ a0).bind λv0 =>
 (cond (v0.1 != 0)
 (some (([],([],[])),(v0.1,())))
 ((mk? (α:=Int) a0.2.2.2.2.2.2.1 0).bind λv1 =>
 ((af_ (ρ:=(((List Int)×Unit)×Unit)) (λ(v2:(Int×(((List Int)×Unit)×Unit))) =>
 (cond (decide (v2.1<(a0.2.1.length:Int)))
 ((at? a0.2.1 v2.1).bind λv3 =>
 ((push? (α:=Int) v2.2.1.1 [v3.2.2.2]).bind λv4 =>
 (some (inl ((w64 (v2.1+1)),((v4,()),()))))))
 (some (inr ((v2.2.1.1,()),()))))) (0,(([],()),()))).bind λv5 =>
 ((af_ (ρ:=(((List Int)×Unit)×Unit)) (λ(v6:(Int×(((List Int)×Unit)×Unit))) =>
 (cond (decide (v6.1<(a0.2.2.1.length:Int)))
 ((at? a0.2.2.1 v6.1).bind λv7 =>
 ((push? (α:=Int) v6.2.1.1 [v7.2.1]).bind λv8 =>
 (some (inl ((w64 (v6.1+1)),((v8,()),()))))))
 (some (inr ((v6.2.1.1,()),()))))) (0,(([],()),()))).bind λv9 =>
 ((push? (α:=Int) [] v5.1.1).bind λv10 =>
 ((push? (α:=Int) [] v9.1.1).bind λv11 =>
 ((push? (α:=Int) [] v1).bind λv12 =>
 ((((af_ (ρ:=(((List Int)×Unit)⊕(Bool×((List Int)×Unit)))) (λ(v13:(Int×((List Int)×Unit))) =>
 (cond (decide (v13.1<101))
 ((((af_ (ρ:=(Unit⊕(Int×Unit))) (λ(v14:(Int×Unit)) =>
 (cond (decide (v14.1<(a0.2.2.2.2.2.1.length:Int)))
 ((at? a0.2.2.2.2.2.1 v14.1).bind λv15 =>
 ((((at? v13.2.1 v15.2.1).bind λv16 =>
 ((at? v13.2.1 v15.2.1).bind λv17 =>
 (cond (v17 != v15.2.2)
 ((bd_ (a0,(v13.2.1,(v11,v12))) v15.1).bind λv18 =>
 (some (v18.1,())))
 (some (false,())))))).bind λv19 =>
 (cond v19.1
 (some (inr (inr (v14.1,()))))
 (some (inl ((w64 (v14.1+1)),()))))))
 (some (inr (inl ()))))) (0,())).bind λv20 =>
 (cd_ v20 (λv21=>(some ((-1),())))
 (λv22=>(some v22))))).bind λv23 =>
 (cond (decide (v23.1<0))
 (some (inr (inr ((!true),(v13.2.1,())))))
 ((at? a0.2.2.2.2.2.1 v23.1).bind λv24 =>
 ((at? a0.2.2.2.2.2.1 v23.1).bind λv25 =>
 ((at? v13.2.1 v24.2.1).bind λv26 =>
 ((at? v13.2.1 v24.2.1).bind λv27 =>
 (some (inl ((w64 (v13.1+1)),((v13.2.1.set v24.2.1.toNat v25.2.2),()))))))))))
 (some (inr (inl (v13.2.1,())))))) (0,(v10,()))).bind λv28 =>
 (cd_ v28 (λv29=>(some ((!false),(v29.1,()))))
 (λv30=>(some v30))))).bind λv31 =>
 (cond v31.1
 (some (([],([],[])),(27,())))
 (some ((v31.2.1,(v11,v12)),(0,())))))))))))))
theorem x_28:au_ (P:=prog) (cxI (λk=>cond (Nat.beq k 65) (.p .z (.p (.j0 [.v 6 .bool,.o (.c (.s 0) 8) .int] .z .z) .z)) (cond (Nat.beq k 125) (.p .z (.p (.p .z (.ls [.v 4 .int] [] [.o (.c (.s 0) 8) .int] 0 (.p .z (.p .z (.p (.j0 [.v 3 .int] .z .z) .z))))) .z)) (cond (Nat.beq k 178) (.p .z (.p (.p .z (.ls [.v 8 .int] [] [] 0 .z)) .z)) (cond (Nat.beq k 179) (.p .z (.j0 [.v 3 .bool] .z .z)) (.z))))) (λk=>Nat.beq k 58||Nat.beq k 68||Nat.beq k 127||false) (cxC [c_58,cd7] [ay2]) 6) (.p .z (.p .z (.p .z (.p (.p .z (.lp [.v 23 .int] [] [.b (.s 5) [.row .int 3,.keep,.keep]] 0 .z)) (.p (.p .z (.lp [.v 38 .int] [] [.b (.s 5) [.keep,.row .int 3,.keep]] 2 .z)) .z))))) 28 [an_] [ao_,.int]=λx=>jq_ x.1:=by kernel_rfl
noncomputable def c_28:Con prog:=av_ _ _ 28 [an_] [ao_,.int] _ x_28
noncomputable def ca_ (a0:ae_) (a1:aj_):Option (Int×Unit) :=
 ((gc_ a0).bind λv0 =>
 (cond (v0.1 != 0)
 (some (v0.1,()))
 (((cond ((a1.1.length:Int) != (a0.2.1.length:Int))
 (some (true,()))
 (cond ((a1.2.1.length:Int) != (a0.2.2.1.length:Int))
 (some (true,()))
 (some (((a1.2.2.length:Int) != a0.2.2.2.2.2.2.1),()))))).bind λv1 =>
 (cond v1.1
 (some (28,()))
 ((af_ (ρ:=(Unit⊕(Int×Unit))) (λ(v2:(Int×Unit)) =>
 (cond (decide (v2.1<(a1.1.length:Int)))
 ((at? a1.1 v2.1).bind λv3 =>
 ((fy_ a0 v2.1 v3).bind λv4 =>
 (cond (!v4.1)
 (some (inr (inr (28,()))))
 (some (inl ((w64 (v2.1+1)),()))))))
 (some (inr (inl ()))))) (0,())).bind λv5 =>
 (cd_ v5 (λv6=>((af_ (ρ:=(Unit⊕(Int×Unit))) (λ(v8:(Int×Unit)) =>
 (cond (decide (v8.1<(a1.2.1.length:Int)))
 ((at? a1.2.1 v8.1).bind λv9 =>
 ((bf_ v9 (w64 ((w64 ((-2) - a0.2.2.2.2.2.2.1))+1)) (w64 ((a0.1.length:Int) - 1))).bind λv10 =>
 (cond (!v10.1)
 (some (inr (inr (28,()))))
 (some (inl ((w64 (v8.1+1)),()))))))
 (some (inr (inl ()))))) (0,())).bind λv11 =>
 (cd_ v11 (λv12=>((af_ (ρ:=(Unit⊕(Int×Unit))) (λ(v14:(Int×Unit)) =>
 (cond (decide (v14.1<(a1.2.2.length:Int)))
 ((at? a1.2.2 v14.1).bind λv15 =>
 ((bf_ v15 0 (w64 ((a0.1.length:Int) - 1))).bind λv16 =>
 (cond (!v16.1)
 (some (inr (inr (28,()))))
 (some (inl ((w64 (v14.1+1)),()))))))
 (some (inr (inl ()))))) (0,())).bind λv17 =>
 (cd_ v17 (λv18=>(some (0,())))
 (λv19=>(some v19)))))
 (λv13=>(some v13)))))
 (λv7=>(some v7))))))))
theorem x_126:au_ (P:=prog) (cxC [c_58,cd9,cq8] []) (.p .z (.p .z (.p (.j0 [.v 40 .bool] .z .z) (.p (.p .z (.ls [.v 44 .int] [] [] 0 .z)) (.p (.p .z (.ls [.v 58 .int] [] [] 2 .z)) (.p (.p .z (.ls [.v 77 .int] [] [] 4 .z)) .z)))))) 126 [an_,ao_] [.int]=λx=>ca_ x.1 x.2.1:=by kernel_rfl
noncomputable def cd8:Con prog:=av_ _ _ 126 [an_,ao_] [.int] _ x_126
noncomputable def dz_ (a0:ey_):Option (Int×Unit) :=
 ((cn_ a0 a0.2.2.1).bind λv0 =>
 (cond (decide (0≤v0.1))
 (some (v0.1,()))
 ((es_ a0).bind λv1 =>
 (cond (decide (0≤v1.1))
 (some (v1.1,()))
 ((dy_ a0).bind λv2 =>
 (some (v2.1,())))))))
theorem x_56:au_ (P:=prog) (cxC [c_100,c_101,c_102] []) .z 56 [(.ref cf_)] [.int]=λx=>dz_ x.1:=by kernel_rfl
noncomputable def c_56:Con prog:=av_ _ _ 56 [(.ref cf_)] [.int] _ x_56
end
section
set_option maxRecDepth 100000
set_option maxHeartbeats 0
noncomputable def jj_ (a0:ae_) (a1:aj_):Option (aj_×Int×Unit) :=
 ((ej_ a0 a1).bind λv0 =>
 (cond (v0.1 != 0)
 (some (([],([],[])),(v0.1,())))
 ((hb_ a0 a1).bind λv1 =>
 (cond (!v1.2.1)
 (some (([],([],[])),(27,())))
 (some (v1.1,(0,())))))))
theorem x_138:au_ (P:=prog) (cxC [c_31,c_143] []) .z 138 [an_,ao_] [ao_,.int]=λx=>jj_ x.1 x.2.1:=by kernel_rfl
noncomputable def c_138:Con prog:=av_ _ _ 138 [an_,ao_] [ao_,.int] _ x_138
noncomputable def jx_ (a0:ac_) (a1:Int) (a2:(List Int)):Option (Int×Unit) :=
 ((at? a0.2.1 a1).bind λv0 =>
 ((km_ a0 a2).bind λv1 =>
 ((ks_ v0 v1.1).bind λv2 =>
 (some (v2.1,())))))
theorem x_191:au_ (P:=prog) (cxC [c_214,c_215] []) (.p .z (.p (.q [] .z .z) .z)) 191 [ap_,.int,(.list .int)] [.int]=λx=>jx_ x.1 x.2.1 x.2.2.1:=by kernel_rfl
noncomputable def c_191:Con prog:=av_ _ _ 191 [ap_,.int,(.list .int)] [.int] _ x_191
noncomputable def cu_  : Option (Bool×Unit) :=
 ((ck_ (2,4) [(2,(0,(1,(4,(0,([],false))))))]).bind λv0 =>
 (cond (v0.1==3)
 (some ((v0.2.1==0),()))
 (some (false,()))))
theorem x_5:au_ (P:=prog) (cxC [c_19] []) .z 5 [] [.bool]=λx=>cu_:=by kernel_rfl
noncomputable def c_5:Con prog:=av_ _ _ 5 [] [.bool] _ x_5
noncomputable def mn_ (a0:ac_) (a1:Int) (a2:cy_):Option (Bool×Unit) :=
 ((sub? a0.2.2.2.1 0 a1).bind λv0 =>
 ((((af_ (ρ:=(Unit⊕(Bool×Unit))) (λ(v1:(Int×Unit)) =>
 (cond (decide (v1.1<(v0.length:Int)))
 ((at? v0 v1.1).bind λv2 =>
 (cond (v2.1==a2.1)
 (some (inr (inr ((decide (0≤v1.1)),()))))
 (some (inl ((w64 (v1.1+1)),())))))
 (some (inr (inl ()))))) (0,())).bind λv3 =>
 (cd_ v3 (λv4=>(some ((decide (0≤(-1))),())))
 (λv5=>(some v5))))).bind λv6 =>
 ((((od_ a2.1).bind λv7 =>
 (cond (!v7.1)
 (some (true,()))
 (cond (decide (12<(a2.1.length:Int)))
 (some (true,()))
 (cond v6.1
 (some (true,()))
 ((cb_ a2.2.1 0 (w64 ((a0.1.1.length:Int) - 1))).bind λv8 =>
 (cond (!v8.1)
 (some (true,()))
 ((cb_ a2.2.2.1 (-1) (w64 ((a0.2.1.length:Int) - 1))).bind λv9 =>
 (some ((!v9.1),())))))))))).bind λv10 =>
 (cond v10.1
 (some (false,()))
 (cond (decide (a2.2.2.1<0))
 ((lo_ a2.2.2.2.2).bind λv11 =>
 (some (v11.1,())))
 ((at? a0.2.1 a2.2.2.1).bind λv12 =>
 ((at? a0.2.2.1 a2.2.2.1).bind λv13 =>
 ((ku_ v12 a2.2.2.2.2 v13).bind λv14 =>
 (cond (v14.2.1==0)
 (some (v14.1,()))
 (some (false,())))))))))))
theorem x_61:au_ (P:=prog) (cxI (λk=>cond (Nat.beq k 118) (.p .z (.j0 [.v 4 .bool] .z .z)) (cond (Nat.beq k 174) (.p .z (.p (.p .z (.ls [.v 8 .int] [] [] 0 .z)) .z)) (.z))) (λk=>Nat.beq k 63||Nat.beq k 120||Nat.beq k 121||Nat.beq k 122||false) (cxC [c_63,c_120,c_121,c_122] []) 4) (.p .z (.p .z (.p (.j0 [.v 49 .bool] .z .z) (.p .z (.p (.q [] .z .z) .z))))) 61 [ap_,.int,qi_] [.bool]=λx=>mn_ x.1 x.2.1 x.2.2.1:=by kernel_rfl
noncomputable def c_61:Con prog:=av_ _ _ 61 [ap_,.int,qi_] [.bool] _ x_61
noncomputable def gb_ (a0:ae_) (a1:aj_) (a2:(List bi_)):Option (Bool×Int×Unit) :=
 ((ca_ a0 a1).bind λv0 =>
 (cond (v0.1 != 0)
 (some (false,(v0.1,())))
 ((eh_ a0 a2).bind λv1 =>
 (cond (!v1.1)
 (some (false,(25,())))
 ((push? (α:=Int) [] a1.1).bind λv2 =>
 ((push? (α:=Int) [] a1.2.1).bind λv3 =>
 ((push? (α:=Int) [] a1.2.2).bind λv4 =>
 ((bd_ (a0,(v2,(v3,v4))) a2).bind λv5 =>
 (some (v5.1,(0,())))))))))))
theorem x_66:au_ (P:=prog) (cxI (λk=>.z) (λk=>Nat.beq k 68||Nat.beq k 113||Nat.beq k 126||Nat.beq k 127||false) (cxC [c_113,cd8,cd7] [ay2]) 2) .z 66 [an_,ao_,(.list cc_)] [.bool,.int]=λx=>gb_ x.1 x.2.1 x.2.2.1:=by kernel_rfl
noncomputable def c_66:Con prog:=av_ _ _ 66 [an_,ao_,(.list cc_)] [.bool,.int] _ x_66
noncomputable def fz_ (a0:ae_) (a1:aj_) (a2:ai_):Option (aj_×Int×Unit) :=
 ((ca_ a0 a1).bind λv0 =>
 (cond (v0.1 != 0)
 (some (([],([],[])),(v0.1,())))
 ((push? (α:=Int) [] a1.1).bind λv1 =>
 ((push? (α:=Int) [] a1.2.1).bind λv2 =>
 ((push? (α:=Int) [] a1.2.2).bind λv3 =>
 ((dj_ (a0,(v1,(v2,v3))) a2).bind λv4 =>
 (cond (!v4.1)
 (some (([],([],[])),(29,())))
 (((cond (a2.2.1==1)
 ((at? a0.2.2.2.1 a2.2.2).bind λv5 =>
 ((at? v3 a2.1).bind λv6 =>
 ((at? v3 a2.1).bind λv7 =>
 ((at? v3 a2.1).bind λv8 =>
 ((at? v3 a2.1).bind λv9 =>
 (some (v1,(v2,((v3.set a2.1.toNat (w64 ((w64 (v5.1+v5.2.1)) - v7))),())))))))))
 (cond (a2.2.1==2)
 ((at? v2 a2.2.2).bind λv10 =>
 ((at? v2 a2.2.2).bind λv11 =>
 (some (v1,((v2.set a2.2.2.toNat (w64 ((-2) - a2.1))),(v3,()))))))
 (cond (a2.2.1==3)
 ((at? v3 a2.1).bind λv12 =>
 ((at? v3 a2.1).bind λv13 =>
 ((at? v2 a2.2.2).bind λv14 =>
 ((at? v2 a2.2.2).bind λv15 =>
 (some (v1,((v2.set a2.2.2.toNat v13),(v3,()))))))))
 (cond (a2.2.1==4)
 ((at? a0.2.2.2.2.1 a2.2.2).bind λv16 =>
 ((af_ (ρ:=((List Int)×Unit)) (λ(v17:(Int×((List Int)×Unit))) =>
 (cond (decide (v17.1<(v16.2.2.2.2.2.2.1.length:Int)))
 ((at? v16.2.2.2.2.2.2.1 v17.1).bind λv18 =>
 ((at? v17.2.1 v18).bind λv19 =>
 ((at? v17.2.1 v18).bind λv20 =>
 (some (inl ((w64 (v17.1+1)),((v17.2.1.set v18.toNat (-1)),())))))))
 (some (inr (v17.2.1,()))))) (0,(v2,()))).bind λv21 =>
 ((af_ (ρ:=((List Int)×Unit)) (λ(v22:(Int×((List Int)×Unit))) =>
 (cond (decide (v22.1<(v16.2.2.2.2.2.2.2.length:Int)))
 ((at? v16.2.2.2.2.2.2.2 v22.1).bind λv23 =>
 ((at? v22.2.1 v23).bind λv24 =>
 ((at? v22.2.1 v23).bind λv25 =>
 (some (inl ((w64 (v22.1+1)),((v22.2.1.set v23.toNat (w64 ((-2) - a2.1))),())))))))
 (some (inr (v22.2.1,()))))) (0,(v21.1,()))).bind λv26 =>
 ((af_ (ρ:=((List Int)×Unit)) (λ(v27:(Int×((List Int)×Unit))) =>
 (cond (decide (v27.1<(v16.2.2.2.2.2.1.length:Int)))
 ((at? v16.2.2.2.2.2.1 v27.1).bind λv28 =>
 ((at? v27.2.1 v28.1).bind λv29 =>
 ((at? v27.2.1 v28.1).bind λv30 =>
 (some (inl ((w64 (v27.1+1)),((v27.2.1.set v28.1.toNat v28.2),())))))))
 (some (inr (v27.2.1,()))))) (0,(v1,()))).bind λv31 =>
 (some (v31.1,(v26.1,(v3,()))))))))
 (some (v1,(v2,(v3,()))))))))).bind λv32 =>
 ((((af_ (ρ:=(((List Int)×Unit)⊕(Bool×((List Int)×Unit)))) (λ(v33:(Int×((List Int)×Unit))) =>
 (cond (decide (v33.1<101))
 ((((af_ (ρ:=(Unit⊕(Int×Unit))) (λ(v34:(Int×Unit)) =>
 (cond (decide (v34.1<(a0.2.2.2.2.2.1.length:Int)))
 ((at? a0.2.2.2.2.2.1 v34.1).bind λv35 =>
 ((((at? v33.2.1 v35.2.1).bind λv36 =>
 ((at? v33.2.1 v35.2.1).bind λv37 =>
 (cond (v37 != v35.2.2)
 ((bd_ (a0,(v33.2.1,(v32.2.1,v32.2.2.1))) v35.1).bind λv38 =>
 (some (v38.1,())))
 (some (false,())))))).bind λv39 =>
 (cond v39.1
 (some (inr (inr (v34.1,()))))
 (some (inl ((w64 (v34.1+1)),()))))))
 (some (inr (inl ()))))) (0,())).bind λv40 =>
 (cd_ v40 (λv41=>(some ((-1),())))
 (λv42=>(some v42))))).bind λv43 =>
 (cond (decide (v43.1<0))
 (some (inr (inr ((!true),(v33.2.1,())))))
 ((at? a0.2.2.2.2.2.1 v43.1).bind λv44 =>
 ((at? a0.2.2.2.2.2.1 v43.1).bind λv45 =>
 ((at? v33.2.1 v44.2.1).bind λv46 =>
 ((at? v33.2.1 v44.2.1).bind λv47 =>
 (some (inl ((w64 (v33.1+1)),((v33.2.1.set v44.2.1.toNat v45.2.2),()))))))))))
 (some (inr (inl (v33.2.1,())))))) (0,(v32.1,()))).bind λv48 =>
 (cd_ v48 (λv49=>(some ((!false),(v49.1,()))))
 (λv50=>(some v50))))).bind λv51 =>
 (cond v51.1
 (some (([],([],[])),(27,())))
 (some ((v51.2.1,(v32.2.1,v32.2.2.1)),(0,())))))))))))))
theorem x_75:au_ (P:=prog) (cxI (λk=>cond (Nat.beq k 65) (.p .z (.p (.j0 [.v 6 .bool,.o (.c (.s 0) 8) .int] .z .z) .z)) (cond (Nat.beq k 125) (.p .z (.p (.p .z (.ls [.v 4 .int] [] [.o (.c (.s 0) 8) .int] 0 (.p .z (.p .z (.p (.j0 [.v 3 .int] .z .z) .z))))) .z)) (cond (Nat.beq k 131) (.p .z (.p .z (.p .z (.p .z (.p .z (.p .z (.p .z (.p .z (.p .z (.p .z (.p (.p .z (.p (.p .z (.lp [.v 96 .int] [] [.o (.c (.s 0) 9) .int] 1 .z)) (.p (.p .z (.lp [.v 111 .int] [] [.o (.c (.s 0) 9) .int] 3 .z)) (.p .z (.lp [.v 127 .int] [] [.o (.c (.s 0) 8) .int] 5 .z))))) .z))))))))))) (cond (Nat.beq k 178) (.p .z (.p (.p .z (.ls [.v 8 .int] [] [] 0 .z)) .z)) (cond (Nat.beq k 179) (.p .z (.j0 [.v 3 .bool] .z .z)) (.z)))))) (λk=>Nat.beq k 68||Nat.beq k 126||Nat.beq k 127||Nat.beq k 130||false) (cxC [cd8,cd7,c_130] [ay2]) 7) (.p .z (.p .z (.p .z (.p .z (.j0 [.o (.c (.s 9) 8) .int,.o (.c (.s 9) 9) .int,.o (.c (.s 9) 10) .int] .z .z))))) 75 [an_,ao_,ar_] [ao_,.int]=λx=>fz_ x.1 x.2.1 x.2.2.1:=by kernel_rfl
noncomputable def c_75:Con prog:=av_ _ _ 75 [an_,ao_,ar_] [ao_,.int] _ x_75
noncomputable def ga_ (a0:ae_) (a1:aj_):Option ((List ai_)×Int×Unit) :=
 ((ca_ a0 a1).bind λv0 =>
 (cond (v0.1 != 0)
 (some ([],(v0.1,())))
 ((push? (α:=Int) [] a1.1).bind λv1 =>
 ((push? (α:=Int) [] a1.2.1).bind λv2 =>
 ((push? (α:=Int) [] a1.2.2).bind λv3 =>
 ((af_ (ρ:=(Unit×(((List ai_)×Unit)×Unit))) (λ(v4:(Int×(Unit×(((List ai_)×Unit)×Unit)))) =>
 (cond (decide (v4.1<a0.2.2.2.2.2.2.1))
 ((af_ (ρ:=(Unit×(((List ai_)×Unit)×Unit))) (λ(v5:(Int×(Unit×(((List ai_)×Unit)×Unit)))) =>
 (cond (decide (v5.1<(([0,(a0.2.2.2.1.length:Int),(a0.2.2.1.length:Int),(a0.2.2.1.length:Int),(a0.2.2.2.2.1.length:Int)]).length:Int)))
 ((at? [0,(a0.2.2.2.1.length:Int),(a0.2.2.1.length:Int),(a0.2.2.1.length:Int),(a0.2.2.2.2.1.length:Int)] v5.1).bind λv6 =>
 ((at? [0,(a0.2.2.2.1.length:Int),(a0.2.2.1.length:Int),(a0.2.2.1.length:Int),(a0.2.2.2.2.1.length:Int)] v5.1).bind λv7 =>
 ((af_ (ρ:=(Unit×(((List ai_)×Unit)×Unit))) (λ(v8:(Int×(Unit×(((List ai_)×Unit)×Unit)))) =>
 (cond (decide (v8.1<v7))
 ((((dj_ (a0,(v1,(v2,v3))) (v4.1,(v5.1,v8.1))).bind λv9 =>
 (cond v9.1
 ((push? (α:=ai_) v8.2.2.1.1 [(v4.1,(v5.1,v8.1))]).bind λv10 =>
 (some ((),((v10,()),()))))
 (some ((),((v8.2.2.1.1,()),())))))).bind λv11 =>
 (some (inl ((w64 (v8.1+1)),((),((v11.2.1.1,()),()))))))
 (some (inr ((),((v8.2.2.1.1,()),())))))) (0,((),((v5.2.2.1.1,()),())))).bind λv12 =>
 (some (inl ((w64 (v5.1+1)),((),((v12.2.1.1,()),()))))))))
 (some (inr ((),((v5.2.2.1.1,()),())))))) (0,((),((v4.2.2.1.1,()),())))).bind λv13 =>
 (some (inl ((w64 (v4.1+1)),((),((v13.2.1.1,()),()))))))
 (some (inr ((),((v4.2.2.1.1,()),())))))) (0,((),(([],()),())))).bind λv14 =>
 (some (v14.2.1.1,(0,())))))))))
theorem x_152:au_ (P:=prog) (cxI (λk=>cond (Nat.beq k 220) (.p .z (.lp [.v 9 .int] [] [.y (.s 0),.b (.y (.s 0) 4) [.row ar_ 65]] 0 (.p .z (.p .z (.p (.p .z (.p .z (.lp [.v 26 .int] [] [.y (.s 0),.b (.y (.s 0) 4) [.row ar_ 65]] 2 (.p .z (.p .z (.p (.p .z (.p .z (.lp [.v 32 .int] [] [.y (.s 0),.b (.y (.s 0) 4) [.row ar_ 65]] 4 (.p .z (.p .z (.j0 [.y (.s 0),.b (.y (.s 0) 4) [.row ar_ 65]] .z .z)))))) .z)))))) .z))))) (.z)) (λk=>Nat.beq k 68||Nat.beq k 126||Nat.beq k 130||false) (cxC [cd8,c_130] [ay2]) 6) (.p .z (.p .z (.p .z (.p (.p .z (.rf [4,7] .z .z)) .z)))) 152 [an_,ao_] [(.list ar_),.int]=λx=>ga_ x.1 x.2.1:=by kernel_rfl
noncomputable def c_152:Con prog:=av_ _ _ 152 [an_,ao_] [(.list ar_),.int] _ x_152
noncomputable abbrev my_:Gb:=⟨Gb.ev,λc p=>cond (Nat.beq c 876644368&&eqS p "room.go:184") true (cond (Nat.beq c 230692865&&eqS p "room.go:183") true (cond (Nat.beq c 130027520&&eqS p "room.go:183") true (Gb.fz c p))),Gb.gd,Gb.gl,λc=>cond (Nat.beq c 876644368) (some fr_) (cond (Nat.beq c 230692865) (some ao_) (cond (Nat.beq c 130027520) (some an_) (none))),Gb.rw⟩
def an_155:An:=.z
def at_155:FuncId→An:=λk=>.z
noncomputable def cs_155:List (@Con my_ prog _):=[@cvG instGb my_ prog _ (λ_=>rfl) (λ_=>rfl) cd8,@cvG instGb my_ prog _ (λ_=>rfl) (λ_=>rfl) cd7,@cpCon my_ prog _ ay2]
noncomputable def cx_155:@Cx my_ prog _:=@cxI my_ prog _ at_155 (λk=>Nat.beq k 68||Nat.beq k 126||Nat.beq k 127||false) (@cxC my_ prog _ cs_155 []) 2
noncomputable def lm_ (a0:ae_) (a1:aj_):Option (Bool×Int×Unit) :=
 ((ca_ a0 a1).bind λv0 =>
 (cond (v0.1 != 0)
 (some (false,(v0.1,())))
 ((((push? (α:=Int) [] a1.1).bind λv1 =>
 (some (v1,())))).bind λv2 =>
 ((((push? (α:=Int) [] a1.2.1).bind λv3 =>
 (some (v3,())))).bind λv4 =>
 ((((push? (α:=Int) [] a1.2.2).bind λv5 =>
 (some (v5,())))).bind λv6 =>
 ((bd_ (a0,(v2.1,(v4.1,v6.1))) a0.2.2.2.2.2.2.2).bind λv7 =>
 (some (v7.1,(0,())))))))))
theorem x_155:@au_ my_ prog _ cx_155 an_155 155 [an_,ao_] [.bool,.int]=λx=>lm_ x.1 x.2.1:=by kernel_rfl
noncomputable def c_155:Con prog:=@cvG my_ instGb prog _ (λ_=>rfl) (λ_=>rfl) <| @av_ my_ prog _ _ _ 155 [an_,ao_] [.bool,.int] _ x_155
noncomputable def er_ (a0:en_) (a1:ab_) (a2:Int):Option ((List Int)×Bool×Unit) :=
 ((af_ (ρ:=((List Int)×((Int×((List ab_)×Unit))×Unit))) (λ(v0:((List Int)×((Int×((List ab_)×Unit))×Unit))) =>
 ((((at? a0.2 v0.2.1.1).bind λv1 =>
 (cond (v1 != 0)
 ((at? a0.1 v0.2.1.1).bind λv2 =>
 (cond (decide (0<(v2.length:Int)))
 (some ((decide ((v0.1.length:Int)<a2)),()))
 (some (false,()))))
 (some (false,()))))).bind λv3 =>
 (cond v3.1
 ((dz_ (a0,(a1,(v0.2.1.1,v0.2.1.2.1)))).bind λv4 =>
 ((push? (α:=Int) v0.1 [v4.1]).bind λv5 =>
 ((((((af_ (ρ:=(Unit⊕(Int×Unit))) (λ(v6:(Int×Unit)) =>
 (cond (decide (v6.1<(v0.2.1.2.1.length:Int)))
 ((at? v0.2.1.2.1 v6.1).bind λv7 =>
 ((at? v0.2.1.2.1 v6.1).bind λv8 =>
 (cond ((v8.1==v0.2.1.1)&&(v8.2==v4.1))
 (some (inr (inr (v6.1,()))))
 (some (inl ((w64 (v6.1+1)),()))))))
 (some (inr (inl ()))))) (0,())).bind λv9 =>
 (cd_ v9 (λv10=>(some ((-1),())))
 (λv11=>(some v11))))).bind λv12 =>
 (cond (v12.1==(-1))
 (some ((v0.2.1.2.1,()),()))
 ((af_ (ρ:=(Int×((List ab_)×Unit))) (λ(v13:(Int×(Int×((List ab_)×Unit)))) =>
 (cond (decide (v13.2.1<(v13.2.2.1.length:Int)))
 ((((at? v13.2.2.1 v13.2.1).bind λv14 =>
 ((at? v13.2.2.1 v13.2.1).bind λv15 =>
 (cond (!((v15.1==v0.2.1.1)&&(v15.2==v4.1)))
 ((at? v13.2.2.1 v13.1).bind λv16 =>
 ((at? v13.2.2.1 v13.1).bind λv17 =>
 (some ((w64 (v13.1+1)),((v13.2.2.1.set v13.1.toNat v15),())))))
 (some (v13.1,(v13.2.2.1,()))))))).bind λv18 =>
 (some (inl (v18.1,((w64 (v13.2.1+1)),(v18.2.1,()))))))
 (some (inr (v13.1,(v13.2.2.1,())))))) (v12.1,((w64 (v12.1+1)),(v0.2.1.2.1,())))).bind λv19 =>
 ((sub? v19.2.1 v19.1 (v19.2.1.length:Int)).bind λv20 =>
 ((sub? ((List.take v19.1.toNat v19.2.1)++(List.replicate (v19.2.1.length - v19.1.toNat) (0,0))) 0 v19.1).bind λv21 =>
 (some ((v21,()),())))))))).bind λv22 =>
 ((push? (α:=ab_) v22.1.1 [(v0.2.1.1,v4.1)]).bind λv23 =>
 (((cond (decide (a1.1<(v23.length:Int)))
 ((sub? v23 1 (v23.length:Int)).bind λv24 =>
 (some ((v24,()),())))
 (some ((v23,()),())))).bind λv25 =>
 ((at? a0.1 v0.2.1.1).bind λv26 =>
 ((at? v26 v4.1).bind λv27 =>
 (some (inl (v5,((v27.2,(v25.1.1,())),())))))))))))
 (some (inr (v0.1,((v0.2.1.1,(v0.2.1.2.1,())),()))))))) ([],((0,([],())),()))).bind λv28 =>
 ((at? a0.2 v28.2.1.1).bind λv29 =>
 (some (v28.1,((v29==0),())))))
theorem x_26:au_ (P:=prog) (cxI (λk=>cond (Nat.beq k 57) (.p .z (.j0 [.b (.s 0) [.keep,.keep,.keep,.keep,.keep,.row ag_ 192]] .z (.p .z (.j0 [.b (.s 0) [.keep,.keep,.keep,.keep,.keep,.row ag_ 192]] .z .z)))) (cond (Nat.beq k 103) (.p .z (.j0 [.v 5 .int] .z (.p .z (.p (.p .z (.lp [.v 5 .int,.v 6 .int] [.v 5 .int] [.o (.s 0) ag_] 0 (.p .z (.j0 [.v 5 .int,.o (.s 0) ag_] .z .z)))) .z)))) (cond (Nat.beq k 157) (.p .z (.p (.p .z (.ls [.v 8 .int] [] [] 0 .z)) .z)) (.z)))) (λk=>Nat.beq k 56||false) (cxC [c_56] []) 5) (.p .z (.p .z (.p (.lp [.r 6 .int 3] [.r 6 .int 3] [.b (.s 8) [.keep,.keep,.keep,.keep,.val .int,.row ag_ 192]] 0 (.p (.j0 [.v 40 .bool] .z .z) .z)) .z))) 26 [dp_,ag_,.int] [(.list .int),.bool]=λx=>er_ x.1 x.2.1 x.2.2.1:=by kernel_rfl
noncomputable def c_26:Con prog:=av_ _ _ 26 [dp_,ag_,.int] [(.list .int),.bool] _ x_26
noncomputable def de_ (a0:ac_) (a1:aa_):Option (Int×Unit) :=
 ((gm_ a0).bind λv0 =>
 (cond (v0.1 != 0)
 (some (v0.1,()))
 ((ej_ a0.1 a1.1).bind λv1 =>
 (cond (v1.1 != 0)
 (some (v1.1,()))
 (cond ((a1.2.length:Int) != (a0.2.2.2.1.length:Int))
 (some (28,()))
 (some (0,())))))))
theorem x_12:au_ (P:=prog) (cxC [c_17,c_31] []) .z 12 [ap_,al_] [.int]=λx=>de_ x.1 x.2.1:=by kernel_rfl
noncomputable def c_12:Con prog:=av_ _ _ 12 [ap_,al_] [.int] _ x_12
end
section
set_option maxRecDepth 100000
set_option maxHeartbeats 0
noncomputable def kq_ (a0:ae_):Option (aj_×Int×Unit) :=
 ((gp_ a0).bind λv0 =>
 (cond (v0.1 != 0)
 (some (([],([],[])),(v0.1,())))
 ((mk? (α:=Int) a0.2.2.2.2.2.2.1 0).bind λv1 =>
 ((af_ (ρ:=(((List Int)×Unit)×Unit)) (λ(v2:(Int×(((List Int)×Unit)×Unit))) =>
 (cond (decide (v2.1<(a0.2.1.length:Int)))
 ((at? a0.2.1 v2.1).bind λv3 =>
 ((push? (α:=Int) v2.2.1.1 [v3.2.2.2]).bind λv4 =>
 (some (inl ((w64 (v2.1+1)),((v4,()),()))))))
 (some (inr ((v2.2.1.1,()),()))))) (0,(([],()),()))).bind λv5 =>
 ((af_ (ρ:=(((List Int)×Unit)×Unit)) (λ(v6:(Int×(((List Int)×Unit)×Unit))) =>
 (cond (decide (v6.1<(a0.2.2.1.length:Int)))
 ((at? a0.2.2.1 v6.1).bind λv7 =>
 ((push? (α:=Int) v6.2.1.1 [v7.2.1]).bind λv8 =>
 (some (inl ((w64 (v6.1+1)),((v8,()),()))))))
 (some (inr ((v6.2.1.1,()),()))))) (0,(([],()),()))).bind λv9 =>
 ((jj_ a0 (v5.1.1,(v9.1.1,v1))).bind λv10 =>
 (some (v10.1,(v10.2.1,())))))))))
theorem x_85:au_ (P:=prog) (cxC [c_36,c_138] []) (.p .z (.p .z (.p .z (.p .z (.p (.p .z (.lp [.v 6 .int] [] [.b (.s 5) [.row .int 3,.keep,.keep]] 0 .z)) (.p (.p .z (.lp [.v 7 .int] [] [.b (.s 5) [.keep,.row .int 3,.keep]] 2 .z)) .z)))))) 85 [an_] [ao_,.int]=λx=>kq_ x.1:=by kernel_rfl
noncomputable def c_85:Con prog:=av_ _ _ 85 [an_] [ao_,.int] _ x_85
noncomputable def mh_ (a0:ac_) (a1:aa_) (a2:Int):Option (Bool×Unit) :=
 ((ih_ a0 a1 a2).bind λv0 =>
 ((jx_ a0 a2 v0.1).bind λv1 =>
 (some ((decide (v1.1≤a0.2.2.2.2)),()))))
theorem x_141:au_ (P:=prog) (cxC [c_191,c_192] []) (.p .z (.p (.q [] .z .z) .z)) 141 [ap_,al_,.int] [.bool]=λx=>mh_ x.1 x.2.1 x.2.2.1:=by kernel_rfl
noncomputable def c_141:Con prog:=av_ _ _ 141 [ap_,al_,.int] [.bool] _ x_141
noncomputable def hw_ (a0:ac_):Option (Int×Unit) :=
 ((gc_ a0.1).bind λv0 =>
 (cond (v0.1 != 0)
 (some (v0.1,()))
 (((cond (decide (8<(a0.2.1.length:Int)))
 (some (true,()))
 (some ((decide (16<(a0.2.2.2.1.length:Int))),())))).bind λv1 =>
 (cond v1.1
 (some (2,()))
 ((af_ (ρ:=(Unit⊕(Int×Unit))) (λ(v2:(Int×Unit)) =>
 (cond (decide (v2.1<(a0.2.1.length:Int)))
 ((at? a0.2.1 v2.1).bind λv3 =>
 ((em_ v3).bind λv4 =>
 (cond (v4.1 != 0)
 (some (inr (inr (v4.1,()))))
 (some (inl ((w64 (v2.1+1)),()))))))
 (some (inr (inl ()))))) (0,())).bind λv5 =>
 (cd_ v5 (λv6=>(cond ((a0.2.2.1.length:Int) != (a0.2.1.length:Int))
 (some (12,()))
 ((af_ (ρ:=(Unit⊕(Int×Unit))) (λ(v8:(Int×Unit)) =>
 (cond (decide (v8.1<(a0.2.1.length:Int)))
 ((at? a0.2.1 v8.1).bind λv9 =>
 ((at? a0.2.2.1 v8.1).bind λv10 =>
 ((ew_ v9 v10).bind λv11 =>
 (cond (v11.1 != 0)
 (some (inr (inr (12,()))))
 (some (inl ((w64 (v8.1+1)),())))))))
 (some (inr (inl ()))))) (0,())).bind λv12 =>
 (cd_ v12 (λv13=>((af_ (ρ:=(Unit⊕(Int×Unit))) (λ(v15:(Int×Unit)) =>
 (cond (decide (v15.1<(a0.1.2.2.2.2.1.length:Int)))
 ((at? a0.1.2.2.2.2.1 v15.1).bind λv16 =>
 (cond (decide ((a0.2.1.length:Int)≤v16.2.2.1))
 (some (inr (inr (26,()))))
 (some (inl ((w64 (v15.1+1)),())))))
 (some (inr (inl ()))))) (0,())).bind λv17 =>
 (cd_ v17 (λv18=>((af_ (ρ:=(Unit⊕(Int×Unit))) (λ(v20:(Int×Unit)) =>
 (cond (decide (v20.1<(a0.2.2.2.1.length:Int)))
 ((at? a0.2.2.2.1 v20.1).bind λv21 =>
 ((mn_ a0 v20.1 v21).bind λv22 =>
 (cond (!v22.1)
 (some (inr (inr (40,()))))
 ((mm_ a0.1 v21.2.2.2.1).bind λv23 =>
 (cond (!v23.1)
 (some (inr (inr (25,()))))
 (some (inl ((w64 (v20.1+1)),()))))))))
 (some (inr (inl ()))))) (0,())).bind λv24 =>
 (cd_ v24 (λv25=>((cb_ a0.2.2.2.2 1 100).bind λv27 =>
 (cond (!v27.1)
 (some (1,()))
 (some (0,())))))
 (λv26=>(some v26)))))
 (λv19=>(some v19)))))
 (λv14=>(some v14))))))
 (λv7=>(some v7))))))))
theorem x_27:au_ (P:=prog) (cxC [c_58,c_59,c_60,c_61,c_62,c_63] []) (.p .z (.p .z (.p (.j0 [.v 28 .bool] .z .z) (.p (.p .z (.ls [.v 32 .int] [] [] 0 .z)) (.p .z (.p (.p .z (.ls [.v 52 .int] [] [] 2 .z)) (.p (.p .z (.ls [.v 70 .int] [] [] 4 .z)) (.p (.p .z (.ls [.v 84 .int] [] [] 6 .z)) .z)))))))) 27 [ap_] [.int]=λx=>hw_ x.1:=by kernel_rfl
noncomputable def c_27:Con prog:=av_ _ _ 27 [ap_] [.int] _ x_27
noncomputable def fw_ (a0:br_) (a1:(List Int)) (a2:ab_) (a3:Int):Option ((List Int)×Bool×Int×Unit) :=
 ((ig_ a0 a1 a2 a3).bind λv0 =>
 (cond (v0.2.1 != 0)
 (some ([],(false,(v0.2.1,()))))
 ((er_ v0.1 a2 a3).bind λv1 =>
 (some (v1.1,(v1.2.1,(0,())))))))
theorem x_10:au_ (P:=prog) (cxC [c_25,c_26] []) .z 10 [bw_,(.list .int),ag_,.int] [(.list .int),.bool,.int]=λx=>fw_ x.1 x.2.1 x.2.2.1 x.2.2.2.1:=by kernel_rfl
noncomputable def c_10:Con prog:=av_ _ _ 10 [bw_,(.list .int),ag_,.int] [(.list .int),.bool,.int] _ x_10
end
section
set_option maxRecDepth 100000
set_option maxHeartbeats 0
noncomputable def ko_ (a0:ac_):Option (aa_×Int×Unit) :=
 ((gm_ a0).bind λv0 =>
 (cond (v0.1 != 0)
 (some ((([],([],[])),[]),(v0.1,())))
 ((kq_ a0.1).bind λv1 =>
 (cond (v1.2.1 != 0)
 (some ((([],([],[])),[]),(v1.2.1,())))
 ((mk? (α:=Bool) (a0.2.2.2.1.length:Int) false).bind λv2 =>
 ((jr_ a0 (v1.1,v2)).bind λv3 =>
 (some (v3.1,(0,())))))))))
theorem x_42:au_ (P:=prog) (cxC [c_17,c_85,c_86] []) .z 42 [ap_] [al_,.int]=λx=>ko_ x.1:=by kernel_rfl
noncomputable def c_42:Con prog:=av_ _ _ 42 [ap_] [al_,.int] _ x_42
noncomputable def hh_ (a0:ac_) (a1:aa_) (a2:ai_):Option (Bool×Unit) :=
 ((hc_ a0.1 a1.1 a2).bind λv0 =>
 (cond (!v0.2.1)
 (some (false,()))
 (cond (a2.2.1 != 4)
 (some (true,()))
 ((at? a0.1.2.2.2.2.1 a2.2.2).bind λv1 =>
 (cond (decide (v1.2.2.1<0))
 (some (true,()))
 ((at? a0.1.2.2.2.2.1 a2.2.2).bind λv2 =>
 ((mh_ a0 a1 v2.2.2.1).bind λv3 =>
 (some (v3.1,())))))))))
theorem x_89:au_ (P:=prog) (cxC [c_90,c_141] []) (.p .z (.p .z (.p .z (.p (.q [] .z .z) .z)))) 89 [ap_,al_,ar_] [.bool]=λx=>hh_ x.1 x.2.1 x.2.2.1:=by kernel_rfl
noncomputable def c_89:Con prog:=av_ _ _ 89 [ap_,al_,ar_] [.bool] _ x_89
noncomputable def jt_ (a0:ac_):Option (aa_×Int×Unit) :=
 ((hw_ a0).bind λv0 =>
 (cond (v0.1 != 0)
 (some ((([],([],[])),[]),(v0.1,())))
 ((jq_ a0.1).bind λv1 =>
 (cond (v1.2.1 != 0)
 (some ((([],([],[])),[]),(v1.2.1,())))
 ((mk? (α:=Bool) (a0.2.2.2.1.length:Int) false).bind λv2 =>
 ((af_ (ρ:=((List Bool)×((List ab_)×Unit))) (λ(v3:(Int×((List Bool)×((List ab_)×Unit)))) =>
 (cond (decide (v3.1<(a0.2.2.2.1.length:Int)))
 ((((at? a0.2.2.2.1 v3.1).bind λv4 =>
 ((gb_ a0.1 v1.1 v4.2.2.2.1).bind λv5 =>
 (((cond v5.1
 ((bm_ v1.1.2.2 v4.2.1).bind λv6 =>
 (cond v6.1
 ((at? v3.2.1 v3.1).bind λv7 =>
 ((at? v3.2.1 v3.1).bind λv8 =>
 (some ((!v8),()))))
 (some (false,()))))
 (some (false,())))).bind λv9 =>
 (cond v9.1
 ((at? v3.2.1 v3.1).bind λv10 =>
 ((at? v3.2.1 v3.1).bind λv11 =>
 (some ((v3.2.1.set v3.1.toNat true),((aa9 v3.2.2.1 v4.2.2.1),())))))
 (some (v3.2.1,(v3.2.2.1,())))))))).bind λv12 =>
 (some (inl ((w64 (v3.1+1)),(v12.1,(v12.2.1,()))))))
 (some (inr (v3.2.1,(v3.2.2.1,())))))) (0,(v2,([],())))).bind λv13 =>
 ((push? (α:=Int) [] v1.1.1).bind λv14 =>
 ((push? (α:=Int) [] v1.1.2.1).bind λv15 =>
 ((push? (α:=Int) [] v1.1.2.2).bind λv16 =>
 ((push? (α:=Bool) [] v13.1).bind λv17 =>
 (some (((v14,(v15,v16)),v17),(0,())))))))))))))
theorem x_11:au_ (P:=prog) (cxI (λk=>cond (Nat.beq k 29) (.p .z (.lp [.v 12 .int] [] [.o (.c (.s 0) 15) .bool,.m (.c (.s 0) 16) .int .int] 0 (.p .z (.p .z (.j0 [.o (.c (.s 0) 15) .bool,.m (.c (.s 0) 16) .int .int] (.p .z (.p .z (.j0 [.v 55 .bool] .z .z))) .z))))) (.z)) (λk=>Nat.beq k 27||Nat.beq k 28||Nat.beq k 66||Nat.beq k 67||Nat.beq k 68||Nat.beq k 69||false) (cxC [c_27,c_28,c_66,c_67] [ay2,cp_69]) 3) .z 11 [ap_] [al_,.int]=λx=>jt_ x.1:=by kernel_rfl
noncomputable def c_11:Con prog:=av_ _ _ 11 [ap_] [al_,.int] _ x_11
noncomputable def ez_ (a0:ac_) (a1:aa_):Option (Int×Unit) :=
 ((hw_ a0).bind λv0 =>
 (cond (v0.1 != 0)
 (some (v0.1,()))
 ((ca_ a0.1 a1.1).bind λv1 =>
 (cond (v1.1 != 0)
 (some (v1.1,()))
 (cond ((a1.2.length:Int) != (a0.2.2.2.1.length:Int))
 (some (28,()))
 (some (0,())))))))
theorem x_73:au_ (P:=prog) (cxC [c_27,cd8] []) .z 73 [ap_,al_] [.int]=λx=>ez_ x.1 x.2.1:=by kernel_rfl
noncomputable def c_73:Con prog:=av_ _ _ 73 [ap_,al_] [.int] _ x_73
end
section
set_option maxRecDepth 100000
set_option maxHeartbeats 0
noncomputable def kn_ (a0:ac_) (a1:aa_):Option ((List ai_)×Unit) :=
 ((fn_ a0.1 a1.1).bind λv0 =>
 ((af_ (ρ:=((List ai_)×Unit)) (λ(v1:((List ai_)×(Int×Unit))) =>
 (cond (decide (v1.2.1<(v0.1.length:Int)))
 ((((at? v0.1 v1.2.1).bind λv2 =>
 ((hh_ a0 a1 v2).bind λv3 =>
 (cond v3.1
 ((at? v0.1 v1.2.1).bind λv4 =>
 ((push? (α:=ai_) v1.1 [v4]).bind λv5 =>
 (some (v5,()))))
 (some (v1.1,())))))).bind λv6 =>
 (some (inl (v6.1,((w64 (v1.2.1+1)),())))))
 (some (inr (v1.1,()))))) ([],(0,()))).bind λv7 =>
 (some (v7.1,()))))
theorem x_44:au_ (P:=prog) (cxC [c_88,c_89] []) (.p .z (.p .z (.p .z (.p (.p .z (.lp [.r 5 ar_ 65,.v 7 .int] [.r 5 ar_ 65] [] 0 (.p .z (.j0 [.r 5 ar_ 65] (.p (.q [] .z .z) .z) .z)))) .z)))) 44 [ap_,al_] [(.list ar_)]=λx=>kn_ x.1 x.2.1:=by kernel_rfl
noncomputable def c_44:Con prog:=av_ _ _ 44 [ap_,al_] [(.list ar_)] _ x_44
noncomputable def jd_ (a0:ac_) (a1:aa_) (a2:ai_):Option (aa_×Int×Unit) :=
 ((ez_ a0 a1).bind λv0 =>
 (cond (v0.1 != 0)
 (cond (v0.1 != 0)
 (some ((([],([],[])),[]),(v0.1,())))
 none)
 ((push? (α:=Bool) [] a1.2).bind λv1 =>
 (((((cond (a2.2.1==4)
 ((cb_ a2.2.2 0 (w64 ((a0.1.2.2.2.2.1.length:Int) - 1))).bind λv2 =>
 (cond v2.1
 ((at? a0.1.2.2.2.2.1 a2.2.2).bind λv3 =>
 (cond (decide (v3.2.2.1<0))
 (some ((!true),([],())))
 ((((af_ (ρ:=((List Int)×((List ak_)×Unit))) (λ(v4:((List Int)×((List ak_)×(Int×Unit)))) =>
 (cond (decide (v4.2.2.1<(a0.2.2.2.1.length:Int)))
 ((((at? a0.2.2.2.1 v4.2.2.1).bind λv5 =>
 (((cond (v5.2.2.1==v3.2.2.1)
 ((at? v1 v4.2.2.1).bind λv6 =>
 ((at? v1 v4.2.2.1).bind λv7 =>
 (some (v7,()))))
 (some (false,())))).bind λv8 =>
 (cond v8.1
 ((push? (α:=Int) v4.1 [v4.2.2.1]).bind λv9 =>
 ((push? (α:=ak_) v4.2.1 [v5.2.2.2.2]).bind λv10 =>
 (some (v9,(v10,())))))
 (some (v4.1,(v4.2.1,()))))))).bind λv11 =>
 (some (inl (v11.1,(v11.2.1,((w64 (v4.2.2.1+1)),()))))))
 (some (inr (v4.1,(v4.2.1,())))))) ([],([],(0,())))).bind λv12 =>
 ((at? a0.2.1 v3.2.2.1).bind λv13 =>
 ((ck_ v13 v12.2.1).bind λv14 =>
 (((cond (v14.2.1==0)
 (some ((decide (v14.1≤a0.2.2.2.2)),()))
 (some (false,())))).bind λv15 =>
 (cond v15.1
 (some ((fh_ (fh_ [] v3.2.2.1 2) v3.2.2.1 1),()))
 (some ((fh_ [] v3.2.2.1 2),())))))))).bind λv16 =>
 (some ((!((dm_ 0 v16.1 v3.2.2.1)==1)),(v16.1,()))))))
 (some (false,([],())))))
 (some (false,([],()))))).bind λv17 =>
 (cond v17.1
 (some ((!false),(v1,(v17.2.1,((a1.1.1,(a1.1.2.1,(a1.1.2.2,()))),())))))
 ((fz_ a0.1 a1.1 a2).bind λv18 =>
 (cond (v18.2.1 != 0)
 (some ((!false),(v1,(v17.2.1,((a1.1.1,(a1.1.2.1,(a1.1.2.2,()))),())))))
 ((af_ (ρ:=((List Bool)×((List ab_)×Unit))) (λ(v19:(Int×((List Bool)×((List ab_)×Unit)))) =>
 (cond (decide (v19.1<(a0.2.2.2.1.length:Int)))
 ((((at? a0.2.2.2.1 v19.1).bind λv20 =>
 ((gb_ a0.1 v18.1 v20.2.2.2.1).bind λv21 =>
 (((cond v21.1
 ((bm_ v18.1.2.2 v20.2.1).bind λv22 =>
 (cond v22.1
 ((at? v19.2.1 v19.1).bind λv23 =>
 ((at? v19.2.1 v19.1).bind λv24 =>
 (some ((!v24),()))))
 (some (false,()))))
 (some (false,())))).bind λv25 =>
 (cond v25.1
 ((at? v19.2.1 v19.1).bind λv26 =>
 ((at? v19.2.1 v19.1).bind λv27 =>
 (some ((v19.2.1.set v19.1.toNat true),((aa9 v19.2.2.1 v20.2.2.1),())))))
 (some (v19.2.1,(v19.2.2.1,())))))))).bind λv28 =>
 (some (inl ((w64 (v19.1+1)),(v28.1,(v28.2.1,()))))))
 (some (inr (v19.2.1,(v19.2.2.1,())))))) (0,(v1,(v17.2.1,())))).bind λv29 =>
 (some ((!true),(v29.1,(v29.2.1,((v18.1.1,(v18.1.2.1,(v18.1.2.2,()))),()))))))))))).bind λv30 =>
 (cond v30.1
 (some ((([],([],[])),[]),(29,())))
 ((push? (α:=Int) [] v30.2.2.2.1.1).bind λv31 =>
 ((push? (α:=Int) [] v30.2.2.2.1.2.1).bind λv32 =>
 ((push? (α:=Int) [] v30.2.2.2.1.2.2.1).bind λv33 =>
 ((push? (α:=Bool) [] v30.2.1).bind λv34 =>
 (some (((v31,(v32,v33)),v34),(0,()))))))))))))
theorem x_14:au_ (P:=prog) (cxI (λk=>cond (Nat.beq k 29) (.p .z (.lp [.v 12 .int] [] [.o (.c (.s 0) 15) .bool,.m (.c (.s 0) 16) .int .int] 0 (.p .z (.p .z (.j0 [.o (.c (.s 0) 15) .bool,.m (.c (.s 0) 16) .int .int] (.p .z (.p .z (.j0 [.v 55 .bool] .z .z))) .z))))) (cond (Nat.beq k 33) (.p .z (.p (.j0 [.v 38 .bool,.m (.c (.s 0) 16) .int .int] .z .z) .z)) (cond (Nat.beq k 74) (.p .z (.p .z (.j0 [.m (.c (.s 0) 16) .int .int] (.p .z (.p (.p .z (.p .z (.j0 [.v 37 .bool] .z .z))) .z)) .z))) (cond (Nat.beq k 181) (.p .z (.p (.p .z (.lp [.r 6 .int 3,.r 7 aq_ 79,.v 13 .int] [.r 6 .int 3,.r 7 aq_ 79] [] 0 (.p .z (.p .z (.j0 [.r 6 .int 3,.r 7 aq_ 79] (.p .z (.j0 [.v 26 .bool] .z .z)) .z))))) .z)) (.z))))) (λk=>Nat.beq k 19||Nat.beq k 63||Nat.beq k 66||Nat.beq k 67||Nat.beq k 68||Nat.beq k 69||Nat.beq k 73||Nat.beq k 75||false) (cxC [c_19,c_63,c_66,c_67,c_73,c_75] [ay2,cp_69]) 9) (.p .z (.p .z (.p .z (.p (.j0 [.v 23 .bool,.o (.c (.s 8) 15) .bool,.m (.c (.s 8) 16) .int .int,.b (.s 8) [.keep,.keep,.keep,.keep,.keep,.keep,.keep,.keep,.keep,.keep,.keep,.keep,.val (.list .int),.val (.list .int),.val (.list .int),.keep,.keep]] .z .z) .z)))) 14 [ap_,al_,ar_] [al_,.int]=λx=>jd_ x.1 x.2.1 x.2.2.1:=by kernel_rfl
noncomputable def c_14:Con prog:=av_ _ _ 14 [ap_,al_,ar_] [al_,.int] _ x_14
noncomputable def ra_ (a0:ac_) (a1:aa_):Option ((List ai_)×Int×Unit) :=
 ((ez_ a0 a1).bind λv0 =>
 (cond (v0.1 != 0)
 (cond (v0.1 != 0)
 (some ([],(v0.1,())))
 ((ga_ a0.1 a1.1).bind λv1 =>
 (cond (v1.2.1 != 0)
 (some ([],(v1.2.1,())))
 none)))
 ((push? (α:=Bool) [] a1.2).bind λv2 =>
 ((ga_ a0.1 a1.1).bind λv3 =>
 (cond (v3.2.1 != 0)
 (some ([],(v3.2.1,())))
 ((af_ (ρ:=((List ai_)×((List ab_)×Unit))) (λ(v4:((List ai_)×(Int×((List ab_)×Unit)))) =>
 (cond (decide (v4.2.1<(v3.1.length:Int)))
 ((((at? v3.1 v4.2.1).bind λv5 =>
 ((((push? (α:=Bool) [] v2).bind λv6 =>
 (((((cond (v5.2.1==4)
 ((cb_ v5.2.2 0 (w64 ((a0.1.2.2.2.2.1.length:Int) - 1))).bind λv7 =>
 (some (v7.1,())))
 (some (false,())))).bind λv8 =>
 (cond v8.1
 ((at? a0.1.2.2.2.2.1 v5.2.2).bind λv9 =>
 (((cond (decide (v9.2.2.1<0))
 (some (v4.2.2.1,()))
 (((cond ((dm_ 0 v4.2.2.1 v9.2.2.1)==0)
 ((af_ (ρ:=((List Int)×((List ak_)×Unit))) (λ(v10:((List Int)×((List ak_)×(Int×Unit)))) =>
 (cond (decide (v10.2.2.1<(a0.2.2.2.1.length:Int)))
 ((((at? a0.2.2.2.1 v10.2.2.1).bind λv11 =>
 (((cond (v11.2.2.1==v9.2.2.1)
 ((at? v2 v10.2.2.1).bind λv12 =>
 ((at? v2 v10.2.2.1).bind λv13 =>
 (some (v13,()))))
 (some (false,())))).bind λv14 =>
 (cond v14.1
 ((push? (α:=Int) v10.1 [v10.2.2.1]).bind λv15 =>
 ((push? (α:=ak_) v10.2.1 [v11.2.2.2.2]).bind λv16 =>
 (some (v15,(v16,())))))
 (some (v10.1,(v10.2.1,()))))))).bind λv17 =>
 (some (inl (v17.1,(v17.2.1,((w64 (v10.2.2.1+1)),()))))))
 (some (inr (v10.1,(v10.2.1,())))))) ([],([],(0,())))).bind λv18 =>
 ((at? a0.2.1 v9.2.2.1).bind λv19 =>
 ((ck_ v19 v18.2.1).bind λv20 =>
 (((cond (v20.2.1==0)
 (some ((decide (v20.1≤a0.2.2.2.2)),()))
 (some (false,())))).bind λv21 =>
 (cond v21.1
 (some ((fh_ (fh_ v4.2.2.1 v9.2.2.1 2) v9.2.2.1 1),()))
 (some ((fh_ v4.2.2.1 v9.2.2.1 2),())))))))
 (some (v4.2.2.1,())))).bind λv22 =>
 (some (v22.1,()))))).bind λv23 =>
 (some (v23.1,((fh_ [] v9.2.2.1 (dm_ 0 v23.1 v9.2.2.1)),())))))
 (some (v4.2.2.1,([],())))))).bind λv24 =>
 (((((cond (v5.2.1==4)
 ((cb_ v5.2.2 0 (w64 ((a0.1.2.2.2.2.1.length:Int) - 1))).bind λv25 =>
 (cond v25.1
 ((at? a0.1.2.2.2.2.1 v5.2.2).bind λv26 =>
 (cond (decide (v26.2.2.1<0))
 (some ((!true),(v24.2.1,())))
 (((cond ((dm_ 0 v24.2.1 v26.2.2.1)==0)
 ((af_ (ρ:=((List Int)×((List ak_)×Unit))) (λ(v27:((List Int)×((List ak_)×(Int×Unit)))) =>
 (cond (decide (v27.2.2.1<(a0.2.2.2.1.length:Int)))
 ((((at? a0.2.2.2.1 v27.2.2.1).bind λv28 =>
 (((cond (v28.2.2.1==v26.2.2.1)
 ((at? v6 v27.2.2.1).bind λv29 =>
 ((at? v6 v27.2.2.1).bind λv30 =>
 (some (v30,()))))
 (some (false,())))).bind λv31 =>
 (cond v31.1
 ((push? (α:=Int) v27.1 [v27.2.2.1]).bind λv32 =>
 ((push? (α:=ak_) v27.2.1 [v28.2.2.2.2]).bind λv33 =>
 (some (v32,(v33,())))))
 (some (v27.1,(v27.2.1,()))))))).bind λv34 =>
 (some (inl (v34.1,(v34.2.1,((w64 (v27.2.2.1+1)),()))))))
 (some (inr (v27.1,(v27.2.1,())))))) ([],([],(0,())))).bind λv35 =>
 ((at? a0.2.1 v26.2.2.1).bind λv36 =>
 ((ck_ v36 v35.2.1).bind λv37 =>
 (((cond (v37.2.1==0)
 (some ((decide (v37.1≤a0.2.2.2.2)),()))
 (some (false,())))).bind λv38 =>
 (cond v38.1
 (some ((fh_ (fh_ v24.2.1 v26.2.2.1 2) v26.2.2.1 1),()))
 (some ((fh_ v24.2.1 v26.2.2.1 2),())))))))
 (some (v24.2.1,())))).bind λv39 =>
 (some ((!((dm_ 0 v39.1 v26.2.2.1)==1)),(v39.1,()))))))
 (some (false,(v24.2.1,())))))
 (some (false,(v24.2.1,()))))).bind λv40 =>
 (cond v40.1
 (some ((!false),(v6,(v40.2.1,((a1.1.1,(a1.1.2.1,(a1.1.2.2,()))),())))))
 ((fz_ a0.1 a1.1 v5).bind λv41 =>
 (cond (v41.2.1 != 0)
 (some ((!false),(v6,(v40.2.1,((a1.1.1,(a1.1.2.1,(a1.1.2.2,()))),())))))
 ((af_ (ρ:=((List Bool)×((List ab_)×Unit))) (λ(v42:(Int×((List Bool)×((List ab_)×Unit)))) =>
 (cond (decide (v42.1<(a0.2.2.2.1.length:Int)))
 ((((at? a0.2.2.2.1 v42.1).bind λv43 =>
 ((gb_ a0.1 v41.1 v43.2.2.2.1).bind λv44 =>
 (((cond v44.1
 ((bm_ v41.1.2.2 v43.2.1).bind λv45 =>
 (cond v45.1
 ((at? v42.2.1 v42.1).bind λv46 =>
 ((at? v42.2.1 v42.1).bind λv47 =>
 (some ((!v47),()))))
 (some (false,()))))
 (some (false,())))).bind λv48 =>
 (cond v48.1
 ((at? v42.2.1 v42.1).bind λv49 =>
 ((at? v42.2.1 v42.1).bind λv50 =>
 (some ((v42.2.1.set v42.1.toNat true),((aa9 v42.2.2.1 v43.2.2.1),())))))
 (some (v42.2.1,(v42.2.2.1,())))))))).bind λv51 =>
 (some (inl ((w64 (v42.1+1)),(v51.1,(v51.2.1,()))))))
 (some (inr (v42.2.1,(v42.2.2.1,())))))) (0,(v6,(v40.2.1,())))).bind λv52 =>
 (some ((!true),(v52.1,(v52.2.1,((v41.1.1,(v41.1.2.1,(v41.1.2.2,()))),()))))))))))).bind λv53 =>
 (cond v53.1
 (some (false,(v24.1,())))
 (some (true,(v24.1,())))))))).bind λv54 =>
 (cond v54.1
 ((push? (α:=ai_) v4.1 [v5]).bind λv55 =>
 (some (v55,(v54.2.1,()))))
 (some (v4.1,(v54.2.1,()))))))).bind λv56 =>
 (some (inl (v56.1,((w64 (v4.2.1+1)),(v56.2.1,()))))))
 (some (inr (v4.1,(v4.2.2.1,())))))) ([],(0,([],())))).bind λv57 =>
 (some (v57.1,(0,())))))))))
theorem x_96:au_ (P:=prog) (cxI (λk=>cond (Nat.beq k 29) (.p .z (.lp [.v 12 .int] [] [.o (.c (.s 0) 15) .bool,.m (.c (.s 0) 16) .int .int] 0 (.p .z (.p .z (.j0 [.o (.c (.s 0) 15) .bool,.m (.c (.s 0) 16) .int .int] (.p .z (.p .z (.j0 [.v 55 .bool] .z .z))) .z))))) (cond (Nat.beq k 33) (.p .z (.p (.j0 [.v 38 .bool,.m (.c (.s 0) 16) .int .int] .z .z) .z)) (cond (Nat.beq k 74) (.p .z (.p .z (.j0 [.m (.c (.s 0) 16) .int .int] (.p .z (.p (.p .z (.p .z (.j0 [.v 37 .bool] .z .z))) .z)) .z))) (cond (Nat.beq k 153) (.p .z (.p .z (.j0 [.m (.c (.s 0) 16) .int .int,.m (.s 23) .int .int] (.j0 [.v 41 .bool] .z (.p (.p .z (.j0 [.m (.c (.s 0) 16) .int .int] .z .z)) .z)) (.p (.j0 [.v 70 .bool,.o (.s 21) .bool,.m (.s 23) .int .int,.b (.s 5) [.keep,.keep,.keep,.keep,.keep,.keep,.keep,.keep,.keep,.keep,.keep,.keep,.val (.list .int),.val (.list .int),.val (.list .int),.keep,.keep]] .z .z) .z)))) (cond (Nat.beq k 181) (.p .z (.p (.p .z (.lp [.r 6 .int 3,.r 7 aq_ 79,.v 13 .int] [.r 6 .int 3,.r 7 aq_ 79] [] 0 (.p .z (.p .z (.j0 [.r 6 .int 3,.r 7 aq_ 79] (.p .z (.j0 [.v 26 .bool] .z .z)) .z))))) .z)) (.z)))))) (λk=>Nat.beq k 19||Nat.beq k 63||Nat.beq k 66||Nat.beq k 67||Nat.beq k 69||Nat.beq k 73||Nat.beq k 75||Nat.beq k 152||false) (cxC [c_19,c_63,c_66,c_67,c_73,c_75,c_152] [cp_69]) 9) (.p .z (.p .z (.p .z (.p .z (.p .z (.p (.p .z (.lp [.r 4 ar_ 65,.v 32 .int] [.r 4 ar_ 65] [.m (.c (.s 6) 16) .int .int] 0 (.p .z (.p .z (.j0 [.r 4 ar_ 65,.m (.c (.s 6) 16) .int .int] (.p .z (.j0 [.v 39 .bool,.m (.c (.s 6) 16) .int .int] .z .z)) .z))))) .z)))))) 96 [ap_,al_] [(.list ar_),.int]=λx=>ra_ x.1 x.2.1:=by kernel_rfl
noncomputable def c_96:Con prog:=av_ _ _ 96 [ap_,al_] [(.list ar_),.int] _ x_96
end
section
set_option maxRecDepth 100000
set_option maxHeartbeats 0
noncomputable def gd_ (a0:ac_):Option (br_×Int×Unit) :=
 ((ko_ a0).bind λv0 =>
 (cond (v0.2.1 != 0)
 (some (([],[]),(v0.2.1,())))
 ((jb_ v0.1).bind λv1 =>
 ((af_ (ρ:=(((List ((List UInt8)×Int))×(((List aa_)×((List (List ad_))×Unit))×(((List aa_)×((List (List ad_))×Unit))×Unit)))⊕(br_×(Int×Unit)))) (λ(v2:(Int×((List ((List UInt8)×Int))×(((List aa_)×((List (List ad_))×Unit))×(((List aa_)×((List (List ad_))×Unit))×Unit))))) =>
 (cond (decide (v2.1<(v2.2.2.2.1.1.length:Int)))
 ((at? v2.2.2.2.1.1 v2.1).bind λv3 =>
 ((at? v2.2.2.2.1.1 v2.1).bind λv4 =>
 ((kn_ a0 v4).bind λv5 =>
 ((af_ (ρ:=(((List ad_)×((List ((List UInt8)×Int))×(((List aa_)×((List (List ad_))×Unit))×(((List aa_)×Unit)×Unit))))⊕((Int×((List ((List UInt8)×Int))×(((List aa_)×((List (List ad_))×Unit))×(((List aa_)×((List (List ad_))×Unit))×Unit))))⊕(((List ((List UInt8)×Int))×(((List aa_)×((List (List ad_))×Unit))×(((List aa_)×((List (List ad_))×Unit))×Unit)))⊕(br_×(Int×Unit)))))) (λ(v6:((List ad_)×(Int×((List ((List UInt8)×Int))×(((List aa_)×((List (List ad_))×Unit))×(((List aa_)×Unit)×Unit)))))) =>
 (cond (decide (v6.2.1<(v5.1.length:Int)))
 ((at? v6.2.2.2.2.1.1 v2.1).bind λv7 =>
 ((at? v6.2.2.2.2.1.1 v2.1).bind λv8 =>
 ((at? v5.1 v6.2.1).bind λv9 =>
 ((mi_ a0 v8 v9).bind λv10 =>
 ((jb_ v10.1).bind λv11 =>
 (((cond (!(lu_ v6.2.2.1 v11.1))
 (cond ((v6.2.2.2.2.1.1.length:Int)==3000)
 (some (inr (inr (inr (inr (inr (([],[]),(2,()))))))))
 ((jb_ v10.1).bind λv12 =>
 ((push? (α:=aa_) v6.2.2.2.2.1.1 [v10.1]).bind λv13 =>
 (some (inl ((v6.2.2.2.2.1.1.length:Int),((fh_ v6.2.2.1 v12.1 (v6.2.2.2.2.1.1.length:Int)),((v6.2.2.2.1.1,(v6.2.2.2.1.2.1,())),((v13,()),())))))))))
 (some (inl ((dm_ 0 v6.2.2.1 v11.1),(v6.2.2.1,((v6.2.2.2.1.1,(v6.2.2.2.1.2.1,())),((v6.2.2.2.2.1.1,()),())))))))).bind λv14 =>
 (cd_ v14 (λv15=>((at? v5.1 v6.2.1).bind λv17 =>
 ((push? (α:=ad_) v6.1 [(v17,v15.1)]).bind λv18 =>
 (some (inl (v18,((w64 (v6.2.1+1)),(v15.2.1,((v15.2.2.1.1,(v15.2.2.1.2.1,())),((v15.2.2.2.1.1,()),()))))))))))
 (λv16=>(some v16)))))))))
 (some (inr (inl (v6.1,(v6.2.2.1,((v6.2.2.2.1.1,(v6.2.2.2.1.2.1,())),((v6.2.2.2.2.1.1,()),()))))))))) ([],(0,(v2.2.1,((v2.2.2.1.1,(v2.2.2.1.2.1,())),((v2.2.2.2.1.1,()),())))))).bind λv19 =>
 (cd_ v19 (λv20=>((push? (α:=(List ad_)) v2.2.2.2.1.2.1 ([v20.1]:List (List ad_))).bind λv22 =>
 (some (inl ((w64 (v2.1+1)),(v20.2.1,((v20.2.2.1.1,(v20.2.2.1.2.1,())),((v20.2.2.2.1.1,(v22,())),()))))))))
 (λv21=>(some v21)))))))
 (some (inr (inl (v2.2.1,((v2.2.2.1.1,(v2.2.2.1.2.1,())),((v2.2.2.2.1.1,(v2.2.2.2.1.2.1,())),())))))))) (0,((fh_ [] v1.1 0),(([],([],())),(([v0.1],([],())),()))))).bind λv23 =>
 (cd_ v23 (λv24=>(some ((v24.2.2.1.1,v24.2.2.1.2.1),(0,()))))
 (λv25=>(some v25)))))))
theorem x_18:au_ (P:=prog) (cxC [c_42,c_43,c_44,c_45] []) (.p .z (.p .z (.p .z (.p .z (.p .z (.p (.p .z (.ls [.v 8 .int] [] [.m (.s 7) .str .int,.b (.s 2) [.val (.list al_),.val (.list (.list cm_))],.b (.s 6) [.row al_ 58,.row (.list cm_) 62]] 0 (.p .z (.p (.p .z (.p .z (.p (.p .z (.ls [.r 10 cm_ 67,.v 11 .int] [.r 10 cm_ 67] [.m (.s 7) .str .int,.b (.s 2) [.val (.list al_),.val (.list (.list cm_))],.b (.s 6) [.row al_ 58,.keep]] 2 (.p .z (.p (.p .z (.p .z (.js [.v 13 .int,.m (.s 7) .str .int,.b (.s 2) [.val (.list al_),.val (.list (.list cm_))],.b (.s 6) [.row al_ 58,.keep]] .z .z))) .z)))) .z))) .z)))) .z)))))) 18 [ap_] [bw_,.int]=λx=>gd_ x.1:=by kernel_rfl
noncomputable def c_18:Con prog:=av_ _ _ 18 [ap_] [bw_,.int] _ x_18
noncomputable def ev_ (a0:ac_):Option (br_×Int×Unit) :=
 ((jt_ a0).bind λv0 =>
 (cond (v0.2.1 != 0)
 (some (([],[]),(v0.2.1,())))
 ((((ln_ v0.1).bind λv1 =>
 (some ((fh_ [] v1.1 0),((([]++[v0.1]),()),()))))).bind λv2 =>
 ((af_ (ρ:=(((List ((List UInt8)×Int))×(((List aa_)×((List (List ad_))×Unit))×(((List aa_)×((List (List ad_))×Unit))×Unit)))⊕(br_×(Int×Unit)))) (λ(v3:(Int×((List ((List UInt8)×Int))×(((List aa_)×((List (List ad_))×Unit))×(((List aa_)×((List (List ad_))×Unit))×Unit))))) =>
 (cond (decide (v3.1<(v3.2.2.2.1.1.length:Int)))
 ((at? v3.2.2.2.1.1 v3.1).bind λv4 =>
 ((at? v3.2.2.2.1.1 v3.1).bind λv5 =>
 ((ra_ a0 v5).bind λv6 =>
 (cond (v6.2.1 != 0)
 (some (inr (inr (([],[]),(v6.2.1,())))))
 ((af_ (ρ:=(((List ad_)×((List ((List UInt8)×Int))×(((List aa_)×((List (List ad_))×Unit))×(((List aa_)×Unit)×Unit))))⊕((Int×((List ((List UInt8)×Int))×(((List aa_)×((List (List ad_))×Unit))×(((List aa_)×((List (List ad_))×Unit))×Unit))))⊕(((List ((List UInt8)×Int))×(((List aa_)×((List (List ad_))×Unit))×(((List aa_)×((List (List ad_))×Unit))×Unit)))⊕(br_×(Int×Unit)))))) (λ(v7:((List ad_)×(Int×((List ((List UInt8)×Int))×(((List aa_)×((List (List ad_))×Unit))×(((List aa_)×Unit)×Unit)))))) =>
 (cond (decide (v7.2.1<(v6.1.length:Int)))
 ((at? v6.1 v7.2.1).bind λv8 =>
 ((at? v7.2.2.2.2.1.1 v3.1).bind λv9 =>
 ((at? v7.2.2.2.2.1.1 v3.1).bind λv10 =>
 ((jd_ a0 v10 v8).bind λv11 =>
 (cond (v11.2.1 != 0)
 (some (inr (inr (inr (inr (([],[]),(v11.2.1,())))))))
 ((((ln_ v11.1).bind λv12 =>
 (cond (lu_ v7.2.2.1 v12.1)
 (some ((dm_ 0 v7.2.2.1 v12.1),(true,(v7.2.2.1,((v7.2.2.2.2.1.1,()),())))))
 (cond ((v7.2.2.2.2.1.1.length:Int)==3000)
 (some (0,(false,(v7.2.2.1,((v7.2.2.2.2.1.1,()),())))))
 ((push? (α:=aa_) v7.2.2.2.2.1.1 [v11.1]).bind λv13 =>
 (some ((v7.2.2.2.2.1.1.length:Int),(true,((fh_ v7.2.2.1 v12.1 (v7.2.2.2.2.1.1.length:Int)),((v13,()),())))))))))).bind λv14 =>
 (cond (!v14.2.1)
 (some (inr (inr (inr (inr (([],[]),(2,())))))))
 ((push? (α:=ad_) v7.1 [(v8,v14.1)]).bind λv15 =>
 (some (inl (v15,((w64 (v7.2.1+1)),(v14.2.2.1,((v7.2.2.2.1.1,(v7.2.2.2.1.2.1,())),((v14.2.2.2.1.1,()),())))))))))))))))
 (some (inr (inl (v7.1,(v7.2.2.1,((v7.2.2.2.1.1,(v7.2.2.2.1.2.1,())),((v7.2.2.2.2.1.1,()),()))))))))) ([],(0,(v3.2.1,((v3.2.2.1.1,(v3.2.2.1.2.1,())),((v3.2.2.2.1.1,()),())))))).bind λv16 =>
 (cd_ v16 (λv17=>((push? (α:=(List ad_)) v3.2.2.2.1.2.1 ([v17.1]:List (List ad_))).bind λv19 =>
 (some (inl ((w64 (v3.1+1)),(v17.2.1,((v17.2.2.1.1,(v17.2.2.1.2.1,())),((v17.2.2.2.1.1,(v19,())),()))))))))
 (λv18=>(some v18))))))))
 (some (inr (inl (v3.2.1,((v3.2.2.1.1,(v3.2.2.1.2.1,())),((v3.2.2.2.1.1,(v3.2.2.2.1.2.1,())),())))))))) (0,(v2.1,(([],([],())),((v2.2.1.1,([],())),()))))).bind λv20 =>
 (cd_ v20 (λv21=>(some ((v21.2.2.1.1,v21.2.2.1.2.1),(0,()))))
 (λv22=>(some v22)))))))
theorem x_50:au_ (P:=prog) (cxI (λk=>.z) (λk=>Nat.beq k 11||Nat.beq k 14||Nat.beq k 96||Nat.beq k 151||false) (cxC [c_11,c_14,c_96,c_151] []) 2) (.p .z (.p .z (.p .z (.p .z (.j0 [.m (.s 26) .str .int,.b (.s 6) [.row al_ 58,.keep,.keep]] .z (.p (.p .z (.ls [.v 7 .int] [] [.m (.s 26) .str .int,.b (.s 2) [.val (.list al_),.val (.list (.list cm_))],.b (.s 6) [.row al_ 58,.row (.list cm_) 62,.keep]] 0 (.p .z (.p (.p .z (.p .z (.p .z (.p (.p .z (.ls [.r 10 cm_ 67,.v 61 .int] [.r 10 cm_ 67] [.m (.s 26) .str .int,.b (.s 2) [.val (.list al_),.val (.list (.list cm_))],.b (.s 6) [.row al_ 58,.keep,.keep]] 2 (.p .z (.p .z (.p (.p .z (.p .z (.p .z (.j0 [.v 15 .int,.v 16 .bool,.m (.s 26) .str .int,.b (.s 6) [.row al_ 58,.keep,.keep]] .z .z)))) .z))))) .z)))) .z)))) .z)))))) 50 [ap_] [bw_,.int]=λx=>ev_ x.1:=by kernel_rfl
noncomputable def c_50:Con prog:=av_ _ _ 50 [ap_] [bw_,.int] _ x_50
end
section
set_option maxRecDepth 100000
set_option maxHeartbeats 0
noncomputable def kt_ (a0:ac_):Option (Bool×Unit) :=
 ((((lp_ a0).bind λv0 =>
 (cond v0.1
 (some (true,()))
 ((gm_ a0).bind λv1 =>
 (some ((v1.1 != 0),())))))).bind λv2 =>
 (cond v2.1
 ((lp_ a0).bind λv3 =>
 (some (v3.1,())))
 (((cond (decide (4<(a0.1.1.length:Int)))
 (some (true,()))
 (cond (decide (4<(a0.1.2.1.length:Int)))
 (some (true,()))
 (cond (decide (3<(a0.1.2.2.1.length:Int)))
 (some (true,()))
 (cond (decide (2<a0.1.2.2.2.2.2.2.1))
 (some (true,()))
 (cond (decide (6<(a0.1.2.2.2.2.1.length:Int)))
 (some (true,()))
 (cond (decide (4<(a0.1.2.2.2.2.2.1.length:Int)))
 (some (true,()))
 (cond (decide (5<(a0.2.2.2.1.length:Int)))
 (some (true,()))
 (some ((decide (3<(a0.2.1.length:Int))),())))))))))).bind λv4 =>
 (cond v4.1
 (some (true,()))
 ((gd_ a0).bind λv5 =>
 (cond (v5.2.1==2)
 (some (true,()))
 (some ((decide (200<(v5.1.1.length:Int))),()))))))))
theorem x_4:au_ (P:=prog) (cxC [c_16,c_17,c_18] []) (.p .z (.p .z (.p (.j0 [.v 14 .bool] .z .z) (.p (.j0 [.v 61 .bool] .z .z) .z)))) 4 [ap_] [.bool]=λx=>kt_ x.1:=by kernel_rfl
noncomputable def c_4:Con prog:=av_ _ _ 4 [ap_] [.bool] _ x_4
noncomputable def ij_ (a0:ac_):Option (br_×Int×Unit) :=
 ((ev_ a0).bind λv0 =>
 (some (v0.1,(v0.2.1,()))))
theorem x_22:au_ (P:=prog) (cxC [c_50] []) .z 22 [ap_] [bw_,.int]=λx=>ij_ x.1:=by kernel_rfl
noncomputable def c_22:Con prog:=av_ _ _ 22 [ap_] [bw_,.int] _ x_22
noncomputable def gs_ (a0:ac_):Option ((List Int)×Int×Unit) :=
 ((ev_ a0).bind λv0 =>
 (cond (v0.2.1 != 0)
 (cond (v0.2.1 != 0)
 (some ([],(v0.2.1,())))
 none)
 ((fv_ [(-1)] (v0.1.1.length:Int)).bind λv1 =>
 ((af_ (ρ:=((List Int)×((List Int)×Unit))) (λ(v2:((List Int)×(Int×((List Int)×Unit)))) =>
 (cond (decide (v2.2.1<(v0.1.1.length:Int)))
 ((((at? v0.1.1 v2.2.1).bind λv3 =>
 ((lm_ a0.1 v3.1).bind λv4 =>
 (((cond (v4.2.1==0)
 (some (v4.1,()))
 (some (false,())))).bind λv5 =>
 (cond v5.1
 ((at? v2.2.2.1 v2.2.1).bind λv6 =>
 ((at? v2.2.2.1 v2.2.1).bind λv7 =>
 ((push? (α:=Int) v2.1 [v2.2.1]).bind λv8 =>
 (some (v8,((v2.2.2.1.set v2.2.1.toNat 0),()))))))
 (some (v2.1,(v2.2.2.1,())))))))).bind λv9 =>
 (some (inl (v9.1,((w64 (v2.2.1+1)),(v9.2.1,()))))))
 (some (inr (v2.1,(v2.2.2.1,())))))) ([],(0,(v1,())))).bind λv10 =>
 ((mk? (α:=(List Int)) (v0.1.1.length:Int) []).bind λv11 =>
 ((af_ (ρ:=((List (List Int))×Unit)) (λ(v12:(Int×((List (List Int))×Unit))) =>
 (cond (decide (v12.1<(v0.1.2.length:Int)))
 ((at? v0.1.2 v12.1).bind λv13 =>
 ((af_ (ρ:=((List (List Int))×Unit)) (λ(v14:(Int×((List (List Int))×Unit))) =>
 (cond (decide (v14.1<(v13.length:Int)))
 ((((at? v13 v14.1).bind λv15 =>
 ((at? v14.2.1 v15.2).bind λv16 =>
 ((at? v14.2.1 v15.2).bind λv17 =>
 ((push? (α:=Int) v17 [v12.1]).bind λv18 =>
 ((at? v14.2.1 v15.2).bind λv19 =>
 (cond ((v15.2==v15.2)&&true)
 ((at? v14.2.1 v15.2).bind λv20 =>
 (some ((v14.2.1.set v15.2.toNat v18),())))
 none))))))).bind λv21 =>
 (some (inl ((w64 (v14.1+1)),(v21.1,())))))
 (some (inr (v14.2.1,()))))) (0,(v12.2.1,()))).bind λv22 =>
 (some (inl ((w64 (v12.1+1)),(v22.1,()))))))
 (some (inr (v12.2.1,()))))) (0,(v11,()))).bind λv23 =>
 ((af_ (ρ:=((List Int)×Unit)) (λ(v24:((List Int)×((List Int)×Unit))) =>
 (cond (decide (0<(v24.1.length:Int)))
 ((at? v24.1 0).bind λv25 =>
 ((at? v24.1 0).bind λv26 =>
 ((sub? v24.1 1 (v24.1.length:Int)).bind λv27 =>
 ((at? v23.1 v26).bind λv28 =>
 ((af_ (ρ:=((List Int)×((List Int)×Unit))) (λ(v29:((List Int)×(Int×((List Int)×Unit)))) =>
 (cond (decide (v29.2.1<(v28.length:Int)))
 ((((at? v28 v29.2.1).bind λv30 =>
 ((at? v29.2.2.1 v30).bind λv31 =>
 ((at? v29.2.2.1 v30).bind λv32 =>
 (cond (decide (v32<0))
 ((at? v29.2.2.1 v26).bind λv33 =>
 ((at? v29.2.2.1 v26).bind λv34 =>
 ((at? v29.2.2.1 v30).bind λv35 =>
 ((at? v29.2.2.1 v30).bind λv36 =>
 ((push? (α:=Int) v29.1 [v30]).bind λv37 =>
 (some (v37,((v29.2.2.1.set v30.toNat (w64 (v34+1))),()))))))))
 (some (v29.1,(v29.2.2.1,())))))))).bind λv38 =>
 (some (inl (v38.1,((w64 (v29.2.1+1)),(v38.2.1,()))))))
 (some (inr (v29.1,(v29.2.2.1,())))))) (v27,(0,(v24.2.1,())))).bind λv39 =>
 (some (inl (v39.1,(v39.2.1,())))))))))
 (some (inr (v24.2.1,()))))) (v10.1,(v10.2.1,()))).bind λv40 =>
 (some (v40.1,(0,()))))))))))
theorem x_23:au_ (P:=prog) (cxI (λk=>cond (Nat.beq k 97) (.p .z (.p .z (.p .z (.p (.p .z (.lp [.r 8 .int 3,.v 33 .int] [.r 8 .int 3] [.o (.s 27) .int] 0 (.p .z (.p .z (.j0 [.r 8 .int 3,.o (.s 27) .int] (.p .z (.p .z (.j0 [.v 50 .bool] .z .z))) .z))))) (.p .z (.p (.p .z (.lp [.v 69 .int] [] [.g (.s 13) (.list .int)] 2 (.p .z (.p .z (.p (.p .z (.p .z (.lp [.v 76 .int] [] [.g (.s 13) (.list .int)] 4 (.p .z (.p .z (.j0 [.g (.s 13) (.list .int)] .z .z)))))) .z))))) (.q [(.s 13)] (.lp [.r 8 .int 3] [] [.o (.s 27) .int] 6 (.p .z (.p .z (.p .z (.p .z (.lp [.r 8 .int 3,.v 110 .int] [.r 8 .int 3] [.o (.s 27) .int] 8 (.p .z (.p .z (.j0 [.r 8 .int 3,.o (.s 27) .int] .z .z))))))))) .z))))))) (.z)) (λk=>Nat.beq k 50||Nat.beq k 98||Nat.beq k 154||Nat.beq k 155||false) (cxR [rp_154] [c_50,c_98,c_155] []) 3) .z 23 [ap_] [(.list .int),.int]=λx=>gs_ x.1:=by kernel_rfl
noncomputable def c_23:Con prog:=av_ _ _ 23 [ap_] [(.list .int),.int] _ x_23
end
section
set_option maxRecDepth 100000
set_option maxHeartbeats 0
noncomputable def jp_ (a0:ac_):Option (br_×(List Int)×Int×Unit) :=
 ((ij_ a0).bind λv0 =>
 (cond (v0.2.1 != 0)
 (some (([],[]),([],(v0.2.1,()))))
 (cond (decide (300<(v0.1.1.length:Int)))
 (some (([],[]),([],(2,()))))
 ((gs_ a0).bind λv1 =>
 (cond (v1.2.1 != 0)
 (some (([],[]),([],(v1.2.1,()))))
 (some (v0.1,(v1.1,(0,())))))))))
theorem x_7:au_ (P:=prog) (cxC [c_22,c_23] []) .z 7 [ap_] [bw_,(.list .int),.int]=λx=>jp_ x.1:=by kernel_rfl
noncomputable def c_7:Con prog:=av_ _ _ 7 [ap_] [bw_,(.list .int),.int] _ x_7
end
section
set_option maxRecDepth 100000
set_option maxHeartbeats 0
noncomputable def gl_ (a0:ac_) (a1:ab_) (a2:Int):Option (Bool×Unit) :=
 ((((kt_ a0).bind λv0 =>
 (cond v0.1
 (some (true,()))
 (some ((decide (200<a2)),()))))).bind λv1 =>
 (cond v1.1
 ((cu_).bind λv2 =>
 (some (v2.1,())))
 ((mj_ a0).bind λv3 =>
 ((jp_ v3.1).bind λv4 =>
 (cond (v4.2.2.1 != 0)
 (cond ((v4.2.1.length:Int)==0)
 ((cu_).bind λv5 =>
 (some (v5.1,())))
 (some (false,())))
 (((cond (decide (100<(v4.1.1.length:Int)))
 (some (true,()))
 ((ji_ v4.1 v4.2.1).bind λv6 =>
 (some ((v6.1 != 0),()))))).bind λv7 =>
 (cond v7.1
 (cond (decide (100<(v4.1.1.length:Int)))
 ((cu_).bind λv8 =>
 (some (v8.1,())))
 ((kk_ v4.1).bind λv9 =>
 (cond v9.1
 ((cu_).bind λv10 =>
 (some (v10.1,())))
 (some (false,())))))
 ((fw_ v4.1 v4.2.1 a1 a2).bind λv11 =>
 (cond (v11.2.2.1 != 0)
 ((cu_).bind λv12 =>
 (some (v12.1,())))
 ((jt_ v3.1).bind λv13 =>
 (((cond (v13.2.1 != 0)
 (some (true,()))
 (cond ((v4.2.1.length:Int)==0)
 (some (true,()))
 ((de_ a0 v13.1).bind λv14 =>
 (some ((v14.1 != 0),())))))).bind λv15 =>
 (cond v15.1
 (some (false,()))
 ((af_ (ρ:=((((List Int)×((List Int)×((List Int)×((List Bool)×Unit))))×Unit)⊕(Bool×Unit))) (λ(v16:(Int×(Int×(((List Int)×((List Int)×((List Int)×((List Bool)×Unit))))×Unit)))) =>
 (cond (decide (v16.2.1<(v11.1.length:Int)))
 (((cond (decide (v16.1<0))
 (some (true,()))
 (cond (decide ((v4.1.2.length:Int)≤v16.1))
 (some (true,()))
 ((at? v11.1 v16.2.1).bind λv17 =>
 (cond (decide (v17<0))
 (some (true,()))
 ((at? v11.1 v16.2.1).bind λv18 =>
 ((at? v4.1.2 v16.1).bind λv19 =>
 (cond (decide ((v19.length:Int)≤v18))
 (some (true,()))
 ((bk_ (v16.2.2.1.1,(v16.2.2.1.2.1,v16.2.2.1.2.2.1)) a0.1.2.2.2.2.2.2.2).bind λv20 =>
 (some (v20.1,()))))))))))).bind λv21 =>
 (cond v21.1
 (some (inr (inr (false,()))))
 ((at? v4.1.2 v16.1).bind λv22 =>
 ((at? v11.1 v16.2.1).bind λv23 =>
 ((at? v22 v23).bind λv24 =>
 ((jd_ v3.1 ((v16.2.2.1.1,(v16.2.2.1.2.1,v16.2.2.1.2.2.1)),v16.2.2.1.2.2.2.1) v24.1).bind λv25 =>
 (((cond (v25.2.1 != 0)
 (some (true,()))
 ((de_ a0 v25.1).bind λv26 =>
 (cond (v26.1 != 0)
 (some (true,()))
 (cond (decide (v24.2<0))
 (some (true,()))
 (cond (decide ((v4.1.1.length:Int)≤v24.2))
 (some (true,()))
 ((at? v4.1.1 v24.2).bind λv27 =>
 ((et_ v25.1 v27).bind λv28 =>
 (some ((!v28.1),())))))))))).bind λv29 =>
 (cond v29.1
 (some (inr (inr (false,()))))
 (some (inl (v24.2,((w64 (v16.2.1+1)),((v25.1.1.1,(v25.1.1.2.1,(v25.1.1.2.2,(v25.1.2,())))),())))))))))))))
 (some (inr (inl ((v16.2.2.1.1,(v16.2.2.1.2.1,(v16.2.2.1.2.2.1,(v16.2.2.1.2.2.2.1,())))),())))))) (0,(0,((v13.1.1.1,(v13.1.1.2.1,(v13.1.1.2.2,(v13.1.2,())))),())))).bind λv30 =>
 (cd_ v30 (λv31=>((bk_ (v31.1.1,(v31.1.2.1,v31.1.2.2.1)) a0.1.2.2.2.2.2.2.2).bind λv33 =>
 (cond (v11.2.1 != v33.1)
 (some (false,()))
 (cond (!v11.2.1)
 ((cu_).bind λv34 =>
 (some (v34.1,())))
 ((at? v4.2.1 0).bind λv35 =>
 (cond (decide (v35≤(v11.1.length:Int)))
 ((cu_).bind λv36 =>
 (some (v36.1,())))
 (some (false,()))))))))
 (λv32=>(some v32))))))))))))))))
theorem x_3:au_ (P:=prog) (cxC [c_4,c_5,c_6,c_7,c_8,c_9,c_10,c_11,c_12,c_13,c_14,c_15] []) (.p .z (.p (.j0 [.v 26 .bool] .z .z) (.p .z (.p .z (.p .z (.p (.j0 [.v 53 .bool] .z .z) (.p .z (.p .z (.p .z (.p (.j0 [.v 94 .bool] .z .z) (.p .z (.p (.p .z (.ls [.v 16 .int,.v 17 .int] [] [.b (.s 14) [.val (.list .int),.val (.list .int),.val (.list .int),.val (.list .bool)]] 0 (.p .z (.p (.p (.j0 [.v 137 .bool] .z .z) (.p .z (.p .z (.p (.j0 [.v 188 .bool] .z .z) .z)))) .z)))) .z)))))))))))) 3 [ap_,ag_,.int] [.bool]=λx=>gl_ x.1 x.2.1 x.2.2.1:=by kernel_rfl
noncomputable def c_3:Con prog:=av_ _ _ 3 [ap_,ag_,.int] [.bool] _ x_3
end
end Go.Proofs.YthpilkoeneocmaaGreatDoor.Rx
namespace Go.Proofs.YthpilkoeneocmaaGreatDoor.Pad
open Go
section
def Le {α:Type} (x y:Option α):Prop:=∀ r,x=some r→y=some r
namespace Le
theorem refl {α:Type} (x:Option α):Le x x:=λ_ h=>h
theorem bind {α β:Type} {x y:Option α} {f g:α→Option β} (h:Le x y) (k:∀ a,Le (f a) (g a)):Le (x.bind f) (y.bind g):=by
 intro r hr
 cases x with
 | none=>cases hr
 | some a=>rw[h a rfl];exact k a r hr
theorem forS {σ:Type} {f g:Nat→σ→Option σ} (h:∀ i s,Le (f i s) (g i s)):∀ (k i:Nat) (s:σ),Le (Go.Proofs.YthpilkoeneocmaaGreatDoor.Pad.forS f k i s) (Go.Proofs.YthpilkoeneocmaaGreatDoor.Pad.forS g k i s)
 | 0,_,_=>refl _
 | k+1,i,s=>by
  intro r hr
  simp only[Go.Proofs.YthpilkoeneocmaaGreatDoor.Pad.forS] at hr ⊢
  cases hf:f i s with
  | none=>rw[hf] at hr;cases hr
  | some s'=>rw[hf] at hr;rw[h i s s' hf];exact forS h k (i+1) s' r hr
theorem forN {σ ρ:Type} {f g:Nat→σ→Option (σ⊕ρ)} (h:∀ i s,Le (f i s) (g i s)):∀ (k i:Nat) (s:σ),Le (Go.Proofs.YthpilkoeneocmaaGreatDoor.Pad.forN f k i s) (Go.Proofs.YthpilkoeneocmaaGreatDoor.Pad.forN g k i s)
 | 0,_,_=>refl _
 | k+1,i,s=>by
  intro r hr
  simp only[Go.Proofs.YthpilkoeneocmaaGreatDoor.Pad.forN] at hr ⊢
  cases hf:f i s with
  | none=>rw[hf] at hr;cases hr
  | some o =>
   rw[hf] at hr;rw[h i s o hf]
   cases o with
   | inl s'=>exact forN h k (i+1) s' r hr
   | inr r'=>exact hr
theorem while_ {σ ρ:Type} {f g:σ→Option (σ⊕ρ)} (h:∀ s,Le (f s) (g s)) (k:Nat) (s:σ):Le (fq_ f k s) (af_ g s):=by
 intro r hr
 refine hr_.2 ⟨k,?_⟩
 induction k generalizing s with
 | zero=>simp[fq_] at hr
 | succ k ih =>
  unfold fq_ at hr ⊢
  cases hf:f s with
  | none=>rw[hf] at hr;cases hr
  | some o =>
   rw[hf] at hr;rw[h s o hf]
   cases o with
   | inl s'=>exact ih s' hr
   | inr r'=>exact hr
end Le
end
end Go.Proofs.YthpilkoeneocmaaGreatDoor.Pad
namespace Go.Proofs.YthpilkoeneocmaaGreatDoor.Rx
open Go Pad Rex Sum
section
theorem ce6 {α:Type} (l:List α) (i:Nat):at? l (i:Int)=l[i]?:=by
 unfold at?
 rw[if_pos (Int.natCast_nonneg i)]
 rfl
theorem ah_ {α:Type} {l:List α} {i:Nat} {x:α} (h:l[i]?=some x):at? l (i:Int)=some x:=by rw[ce6,h]
theorem am_ {α:Type} {l:List α} {i:Nat} {x:α} (h:l[i]?=some x):i<l.length:=(a3_.1 h).1
theorem bc_ {α:Type} {l:List α} {i:Nat} (h:i<l.length):∃ x,l[i]?=some x:=⟨_,a7_ h⟩
abbrev Sm (n:Nat):Prop:=n≤1000000000
theorem gv_ {n:Int} (h1 : -4000000000≤n) (h2:n≤4000000000):w64 n=n:=ma_ (by omega) (by omega)
theorem ba_ {i:Nat} (h:Sm i):w64 ((i:Int)+1)=((i+1:Nat):Int):=by
 rw[gv_ (by omega) (by omega)]
 omega
theorem dlt {i n:Nat} (h:i<n):decide ((i:Int)<(n:Int))=true:=b5_ (by omega)
theorem dnl (n:Nat):decide ((n:Int)<(n:Int))=false:=b6_ (by omega)
def hg_ {α ρ:Type} (p:Nat→α→Option ρ):Nat→List α→Option ρ
 | _,[]=>none
 | i,x::l=>match p i x with
  | some r=>some r
  | none=>hg_ p (i+1) l
theorem qc_ {σ ρ:Type} {body:σ→Option (σ⊕ρ)} {s:σ} {k:Nat} {r:ρ} (h:fq_ body k s=some r):af_ body s=some r:=hr_.2 ⟨k,h⟩
theorem ax2 {σ ρ:Type} {body:σ→Option (σ⊕ρ)} {s t:σ} {k:Nat} (h:body s=some (.inl t)):fq_ body (k+1) s=fq_ body k t:=by
 rw[fq_,h]
theorem wj_ {σ ρ:Type} {body:σ→Option (σ⊕ρ)} {s:σ} {k:Nat} {r:ρ} (h:body s=some (.inr r)):fq_ body (k+1) s=some r:=by
 rw[fq_,h]
theorem ap3 {α ρ σ:Type} {l:List α} {p:Nat→α→Option ρ} {F:Nat→σ} {r0:ρ} {body:σ→Option (σ⊕ρ)}
  (h:∀ i x,l[i]?=some x→body (F i)=some (match p i x with | none=>.inl (F (i+1)) | some r=>.inr r)) (e:body (F l.length)=some (.inr r0)) :
  ∀ (m:List α) (i:Nat),i+m.length=l.length→(∀ j x,m[j]?=some x→l[i+j]?=some x)→fq_ body (m.length+1) (F i)=some ((hg_ p i m).getD r0)
 | [],i,hi,_=>by
  have:i=l.length:=by simpa using hi
  subst this
  exact wj_ e
 | x::m,i,hi,hm=>by
  have h0:=h i x (by simpa using hm 0 x rfl)
  unfold hg_
  cases hp:p i x with
  | some r =>
   rw[hp] at h0
   exact wj_ h0
  | none =>
   rw[hp] at h0
   show fq_ body (m.length+1+1) (F i)=_
   rw[ax2 h0]
   refine ap3 h e m (i+1) (by simp at hi;omega) λj y hj => ?_
   have:=hm (j+1) y (by simpa using hj)
   rw[show i+1+j=i+(j+1) by omega]
   exact this
theorem pj_ {α ρ σ:Type} (l:List α) (p:Nat→α→Option ρ) (F:Nat→σ) {r0:ρ} {body:σ→Option (σ⊕ρ)}
  (h:∀ i x,l[i]?=some x→body (F i)=some (match p i x with | none=>.inl (F (i+1)) | some r=>.inr r)) (e:body (F l.length)=some (.inr r0)) :
  af_ body (F 0)=some ((hg_ p 0 l).getD r0):=qc_ (ap3 h e l 0 (by simp) (λj x hj=>by simpa using hj))
theorem bu_ {α ρ σ τ:Type} (l:List α) (p:Nat→α→Option ρ) (F:Nat→σ) {r0:ρ} {body:σ→Option (σ⊕ρ)} {K:ρ→Option τ} {x:Option τ}
  (h:∀ i x,l[i]?=some x→body (F i)=some (match p i x with | none=>.inl (F (i+1)) | some r=>.inr r)) (e:body (F l.length)=some (.inr r0)) (hk:K ((hg_ p 0 l).getD r0)=x) :
  (af_ body (F 0)).bind K=x:=by
 rw[pj_ l p F h e,a0_,hk]
theorem kh_ {α ρ:Type} {q:α→Bool} {r:ρ}:∀ (l:List α) (i:Nat),hg_ (λ_ x=>cond (q x) none (some r)) i l=cond (l.all q) none (some r)
 | [],_=>rfl
 | x::l,i=>by
  unfold hg_
  cases hq:q x with
  | false=>simp[hq]
  | true=>simp[hq,kh_ l (i+1)]
theorem ib_ {α ρ:Type} {q:α→Bool} {r:ρ}:∀ (l:List α) (i:Nat),hg_ (λ_ x=>cond (q x) (some r) none) i l=cond (l.any q) (some r) none
 | [],_=>rfl
 | x::l,i=>by
  unfold hg_
  cases hq:q x with
  | true=>simp[hq]
  | false=>simp[hq,ib_ l (i+1)]
theorem ae2 {α ρ:Type} {q:α→Bool} {f:Nat→ρ}:∀ (l:List α) (k:Nat),(hg_ (λi x=>cond (q x) (some (f i)) none) k l=none∧l.any q=false)∨∃ i:Nat,hg_ (λi x=>cond (q x) (some (f i)) none) k l=some (f i)∧l.any q=true
 | [],_=>.inl ⟨rfl,rfl⟩
 | x::l,k=>by
  unfold hg_
  cases hq:q x with
  | true=>exact .inr ⟨k,rfl,by simp[hq]⟩
  | false =>
   simp only[List.any_cons,hq,k8_]
   exact ae2 l (k+1)
theorem ae0 {α ρ τ:Type} {p:Nat→α→Option ρ} {f:ρ→τ}:∀ (l:List α) (i:Nat),hg_ (λi x=>(p i x).map f) i l=(hg_ p i l).map f
 | [],_=>rfl
 | x::l,i=>by
  unfold hg_
  cases p i x with
  | some r=>rfl
  | none=>exact ae0 l (i+1)
theorem jn_ {α ρ:Type} {p:Nat→α→Option ρ}:∀ (l:List α) (i:Nat),hg_ p i l=none↔∀ j x,l[j]?=some x→p (i+j) x=none
 | [],_=>by simp[hg_]
 | x::l,i=>by
  unfold hg_
  constructor
  ·intro h j y hj
   cases hp:p i x with
   | some r=>rw[hp] at h;cases h
   | none =>
    rw[hp] at h
    cases j with
    | zero=>simp at hj;subst hj;simpa using hp
    | succ j =>
     have:=(jn_ l (i+1)).1 h j y (by simpa using hj)
     rwa [show i+1+j=i+(j+1) by omega] at this
  ·intro h
   have h0:=h 0 x rfl
   rw[l7_] at h0
   rw[h0]
   exact (jn_ l (i+1)).2 λj y hj=>by
    have:=h (j+1) y (by simpa using hj)
    rwa [show i+1+j=i+(j+1) by omega]
theorem lj_ {α τ σ ρ:Type} (l:List α) (f:Nat→τ→α→τ) (F:Nat→τ→σ) (R:τ→ρ) (t0:τ) {body:σ→Option (σ⊕ρ)} (I:Nat→τ→Prop) (h0:I 0 t0)
  (h:∀ i x t,l[i]?=some x→I i t→body (F i t)=some (.inl (F (i+1) (f i t x)))∧I (i+1) (f i t x)) (e:∀ t,I l.length t→body (F l.length t)=some (.inr (R t))) :
  ∃ t,I l.length t∧af_ body (F 0 t0)=some (R t):=by
 have gen:∀ (k i:Nat) (t:τ),i+k=l.length→I i t→∃ t',I l.length t'∧fq_ body (k+1) (F i t)=some (R t'):=by
  intro k
  induction k with
  | zero =>
   intro i t hi ht
   have:i=l.length:=by omega
   subst this
   exact⟨t,ht,wj_ (e t ht)⟩
  | succ k ih =>
   intro i t hi ht
   obtain⟨x,hx⟩:=bc_ (l:=l) (i:=i) (by omega)
   obtain⟨h1,h2⟩:=h i x t hx ht
   obtain⟨t',a,b⟩:=ih (i+1) _ (by omega) h2
   exact⟨t',a,by rw[ax2 h1];exact b⟩
 obtain⟨t,a,b⟩:=gen l.length 0 t0 (by omega) h0
 exact⟨t,a,qc_ b⟩
theorem oo_ {α:Type} {l:List α} (hl:Sm l.length) (q:α→Bool) {body:(Int×Unit)→Option ((Int×Unit)⊕(Unit⊕(Bool×Unit)))}
  (h:∀ (i:Nat) y,l[i]?=some y→body ((i:Int),())=some (cond (q y) (.inr (.inr (decide (0≤(i:Int)),()))) (.inl (w64 ((i:Int)+1),())))) (e:body ((l.length:Int),())=some (.inr (.inl ()))) :
  ((af_ body (0,())).bind λv=>cd_ v (λ_=>some (decide ((0:Int)≤(-1)),())) (λw=>some w))=some (l.any q,()):=by
 refine bu_ l (λi y=>cond (q y) (some (inr (true,()):Unit⊕(Bool×Unit))) none) (λi=>((i:Int),())) (r0:=inl ()) (λi y hy => ?_) e ?_
 ·have hi:=am_ hy
  rw[h i y hy,ba_ (show Sm i by omega),show decide (0≤(i:Int))=true from b5_ (by omega)]
  cases q y<;>rfl
 ·rw[ib_ (q:=q)]
  cases l.any q<;>rfl
theorem bz3 {α:Type} {l:List α} (hl:Sm l.length) (q:α→Bool) {body:(Int×Unit)→Option ((Int×Unit)⊕(Unit⊕(Int×Unit)))}
  (h:∀ (i:Nat) y,l[i]?=some y→body ((i:Int),())=some (cond (q y) (.inr (.inr ((i:Int),()))) (.inl (w64 ((i:Int)+1),())))) (e:body ((l.length:Int),())=some (.inr (.inl ()))) :
  ∃ n:Int,((af_ body (0,())).bind λv=>cd_ v (λ_=>some ((-1:Int),())) (λw=>some w))=some (n,())∧decide (n<0) = !(l.any q)∧(n = -1∨∃ i:Nat,n=(i:Int)∧i<l.length):=by
 have hrun:=pj_ l (λi y=>cond (q y) (some (inr ((i:Int),()):Unit⊕(Int×Unit))) none) (λi=>((i:Int),())) (r0:=inl ()) (body:=body) (λi y hy=>by
  have hi:=am_ hy
  rw[h i y hy,ba_ (show Sm i by omega)]
  cases q y<;>rfl) e
 have hr2:af_ body (0,())=some ((hg_ (λi y=>cond (q y) (some (inr ((i:Int),()):Unit⊕(Int×Unit))) none) 0 l).getD (inl ())):=hrun
 rw[hr2]
 have key:∀ (m:List α) (k:Nat),(hg_ (λi y=>cond (q y) (some (inr ((i:Int),()):Unit⊕(Int×Unit))) none) k m=none∧m.any q=false)∨∃ i:Nat,hg_ (λi y=>cond (q y) (some (inr ((i:Int),()):Unit⊕(Int×Unit))) none) k m=some (inr ((i:Int),()))∧m.any q=true∧i<k+m.length:=by
  intro m
  induction m with
  | nil=>exact λk=>.inl ⟨rfl,rfl⟩
  | cons x m ih =>
   intro k
   unfold hg_
   cases hq:q x with
   | true=>exact .inr ⟨k,rfl,by simp[hq],by simp⟩
   | false =>
    rcases ih (k+1) with ⟨a,b⟩ | ⟨i,a,b,c⟩
    ·exact .inl ⟨a,by simp[hq,b]⟩
    ·exact .inr ⟨i,a,by simp[hq,b],by simp only[c1_];omega⟩
 rcases key l 0 with ⟨a,b⟩ | ⟨i,a,b,c⟩
 ·refine⟨-1,by rw[a];rfl,by rw[b];rfl,.inl rfl⟩
 ·refine⟨(i:Int),by rw[a];rfl,by rw[b];exact b6_ (by omega),.inr ⟨i,rfl,by omega⟩⟩
end
section
def wi (a b c:Int):Bool:=decide (b≤a)&&decide (a≤c)
theorem cl_ {a b c:Int}:wi a b c=true↔b≤a∧a≤c:=by simp[wi]
theorem bi5 (a b c:Int):(cond (decide (b≤a)) (some ((decide (a≤c)),())) (some (false,())))=some (wi a b c,()):=by
 unfold wi
 cases decide (b≤a)<;>rfl
theorem eo_ (a b c:Int):bf_ a b c=some (wi a b c,()):=bi5 a b c
theorem lf_ (a b c:Int):cb_ a b c=some (wi a b c,()):=bi5 a b c
theorem gi_ (a b c:Int):bv_ a b c=some (wi a b c,()):=bi5 a b c
theorem aa0 (a b c:Int):js_ a b c=some (wi a b c,()):=bi5 a b c
theorem beqc {α:Type} [BEq α] [LawfulBEq α] (x y:α):(y==x)=(x==y):=by
 rw[l9_,i5_,i5_]
 exact eq_comm
theorem hy_ {α:Type} [BEq α] [LawfulBEq α] (l:List α) (x:α):l.any (x == ·)=l.contains x:=by
 induction l with
 | nil=>rfl
 | cons y l ih=>simp[List.contains_cons,ih]
theorem cg2 {l:List Int} {x:Int} (hl:Sm l.length):∃ i:Int,fm_ l x=some (i,())∧decide (0≤i)=l.contains x:=by
  unfold fm_
  have h1:=pj_ l (λi y=>cond (x==y) (some (inr ((i:Int),()):Unit⊕(Int×Unit))) none) (λi=>((i:Int),())) (r0:=inl ())
    (body:=λ(v0:(Int×Unit)) =>
     (cond (decide (v0.1<(l.length:Int)))
     ((at? l v0.1).bind λv1 =>
     (cond (x==v1)
     (some (inr (inr (v0.1,()))))
     (some (inl ((w64 (v0.1+1)),())))))
     (some (inr (inl ())))))
    (λi y hy=>by
      have hi:=am_ hy
      simp only[dlt hi,a5_,ah_ hy,a0_,ba_ (show Sm i by omega)]
      cases x==y<;>rfl)
    (by simp only[dnl,a2_])
  rcases ae2 (q:=λy=>x==y) (f:=λi=>(inr ((i:Int),()):Unit⊕(Int×Unit))) l 0 with ⟨h2,h3⟩ | ⟨i,h2,h3⟩
  · refine⟨-1,e6_ (congrArg (λo=>Option.bind o _) h1) ?_,by rw[← hy_,h3];rfl⟩
    rw[h2];rfl
  · refine⟨i,e6_ (congrArg (λo=>Option.bind o _) h1) ?_,by rw[← hy_,h3];exact b5_ (by omega)⟩
    rw[h2];rfl
theorem qa_ {l:List Int} {x:Int} (hl:Sm l.length):bm_ l x=some (l.contains x,()):=by
 obtain⟨i,h1,h2⟩:=cg2 (x:=x) hl
 unfold bm_
 rw[h1,a0_,h2]
theorem as2 {l:List (List UInt8)} {x:List UInt8} (hl:Sm l.length):∃ i:Int,ef_ l x=some (i,())∧decide (0≤i)=l.contains x:=by
 unfold ef_
 rcases ae2 (q:=λy=>x==y) (f:=λi=>(inr ((i:Int),()):Unit⊕(Int×Unit))) l 0 with ⟨h2,h3⟩ | ⟨i,h2,h3⟩
 ·refine⟨-1,bu_ l (λi y=>cond (x==y) (some (inr ((i:Int),()):Unit⊕(Int×Unit))) none) (λi=>((i:Int),())) (r0:=inl ()) (λi y hy => ?_) ?_ ?_,by rw[← hy_,h3];rfl⟩
  ·have hi:=am_ hy
   simp only[dlt hi,a5_,ah_ hy,a0_,ba_ (show Sm i by omega)]
   cases x==y<;>rfl
  ·simp only[dnl,a2_]
  ·rw[h2];rfl
 ·refine⟨i,bu_ l (λi y=>cond (x==y) (some (inr ((i:Int),()):Unit⊕(Int×Unit))) none) (λi=>((i:Int),())) (r0:=inl ()) (λi y hy => ?_) ?_ ?_,by rw[← hy_,h3];exact b5_ (by omega)⟩
  ·have hi:=am_ hy
   simp only[dlt hi,a5_,ah_ hy,a0_,ba_ (show Sm i by omega)]
   cases x==y<;>rfl
  ·simp only[dnl,a2_]
  ·rw[h2];rfl
theorem ze_ {l:List (List UInt8)} {x:List UInt8} (hl:Sm l.length):di_ l x=some (l.contains x,()):=by
 obtain⟨i,h1,h2⟩:=as2 (x:=x) hl
 unfold di_
 rw[h1,a0_,h2]
theorem bb5 {l:List Int} {x:Int} (hl:Sm l.length):no_ l x=some (l.contains x,()):=by
 unfold no_
 refine bu_ l (λi y=>cond (x==y) (some (inr (true,()):Unit⊕(Bool×Unit))) none) (λi=>((i:Int),())) (r0:=inl ()) (λi y hy => ?_) ?_ ?_
 ·have hi:=am_ hy
  simp only[dlt hi,a5_,ah_ hy,a0_,ba_ (show Sm i by omega)]
  rw[beqc x y]
  cases x==y<;>rfl
 ·simp only[dnl,a2_]
 ·rw[ib_ (q:=λy=>x==y),hy_]
  cases l.contains x<;>rfl
def zp_ (c:UInt8):Bool:=decide (97≤(c.toNat:Int))&&decide ((c.toNat:Int)≤122)
def okW (t:List UInt8):Bool:=t.all zp_&&(!(t==[])&&!(reserved.contains t))
def okN (t:List UInt8):Bool:=decide ((t.length:Int)≤12)&&okW t
theorem cn8 (c:UInt8):(cond (decide (((UInt8.toNat c):Int)<97)) (some (true,())) (some ((decide (122<((UInt8.toNat c):Int))),())))=some (!(zp_ c),()):=by
 unfold zp_
 by_cases h1:((UInt8.toNat c):Int)<97
 ·rw[b5_ h1,b6_ (by omega:¬ (97:Int)≤(c.toNat:Int))];rfl
 ·rw[b6_ h1,b5_ (by omega:(97:Int)≤(c.toNat:Int))]
  by_cases h2:122<((UInt8.toNat c):Int)
  ·rw[b5_ h2,b6_ (by omega:¬ ((UInt8.toNat c):Int)≤122)];rfl
  ·rw[b6_ h2,b5_ (by omega:((UInt8.toNat c):Int)≤122)];rfl
theorem pk_ {t:List UInt8} (hl:Sm t.length):af_ (ρ:=(Unit⊕(Bool×Unit))) (λ(v0:(Int×Unit)) =>
 (cond (decide (v0.1<(t.length:Int)))
 ((((at? t v0.1).bind λv1 =>
 (cond (decide (((UInt8.toNat v1):Int)<97))
 (some (true,()))
 ((at? t v0.1).bind λv2 =>
 (some ((decide (122<((UInt8.toNat v2):Int))),())))))).bind λv3 =>
 (cond v3.1
 (some (inr (inr (false,()))))
 (some (inl ((w64 (v0.1+1)),())))))
 (some (inr (inl ()))))) (0,())=some (cond (t.all zp_) (inl ()) (inr (false,()))):=by
  refine e6_ (pj_ t (λi c=>cond (zp_ c) none (some (inr (false,()):Unit⊕(Bool×Unit)))) (λi=>((i:Int),())) (r0:=inl ()) (λi y hy => ?_) ?_) ?_
  · have hi:=am_ hy
    simp only[dlt hi,a5_,ah_ hy,a0_,ba_ (show Sm i by omega),cn8]
    cases zp_ y<;>rfl
  · simp only[dnl,a2_]
  · rw[kh_]
    cases t.all zp_<;>rfl
theorem br5 {t:List UInt8} (hl:Sm t.length):fx_ t=some (okW t,()):=by
 unfold fx_
 refine e6_ (congrArg (λo=>Option.bind o _) (pk_ hl)) ?_
 unfold okW
 rw[a0_]
 cases t.all zp_ with
 | false=>rfl
 | true =>
  simp only[a5_,c3_]
  cases t==[] with
  | true=>rfl
  | false =>
   simp only[g2_,a5_,c3_]
   rw[ze_ (by decide),a0_]
   rfl
theorem ae7 {t:List UInt8} (hl:Sm t.length):ii_ t=some (okW t,()):=by
 unfold ii_
 refine e6_ (congrArg (λo=>Option.bind o _) (pk_ hl)) ?_
 unfold okW
 rw[a0_]
 cases t.all zp_ with
 | false=>rfl
 | true =>
  simp only[a5_,c3_]
  refine bu_ reserved (λi y=>cond (t==y) (some (inr (false,()):Unit⊕(Bool×Unit))) none) (λi=>((i:Int),())) (r0:=inl ()) (λi y hy => ?_) ?_ ?_
  ·have hi:=am_ hy
   have h10:i<10:=hi
   have hy':=hy
   unfold reserved at hy'
   refine e6_ (congrArg (λc=>cond c _ _) (dlt hi)) ?_
   simp only[a5_,ah_ hy',a0_,ba_ (show Sm i by omega)]
   rw[beqc t y]
   cases t==y<;>rfl
  ·rfl
  ·rw[ib_ (q:=λy=>t==y),hy_]
   cases reserved.contains t with
   | true=>simp
   | false=>simp
theorem bt1 {t:List UInt8} (hl:Sm t.length):od_ t=some (okW t,()):=by
  unfold od_
  have h0:(((cond (t==[]) (some ((t==[]),())) (cond (t==[97,116]) (some ((t==[97,116]),())) (cond (t==[115,116,97,116,101,115]) (some ((t==[115,116,97,116,101,115]),())) (cond (t==[115,116,97,114,116]) (some ((t==[115,116,97,114,116]),()))
     (cond (t==[103,111,110,101]) (some ((t==[103,111,110,101]),())) (cond (t==[105,102]) (some ((t==[105,102]),())) (cond (t==[108,111,99,107]) (some ((t==[108,111,99,107]),())) (cond (t==[119,105,116,104]) (some ((t==[119,105,116,104]),()))
     (cond (t==[115,101,116,115]) (some ((t==[115,101,116,115]),())) (cond (t==[115,112,101,110,100,115]) (some ((t==[115,112,101,110,100,115]),())) (some ((t==[98,114,105,110,103,115]),()))))))))))))):Option (Bool×Unit))=some ((t==[]||reserved.contains t),()):=by
    unfold reserved
    simp only[List.contains_cons,List.contains_nil,i4_]
    cases t==[] with
    | true=>rfl
    | false =>
    cases t==[97,116] with
    | true=>rfl
    | false =>
    cases t==[115,116,97,116,101,115] with
    | true=>rfl
    | false =>
    cases t==[115,116,97,114,116] with
    | true=>rfl
    | false =>
    cases t==[103,111,110,101] with
    | true=>rfl
    | false =>
    cases t==[105,102] with
    | true=>rfl
    | false =>
    cases t==[108,111,99,107] with
    | true=>rfl
    | false =>
    cases t==[119,105,116,104] with
    | true=>rfl
    | false =>
    cases t==[115,101,116,115] with
    | true=>rfl
    | false =>
    cases t==[115,112,101,110,100,115] with
    | true=>rfl
    | false=>rfl
  refine e6_ (congrArg (λo=>Option.bind o _) h0) ?_
  rw[a0_]
  unfold okW
  cases hz:(t==[]||reserved.contains t) with
  | true =>
    have:(!(t==[])&&!(reserved.contains t))=false:=by
      rw[← Bool.not_or,hz];rfl
    rw[this,f7_]
    rfl
  | false =>
    have:(!(t==[])&&!(reserved.contains t))=true:=by
      rw[← Bool.not_or,hz];rfl
    rw[this,h7_]
    simp only[a2_]
    refine e6_ (congrArg (λo=>Option.bind o _) (pk_ hl)) ?_
    rw[a0_]
    cases t.all zp_<;>rfl
theorem ld_ {t:List UInt8} (hl:Sm t.length):ei_ t=some (okN t,()):=by
 unfold ei_ okN
 rw[ae7 hl]
 cases decide ((t.length:Int)≤12)<;>rfl
end
section
def ou_ (things:List hq_) (th n:Int):Bool:=wi th 0 (w64 ((things.length:Int) - 1))&&match at? things th with
 | some t=>wi n 0 (w64 (t.2.2.1 - 1))
 | none=>false
theorem ak7 {α:Type} {l:List α} {i:Int} (hl:Sm l.length) (h:wi i 0 (w64 ((l.length:Int) - 1))=true):∃ x,at? l i=some x:=by
 rw[gv_ (by omega) (by omega)] at h
 obtain⟨h1,h2⟩:=cl_.1 h
 obtain⟨x,hx⟩:=bc_ (l:=l) (i:=i.toNat) (by omega)
 exact⟨x,by rw[show i=((i.toNat:Nat):Int) by omega];exact ah_ hx⟩
theorem qp_ {r:ae_} (hl:Sm r.2.1.length) (th n:Int):fy_ r th n=some (ou_ r.2.1 th n,()):=by
 unfold fy_ ou_
 rw[eo_,a0_]
 cases h:wi th 0 (w64 ((r.2.1.length:Int) - 1)) with
 | false=>rfl
 | true =>
  obtain⟨x,hx⟩:=ak7 hl h
  simp only[a5_,hx,a0_,eo_,c3_]
theorem sq_ {r:ae_} (hl:Sm r.2.1.length) (th n:Int):hn_ r th n=some (ou_ r.2.1 th n,()):=by
 unfold hn_ ou_
 rw[gi_,a0_]
 cases h:wi th 0 (w64 ((r.2.1.length:Int) - 1)) with
 | false=>rfl
 | true =>
  obtain⟨x,hx⟩:=ak7 hl h
  simp only[a5_,hx,a0_,gi_,c3_]
def cOk (things:List hq_) (c:List bi_):Bool:=decide ((c.length:Int)≤8)&&c.all λl=>ou_ things l.1 l.2.1
theorem uu_ {α:Type} (l:List α) (q:α→Bool):(!(l.any λx=>!(q x)))=l.all q:=by
 induction l with
 | nil=>rfl
 | cons x l ih =>
  rw[List.any_cons,List.all_cons,← ih]
  cases q x<;>rfl
theorem kw_ {r:ae_} (hl:Sm r.2.1.length) (c:List bi_):eh_ r c=some (cOk r.2.1 c,()):=by
 unfold eh_ cOk
 cases h8:decide ((c.length:Int)≤8) with
 | false=>rfl
 | true =>
  have h8:=f0_ h8
  simp only[a5_,c3_]
  refine e6_ (congrArg (λo=>Option.bind o _) (oo_ (show Sm c.length by omega) (λl=>!(ou_ r.2.1 l.1 l.2.1)) (λi y hy => ?_) ?_)) ?_
  ·simp only[dlt (am_ hy),a5_,ah_ hy,a0_,qp_ hl]
   cases ou_ r.2.1 y.1 y.2.1<;>rfl
  ·simp only[dnl,a2_]
  ·rw[a0_]
   exact congrArg (λb=>some (b,())) (uu_ c _)
theorem hs_ {r:ae_} (hl:Sm r.2.1.length) {c:List bi_} (hc:Sm c.length):dc_ r c=some (cOk r.2.1 c,()):=by
 unfold dc_ cOk
 refine bu_ c (λi l=>cond (ou_ r.2.1 l.1 l.2.1) none (some (inr (false,()):Unit⊕(Bool×Unit)))) (λi=>((i:Int),())) (r0:=inl ()) (λi y hy => ?_) ?_ ?_
 ·have hi:=am_ hy
  simp only[dlt hi,a5_,ah_ hy,a0_,ba_ (show Sm i by omega),sq_ hl]
  cases ou_ r.2.1 y.1 y.2.1<;>rfl
 ·simp only[dnl,a2_]
 ·rw[kh_ (q:=λl:bi_=>ou_ r.2.1 l.1 l.2.1)]
  cases c.all λl=>ou_ r.2.1 l.1 l.2.1 with
  | true=>rw[h7_];rfl
  | false=>rw[f7_];rfl
theorem bk9 {r:ae_} (hl:Sm r.2.1.length) (c:List bi_):mm_ r c=some (cOk r.2.1 c,()):=by
 unfold mm_ cOk
 cases h8:decide ((c.length:Int)≤8) with
 | false=>rfl
 | true =>
  have h8:=f0_ h8
  simp only[a5_,c3_]
  refine e6_ (congrArg (λo=>Option.bind o _) (oo_ (show Sm c.length by omega) (λl=>!(ou_ r.2.1 l.1 l.2.1)) (λi y hy => ?_) ?_)) ?_
  ·simp only[dlt (am_ hy),a5_,ah_ hy,a0_,lf_,ou_]
   cases h:wi y.1 0 (w64 ((r.2.1.length:Int) - 1)) with
   | false=>rfl
   | true =>
    obtain⟨x,hx⟩:=ak7 hl h
    simp only[e1_,a2_,hx,a0_,c3_]
    cases wi y.2.1 0 (w64 (x.2.2.1 - 1))<;>rfl
  ·simp only[dnl,a2_]
  ·rw[a0_]
   exact congrArg (λb=>some (b,())) (uu_ c _)
end
section
def prv (l:List Int) (i:Nat):Int:=match i with
 | 0=>-1
 | j+1=>(l[j]?).getD 0
def cw5 (np:Nat) (l:List Int) (i:Nat) (x:Int):Bool:=decide (x≤prv l i)||decide ((np:Int)≤x)
def badQ (np:Nat) (l:List Int) (i:Nat) (x:Int):Bool:=!(wi x 0 ((np:Int) - 1))||(decide (0<i)&&decide (x≤prv l i))
def lw_ (np:Nat) (l:List Int):Bool:=(hg_ (λi x=>cond (cw5 np l i x) (some ()) none) 0 l).isNone
theorem xe_ {α ρ:Type} {q:Nat→α→Bool} {r:ρ}:∀ (l:List α) (i:Nat),hg_ (λi x=>cond (q i x) (some r) none) i l=cond (hg_ (λi x=>cond (q i x) (some ()) none) i l).isNone none (some r)
 | [],_=>rfl
 | x::l,i=>by
  unfold hg_
  cases q i x with
  | true=>rfl
  | false=>exact xe_ l (i+1)
theorem ae1 {α:Type} {q:Nat→α→Bool} (l:List α):(hg_ (λi x=>cond (q i x) (some ()) none) 0 l).isNone=true↔∀ i x,l[i]?=some x→q i x=false:=by
 rw[Option.isNone_iff_eq_none,jn_]
 constructor
 ·intro h i x hx
  have:=h i x hx
  rw[b0_] at this
  cases hq:q i x with
  | false=>rfl
  | true=>rw[hq] at this;cases this
 ·intro h i x hx
  rw[b0_,h i x hx]
  rfl
theorem cw8 (np:Nat) (l:List Int):(hg_ (λi x=>cond (badQ np l i x) (some ()) none) 0 l).isNone=lw_ np l:=by
 rw[l9_]
 unfold lw_
 rw[ae1,ae1]
 constructor
 ·intro h i x hx
  have h0:=h i x hx
  unfold badQ at h0
  rw[b8_] at h0
  obtain⟨h1,h2⟩:=h0
  have h1:wi x 0 ((np:Int) - 1)=true:=by simpa using h1
  obtain⟨h3,h4⟩:=cl_.1 h1
  unfold cw5
  rw[b8_]
  refine⟨?_,b6_ (by omega)⟩
  cases i with
  | zero=>exact b6_ (by show ¬ x≤-1;omega)
  | succ j =>
   have:decide (0<j+1)=true:=b5_ (by omega)
   rw[this,c3_] at h2
   exact h2
 ·intro h
  have pos:∀ (i:Nat) (x:Int),l[i]?=some x→0≤x∧x<np:=by
   intro i
   induction i with
   | zero =>
    intro x hx
    have h0:=h 0 x hx
    unfold cw5 at h0
    rw[b8_] at h0
    have h1:=d1_ h0.1
    have h2:=d1_ h0.2
    have h1:¬ x≤-1:=h1
    omega
   | succ j ih =>
    intro x hx
    have h0:=h (j+1) x hx
    unfold cw5 at h0
    rw[b8_] at h0
    have h1:=d1_ h0.1
    have h2:=d1_ h0.2
    obtain⟨y,hy⟩:=bc_ (l:=l) (i:=j) (by have:=am_ hx;omega)
    have h3:=ih y hy
    have h1:¬ x≤(l[j]?).getD 0:=h1
    rw[hy] at h1
    have h1:¬ x≤y:=h1
    omega
  intro i x hx
  have h0:=h i x hx
  unfold cw5 at h0
  rw[b8_] at h0
  have hp:=pos i x hx
  unfold badQ
  have:wi x 0 ((np:Int) - 1)=true:=cl_.2 ⟨hp.1,by omega⟩
  rw[this,h0.1,f7_]
  rfl
theorem tu_ {r:ae_} {l:List Int} (hl:Sm l.length):hu_ r l=some (lw_ r.2.2.1.length l,()):=by
 unfold hu_
 refine bu_ l (λi x=>cond (cw5 r.2.2.1.length l i x) (some (inr (false,()):Unit⊕(Bool×Unit))) none) (λi=>(prv l i,((i:Int),()))) (r0:=inl ()) (λi y hy => ?_) ?_ ?_
 ·have hi:=am_ hy
  simp only[dlt hi,a5_,ah_ hy,a0_,ba_ (show Sm i by omega),cw5]
  have hn:prv l (i+1)=y:=by show (l[i]?).getD 0=y;rw[hy];rfl
  cases decide (y≤prv l i) with
  | true=>rfl
  | false =>
   simp only[a2_,k8_,a0_,hn]
   cases decide ((r.2.2.1.length:Int)≤y)<;>rfl
 ·simp only[dnl,a2_]
 ·rw[xe_]
  unfold lw_
  cases (hg_ (λi x=>cond (cw5 r.2.2.1.length l i x) (some ()) none) 0 l).isNone<;>rfl
theorem lc_ {r:ae_} (hp:Sm r.2.2.1.length) {l:List Int} (hl:Sm l.length):du_ r l=some (lw_ r.2.2.1.length l,()):=by
 unfold du_
 refine bu_ l (λi x=>cond (badQ r.2.2.1.length l i x) (some (inr (false,()):Unit⊕(Bool×Unit))) none) (λi=>((i:Int),())) (r0:=inl ()) (λi y hy => ?_) ?_ ?_
 ·have hi:=am_ hy
  rw[show w64 ((r.2.2.1.length:Int) - 1)=(r.2.2.1.length:Int) - 1 from gv_ (by omega) (by omega)]
  simp only[dlt hi,a5_,ah_ hy,a0_,ba_ (show Sm i by omega),gi_,badQ]
  cases wi y 0 ((r.2.2.1.length:Int) - 1) with
  | false=>rfl
  | true =>
   simp only[e1_,a2_,k8_]
   cases i with
   | zero=>rfl
   | succ j =>
    obtain⟨z,hz⟩:=bc_ (l:=l) (i:=j) (by omega)
    have e:w64 (((j+1:Nat):Int) - 1)=(j:Int):=by rw[gv_ (by omega) (by omega)];omega
    have hn:prv l (j+1)=z:=by show (l[j]?).getD 0=z;rw[hz];rfl
    rw[show decide (0<((j+1:Nat):Int))=true from b5_ (by omega),e,ah_ hz,hn,show decide (0<j+1)=true from b5_ (by omega)]
    simp only[a5_,a0_,c3_]
    cases decide (y≤z)<;>rfl
 ·simp only[dnl,a2_]
 ·rw[xe_,cw8]
  cases lw_ r.2.2.1.length l<;>rfl
end
section
theorem qj_ {α:Type} {l:List α} {i:Nat} (h:i≤l.length):sub? l 0 (i:Int)=some (l.take i):=by
 unfold sub?
 rw[if_pos ⟨j9_ 0,by omega,by omega⟩]
 simp
def twN {α:Type} (nm:α→List UInt8) (l:List α) (i:Nat) (t:List UInt8):Bool:=(l.take i).any λy=>nm y==t
theorem rs_ {l:List (List UInt8)} {i:Nat} {x:List UInt8} (hl:Sm l.length) (hx:l[i]?=some x):gn_ l (i:Int)=some (twN id l i x,()):=by
 have hi:=am_ hx
 have hle:(l.take i).length=i:=by rw[c5_];omega
 unfold gn_
 refine bu_ (l.take i) (λ_ y=>cond (id y==x) (some (inr (true,()):Unit⊕(Bool×Unit))) none) (λi=>((i:Int),())) (r0:=inl ()) (λk y hy => ?_) ?_ ?_
 ·have hk:=am_ hy
  have hy':l[k]?=some y:=by
   rw[j4_] at hy
   split at hy
   ·exact hy
   ·cases hy
  simp only[dlt (show k<i by omega),a5_,ah_ hy',ah_ hx,a0_,ba_ (show Sm k by omega),id]
  cases y==x<;>rfl
 ·rw[hle]
  simp only[dnl,a2_]
 ·rw[ib_ (q:=λy=>id y==x)]
  unfold twN
  cases (l.take i).any λy=>id y==x<;>rfl
theorem iy_ {r:ae_} (p:Int):db_ r p=some (wi p 0 (w64 ((r.1.length:Int) - 1)),()):=by
 unfold db_
 rw[gi_,a0_]
structure SmR (r:ae_):Prop where
 pl:Sm r.1.length
 th:Sm r.2.1.length
 pr:Sm r.2.2.1.length
 wy:Sm r.2.2.2.1.length
 ac:Sm r.2.2.2.2.1.length
 au:Sm r.2.2.2.2.2.1.length
 go:Sm r.2.2.2.2.2.2.2.length
 pln:∀ x ∈ r.1,Sm x.length
 thn:∀ x ∈ r.2.1,Sm x.1.length
 prn:∀ x ∈ r.2.2.1,Sm x.1.length∧Sm x.2.2.length
 wyn:∀ x ∈ r.2.2.2.1,Sm x.2.2.length
 acn:∀ x ∈ r.2.2.2.2.1,Sm x.1.length∧Sm x.2.2.2.1.length∧Sm x.2.2.2.2.1.length∧Sm x.2.2.2.2.2.1.length∧Sm x.2.2.2.2.2.2.1.length∧Sm x.2.2.2.2.2.2.2.length
 aun:∀ x ∈ r.2.2.2.2.2.1,Sm x.1.length
theorem aw_ {α:Type} {l:List α} {i:Nat} {x:α} (h:l[i]?=some x):x ∈ l:=b4_ h
def tb_ (r:ae_) (p:Int):Bool:=wi p 0 (w64 ((r.1.length:Int) - 1))
def frN {α:Type} (nm:α→List UInt8) (l:List α) (i:Nat) (t:List UInt8):Bool:=okN t&&!(twN nm l i t)
def plOk (r:ae_) (i:Nat) (x:List UInt8):Bool:=frN id r.1 i x
def bp1 (r:ae_) (i:Nat) (x:hq_):Bool:=frN (·.1) r.2.1 i x.1&&(tb_ r x.2.1&&(wi x.2.2.1 2 6&&wi x.2.2.2 0 (w64 (x.2.2.1 - 1))))
def cl1 (r:ae_) (i:Nat) (x:kz_):Bool:=frN (·.1) r.2.2.1 i x.1&&(tb_ r x.2.1||x.2.1==(-1))
def cg6 (r:ae_) (x:pz_):Bool:=tb_ r x.1&&(tb_ r x.2.1&&!(x.1==x.2.1))
def tr_ (a:Bool) (e:Int) (b:Bool) (f:Int):Option Int:=cond a (cond b none (some f)) (some e)
def lr_ (a:Bool) (e:Int):Option Int:=cond a none (some e)
def left (o:Option Int):Unit⊕(Int×Unit):=match o with
 | none=>.inl ()
 | some e=>.inr (e,())
theorem bd5 (o:Option Int):(o.map λe=>(inr (e,()):Unit⊕(Int×Unit))).getD (inl ())=left o:=by cases o<;>rfl
theorem bx_ {α:Type} (l:List α) (p:Nat→α→Option Int) {body:(Int×Unit)→Option ((Int×Unit)⊕(Unit⊕(Int×Unit)))} {τ:Type} {K:(Unit⊕(Int×Unit))→Option τ} {x:Option τ}
  (h:∀ (i:Nat) y,l[i]?=some y→body ((i:Int),())=some (match p i y with | none=>.inl (((i+1:Nat):Int),()) | some e=>.inr (.inr (e,())))) (e:body ((l.length:Int),())=some (.inr (.inl ()))) (hk:K (left (hg_ p 0 l))=x) :
  (af_ body (0,())).bind K=x:=by
 refine bu_ l (λi y=>(p i y).map λe=>(inr (e,()):Unit⊕(Int×Unit))) (λi=>((i:Int),())) (r0:=inl ()) (λi y hy => ?_) e ?_
 ·rw[h i y hy]
  cases p i y<;>rfl
 ·rw[ae0,bd5]
  exact hk
theorem ac7 {α β:Type} (l:List α) (p:Nat→α→Option Int) (F:Nat→β) {body:(β×(Int×Unit))→Option ((β×(Int×Unit))⊕(Unit⊕(Int×Unit)))} {τ:Type} {K:(Unit⊕(Int×Unit))→Option τ} {x:Option τ} {b0:β} (h0:F 0=b0)
  (h:∀ (i:Nat) y,l[i]?=some y→body (F i,((i:Int),()))=some (match p i y with | none=>.inl (F (i+1),(((i+1:Nat):Int),())) | some e=>.inr (.inr (e,())))) (e:body (F l.length,((l.length:Int),()))=some (.inr (.inl ()))) (hk:K (left (hg_ p 0 l))=x) :
  (af_ body (b0,(0,()))).bind K=x:=by
 subst h0
 refine bu_ l (λi y=>(p i y).map λe=>(inr (e,()):Unit⊕(Int×Unit))) (λi=>(F i,((i:Int),()))) (r0:=inl ()) (λi y hy => ?_) e ?_
 ·rw[h i y hy]
  cases p i y<;>rfl
 ·rw[ae0,bd5]
  exact hk
theorem fk_ {o:Option Int} {K:Unit→Option (Int×Unit)} {k:Int} (h:K ()=some (k,())):cd_ (left o) K (λy=>some y)=some (o.getD k,()):=by
 cases o with
 | none=>exact h
 | some e=>rfl
end
section
def sn_ (r:ae_) (l:List ab_) (i:Nat) (x:ab_):Bool:=ou_ r.2.1 x.1 x.2&&!((l.take i).any λy=>y.1==x.1)
def vx_ (r:ae_) (i:Nat) (a:dg_):Bool :=
 frN (·.1) r.2.2.2.2.1 i a.1&&(tb_ r a.2.1&&(wi a.2.2.1 (-1) 7&&(lw_ r.2.2.1.length a.2.2.2.1&&(lw_ r.2.2.1.length a.2.2.2.2.2.2.1&&(lw_ r.2.2.1.length a.2.2.2.2.2.2.2&&(!(decide (6<(a.2.2.2.2.2.1.length:Int)))
  && ((a.2.2.2.2.2.2.1.all λp=>a.2.2.2.1.contains p)&&(!(a.2.2.2.2.2.2.2.any λp=>a.2.2.2.1.contains p)
   && (hg_ (λi x=>cond (sn_ r a.2.2.2.2.2.1 i x) none (some ())) 0 a.2.2.2.2.2.1).isNone))))))))
theorem tt_ {α ρ:Type} {q:Nat→α→Bool} {r:ρ}:∀ (l:List α) (i:Nat),hg_ (λi x=>cond (q i x) none (some r)) i l=cond (hg_ (λi x=>cond (q i x) none (some ())) i l).isNone none (some r)
 | [],_=>rfl
 | x::l,i=>by
  unfold hg_
  cases q i x with
  | false=>rfl
  | true=>exact tt_ l (i+1)
theorem wh_ {α:Type} {l:List α} (hl:Sm l.length) (nm:α→List UInt8) {t:List UInt8} (ht:Sm t.length) :
  ((fx_ t).bind λv1=>cond v1.1 (cond (decide ((t.length:Int)≤12)) ((((af_ (ρ:=Unit⊕(Int×Unit)) (λ(v:Int×Unit)=>cond (decide (v.1<(l.length:Int))) ((at? l v.1).bind λy=>cond (nm y==t) (some (inr (inr (v.1,())))) (some (inl (w64 (v.1+1),())))) (some (inr (inl ())))) (0,())).bind λv=>cd_ v (λ_=>some ((-1:Int),())) (λw=>some w))).bind λv=>some (decide (v.1<0),())) (some (false,()))) (some (false,())))
   = some (okN t&&!(l.any λy=>nm y==t),()):=by
 rw[br5 ht,a0_]
 obtain⟨n,h1,h2,_⟩:=bz3 hl (λy=>nm y==t) (body:=λ(v:Int×Unit)=>cond (decide (v.1<(l.length:Int))) ((at? l v.1).bind λy=>cond (nm y==t) (some (inr (inr (v.1,())))) (some (inl (w64 (v.1+1),())))) (some (inr (inl ())))) (λi y hy=>by
  simp only[dlt (am_ hy),a5_,ah_ hy,a0_]
  cases nm y==t<;>rfl) (by simp only[dnl,a2_])
 rw[h1,a0_,h2]
 unfold okN
 cases okW t with
 | false=>rw[f7_,e8_];rfl
 | true=>cases decide ((t.length:Int)≤12)<;>rfl
theorem xb_ {α:Type} {l:List α} (h:Sm l.length) (i:Nat):Sm (l.take i).length:=by
 rw[c5_]
 exact c7_ (m5_ _ _) h
theorem ck2 {r:ae_} (h:SmR r) {i:Nat} {a:dg_} (ha:r.2.2.2.2.1[i]?=some a):qz_ r (i:Int) a=some (vx_ r i a,()):=by
 have hi:=am_ ha
 obtain⟨s1,s2,s3,s4,s5,s6⟩:=h.acn a (aw_ ha)
 unfold qz_
 refine e6_ (congrArg (λo=>Option.bind o _) (?_:_=some (!(frN (·.1) r.2.2.2.2.1 i a.1&&(tb_ r a.2.1&&wi a.2.2.1 (-1) 7)),()))) ?_
 ·rw[qj_ (f9_ hi),a0_]
  refine e6_ (congrArg (λo=>Option.bind o _) (wh_ (xb_ h.ac i) (·.1) s1)) ?_
  unfold frN twN tb_
  rw[a0_]
  cases okN a.1&&!((r.2.2.2.2.1.take i).any λy=>y.1==a.1) with
  | false=>rfl
  | true =>
   simp only[eo_,a0_]
   cases wi a.2.1 0 (w64 ((r.1.length:Int) - 1)) with
   | false=>rfl
   | true=>rfl
 ·rw[a0_]
  unfold vx_
  cases frN (·.1) r.2.2.2.2.1 i a.1 with
  | false=>rfl
  | true =>
  cases tb_ r a.2.1 with
  | false=>rfl
  | true =>
  cases wi a.2.2.1 (-1) 7 with
  | false=>rfl
  | true =>
   simp only[e1_,a2_,c3_,tu_ s2,tu_ s5,tu_ s6,a0_]
   cases lw_ r.2.2.1.length a.2.2.2.1 with
   | false=>rfl
   | true =>
   cases lw_ r.2.2.1.length a.2.2.2.2.2.2.1 with
   | false=>rfl
   | true =>
   cases lw_ r.2.2.1.length a.2.2.2.2.2.2.2 with
   | false=>rfl
   | true =>
   cases h6:decide (6<(a.2.2.2.2.2.1.length:Int)) with
   | true=>rfl
   | false =>
   simp only[e1_,g2_,a2_,c3_,a0_]
   refine e6_ (congrArg (λo=>Option.bind o _) (?_:_=some (!((a.2.2.2.2.2.2.1.all λp=>a.2.2.2.1.contains p)&&!(a.2.2.2.2.2.2.2.any λp=>a.2.2.2.1.contains p)),()))) ?_
   ·refine e6_ (congrArg (λo=>Option.bind o _) (oo_ s5 (λp=>!(a.2.2.2.1.contains p)) (λi y hy => ?_) ?_)) ?_
    ·simp only[dlt (am_ hy),a5_,ah_ hy,a0_,qa_ s2]
     cases a.2.2.2.1.contains y<;>rfl
    ·simp only[dnl,a2_]
    rw[a0_,← uu_ a.2.2.2.2.2.2.1]
    cases a.2.2.2.2.2.2.1.any λp=>!(a.2.2.2.1.contains p) with
    | true=>rfl
    | false =>
    refine e6_ (congrArg (λo=>Option.bind o _) (oo_ s6 (λp=>a.2.2.2.1.contains p) (λi y hy => ?_) ?_)) ?_
    ·simp only[dlt (am_ hy),a5_,ah_ hy,a0_,qa_ s2]
     cases a.2.2.2.1.contains y<;>rfl
    ·simp only[dnl,a2_]
    cases a.2.2.2.2.2.2.2.any λp=>a.2.2.2.1.contains p<;>rfl
   ·rw[a0_]
    cases a.2.2.2.2.2.2.1.all λp=>a.2.2.2.1.contains p with
    | false=>rfl
    | true =>
    cases a.2.2.2.2.2.2.2.any λp=>a.2.2.2.1.contains p with
    | true=>rfl
    | false =>
     simp only[e1_,g2_,a2_,c3_]
     refine bu_ a.2.2.2.2.2.1 (λi x=>cond (sn_ r a.2.2.2.2.2.1 i x) none (some (inr (false,()):Unit⊕(Bool×Unit)))) (λi=>((i:Int),())) (r0:=inl ()) (λk y hy => ?_) ?_ ?_
     ·have hk:=am_ hy
      simp only[dlt hk,a5_,ah_ hy,a0_,ba_ (show Sm k by omega),qj_ (f9_ hk)]
      refine e6_ (congrArg (λo=>Option.bind o _) (oo_ (xb_ s4 k) (λz=>z.1==y.1) (λn z hz => ?_) ?_)) ?_
      ·simp only[dlt (am_ hz),a5_,ah_ hz,a0_]
       cases z.1==y.1<;>rfl
      ·simp only[dnl,a2_]
      ·rw[a0_,qp_ h.th]
       unfold sn_
       cases ou_ r.2.1 y.1 y.2 with
       | false=>rfl
       | true =>
        cases (a.2.2.2.2.2.1.take k).any λz=>z.1==y.1<;>rfl
     ·simp only[dnl,a2_]
     ·rw[tt_]
      cases (hg_ (λi x=>cond (sn_ r a.2.2.2.2.2.1 i x) none (some ())) 0 a.2.2.2.2.2.1).isNone<;>rfl
end
section
def ah2 (r:ae_):Bool:=decide (8<(r.1.length:Int))||(decide (12<(r.2.1.length:Int))||(decide (10<(r.2.2.1.length:Int))||(decide (16<(r.2.2.2.1.length:Int))||(decide (24<(r.2.2.2.2.1.length:Int))||decide (12<(r.2.2.2.2.2.1.length:Int))))))
theorem bx1 (r:ae_):(cond (decide (8<(r.1.length:Int)))
 (some (true,()))
 (cond (decide (12<(r.2.1.length:Int)))
 (some (true,()))
 (cond (decide (10<(r.2.2.1.length:Int)))
 (some (true,()))
 (cond (decide (16<(r.2.2.2.1.length:Int)))
 (some (true,()))
 (cond (decide (24<(r.2.2.2.2.1.length:Int)))
 (some (true,()))
 (some ((decide (12<(r.2.2.2.2.2.1.length:Int))),())))))))=some (ah2 r,()):=by
  unfold ah2
  cases decide (8<(r.1.length:Int)) with
  | true=>rfl
  | false =>
  cases decide (12<(r.2.1.length:Int)) with
  | true=>rfl
  | false =>
  cases decide (10<(r.2.2.1.length:Int)) with
  | true=>rfl
  | false =>
  cases decide (16<(r.2.2.2.1.length:Int)) with
  | true=>rfl
  | false =>
  cases decide (24<(r.2.2.2.2.1.length:Int)) with
  | true=>rfl
  | false=>rfl
def dn_ (r:ae_):Int :=
 cond (ah2 r) 2 ((hg_ (λi x=>lr_ (plOk r i x) 22) 0 r.1).getD
  (cond ((r.1.length:Int)==0) 22 ((hg_ (λi x=>lr_ (bp1 r i x) 21) 0 r.2.1).getD
   ((hg_ (λi x=>tr_ (cl1 r i x) 24 (cOk r.2.1 x.2.2) 25) 0 r.2.2.1).getD
    ((hg_ (λ_ x=>tr_ (cg6 r x) 23 (cOk r.2.1 x.2.2) 25) 0 r.2.2.2.1).getD
     ((hg_ (λi x=>tr_ (vx_ r i x) 26 (cOk r.2.1 x.2.2.2.2.1) 25) 0 r.2.2.2.2.1).getD
      ((hg_ (λ_ x=>tr_ (ou_ r.2.1 x.2.1 x.2.2) 27 (cOk r.2.1 x.1) 25) 0 r.2.2.2.2.2.1).getD
       (cond (wi r.2.2.2.2.2.2.1 1 4) (cond (cOk r.2.1 r.2.2.2.2.2.2.2) 0 25) 1))))))))
theorem tv_ {r:ae_} (h:SmR r):gc_ r=some (dn_ r,()):=by
 unfold gc_
 refine e6_ (congrArg (λo=>Option.bind o _) (bx1 r)) ?_
 rw[a0_]
 unfold dn_
 cases ah2 r with
 | true=>rfl
 | false =>
 simp only[a2_]
 refine bx_ r.1 (λi x=>lr_ (plOk r i x) 22) (λi y hy => ?_) ?_ (fk_ ?_)
 ·have hi:=am_ hy
  simp only[dlt hi,a5_,ah_ hy,a0_,ba_ (show Sm i from c7_ (f9_ hi) h.pl),qj_ (f9_ hi)]
  refine e6_ (congrArg (λo=>Option.bind o _) (wh_ (xb_ h.pl i) id (h.pln y (aw_ hy)))) ?_
  unfold lr_ plOk frN twN
  rw[a0_]
  cases okN y&&!((r.1.take i).any λz=>id z==y)<;>rfl
 ·simp only[dnl,a2_]
 cases (r.1.length:Int)==0 with
 | true=>rfl
 | false =>
 simp only[a2_]
 refine bx_ r.2.1 (λi x=>lr_ (bp1 r i x) 21) (λi y hy => ?_) ?_ (fk_ ?_)
 ·have hi:=am_ hy
  simp only[dlt hi,a5_,ah_ hy,a0_,ba_ (show Sm i from c7_ (f9_ hi) h.th),qj_ (f9_ hi)]
  refine e6_ (congrArg (λo=>Option.bind o _) (e6_ (congrArg (λo=>Option.bind o _) (wh_ (xb_ h.th i) (·.1) (h.thn y (aw_ hy)))) (?_:_=some (!(bp1 r i y),())))) ?_
  ·simp only[eo_,a0_]
   unfold bp1 frN twN tb_
   cases okN y.1&&!((r.2.1.take i).any λz=>z.1==y.1) with
   | false=>rfl
   | true =>
    cases wi y.2.1 0 (w64 ((r.1.length:Int) - 1)) with
    | false=>rfl
    | true =>
     cases wi y.2.2.1 2 6 with
     | false=>rfl
     | true=>rfl
  ·rw[a0_]
   unfold lr_
   cases bp1 r i y<;>rfl
 ·simp only[dnl,a2_]
 refine bx_ r.2.2.1 (λi x=>tr_ (cl1 r i x) 24 (cOk r.2.1 x.2.2) 25) (λi y hy => ?_) ?_ (fk_ ?_)
 ·have hi:=am_ hy
  simp only[dlt hi,a5_,ah_ hy,a0_,ba_ (show Sm i from c7_ (f9_ hi) h.pr),qj_ (f9_ hi)]
  refine e6_ (congrArg (λo=>Option.bind o _) (e6_ (congrArg (λo=>Option.bind o _) (wh_ (xb_ h.pr i) (·.1) (h.prn y (aw_ hy)).1)) (?_:_=some (!(cl1 r i y),())))) ?_
  ·simp only[eo_,a0_]
   unfold cl1 frN twN tb_
   cases okN y.1&&!((r.2.2.1.take i).any λz=>z.1==y.1) with
   | false=>rfl
   | true =>
    cases wi y.2.1 0 (w64 ((r.1.length:Int) - 1)) with
    | false=>rfl
    | true=>rfl
  ·rw[a0_,kw_ h.th,a0_]
   unfold tr_
   cases cl1 r i y with
   | false=>rfl
   | true=>cases cOk r.2.1 y.2.2<;>rfl
 ·simp only[dnl,a2_]
 refine bx_ r.2.2.2.1 (λi x=>tr_ (cg6 r x) 23 (cOk r.2.1 x.2.2) 25) (λi y hy => ?_) ?_ (fk_ ?_)
 ·have hi:=am_ hy
  simp only[dlt hi,a5_,ah_ hy,a0_,ba_ (show Sm i from c7_ (f9_ hi) h.wy)]
  refine e6_ (congrArg (λo=>Option.bind o _) (?_:_=some (!(cg6 r y),()))) ?_
  ·simp only[eo_,a0_]
   unfold cg6 tb_
   cases wi y.1 0 (w64 ((r.1.length:Int) - 1)) with
   | false=>rfl
   | true =>
    cases wi y.2.1 0 (w64 ((r.1.length:Int) - 1)) with
    | false=>rfl
    | true=>simp
  ·rw[a0_,kw_ h.th,a0_]
   unfold tr_
   cases cg6 r y with
   | false=>rfl
   | true=>cases cOk r.2.1 y.2.2<;>rfl
 ·simp only[dnl,a2_]
 refine bx_ r.2.2.2.2.1 (λi x=>tr_ (vx_ r i x) 26 (cOk r.2.1 x.2.2.2.2.1) 25) (λi y hy => ?_) ?_ (fk_ ?_)
 ·have hi:=am_ hy
  simp only[dlt hi,a5_,ah_ hy,a0_,ba_ (show Sm i from c7_ (f9_ hi) h.ac),ck2 h hy,kw_ h.th]
  unfold tr_
  cases vx_ r i y with
  | false=>rfl
  | true=>cases cOk r.2.1 y.2.2.2.2.1<;>rfl
 ·simp only[dnl,a2_]
 refine bx_ r.2.2.2.2.2.1 (λi x=>tr_ (ou_ r.2.1 x.2.1 x.2.2) 27 (cOk r.2.1 x.1) 25) (λi y hy => ?_) ?_ (fk_ ?_)
 ·have hi:=am_ hy
  simp only[dlt hi,a5_,ah_ hy,a0_,ba_ (show Sm i from c7_ (f9_ hi) h.au),qp_ h.th,kw_ h.th]
  unfold tr_
  cases ou_ r.2.1 y.2.1 y.2.2 with
  | false=>rfl
  | true=>cases cOk r.2.1 y.1<;>rfl
 ·simp only[dnl,a2_]
 rw[eo_,a0_,kw_ h.th,a0_]
 cases wi r.2.2.2.2.2.2.1 1 4 with
 | false=>rfl
 | true=>cases cOk r.2.1 r.2.2.2.2.2.2.2<;>rfl
end
section
theorem vj_ {α ρ σ τ:Type} (l:List α) (k:Nat) (hk:k≤l.length) (p:Nat→α→Option ρ) (F:Nat→σ) {r0:ρ} {body:σ→Option (σ⊕ρ)} {K:ρ→Option τ} {x:Option τ}
  (h:∀ i x,i<k→l[i]?=some x→body (F i)=some (match p i x with | none=>.inl (F (i+1)) | some r=>.inr r)) (e:body (F k)=some (.inr r0)) (hx:K ((hg_ p 0 (l.take k)).getD r0)=x) :
  (af_ body (F 0)).bind K=x:=by
 have hle:(l.take k).length=k:=by rw[c5_];omega
 refine bu_ (l.take k) p F (λi x hx => ?_) (by rw[hle];exact e) hx
 rw[j4_] at hx
 split at hx
 ·exact h i x ‹_› hx
 ·cases hx
theorem br9 {r:ae_} (h:SmR r) {i:Nat} {a:dg_} (ha:r.2.2.2.2.1[i]?=some a):oa_ r (i:Int)=some (vx_ r i a,()):=by
 have hi:=am_ ha
 have hac:=h.ac
 obtain⟨s1,s2,s3,s4,s5,s6⟩:=h.acn a (aw_ ha)
 unfold oa_
 rw[ah_ ha,a0_]
 refine vj_ r.2.2.2.2.1 i (f9_ hi) (λ_ y=>cond (y.1==a.1) (some (inr (false,()):Unit⊕(Bool×Unit))) none) (λi=>((i:Int),())) (r0:=inl ()) (λk y hk hy => ?_) ?_ ?_
 ·simp only[dlt hk,a5_,ah_ hy,a0_,ba_ (show Sm k by omega)]
  cases y.1==a.1<;>rfl
 ·simp only[dnl,a2_]
 rw[ib_ (q:=λy:dg_=>y.1==a.1)]
 unfold vx_ frN twN
 cases (r.2.2.2.2.1.take i).any λy=>y.1==a.1 with
 | true=>rw[e1_,f7_,e8_];rfl
 | false =>
 simp only[a2_,j6_,ad2,g2_,h7_]
 refine e6_ (congrArg (λo=>Option.bind o _) (?_:_=some (!(okN a.1&&(tb_ r a.2.1&&(wi a.2.2.1 (-1) 7&&(lw_ r.2.2.1.length a.2.2.2.1&&(lw_ r.2.2.1.length a.2.2.2.2.2.2.1&&(lw_ r.2.2.1.length a.2.2.2.2.2.2.2&&!(decide (6<(a.2.2.2.2.2.1.length:Int))))))))),()))) ?_
 ·simp only[ld_ s1,iy_,gi_,lc_ h.pr s2,lc_ h.pr s5,lc_ h.pr s6,a0_]
  unfold tb_
  cases okN a.1 with
  | false=>rfl
  | true =>
  cases wi a.2.1 0 (w64 ((r.1.length:Int) - 1)) with
  | false=>rfl
  | true =>
  cases wi a.2.2.1 (-1) 7 with
  | false=>rfl
  | true =>
  cases lw_ r.2.2.1.length a.2.2.2.1 with
  | false=>rfl
  | true =>
  cases lw_ r.2.2.1.length a.2.2.2.2.2.2.1 with
  | false=>rfl
  | true =>
  cases lw_ r.2.2.1.length a.2.2.2.2.2.2.2 with
  | false=>rfl
  | true=>simp
 rw[a0_]
 cases okN a.1 with
 | false=>rfl
 | true =>
 cases tb_ r a.2.1 with
 | false=>rfl
 | true =>
 cases wi a.2.2.1 (-1) 7 with
 | false=>rfl
 | true =>
 cases lw_ r.2.2.1.length a.2.2.2.1 with
 | false=>rfl
 | true =>
 cases lw_ r.2.2.1.length a.2.2.2.2.2.2.1 with
 | false=>rfl
 | true =>
 cases lw_ r.2.2.1.length a.2.2.2.2.2.2.2 with
 | false=>rfl
 | true =>
 cases decide (6<(a.2.2.2.2.2.1.length:Int)) with
 | true=>rfl
 | false =>
 simp only[c3_,e1_,g2_,a2_]
 refine bu_ a.2.2.2.2.2.2.1 (λ_ y=>cond (a.2.2.2.1.contains y) none (some (inr (false,()):Unit⊕(Bool×Unit)))) (λi=>((i:Int),())) (r0:=inl ()) (λk y hy => ?_) ?_ ?_
 ·have hk:=am_ hy
  simp only[dlt hk,a5_,ah_ hy,a0_,ba_ (show Sm k by omega),bb5 s2]
  cases a.2.2.2.1.contains y<;>rfl
 ·simp only[dnl,a2_]
 rw[kh_ (q:=λy=>a.2.2.2.1.contains y)]
 cases a.2.2.2.2.2.2.1.all λy=>a.2.2.2.1.contains y with
 | false=>rfl
 | true =>
 simp only[a5_,j6_,ad2,c3_]
 refine bu_ a.2.2.2.2.2.2.2 (λ_ y=>cond (a.2.2.2.1.contains y) (some (inr (false,()):Unit⊕(Bool×Unit))) none) (λi=>((i:Int),())) (r0:=inl ()) (λk y hy => ?_) ?_ ?_
 ·have hk:=am_ hy
  simp only[dlt hk,a5_,ah_ hy,a0_,ba_ (show Sm k by omega),bb5 s2]
  cases a.2.2.2.1.contains y<;>rfl
 ·simp only[dnl,a2_]
 rw[ib_ (q:=λy=>a.2.2.2.1.contains y)]
 cases a.2.2.2.2.2.2.2.any λy=>a.2.2.2.1.contains y with
 | true=>rfl
 | false =>
 simp only[a2_,j6_,ad2,g2_,c3_]
 refine bu_ a.2.2.2.2.2.1 (λi x=>cond (sn_ r a.2.2.2.2.2.1 i x) none (some (inr (false,()):Unit⊕(Bool×Unit)))) (λi=>((i:Int),())) (r0:=inl ()) (λk y hy => ?_) ?_ ?_
 ·have hk:=am_ hy
  simp only[dlt hk,a5_,ah_ hy,a0_,ba_ (show Sm k by omega),sq_ h.th]
  unfold sn_
  cases ou_ r.2.1 y.1 y.2 with
  | false=>rfl
  | true =>
  simp only[e1_,a2_,c3_]
  refine vj_ a.2.2.2.2.2.1 k (f9_ hk) (λ_ z=>cond (z.1==y.1) (some (inr (inr (inr (false,()))):Unit⊕((Int×Unit)⊕(Unit⊕(Bool×Unit))))) none) (λi=>((i:Int),())) (r0:=inl ()) (λn z hn hz => ?_) ?_ ?_
  ·simp only[dlt hn,a5_,ah_ hz,a0_,ba_ (show Sm n by omega)]
   cases z.1==y.1<;>rfl
  ·simp only[dnl,a2_]
  rw[ib_ (q:=λz:ab_=>z.1==y.1)]
  cases (a.2.2.2.2.2.1.take k).any λz=>z.1==y.1<;>rfl
 ·simp only[dnl,a2_]
 rw[tt_]
 cases (hg_ (λi x=>cond (sn_ r a.2.2.2.2.2.1 i x) none (some ())) 0 a.2.2.2.2.2.1).isNone<;>rfl
theorem an7 {α:Type} {nm:α→List UInt8} {l:List α} (hl:Sm l.length) {i:Nat} {x:α} (hx:l[i]?=some x):push? (α:=List UInt8) ((l.take i).map nm) [nm x]=some ((l.take (i+1)).map nm):=by
 have hi:=am_ hx
 unfold push?
 rw[if_pos (by
  simp only[e0_,c5_,c8_]
  omega)]
 rw[d9_,hx,j1_]
 rfl
theorem bo9 {α:Type} {nm:α→List UInt8} {l:List α} {i:Nat} {t:List UInt8}:twN id ((l.take (i+1)).map nm) i t=twN nm l i t:=by
 unfold twN
 rw[← List.map_take,List.take_take,Nat.min_eq_left (Nat.le_succ i),List.any_map]
 rfl
theorem cu6 {α:Type} {nm:α→List UInt8} {l:List α} {i:Nat} {x:α} (hx:l[i]?=some x):((l.take (i+1)).map nm)[i]?=some (nm x):=by
 rw[e3_,j4_,if_pos (Nat.lt_succ_self i),hx]
 rfl
theorem rt_ {r:ae_} (h:SmR r):gp_ r=some (dn_ r,()):=by
 unfold gp_
 refine e6_ (congrArg (λo=>Option.bind o _) (bx1 r)) ?_
 rw[a0_]
 unfold dn_
 cases ah2 r with
 | true=>rfl
 | false =>
 simp only[a2_]
 cases he:(r.1.length:Int)==0 with
 | true =>
  have:r.1=[]:=by
   have:=i5_.1 he
   exact h6_ (by omega)
  rw[this]
  rfl
 | false =>
 simp only[a2_]
 refine bx_ r.1 (λi x=>lr_ (plOk r i x) 22) (λi y hy => ?_) ?_ (fk_ ?_)
 ·have hi:=am_ hy
  simp only[dlt hi,a5_,ah_ hy,a0_,ba_ (show Sm i from c7_ (f9_ hi) h.pl),ld_ (h.pln y (aw_ hy)),rs_ h.pl hy]
  unfold lr_ plOk frN
  cases okN y with
  | false=>rfl
  | true=>cases twN id r.1 i y<;>rfl
 ·simp only[dnl,a2_]
 refine ac7 r.2.1 (λi x=>lr_ (bp1 r i x) 21) (λi=>(r.2.1.take i).map (·.1)) rfl (λi y hy => ?_) ?_ (fk_ ?_)
 ·have hi:=am_ hy
  have hs:Sm ((r.2.1.take (i+1)).map (·.1)).length:=by
   rw[e0_,c5_]
   exact c7_ (m5_ _ _) h.th
  simp only[dlt hi,a5_,ah_ hy,a0_,ba_ (show Sm i from c7_ (f9_ hi) h.th),an7 h.th hy,ld_ (h.thn y (aw_ hy)),rs_ hs (cu6 hy),bo9,iy_,gi_]
  unfold lr_ bp1 frN tb_
  cases okN y.1 with
  | false=>rfl
  | true =>
  cases twN (·.1) r.2.1 i y.1 with
  | true=>rfl
  | false =>
  cases wi y.2.1 0 (w64 ((r.1.length:Int) - 1)) with
  | false=>rfl
  | true =>
  cases wi y.2.2.1 2 6 with
  | false=>rfl
  | true=>cases wi y.2.2.2 0 (w64 (y.2.2.1 - 1))<;>rfl
 ·simp only[dnl,a2_]
 refine ac7 r.2.2.1 (λi x=>tr_ (cl1 r i x) 24 (cOk r.2.1 x.2.2) 25) (λi=>(r.2.2.1.take i).map (·.1)) rfl (λi y hy => ?_) ?_ (fk_ ?_)
 ·have hi:=am_ hy
  obtain⟨s1,s2⟩:=h.prn y (aw_ hy)
  have hs:Sm ((r.2.2.1.take (i+1)).map (·.1)).length:=by
   rw[e0_,c5_]
   exact c7_ (m5_ _ _) h.pr
  simp only[dlt hi,a5_,ah_ hy,a0_,ba_ (show Sm i from c7_ (f9_ hi) h.pr),an7 h.pr hy,ld_ s1,rs_ hs (cu6 hy),bo9,iy_,hs_ h.th s2]
  unfold tr_ cl1 frN tb_
  cases okN y.1 with
  | false=>rfl
  | true =>
  cases twN (·.1) r.2.2.1 i y.1 with
  | true=>rfl
  | false =>
  have e:(y.2.1 != -1) = !(y.2.1==-1):=rfl
  rw[e]
  cases y.2.1==-1 with
  | true =>
   cases wi y.2.1 0 (w64 ((r.1.length:Int) - 1))<;>cases cOk r.2.1 y.2.2<;>rfl
  | false =>
   cases wi y.2.1 0 (w64 ((r.1.length:Int) - 1))<;>cases cOk r.2.1 y.2.2<;>rfl
 ·simp only[dnl,a2_]
 refine bx_ r.2.2.2.1 (λi x=>tr_ (cg6 r x) 23 (cOk r.2.1 x.2.2) 25) (λi y hy => ?_) ?_ (fk_ ?_)
 ·have hi:=am_ hy
  simp only[dlt hi,a5_,ah_ hy,a0_,ba_ (show Sm i from c7_ (f9_ hi) h.wy),iy_,hs_ h.th (h.wyn y (aw_ hy))]
  unfold tr_ cg6 tb_
  cases wi y.1 0 (w64 ((r.1.length:Int) - 1)) with
  | false=>rfl
  | true =>
  cases wi y.2.1 0 (w64 ((r.1.length:Int) - 1)) with
  | false=>rfl
  | true=>cases y.1==y.2.1<;>cases cOk r.2.1 y.2.2<;>rfl
 ·simp only[dnl,a2_]
 refine bx_ r.2.2.2.2.1 (λi x=>tr_ (vx_ r i x) 26 (cOk r.2.1 x.2.2.2.2.1) 25) (λi y hy => ?_) ?_ (fk_ ?_)
 ·have hi:=am_ hy
  simp only[dlt hi,a5_,ah_ hy,a0_,ba_ (show Sm i from c7_ (f9_ hi) h.ac),br9 h hy,hs_ h.th (h.acn y (aw_ hy)).2.2.1]
  unfold tr_
  cases vx_ r i y with
  | false=>rfl
  | true=>cases cOk r.2.1 y.2.2.2.2.1<;>rfl
 ·simp only[dnl,a2_]
 refine bx_ r.2.2.2.2.2.1 (λi x=>tr_ (ou_ r.2.1 x.2.1 x.2.2) 27 (cOk r.2.1 x.1) 25) (λi y hy => ?_) ?_ (fk_ ?_)
 ·have hi:=am_ hy
  simp only[dlt hi,a5_,ah_ hy,a0_,ba_ (show Sm i from c7_ (f9_ hi) h.au),sq_ h.th,hs_ h.th (h.aun y (aw_ hy))]
  unfold tr_
  cases ou_ r.2.1 y.2.1 y.2.2 with
  | false=>rfl
  | true=>cases cOk r.2.1 y.1<;>rfl
 ·simp only[dnl,a2_]
 rw[gi_,a0_,hs_ h.th h.go,a0_]
 cases wi r.2.2.2.2.2.2.1 1 4 with
 | false=>rfl
 | true=>cases cOk r.2.1 r.2.2.2.2.2.2.2<;>rfl
end
section
theorem kj_ {α τ:Type} (l:List α) (hl:Sm l.length) (q:α→Bool) {body:(Int×Unit)→Option ((Int×Unit)⊕(Unit⊕(Bool×Unit)))} {K:(Unit⊕(Bool×Unit))→Option τ} {x:Option τ}
  (h:∀ (i:Nat) y,l[i]?=some y→body ((i:Int),())=some (cond (q y) (.inr (.inr (true,()))) (.inl (w64 ((i:Int)+1),())))) (e:body ((l.length:Int),())=some (.inr (.inl ()))) (hx:K (cond (l.any q) (.inr (true,())) (.inl ()))=x) :
  (af_ body (0,())).bind K=x:=by
 refine bu_ l (λi y=>cond (q y) (some (inr (true,()):Unit⊕(Bool×Unit))) none) (λi=>((i:Int),())) (r0:=inl ()) (λi y hy => ?_) e ?_
 ·have hi:=am_ hy
  rw[h i y hy,ba_ (show Sm i by omega)]
  cases q y<;>rfl
 ·rw[ib_ (q:=q)]
  cases hq:l.any q<;>rw[hq] at hx<;>exact hx
theorem iu_ {α:Type} {l:List α} {q:α→Bool} (h:l.any q=false):∀ x ∈ l,q x=false:=by
 intro x hx
 cases hq:q x with
 | false=>rfl
 | true=>rw[List.any_eq_true.2 ⟨x,hx,hq⟩] at h;cases h
theorem nlt {n:Nat} {k:Int} (h:decide (k<(n:Int))=false) (hk:k≤1000000000):Sm n:=by
 have:=d1_ h
 omega
def cn7 (r:ae_):Bool:=decide (12<(r.1.length:Int))||(decide (15<(r.2.1.length:Int))||(decide (14<(r.2.2.1.length:Int))||(decide (20<(r.2.2.2.1.length:Int))||(decide (30<(r.2.2.2.2.1.length:Int))||(decide (15<(r.2.2.2.2.2.1.length:Int))||decide (20<(r.2.2.2.2.2.2.2.length:Int)))))))
theorem cn6 (r:ae_):(cond (decide (12<(r.1.length:Int)))
 (some (true,()))
 (cond (decide (15<(r.2.1.length:Int)))
 (some (true,()))
 (cond (decide (14<(r.2.2.1.length:Int)))
 (some (true,()))
 (cond (decide (20<(r.2.2.2.1.length:Int)))
 (some (true,()))
 (cond (decide (30<(r.2.2.2.2.1.length:Int)))
 (some (true,()))
 (cond (decide (15<(r.2.2.2.2.2.1.length:Int)))
 (some (true,()))
 (some ((decide (20<(r.2.2.2.2.2.2.2.length:Int))),()))))))))=some (cn7 r,()):=by
  unfold cn7
  cases decide (12<(r.1.length:Int)) with
  | true=>rfl
  | false =>
  cases decide (15<(r.2.1.length:Int)) with
  | true=>rfl
  | false =>
  cases decide (14<(r.2.2.1.length:Int)) with
  | true=>rfl
  | false =>
  cases decide (20<(r.2.2.2.1.length:Int)) with
  | true=>rfl
  | false =>
  cases decide (30<(r.2.2.2.2.1.length:Int)) with
  | true=>rfl
  | false =>
  cases decide (15<(r.2.2.2.2.2.1.length:Int)) with
  | true=>rfl
  | false=>rfl
theorem by1 (r:ae_):∃ b,oe_ r=some (b,())∧(b=false→SmR r∧r.2.1.length≤15∧r.2.2.2.2.2.2.2.length≤20∧r.2.2.2.2.1.length≤30):=by
 unfold oe_
 have e0:=cn6 r
 cases hm:cn7 r with
 | true =>
  rw[hm] at e0
  exact⟨true,e6_ (congrArg (λo=>Option.bind o _) e0) rfl,λh=>by cases h⟩
 | false =>
 rw[hm] at e0
 unfold cn7 at hm
 simp only[b8_] at hm
 obtain⟨h1,h2,h3,h4,h5,h6,h7⟩:=hm
 have l1:=nlt h1 (by decide)
 have l2:=nlt h2 (by decide)
 have l3:=nlt h3 (by decide)
 have l4:=nlt h4 (by decide)
 have l5:=nlt h5 (by decide)
 have l6:=nlt h6 (by decide)
 have l7:=nlt h7 (by decide)
 have b2:=d1_ h2
 have b5:=d1_ h5
 have b7:=d1_ h7
 let qa:dg_→Bool:=λy=>decide (100<(y.1.length:Int))||(decide (20<(y.2.2.2.2.1.length:Int))||(decide (20<(y.2.2.2.1.length:Int))||(decide (20<(y.2.2.2.2.2.1.length:Int))||(decide (20<(y.2.2.2.2.2.2.1.length:Int))||decide (20<(y.2.2.2.2.2.2.2.length:Int))))))
 let b1:=r.1.any λx=>decide (100<(x.length:Int))
 let bt:=r.2.1.any λx=>decide (100<(x.1.length:Int))
 let bp:=r.2.2.1.any λx=>decide (100<(x.1.length:Int))||decide (20<(x.2.2.length:Int))
 let bw:=r.2.2.2.1.any λx=>decide (20<(x.2.2.length:Int))
 let ba:=r.2.2.2.2.1.any qa
 let bo:=r.2.2.2.2.2.1.any λx=>decide (20<(x.1.length:Int))
 refine⟨b1||(bt||(bp||(bw||(ba||bo)))),?_,?_⟩
 ·refine e6_ (congrArg (λo=>Option.bind o _) e0) ?_
  rw[a0_]
  simp only[a2_]
  refine kj_ r.1 l1 (λx=>decide (100<(x.length:Int))) (λi y hy => ?_) ?_ ?_
  ·simp only[dlt (am_ hy),a5_,ah_ hy,a0_]
   cases decide (100<(y.length:Int))<;>rfl
  ·simp only[dnl,a2_]
  show cd_ (cond b1 _ _) _ _=_
  cases b1 with
  | true=>rfl
  | false =>
  refine kj_ r.2.1 l2 (λx=>decide (100<(x.1.length:Int))) (λi y hy => ?_) ?_ ?_
  ·simp only[dlt (am_ hy),a5_,ah_ hy,a0_]
   cases decide (100<(y.1.length:Int))<;>rfl
  ·simp only[dnl,a2_]
  show cd_ (cond bt _ _) _ _=_
  cases bt with
  | true=>rfl
  | false =>
  refine kj_ r.2.2.1 l3 (λx=>decide (100<(x.1.length:Int))||decide (20<(x.2.2.length:Int))) (λi y hy => ?_) ?_ ?_
  ·simp only[dlt (am_ hy),a5_,ah_ hy,a0_]
   cases decide (100<(y.1.length:Int)) with
   | true=>rfl
   | false=>cases decide (20<(y.2.2.length:Int))<;>rfl
  ·simp only[dnl,a2_]
  show cd_ (cond bp _ _) _ _=_
  cases bp with
  | true=>rfl
  | false =>
  refine kj_ r.2.2.2.1 l4 (λx=>decide (20<(x.2.2.length:Int))) (λi y hy => ?_) ?_ ?_
  ·simp only[dlt (am_ hy),a5_,ah_ hy,a0_]
   cases decide (20<(y.2.2.length:Int))<;>rfl
  ·simp only[dnl,a2_]
  show cd_ (cond bw _ _) _ _=_
  cases bw with
  | true=>rfl
  | false =>
  refine kj_ r.2.2.2.2.1 l5 qa (λi y hy => ?_) ?_ ?_
  ·simp only[dlt (am_ hy),a5_,ah_ hy,a0_,qa]
   cases decide (100<(y.1.length:Int)) with
   | true=>rfl
   | false =>
   cases decide (20<(y.2.2.2.2.1.length:Int)) with
   | true=>rfl
   | false =>
   cases decide (20<(y.2.2.2.1.length:Int)) with
   | true=>rfl
   | false =>
   cases decide (20<(y.2.2.2.2.2.1.length:Int)) with
   | true=>rfl
   | false =>
   cases decide (20<(y.2.2.2.2.2.2.1.length:Int)) with
   | true=>rfl
   | false=>cases decide (20<(y.2.2.2.2.2.2.2.length:Int))<;>rfl
  ·simp only[dnl,a2_]
  show cd_ (cond ba _ _) _ _=_
  cases ba with
  | true=>rfl
  | false =>
  refine kj_ r.2.2.2.2.2.1 l6 (λx=>decide (20<(x.1.length:Int))) (λi y hy => ?_) ?_ ?_
  ·simp only[dlt (am_ hy),a5_,ah_ hy,a0_]
   cases decide (20<(y.1.length:Int))<;>rfl
  ·simp only[dnl,a2_]
  show cd_ (cond bo _ _) _ _=_
  cases bo<;>rfl
 ·intro hb
  simp only[b8_] at hb
  obtain⟨g1,g2,g3,g4,g5,g6⟩:=hb
  refine⟨⟨l1,l2,l3,l4,l5,l6,l7,λx hx=>nlt (iu_ g1 x hx) (by decide),λx hx=>nlt (iu_ g2 x hx) (by decide),λx hx => ?_,λx hx=>nlt (iu_ g4 x hx) (by decide),λx hx => ?_,λx hx=>nlt (iu_ g6 x hx) (by decide)⟩,by omega,by omega,by omega⟩
  ·have:=iu_ g3 x hx
   simp only[b8_] at this
   exact⟨nlt this.1 (by decide),nlt this.2 (by decide)⟩
  ·have:=iu_ g5 x hx
   simp only[qa,b8_] at this
   obtain⟨a1,a2,a3,a4,a5,a6⟩:=this
   exact⟨nlt a1 (by decide),nlt a3 (by decide),nlt a2 (by decide),nlt a4 (by decide),nlt a5 (by decide),nlt a6 (by decide)⟩
structure SmG (g:ac_):Prop where
 room:SmR g.1
 th:g.1.2.1.length≤15
 go:g.1.2.2.2.2.2.2.2.length≤20
 ac:g.1.2.2.2.2.1.length≤30
 lk:g.2.1.length≤10
 cd:g.2.2.1.length≤10
 nt:g.2.2.2.1.length≤20
 lkn:∀ x ∈ g.2.1,¬ (3<x.1∧5<x.2)
 cdn:∀ x ∈ g.2.2.1,x.length≤10
 ntn:∀ x ∈ g.2.2.2.1,x.1.length≤100∧x.2.2.2.1.length≤20∧x.2.2.2.2.2.2.2.2.2.1.length≤10
theorem by0 (g:ac_):∃ b,lp_ g=some (b,())∧(b=false→SmG g):=by
 unfold lp_
 obtain⟨b0,e0,h0⟩:=by1 g.1
 rw[e0]
 simp only[a0_]
 cases b0 with
 | true=>exact⟨true,rfl,λh=>by cases h⟩
 | false =>
 obtain⟨r1,r2,r3,r4⟩:=h0 rfl
 cases h1:decide (10<(g.2.1.length:Int)) with
 | true=>exact⟨true,rfl,λh=>by cases h⟩
 | false =>
 cases h2:decide (10<(g.2.2.1.length:Int)) with
 | true=>exact⟨true,rfl,λh=>by cases h⟩
 | false =>
 cases h3:decide (20<(g.2.2.2.1.length:Int)) with
 | true=>exact⟨true,rfl,λh=>by cases h⟩
 | false =>
 have l1:=nlt h1 (by decide)
 have l2:=nlt h2 (by decide)
 have l3:=nlt h3 (by decide)
 let ql:ab_→Bool:=λy=>decide (3<y.1)&&decide (5<y.2)
 let qn:cy_→Bool:=λy=>decide (100<(y.1.length:Int))||(decide (20<(y.2.2.2.1.length:Int))||decide (10<(y.2.2.2.2.2.2.2.2.2.1.length:Int)))
 let b1:=g.2.1.any ql
 let b2:=g.2.2.1.any λx=>decide (10<(x.length:Int))
 let b3:=g.2.2.2.1.any qn
 refine⟨b1||(b2||b3),?_,?_⟩
 ·simp only[a0_,a2_]
  refine kj_ g.2.1 l1 ql (λi y hy => ?_) ?_ ?_
  ·simp only[dlt (am_ hy),a5_,ah_ hy,a0_,ql]
   cases decide (3<y.1) with
   | false=>rfl
   | true=>cases decide (5<y.2)<;>rfl
  ·simp only[dnl,a2_]
  show cd_ (cond b1 _ _) _ _=_
  cases b1 with
  | true=>rfl
  | false =>
  refine kj_ g.2.2.1 l2 (λx=>decide (10<(x.length:Int))) (λi y hy => ?_) ?_ ?_
  ·simp only[dlt (am_ hy),a5_,ah_ hy,a0_]
   cases decide (10<(y.length:Int))<;>rfl
  ·simp only[dnl,a2_]
  show cd_ (cond b2 _ _) _ _=_
  cases b2 with
  | true=>rfl
  | false =>
  refine kj_ g.2.2.2.1 l3 qn (λi y hy => ?_) ?_ ?_
  ·simp only[dlt (am_ hy),a5_,ah_ hy,a0_,qn]
   cases decide (100<(y.1.length:Int)) with
   | true=>rfl
   | false =>
   cases decide (20<(y.2.2.2.1.length:Int)) with
   | true=>rfl
   | false=>cases decide (10<(y.2.2.2.2.2.2.2.2.2.1.length:Int))<;>rfl
  ·simp only[dnl,a2_]
  show cd_ (cond b3 _ _) _ _=_
  cases b3<;>rfl
 ·intro hb
  simp only[b8_] at hb
  obtain⟨g1,g2,g3⟩:=hb
  have c1:=d1_ h1
  have c2:=d1_ h2
  have c3:=d1_ h3
  refine⟨r1,r2,r3,r4,by omega,by omega,by omega,λx hx => ?_,λx hx => ?_,λx hx => ?_⟩
  ·have:=iu_ g1 x hx
   intro hc
   simp only[ql,b5_ hc.1,b5_ hc.2] at this
   cases this
  ·have:=d1_ (iu_ g2 x hx)
   omega
  ·have:=iu_ g3 x hx
   simp only[qn,b8_] at this
   have d1:=d1_ this.1
   have d2:=d1_ this.2.1
   have d3:=d1_ this.2.2
   omega
end
section
theorem la_ {α ρ:Type} {p:Nat→α→Option ρ} {e:ρ} (h:∀ i x,p i x≠some e):∀ (l:List α) (i:Nat),hg_ p i l≠some e
 | [],_=>by simp[hg_]
 | x::l,i=>by
  unfold hg_
  cases hp:p i x with
  | some r =>
   intro he
   cases he
   exact h i x hp
  | none=>exact la_ h l (i+1)
theorem ha_ {o:Option Int} {k:Int} (h:o.getD k=0) (hn:o≠some 0):o=none∧k=0:=by
 cases o with
 | none=>exact⟨rfl,h⟩
 | some e =>
  have:e=0:=h
  subst this
  exact absurd rfl hn
theorem yt_ {a:Bool} {e:Int} (h:e≠0):lr_ a e≠some 0:=by
 unfold lr_
 cases a with
 | true=>simp
 | false=>simpa using h
theorem ys_ {a b:Bool} {e f:Int} (h:e≠0) (k:f≠0):tr_ a e b f≠some 0:=by
 unfold tr_
 cases a with
 | false=>simpa using h
 | true =>
  cases b with
  | true=>simp
  | false=>simpa using k
theorem lq_ {a:Bool} {e:Int} (h:lr_ a e=none):a=true:=by cases a with
 | true=>rfl
 | false=>cases h
theorem po_ {a b:Bool} {e f:Int} (h:tr_ a e b f=none):a=true∧b=true:=by
 cases a with
 | false=>cases h
 | true=>cases b with
  | true=>exact⟨rfl,rfl⟩
  | false=>cases h
theorem ds_ {α ρ:Type} {p:Nat→α→Option ρ} {l:List α} (h:hg_ p 0 l=none) {i:Nat} {x:α} (hx:l[i]?=some x):p i x=none:=by
 have:=(jn_ l 0).1 h i x hx
 rwa [b0_] at this
structure OkR (r:ae_):Prop where
 many:ah2 r=false
 pl:∀ (i:Nat) x,r.1[i]?=some x→plOk r i x=true
 ne:r.1≠[]
 th:∀ (i:Nat) x,r.2.1[i]?=some x→bp1 r i x=true
 pr:∀ (i:Nat) x,r.2.2.1[i]?=some x→cl1 r i x=true∧cOk r.2.1 x.2.2=true
 wy:∀ (i:Nat) x,r.2.2.2.1[i]?=some x→cg6 r x=true∧cOk r.2.1 x.2.2=true
 ac:∀ (i:Nat) x,r.2.2.2.2.1[i]?=some x→vx_ r i x=true∧cOk r.2.1 x.2.2.2.2.1=true
 au:∀ (i:Nat) x,r.2.2.2.2.2.1[i]?=some x→ou_ r.2.1 x.2.1 x.2.2=true∧cOk r.2.1 x.1=true
 py:wi r.2.2.2.2.2.2.1 1 4=true
 go:cOk r.2.1 r.2.2.2.2.2.2.2=true
theorem bt_ {r:ae_} (h:dn_ r=0):OkR r:=by
 unfold dn_ at h
 cases hm:ah2 r with
 | true=>rw[hm] at h;exact absurd (show (2:Int)=0 from h) (by decide)
 | false =>
 rw[hm] at h
 have h:(hg_ (λi x=>lr_ (plOk r i x) 22) 0 r.1).getD _=0:=h
 obtain⟨h1,h⟩:=ha_ h (la_ (λi x=>yt_ (by decide)) _ _)
 cases he:(r.1.length:Int)==0 with
 | true=>rw[he] at h;exact absurd (show (22:Int)=0 from h) (by decide)
 | false =>
 rw[he] at h
 have h:(hg_ (λi x=>lr_ (bp1 r i x) 21) 0 r.2.1).getD _=0:=h
 obtain⟨h2,h⟩:=ha_ h (la_ (λi x=>yt_ (by decide)) _ _)
 obtain⟨h3,h⟩:=ha_ h (la_ (λi x=>ys_ (by decide) (by decide)) _ _)
 obtain⟨h4,h⟩:=ha_ h (la_ (λi x=>ys_ (by decide) (by decide)) _ _)
 obtain⟨h5,h⟩:=ha_ h (la_ (λi x=>ys_ (by decide) (by decide)) _ _)
 obtain⟨h6,h⟩:=ha_ h (la_ (λi x=>ys_ (by decide) (by decide)) _ _)
 cases h7:wi r.2.2.2.2.2.2.1 1 4 with
 | false=>rw[h7] at h;exact absurd (show (1:Int)=0 from h) (by decide)
 | true =>
 rw[h7] at h
 cases h8:cOk r.2.1 r.2.2.2.2.2.2.2 with
 | false=>rw[h8] at h;exact absurd (show (25:Int)=0 from h) (by decide)
 | true =>
 refine⟨hm,λi x hx=>lq_ (ds_ h1 hx),λe => ?_,λi x hx=>lq_ (ds_ h2 hx),λi x hx=>po_ (ds_ h3 hx),λi x hx=>po_ (ds_ h4 hx),λi x hx=>po_ (ds_ h5 hx),λi x hx=>po_ (ds_ h6 hx),h7,h8⟩
 rw[e] at he
 cases he
def inR (r:ae_) (p:Int):Bool:=wi p (w64 ((w64 ((-2) - r.2.2.2.2.2.2.1))+1)) (w64 ((r.1.length:Int) - 1))
def ah4 (r:ae_) (s:aj_):Bool:=((s.1.length:Int) != (r.2.1.length:Int))||(((s.2.1.length:Int) != (r.2.2.1.length:Int))||((s.2.2.length:Int) != r.2.2.2.2.2.2.1))
def ckS (r:ae_) (s:aj_):Int :=
 cond (ah4 r s) 28 ((hg_ (λi n=>lr_ (ou_ r.2.1 (i:Int) n) 28) 0 s.1).getD ((hg_ (λ_ p=>lr_ (inR r p) 28) 0 s.2.1).getD ((hg_ (λ_ p=>lr_ (tb_ r p) 28) 0 s.2.2).getD 0)))
def kc_ (r:ae_) (s:aj_):Int:=cond (dn_ r != 0) (dn_ r) (ckS r s)
theorem bx7 (r:ae_) (s:aj_):(cond ((s.1.length:Int) != (r.2.1.length:Int))
 (some (true,()))
 (cond ((s.2.1.length:Int) != (r.2.2.1.length:Int))
 (some (true,()))
 (some (((s.2.2.length:Int) != r.2.2.2.2.2.2.1),()))))=some (ah4 r s,()):=by
  unfold ah4
  cases (s.1.length:Int) != (r.2.1.length:Int) with
  | true=>rfl
  | false =>
  cases (s.2.1.length:Int) != (r.2.2.1.length:Int) with
  | true=>rfl
  | false=>rfl
theorem bd4 {r:ae_} {s:aj_} (h:ah4 r s=false):s.1.length=r.2.1.length∧s.2.1.length=r.2.2.1.length∧(s.2.2.length:Int)=r.2.2.2.2.2.2.1:=by
 unfold ah4 at h
 simp only[b8_,bne_eq_false_iff_eq] at h
 omega
theorem fs_ {r:ae_} (h:SmR r) (s:aj_):ca_ r s=some (kc_ r s,()):=by
 unfold ca_ kc_
 rw[tv_ h,a0_]
 cases hr:dn_ r != 0 with
 | true=>rfl
 | false =>
 have ok:=bt_ (by simpa using hr)
 simp only[a2_]
 refine e6_ (congrArg (λo=>Option.bind o _) (bx7 r s)) ?_
 rw[a0_]
 unfold ckS
 cases hl:ah4 r s with
 | true=>rfl
 | false =>
 obtain⟨l1,l2,l3⟩:=bd4 hl
 have hp:=cl_.1 ok.py
 have m1:Sm s.1.length:=by rw[l1];exact h.th
 have m2:Sm s.2.1.length:=by rw[l2];exact h.pr
 have m3:Sm s.2.2.length:=by show s.2.2.length≤1000000000;omega
 simp only[a2_]
 refine bx_ s.1 (λi n=>lr_ (ou_ r.2.1 (i:Int) n) 28) (λi y hy => ?_) ?_ (fk_ ?_)
 ·have hi:=am_ hy
  simp only[dlt hi,a5_,ah_ hy,a0_,ba_ (show Sm i by omega),qp_ h.th]
  unfold lr_
  cases ou_ r.2.1 (i:Int) y<;>rfl
 ·simp only[dnl,a2_]
 refine bx_ s.2.1 (λ_ p=>lr_ (inR r p) 28) (λi y hy => ?_) ?_ (fk_ ?_)
 ·have hi:=am_ hy
  simp only[dlt hi,a5_,ah_ hy,a0_,ba_ (show Sm i by omega),eo_]
  unfold lr_ inR
  cases wi y (w64 ((w64 ((-2) - r.2.2.2.2.2.2.1))+1)) (w64 ((r.1.length:Int) - 1))<;>rfl
 ·simp only[dnl,a2_]
 refine bx_ s.2.2 (λ_ p=>lr_ (tb_ r p) 28) (λi y hy => ?_) ?_ (fk_ ?_)
 ·have hi:=am_ hy
  simp only[dlt hi,a5_,ah_ hy,a0_,ba_ (show Sm i by omega),eo_]
  unfold lr_ tb_
  cases wi y 0 (w64 ((r.1.length:Int) - 1))<;>rfl
 ·simp only[dnl,a2_]
 rfl
theorem cu8 {r:ae_} (h:SmR r) (hp:wi r.2.2.2.2.2.2.1 1 4=true) (p:Int):inR r p=(tb_ r p||(p==-1||wi p (w64 ((w64 ((-2) - r.2.2.2.2.2.2.1))+1)) (-2))):=by
 have hp:=cl_.1 hp
 have hpl:=h.pl
 have e1:w64 ((r.1.length:Int) - 1)=(r.1.length:Int) - 1:=gv_ (by omega) (by omega)
 have e2:w64 ((-2) - r.2.2.2.2.2.2.1)=(-2) - r.2.2.2.2.2.2.1:=gv_ (by omega) (by omega)
 have e3:w64 (((-2) - r.2.2.2.2.2.2.1)+1)=((-2) - r.2.2.2.2.2.2.1)+1:=gv_ (by omega) (by omega)
 unfold inR tb_
 rw[e1,e2,e3,l9_]
 simp only[d0_,cl_,i5_]
 omega
theorem ol_ {r:ae_} (h:SmR r) (s:aj_):ej_ r s=some (kc_ r s,()):=by
 unfold ej_ kc_
 rw[rt_ h,a0_]
 cases hr:dn_ r != 0 with
 | true=>rfl
 | false =>
 have ok:=bt_ (by simpa using hr)
 simp only[a2_]
 refine e6_ (congrArg (λo=>Option.bind o _) (bx7 r s)) ?_
 rw[a0_]
 unfold ckS
 cases hl:ah4 r s with
 | true=>rfl
 | false =>
 obtain⟨l1,l2,l3⟩:=bd4 hl
 have hp:=cl_.1 ok.py
 have m1:Sm s.1.length:=by rw[l1];exact h.th
 have m2:Sm s.2.1.length:=by rw[l2];exact h.pr
 have m3:Sm s.2.2.length:=by show s.2.2.length≤1000000000;omega
 simp only[a2_]
 refine bx_ s.1 (λi n=>lr_ (ou_ r.2.1 (i:Int) n) 28) (λi y hy => ?_) ?_ (fk_ ?_)
 ·have hi:=am_ hy
  simp only[dlt hi,a5_,ah_ hy,a0_,ba_ (show Sm i by omega),sq_ h.th]
  unfold lr_
  cases ou_ r.2.1 (i:Int) y<;>rfl
 ·simp only[dnl,a2_]
 refine bx_ s.2.1 (λ_ p=>lr_ (inR r p) 28) (λi y hy => ?_) ?_ (fk_ ?_)
 ·have hi:=am_ hy
  simp only[dlt hi,a5_,ah_ hy,a0_,ba_ (show Sm i by omega),iy_,gi_]
  rw[cu8 h ok.py]
  unfold lr_ tb_
  have e:(y != -1) = !(y==-1):=rfl
  rw[e]
  cases wi y 0 (w64 ((r.1.length:Int) - 1)) with
  | true=>rfl
  | false =>
  cases y==-1 with
  | true=>rfl
  | false=>cases wi y (w64 ((w64 ((-2) - r.2.2.2.2.2.2.1))+1)) (-2)<;>rfl
 ·simp only[dnl,a2_]
 refine bx_ s.2.2 (λ_ p=>lr_ (tb_ r p) 28) (λi y hy => ?_) ?_ (fk_ ?_)
 ·have hi:=am_ hy
  simp only[dlt hi,a5_,ah_ hy,a0_,ba_ (show Sm i by omega),iy_]
  unfold lr_ tb_
  cases wi y 0 (w64 ((r.1.length:Int) - 1))<;>rfl
 ·simp only[dnl,a2_]
 rfl
end
section
def gi (l:List Int) (i:Int):Int:=(at? l i).getD 0
theorem nz_ {l:List Int} {i x:Int} (h:at? l i=some x):gi l i=x:=by unfold gi;rw[h];rfl
theorem us_ {l:List Int} {i:Int} (h0:0≤i) (h1:i<l.length):at? l i=some (gi l i):=by
 obtain⟨x,hx⟩:=bc_ (l:=l) (i:=i.toNat) (by omega)
 have:at? l i=some x:=by rw[show i=((i.toNat:Nat):Int) by omega];exact ah_ hx
 rw[this,nz_ this]
def InC (n:Nat) (c:List bi_):Prop:=∀ l ∈ c,0≤l.1∧l.1<n
theorem vh_ {things:List hq_} (hl:Sm things.length) {c:List bi_} (h:cOk things c=true):InC things.length c∧c.length≤8:=by
 unfold cOk at h
 rw[a1_] at h
 refine⟨λl hm => ?_,by have:=f0_ h.1;omega⟩
 have h2:=f2_.1 h.2 l hm
 unfold ou_ at h2
 rw[a1_] at h2
 have:=cl_.1 h2.1
 rw[gv_ (by omega) (by omega)] at this
 omega
def ea_ (th:List Int) (c:List bi_):Bool:=c.all λl=>!((gi th l.1==l.2.1)==l.2.2)
theorem cf3 {α:Type} (l:List α) (q:α→Bool):(!(l.any q))=l.all λx=>!(q x):=by
 induction l with
 | nil=>rfl
 | cons x l ih =>
  rw[List.any_cons,List.all_cons,← ih]
  cases q x<;>rfl
theorem ns_ {t:hz_} {c:List bi_} (hc:Sm c.length) (hi:InC t.2.1.length c):bd_ t c=some (ea_ t.2.1 c,()):=by
 unfold bd_ ea_
 refine e6_ (congrArg (λo=>Option.bind o _) (oo_ hc (λl=>(gi t.2.1 l.1==l.2.1)==l.2.2) (λi y hy => ?_) ?_)) ?_
 ·have:=hi y (aw_ hy)
  simp only[dlt (am_ hy),a5_,ah_ hy,us_ this.1 this.2,a0_]
  cases (gi t.2.1 y.1==y.2.1)==y.2.2<;>rfl
 ·simp only[dnl,a2_]
 ·rw[a0_]
  exact congrArg (λb=>some (b,())) (cf3 c _)
theorem ki_ {s:aj_} {c:List bi_} (hc:Sm c.length) (hi:InC s.1.length c):bk_ s c=some (ea_ s.1 c,()):=by
 unfold bk_ ea_
 refine bu_ c (λi l=>cond ((gi s.1 l.1==l.2.1)==l.2.2) (some (inr (false,()):Unit⊕(Bool×Unit))) none) (λi=>((i:Int),())) (r0:=inl ()) (λi y hy => ?_) ?_ ?_
 ·have:=hi y (aw_ hy)
  have hl:=am_ hy
  simp only[dlt hl,a5_,ah_ hy,us_ this.1 this.2,a0_,ba_ (show Sm i by omega)]
  cases (gi s.1 y.1==y.2.1)==y.2.2<;>rfl
 ·simp only[dnl,a2_]
 ·rw[ib_ (q:=λl:bi_=>(gi s.1 l.1==l.2.1)==l.2.2),← cf3]
  cases c.any λl=>(gi s.1 l.1==l.2.1)==l.2.2<;>rfl
end
section
theorem ax_ {α:Type} {l:List α} (h:Sm l.length):push? [] l=some l:=by
 rw[af5 (by simp only[i2_];omega)]
 rfl
theorem ci_ {α:Type} {l:List α} {x:α} (h:Sm l.length):push? l [x]=some (l++[x]):=af5 (by simp only[c1_,i2_];omega)
theorem so_ {α:Type} {l:List α} {i:Nat} {x:α} (h:l[i]?=some x):l.set ((i:Nat):Int).toNat x=l:=by
 show l.set i x=l
 refine f4_ λj => ?_
 rw[g4_]
 split
 ·next e =>
  subst e
  rw[if_pos (am_ h),h]
 ·rfl
theorem tk_ (c:List bi_) (h:Sm c.length):cv_ c=some (c,()):=by
 unfold cv_
 rw[ax_ h]
 rfl
theorem aj4 (c:List Int) (h:Sm c.length):eb_ c=some (c,()):=by
 unfold eb_
 rw[ax_ h]
 rfl
theorem py_ {α τ:Type} {l:List α} (hl:Sm l.length) {body:(Int×(List α×Unit))→Option ((Int×(List α×Unit))⊕(List α×Unit))} {K:(List α×Unit)→Option τ} {x:Option τ}
  (h:∀ (i:Nat) y,l[i]?=some y→body ((i:Int),(l,()))=some (.inl ((w64 ((i:Int)+1)),(l,())))) (e:body ((l.length:Int),(l,()))=some (.inr (l,()))) (hk:K (l,())=x):(af_ body (0,(l,()))).bind K=x:=by
 refine bu_ l (λ_ _=>none) (λi=>((i:Int),(l,()))) (r0:=(l,())) (λi y hy => ?_) e ?_
 ·have hi:=am_ hy
  rw[h i y hy,ba_ (show Sm i by omega)]
 ·have:hg_ (λ(_:Nat) (_:α)=>(none:Option (List α×Unit))) 0 l=none:=(jn_ l 0).2 λ_ _ _=>rfl
  rw[this]
  exact hk
theorem bk5 {r:ae_} (h:SmR r):mk_ r=some (r,()):=by
 unfold mk_
 simp only[ax_ h.pl,ax_ h.th,ax_ h.pr,ax_ h.wy,ax_ h.ac,ax_ h.au,tk_ _ h.go,a0_]
 refine py_ h.pr (λi y hy => ?_) ?_ ?_
 ·have:=h.prn y (aw_ hy)
  simp only[dlt (am_ hy),a5_,ah_ hy,a0_,tk_ _ this.2,so_ hy]
 ·simp only[dnl,a2_]
 refine py_ h.wy (λi y hy => ?_) ?_ ?_
 ·have:=h.wyn y (aw_ hy)
  simp only[dlt (am_ hy),a5_,ah_ hy,a0_,tk_ _ this,so_ hy]
 ·simp only[dnl,a2_]
 refine py_ h.ac (λi y hy => ?_) ?_ ?_
 ·obtain⟨h1,h2,h3,h4,h5,h6⟩:=h.acn y (aw_ hy)
  simp only[dlt (am_ hy),a5_,ah_ hy,a0_,tk_ _ h3,aj4 _ h2,aj4 _ h5,aj4 _ h6,ax_ h4,so_ hy]
 ·simp only[dnl,a2_]
 refine py_ h.au (λi y hy => ?_) ?_ ?_
 ·have:=h.aun y (aw_ hy)
  simp only[dlt (am_ hy),a5_,ah_ hy,a0_,tk_ _ this,so_ hy]
 ·simp only[dnl,a2_]
 rfl
theorem zm_ (c:ak_) (h:Sm c.2.2.2.2.2.1.length):hi_ c=some (c,()):=by
 unfold hi_
 rw[ax_ h]
 rfl
theorem bk3 {g:ac_} (h:SmG g):mj_ g=some (g,()):=by
  have hl:Sm g.2.1.length:=by have:=h.lk;omega
  have hn:Sm g.2.2.2.1.length:=by have:=h.nt;omega
  have hc:Sm g.2.2.1.length:=by have:=h.cd;omega
  unfold mj_
  rw[bk5 h.room]
  simp only[ax_ hl,ax_ hn,a0_]
  have hgo:=lj_ g.2.2.1 (λ_ t x=>t++[x]) (λi t=>((i:Int),((t,()),()))) (λt=>((t,()),())) [] (body:=(λ(v3:(Int×(((List (List Int))×Unit)×Unit))) =>
 (cond (decide (v3.1<(g.2.2.1.length:Int)))
 ((at? g.2.2.1 v3.1).bind λv4 =>
 ((push? (α:=Int) [] v4).bind λv5 =>
 ((push? (α:=(List Int)) v3.2.1.1 [v5]).bind λv6 =>
 (some (inl ((w64 (v3.1+1)),((v6,()),())))))))
 (some (inr ((v3.2.1.1,()),())))))) (λi t=>t=g.2.2.1.take i) (by simp) (λi x t hx ht=>by
    have hi:=am_ hx
    have hx2:Sm x.length:=by have:=h.cdn x (aw_ hx);omega
    have ht2:Sm t.length:=by rw[ht,c5_];omega
    refine⟨?_,?_⟩
    · simp only[dlt hi,a5_,ah_ hx,a0_,ax_ hx2,ci_ ht2,ba_ (show Sm i by omega)]
    · rw[ht,d9_,hx]
      rfl) (λt ht=>by simp only[dnl,a2_])
  obtain⟨t,ht,hw⟩:=hgo
  rw[d2_] at ht
  subst ht
  refine e6_ (congrArg (λo=>Option.bind o _) hw) ?_
  rw[a0_]
  refine py_ hn (λi y hy => ?_) ?_ ?_
  · have hy2:=h.ntn y (aw_ hy)
    simp only[dlt (am_ hy),a5_,ah_ hy,a0_,ax_ (show Sm y.2.2.2.1.length by omega),so_ hy,zm_ _ (show Sm y.2.2.2.2.2.2.2.2.2.1.length by omega)]
  · simp only[dnl,a2_]
  rfl
end
section
set_option maxRecDepth 10000
theorem ba2 {σ ρ τ:Type} (n:Nat) (F:Nat→τ→σ) (R:τ→ρ) (t0:τ) {body:σ→Option (σ⊕ρ)} (I:Nat→τ→Prop) (h0:I 0 t0)
  (h:∀ i t,i<n→I i t→Tot (body (F i t)) (λr=>∃ t',r = .inl (F (i+1) t')∧I (i+1) t')) (e:∀ t,I n t→body (F n t)=some (.inr (R t))) :
  Tot (af_ body (F 0 t0)) (λr=>∃ t,r=R t∧I n t):=by
 refine nc_ (λi s=>∃ t,s=F i t∧I i t) _ n 0 (F 0 t0) ⟨t0,rfl,h0⟩ (λj s h1 h2 hs => ?_) (λs hs => ?_)
 ·obtain⟨t,rfl,ht⟩:=hs
  obtain⟨r,hr,t',rfl,ht'⟩:=h j t (by omega) ht
  exact .inl ⟨_,hr,t',rfl,ht'⟩
 ·obtain⟨t,rfl,ht⟩:=hs
  rw[b0_] at ht ⊢
  exact⟨_,e t ht,t,rfl,ht⟩
structure VS (r:ae_) (s:aj_):Prop where
 l1:s.1.length=r.2.1.length
 l2:s.2.1.length=r.2.2.1.length
 l3:(s.2.2.length:Int)=r.2.2.2.2.2.2.1
 th:∀ (i:Nat) n,s.1[i]?=some n→ou_ r.2.1 (i:Int) n=true
 pr:∀ (i:Nat) p,s.2.1[i]?=some p→inR r p=true
 py:∀ (i:Nat) p,s.2.2[i]?=some p→tb_ r p=true
theorem cq3 {r:ae_} {s:aj_} (h:VS r s):ckS r s=0:=by
 unfold ckS
 have hl:ah4 r s=false:=by
  unfold ah4
  have:=h.l1
  have:=h.l2
  have:=h.l3
  simp only[b8_,bne_eq_false_iff_eq]
  omega
 rw[hl,a2_]
 rw[(jn_ s.1 0).2 (λj x hx=>by rw[b0_,h.th j x hx];rfl),j6_]
 rw[(jn_ s.2.1 0).2 (λj x hx=>by rw[h.pr j x hx];rfl),j6_]
 rw[(jn_ s.2.2 0).2 (λj x hx=>by rw[h.py j x hx];rfl),j6_]
theorem nu_ {r:ae_} (h:SmR r) (ok:OkR r) {i n:Int} (hs:ou_ r.2.1 i n=true):(0≤i∧i<r.2.1.length)∧(0≤n∧n≤5):=by
 unfold ou_ at hs
 rw[a1_] at hs
 have hi:=cl_.1 hs.1
 have hth:=h.th
 rw[gv_ (by omega) (by omega)] at hi
 obtain⟨t,ht,hg⟩:=ce8 (l:=r.2.1) (i:=i) (by omega) (by omega)
 have h2:=hs.2
 rw[ht] at h2
 have hn:=cl_.1 h2
 have:=ok.th _ _ hg
 unfold bp1 at this
 simp only[a1_] at this
 have h3:=cl_.1 this.2.2.1
 rw[gv_ (by omega) (by omega)] at hn
 omega
end
end Go.Proofs.YthpilkoeneocmaaGreatDoor.Rx
