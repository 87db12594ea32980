/- A part of the proof: what the functions of the program compute, shown over the model. -/
import Derived.Maps.RangeRun
import Derived.WalkKit
import Derived.ProofKit
import Derived.OpenShut
import Derived.WideKeyArgs
import Derived.Deep.Slices
import Derived.SliceStrings
import Derived.Test.YtgeehfnbhbibeaaGreatDoorProg
import Derived.KernelRfl
import Derived.Test.YtgeehfnbhbibeaaGreatDoorPart1
import Derived.Test.YtgeehfnbhbibeaaGreatDoorPart2
set_option linter.unusedSectionVars false
set_option linter.unusedVariables false
set_option linter.unusedSimpArgs false
namespace Go.Proofs.YtgeehfnbhbibeaaGreatDoor.Rex
open Go Pad
section
section
variable {E σ τ:Type}
def AllM (step:E→σ→Option (σ⊕τ)) (fin:σ→Option τ):Nat→List E→σ→τ→Prop
 | 0,_,d,r=>fin d=some r
 | n+1,pend,d,r=>∀ (i:Nat) e,pend[i]?=some e→(∃ d',step e d=some (.inl d')∧AllM step fin n (pend.eraseIdx i) d' r)∨step e d=some (.inr r)
open Classical in
noncomputable def mapO (step:E→σ→Option (σ⊕τ)) (fin:σ→Option τ) (m:List E) (d:σ):Option τ :=
 if h:∃ r,AllM step fin m.length m d r then some (Classical.choose h) else none
theorem bv9 {step:E→σ→Option (σ⊕τ)} {fin:σ→Option τ} {m:List E} {d:σ} {r:τ} (h:mapO step fin m d=some r):AllM step fin m.length m d r:=by
 unfold mapO at h
 split at h
 ·rename_i hr
  rw[← a6_ h]
  exact i7_ hr
 ·cases h
theorem ul_:∀ {l:List E} {i:Nat} {e:E},l[i]?=some e→l.Perm (e::l.eraseIdx i)
 | [],_,_,h=>by simp at h
 | a::l,0,e,h=>by
  obtain rfl:a=e:=by simpa using h
  exact .refl _
 | a::l,i+1,e,h=>by
  have:=ul_ (l:=l) (i:=i) (by simpa using h)
  rw[List.eraseIdx_cons_succ]
  exact (this.cons a).trans (List.Perm.swap _ _ _)
theorem AllM.perm {step:E→σ→Option (σ⊕τ)} {fin:σ→Option τ}:∀ {n:Nat} {l l':List E} {d:σ} {r:τ},l.Perm l'→AllM step fin n l d r→AllM step fin n l' d r
 | 0,_,_,_,_,_,h=>h
 | n+1,l,l',d,r,hp,h=>by
  intro i e hi
  have hm:e ∈ l:=hp.mem_iff.2 (b2_ hi)
  obtain⟨j,hj⟩:=f2_ hm
  rcases h j e hj with ⟨d',h1,h2⟩ | h1
  ·refine .inl ⟨d',h1,AllM.perm ?_ h2⟩
   exact (((ul_ hj).symm.trans hp).trans (ul_ hi)).cons_inv
  ·exact .inr h1
end
section
variable {E:Type}
noncomputable def canM (m:List E):List E:=Classical.choose (Quotient.exists_rep (Quotient.mk (List.isSetoid E) m))
theorem cc7 (m:List E):(canM m).Perm m:=Quotient.exact (i7_ (Quotient.exists_rep (Quotient.mk (List.isSetoid E) m)))
end
end
section
variable [Gb]
def idS:SV→Option Nat
 | .row o | .ptr o _ | .map o | .fn o | .arr o | .ptrE o _ _ _ _=>some o
 | _=>none
def bw2 (s:A):Nm→Option Nat
 | .s d=>match s.slot d with
  | .b (.one x)=>idS x
  | _=>none
 | .c p k=>(bw2 s p).bind λo=>match s.objs[o]? with
  | some (.cells _ l _)=>(l[k]?).bind idS
  | some (.fn _ _ l)=>(l[k]?).bind idS
  | _=>none
 | .y p d=>(bw2 s p).bind λo=>match s.objs[o]? with
  | some (.yld Y _ _)=>match slY Y.sl d with
   | .b (.one x)=>idS x
   | _=>none
  | _=>none
def rsv1 (s:A):Sp0→Option Sp1
 | .v d t=>some (.v d t)
 | .r d t T=>some (.r d t T)
 | .a d t T=>some (.a d t T)
 | .o p t=>(bw2 s p).bind λo=>some (.o o t)
 | .b p ks=>(bw2 s p).bind λo=>some (.b o ks)
 | .m p k v=>(bw2 s p).bind λo=>some (.m o k v)
 | .g p t=>(bw2 s p).bind λo=>some (.g o t)
 | .x p=>(bw2 s p).bind λo=>some (.x o)
 | .y p=>(bw2 s p).bind λo=>some (.y o)
def rsv (s:A):List Sp0→Option (List Sp1)
 | []=>some []
 | e::es=>(rsv1 s e).bind λx=>(rsv s es).bind λl=>some (x::l)
def frzN (s:A):List Nm→A
 | []=>s
 | p::ps=>frzN (match bw2 s p with
  | some o=>⟨s.slot,as6 s.objs o⟩
  | none=>s) ps
def ir_:List Oper→List Nat
 | []=>[]
 | o::os=>match o.dst with
  | some d=>d::ir_ os
  | none=>ir_ os
def eo_:Code→List Nat
 | .region _ ops _=>ir_ ops.toList
 | .seq a b=>eo_ a++eo_ b
 | .cond _ a b=>eo_ a++eo_ b
 | .block _ c=>eo_ c
 | .loop c=>eo_ c
 | .scope c=>eo_ c
 | _=>[]
def okV (asg:List Nat):List Sp1→Bool
 | []=>true
 | .v d _::es=>inL d asg&&okV asg es
 | .r d _ _::es=>inL d asg&&okV asg es
 | .a d _ _::es=>inL d asg&&okV asg es
 | _::es=>okV asg es
def ak7:List Sp1→Nat→Option (List CK)
 | [],_=>none
 | .b o ks::es,i=>cond (Nat.beq o i) (some ks) (ak7 es i)
 | _::es,i=>ak7 es i
def mJ (a:AO) (q:Option (List CK)):AO:=match a,q with
 | .cells T c _,some ks=>.cells T c (roC ks 0)
 | a,_=>a
def maskJ (es:List Sp1) (mv:List Nat):Nat→List AO→List AO
 | _,[]=>[]
 | i,a::l=>cond (listed es i||inL i mv) (mJ a (ak7 es i)) (pg_ a)::maskJ es mv (i+1) l
def noO:List Sp1→Bool
 | []=>true
 | .v _ _::es=>noO es
 | .r _ _ _::es=>noO es
 | .a _ _ _::es=>noO es
 | _=>false
def okM (ob:List AO) (mv:List Nat):Bool:=fb_ (λi=>match ob[i]? with
 | some (.row _ _ _ false)=>true
 | some (.map _ _ _ false)=>true
 | _=>false) mv
def okA (s:A) (asg:List Nat) (σ:List Sp1):Bool:=okS s.objs σ&&okV asg σ&&okM s.objs (mvS s.slot s.objs σ)
def cg1:AO→AO→AO
 | .cells _ _ ro,.cells T c _=>.cells T c ro
 | .row _ _ _ r,.row t T l _=>.row t T l r
 | .map _ _ _ r,.map k v m _=>.map k v m r
 | .grid _ _ _ r,.grid G l h _=>.grid G l h r
 | .yld _ _ r,.yld Y st _=>.yld Y st r
 | _,b=>b
def cr9:List AO→List AO→List AO
 | a::l,b::m=>cg1 a b::cr9 l m
 | _,m=>m
def unm (s s':A):A:=⟨s'.slot,cr9 s.objs s'.objs⟩
section
variable {ρ:Type}
def geN (n:Nat):List Nat→List Nat
 | []=>[]
 | i::l=>cond (Nat.ble n i) (i::geN n l) (geN n l)
def vIds (n:Nat) (sl:Nat→AV):List Sp1→List Nat
 | []=>[]
 | .v d _::es=>geN n (cu8 (sl d))++vIds n sl es
 | _::es=>vIds n sl es
def getG (σ:List Sp1) (s:A) (mv:List Nat) (sl:Nat→AV) (ob:List AO):Option (br_ σ):=getS s.objs (rsl ob sl) σ (au6 σ mv 0 s.objs ob)
def sa_ (σ:List Sp1) (s:A) (mv:List Nat) (s':A):Option (br_ σ):=getG σ s mv s'.slot (wp_ s'.objs (vIds s.objs.length s'.slot σ))
end
def cr1:List Oper→Bool
 | []=>false
 | o::os=>cn9 o||cr1 os
def ag3:Code→Bool
 | .seq a b=>ag3 a&&ag3 b
 | .cond _ a b=>ag3 a&&ag3 b
 | .block _ c=>ag3 c
 | .loop c=>ag3 c
 | .scope c=>ag3 c
 | .rangeFunc _ _ _ _=>false
 | _=>true
def slF {ρ:Type} (sl:Nat→AV):List Nat→(List (Nat×AV)→Option ρ)→Option ρ
 | [],k=>k []
 | d::ds,k=>frcA (sl d) λa=>slF sl ds λl=>k ((d,a)::l)
theorem cs4 {ρ:Type} {sl:Nat→AV}:∀ {ds:List Nat} {k:List (Nat×AV)→Option ρ},slF sl ds k=k (ds.map λd=>(d,sl d))
 | [],_=>rfl
 | d::ds,k=>by
  show (frcA (sl d) λa=>slF sl ds λl=>k ((d,a)::l))=_
  rw[ai5,cs4]
  rfl
def rfEnd {ρ:Type} (s:A) (ob:List AO) (kN kR:A→Option ρ) (kX:Nat→A→Option ρ):Option ρ:=match ob[s.objs.length]? with
 | some (.yld _ .rdy _)=>kN ⟨s.slot,ob.set s.objs.length .gone⟩
 | some (.yld _ .ret _)=>kR ⟨s.slot,ob.set s.objs.length .gone⟩
 | some (.yld _ (.ex i) _)=>kX i ⟨s.slot,ob.set s.objs.length .gone⟩
 | _=>none
def restA (s:A):A:=⟨s.slot,xg_ s.objs s.objs.length⟩
def jz_ {ρ:Type} (ops:List Oper) (k:A→Option ρ):A→Option ρ:=cond (cr1 ops) (λs=>k (restA s)) k
def regS {ρ:Type} {P:Program} [Tb P] (cx:Cx P) (n:Nat) (k m:Nat) (ops:List Oper) (s:A) (kN:A→Option ρ):Option ρ :=
 cw7 ops [] λanc=>cond (Nat.beq (ops.take k).length k&&Nat.beq ops.length m&&ch8 anc k m&&so_ ops 0&&gdB k (ops.take k)) (regD cx n (ops.take k) s λs=>ol_ cx n ops (ops.drop k) s kN) none
def regX {ρ:Type} {P:Program} [Tb P] (cx:Cx P) (n:Nat) (an:An) (ops:List Oper) (s:A) (kN:A→Option ρ):Option ρ:=match an with
 | .q _ _ _=>regQ cx n ops s kN
 | .sp k m=>regS cx n k m ops s (jz_ ops kN)
 | _=>regD cx n ops s (jz_ ops kN)
def mpS (s1:A) (asg:List Nat) (vs os:List Sp1) (d:br_ (vs++os)):A:=gp_ true asg (vs++os) (mvS s1.slot s1.objs (vs++os)) s1 d
def mpF (s1:A) (asg:List Nat) (vs os:List Sp1) (t8 t9:Nat) (d:br_ (vs++os)):A :=
 stA (stA (mpS s1 asg vs os d) (some t8) (.tup [.one (.val .bool false)]) (mpS s1 asg vs os d).objs) (some t9) (bV false) (mpS s1 asg vs os d).objs
def mpE (s1:A) (asg:List Nat) (vs os:List Sp1) (k v:Ty) (t8 t9 t10:Nat) (e:k.den×v.den) (d:br_ (vs++os)):A :=
 stA (stA (stA (mpS s1 asg vs os d) (some t8) (.tup [.one (.val .bool true),ofB k e.1,ofB v e.2]) (mpS s1 asg vs os d).objs) (some t9) (bV true) (mpS s1 asg vs os d).objs) (some t10) (.tup [ofB k e.1,ofB v e.2]) (mpS s1 asg vs os d).objs
def mpG (es os:List Sp1) (s1:A) (vs:List Sp1) (s':A):Option (br_ (es++os)):=sa_ (es++os) s1 (mvS s1.slot s1.objs (vs++os)) s'
def mpB (s:A) (o t7:Nat):A:=⟨cg0 s.slot t7 (.b (.one (.ptr s.objs.length 0))),s.objs.set o .gone++[.gone]⟩
noncomputable def pu_:(es:List Sp1)→br_ es→br_ es
 | [],_=>()
 | .m _ k v::es,x=>(canM (E:=k.den×v.den) x.1,pu_ es x.2)
 | .v _ _::es,x=>(x.1,pu_ es x.2)
 | .r _ _ _::es,x=>(x.1,pu_ es x.2)
 | .a _ _ _::es,x=>(x.1,pu_ es x.2)
 | .o _ _::es,x=>(x.1,pu_ es x.2)
 | .b _ _::es,x=>(x.1,pu_ es x.2)
 | .g _ _::es,x=>(x.1,pu_ es x.2)
 | .x _::es,x=>(x.1,pu_ es x.2)
 | .y _::es,x=>(x.1,pu_ es x.2)
structure MpP where
 k:Nat
 t7:Nat
 y:Operand
 T:TypeId
 t8:Nat
 t9:Nat
 t10:Nat
 ops4:List Oper
def mpPl (ops1 ops2 ops3:List Oper) (c3:Operand):Option MpP:=match ops1.drop (ops1.length - 1),ops2,ops3,c3 with
 | [⟨some t7,.range T y,_,_,_,none⟩],[⟨some t8,.next (.tmp u7) false,_,_,_,none⟩,⟨some t9,.extract (.tmp u8) 0,_,_,_,none⟩],⟨some t10,.entry (.tmp w7),_,_,_,none⟩::ops4,.tmp u9 =>
  cond (Nat.beq u7 t7&&Nat.beq w7 t7&&Nat.beq u8 t8&&Nat.beq u9 t9) (some ⟨ops1.length - 1,t7,y,T,t8,t9,t10,ops4⟩) none
 | _,_,_,_=>none
def bv2 {ρ:Type} {P:Program} [Tb P] (cx:Cx P) (n:Nat) (ops:List Oper) (k j:Nat) (anc:List (List Nat)) (s:A) (kk:A→Option ρ):Option ρ :=
 cond (Nat.beq ((ops.take k).take j).length j&&Nat.beq ops.length (k+1)&&ch8 anc j (k+1)&&so_ ops 0&&gdB j ((ops.take k).take j)) (regD cx n ((ops.take k).take j) s λs=>ol_ cx n ops ((ops.take k).drop j) s (jz_ ops kk)) none
def mpPre {ρ:Type} {P:Program} [Tb P] (cx:Cx P) (n:Nat) (dr:Bool) (ops:List Oper) (k:Nat) (s:A) (kk:A→Option ρ):Option ρ :=
 cond dr (cw7 ops [] λanc=>bv2 cx n ops k (cond (ch8 anc (k - 1) (k+1)) (k - 1) k) anc s kk)
  (ol_ cx n ops (ops.take k) s (jz_ ops kk))
def mpK {ρ:Type} (o:Nat) (k v:Ty) (m:List (k.den×v.den)) (rf:Bool) (s:A) (kk:A→Option ρ):Option ρ:=match s.objs[o]? with
 | some .gone=>kk ⟨s.slot,s.objs.set o (.map k v m rf)⟩
 | _=>none
noncomputable def mpIn {ρ:Type} (n:Nat) (pl:MpP) (okb:Bool) (asg:List Nat) (vs0 ws0 rs0 os0:List Sp0) (o:Nat) (k v:Ty) (m:List (k.den×v.den)) (rf:Bool) (s1:A)
  (rnd:(vs ws rs os:List Sp1)→k.den×v.den→br_ (vs++os)→Option (br_ (vs++os)⊕(br_ (ws++os)⊕br_ (rs++os)))) (kN kR:A→Option ρ):Option ρ :=
 (rsv s1 vs0).bind λvs=>(rsv s1 ws0).bind λws=>(rsv s1 rs0).bind λrs=>(rsv s1 os0).bind λos =>
  cond ((okb&&Nat.blt pl.t7 n&&Nat.blt pl.t8 n&&Nat.blt pl.t9 n&&Nat.blt pl.t10 n)&&((!Nat.beq pl.t7 pl.t8&&!Nat.beq pl.t7 pl.t9&&!Nat.beq pl.t8 pl.t9)&&(!inL pl.t7 asg&&inL pl.t8 asg&&inL pl.t9 asg&&inL pl.t10 asg)) &&
   (okA s1 asg (vs++os)&&(okS s1.objs (ws++os)&&okV asg (ws++os))&&(okS s1.objs (rs++os)&&okV asg (rs++os))&&(noO vs&&noO ws&&noO rs)))
   ((sa_ (vs++os) s1 (mvS s1.slot s1.objs (vs++os)) s1).bind λd0 =>
    (mapO (rnd vs ws rs os) (λd=>(mpG ws os s1 vs (mpF s1 asg vs os pl.t8 pl.t9 d)).map .inl) m d0).bind fun
    | .inl y=>mpK o k v m rf (gp_ false asg (ws++os) (mvS s1.slot s1.objs (vs++os)) s1 y) kN
    | .inr y=>mpK o k v m rf (gp_ false asg (rs++os) (mvS s1.slot s1.objs (vs++os)) s1 y) kR) none
noncomputable def mpGo {ρ:Type} (P:Program) [Tb P] (n:Nat) (pl:MpP) (okb:Bool) (asg:List Nat) (vs0 ws0 rs0 os0:List Sp0) (s:A)
  (rnd:(k v:Ty)→(s1:A)→(vs ws rs os:List Sp1)→k.den×v.den→br_ (vs++os)→Option (br_ (vs++os)⊕(br_ (ws++os)⊕br_ (rs++os)))) (kN kR:A→Option ρ):Option ρ :=
 match evA s.slot pl.y,und P pl.T with
 | .b (.one (.map o)),some (.map _ _)=>match s.objs[o]? with
  | some (.map k v m rf)=>cg5 (mpB s o pl.t7).objs λob=>mpIn n pl okb asg vs0 ws0 rs0 os0 o k v m rf ⟨(mpB s o pl.t7).slot,ob⟩ (rnd k v ⟨(mpB s o pl.t7).slot,ob⟩) kN kR
  | _=>none
 | _,_=>none
noncomputable def hj_ {P:Program} [Tb P] (cx:Cx P) (n:Nat):Code→An→(ρ:Type)→A→(A→Option ρ)→(A→Option ρ)→(Nat→A→Option ρ)→Option ρ
 | .skip,_,_,s,kN,_,_=>kN s
 | .ret,_,_,s,_,kR,_=>kR s
 | .exit i,_,_,s,_,_,kX=>kX i s
 | .block i c,an,ρ,s,kN,kR,kX=>hj_ cx n c an ρ s kN kR λj s=>cond (Nat.beq j i) (kN s) (kX j s)
 | .cond c a b,an,ρ,s,kN,kR,kX=>(asD .bool (evA s.slot c)).bind λq=>cond q (hj_ cx n a an.l ρ s kN kR kX) (hj_ cx n b an.r ρ s kN kR kX)
 | .region _ ops dr,an,_,s,kN,_,_=>cond dr (regX cx n an ops.toList s kN) (ol_ cx n ops.toList ops.toList s (jz_ ops.toList kN))
 | .seq a b,an,ρ,s,kN,kR,kX=>match an with
  | .q ns x y=>hj_ cx n a x ρ (frzN s ns) (λs=>hj_ cx n b y ρ s kN kR kX) kR kX
  | .j0 σ0 x y=>(rsv s σ0).bind λσ=>cond (okA s (eo_ a) σ) ((hj_ cx n a x (br_ σ) ⟨s.slot,maskJ σ (mvS s.slot s.objs σ) 0 s.objs⟩ (sa_ σ s (mvS s.slot s.objs σ)) (λ_=>none) (λ_ _=>none)).bind λd =>
    hj_ cx n b y ρ (gp_ false (eo_ a) σ (mvS s.slot s.objs σ) s d) kN kR kX) none
  | .js σ0 x y=>(rsv s σ0).bind λσ=>cond (okA s (eo_ a) σ) ((hj_ cx n a x (br_ σ⊕ρ) ⟨s.slot,maskJ σ (mvS s.slot s.objs σ) 0 s.objs⟩ (λs'=>(sa_ σ s (mvS s.slot s.objs σ) s').map .inl) (λs'=>(kR (unm s s')).map .inr)
    (λi s'=>(kX i (unm s s')).map .inr)).bind fun
    | .inl d=>hj_ cx n b y ρ (gp_ false (eo_ a) σ (mvS s.slot s.objs σ) s d) kN kR kX
    | .inr r=>some r) none
  | .mp vs0 ws0 rs0 os0 x=>match a,b with
   | .region _ ops1 dr,.block b0 (.loop (.seq (.region i2 ops2 false) (.seq (.cond c3 .skip (.exit c0)) (.block b1 (.seq (.region i3 ops3 false) rest))))) =>
    (mpPl ops1.toList ops2.toList ops3.toList c3).bind λpl=>mpPre cx n dr ops1.toList pl.k s λs0 =>
     mpGo P n pl (Nat.beq c0 b0) (eo_ (.block b0 (.loop (.seq (.region i2 ops2 false) (.seq (.cond c3 .skip (.exit c0)) (.block b1 (.seq (.region i3 ops3 false) rest))))))) vs0 ws0 rs0 os0 s0
      (λk v s1 vs ws rs os e d=>ol_ cx n ops3.toList pl.ops4 (mpE s1 (eo_ (.block b0 (.loop (.seq (.region i2 ops2 false) (.seq (.cond c3 .skip (.exit c0)) (.block b1 (.seq (.region i3 ops3 false) rest))))))) vs os k v pl.t8 pl.t9 pl.t10 e d)
       (jz_ ops3.toList λs2=>hj_ cx n rest x (br_ (vs++os)⊕(br_ (ws++os)⊕br_ (rs++os))) s2 (λs'=>(mpG vs os s1 vs s').map λy=>.inl (pu_ _ y)) (λs'=>(mpG rs os s1 vs s').map λy=>.inr (.inr (pu_ _ y)))
        λi s'=>cond (Nat.beq i b1) ((mpG vs os s1 vs s').map λy=>.inl (pu_ _ y)) (cond (Nat.beq i b0) ((mpG ws os s1 vs s').map λy=>.inr (.inl (pu_ _ y))) none)))
      kN kR
   | _,_=>none
  | an=>hj_ cx n a an.l ρ s (λs=>hj_ cx n b an.r ρ s kN kR kX) kR kX
 | .loop c,an,ρ,s,kN,kR,kX=>match an with
  | .lp vs0 ws0 os0 b x=>(rsv s vs0).bind λvs=>(rsv s ws0).bind λws=>(rsv s os0).bind λos=>cond (okA s (eo_ c) (vs++os)&&okS s.objs (ws++os)&&okV (eo_ c) (ws++os)&&noO vs&&noO ws)
    ((sa_ (vs++os) s (mvS s.slot s.objs (vs++os)) s).bind λd0 =>
     (af_ (λd=>hj_ cx n c x (br_ (vs++os)⊕br_ (ws++os)) (gp_ true (eo_ c) (vs++os) (mvS s.slot s.objs (vs++os)) s d)
      (λs'=>(sa_ (vs++os) s (mvS s.slot s.objs (vs++os)) s').map .inl) (λ_=>none)
      (λi s'=>cond (Nat.beq i b) ((sa_ (ws++os) s (mvS s.slot s.objs (vs++os)) s').map .inr) none)) d0).bind λd =>
     kX b (gp_ false (eo_ c) (ws++os) (mvS s.slot s.objs (vs++os)) s d)) none
  | .ls vs0 ws0 os0 b x=>(rsv s vs0).bind λvs=>(rsv s ws0).bind λws=>(rsv s os0).bind λos=>cond (okA s (eo_ c) (vs++os)&&okS s.objs (ws++os)&&okV (eo_ c) (ws++os)&&noO vs&&noO ws)
    ((sa_ (vs++os) s (mvS s.slot s.objs (vs++os)) s).bind λd0 =>
     (af_ (λd=>hj_ cx n c x (br_ (vs++os)⊕(br_ (ws++os)⊕ρ)) (gp_ true (eo_ c) (vs++os) (mvS s.slot s.objs (vs++os)) s d)
      (λs'=>(sa_ (vs++os) s (mvS s.slot s.objs (vs++os)) s').map .inl) (λs'=>(kR (unm s s')).map λr=>.inr (.inr r))
      (λi s'=>cond (Nat.beq i b) ((sa_ (ws++os) s (mvS s.slot s.objs (vs++os)) s').map λy=>.inr (.inl y)) ((kX i (unm s s')).map λr=>.inr (.inr r)))) d0).bind fun
     | .inl d=>kX b (gp_ false (eo_ c) (ws++os) (mvS s.slot s.objs (vs++os)) s d)
     | .inr r=>some r) none
  | _=>none
 | .rangeFunc g ps assign body,an,ρ,s,kN,kR,kX=>match an with
  | .rf ds x y=>cond (fb_ (λp=>Nat.blt p n) ps.toList&&ag3 assign&&ag3 body) (slF s.slot ds λsl =>
    cx.callV ρ (evA s.slot g) [.b (.one (.fn s.objs.length))] (s.objs++[.yld ⟨n,ps.toList,assign,body,.p x y,sl⟩ .rdy false]) λ_ ob=>cg5 ob λob=>rfEnd s ob kN kR kX) none
  | _=>none
 | _,_,_,_,_,_,_=>none
end
section
variable [Gb]
theorem cb3 {fr0:Nat} {C0:List AO} {tr:List (AV×DR×List AO)}:cur fr0 C0 tr (λ_=>false)=C0:=by
 refine f1_ λo => ?_
 unfold cur
 rw[d5_]
 by_cases ho:o<C0.length
 ·rw[m3_ ho]
  show some ((cAt (λ_=>false) fr0 o 0 tr C0[o]?).getD .unborn)=_
  rw[ws_ λi q _ _=>rfl,a7_ ho]
  rfl
 ·rw[b4_ (by simpa using ho),b4_ (by simpa using ho)]
  rfl
theorem bf9 {os:List Oper}:Cl os (λ_=>false):=λi anc _ h=>by cases h
theorem keep_ext {l:List AO} {k:Nat}:Keep l (l++List.replicate k .unborn):=λo a ho=>⟨a,by rw[b1_ (a4_.1 ho).1];exact ho,K1.refl a⟩
theorem ap6 {x:Nat} {os:List Oper} (h:inL x (ir_ os)=false):go_ x (os.map (·.dst)) 0=none:=by
 have gen:∀ (os:List Oper) (i:Nat),inL x (ir_ os)=false→go_ x (os.map (·.dst)) i=none:=by
  intro os
  induction os with
  | nil=>intro i _;rfl
  | cons o os ih =>
   intro i h
   rw[h8_]
   cases hd:o.dst with
   | none =>
    show go_ x (os.map (·.dst)) (i+1)=none
    refine ih (i+1) ?_
    simpa [ir_,hd] using h
   | some d =>
    have h2:(Nat.beq x d||inL x (ir_ os))=false:=by simpa [ir_,hd,inL] using h
    rw[b8_] at h2
    show cond (Nat.beq x d) (some i) (go_ x (os.map (·.dst)) (i+1))=none
    rw[h2.1]
    exact ih (i+1) h2.2
 exact gen os 0 h
section
variable {ρ:Type} {P:Program} [Tb P] {cx:Cx P} {n:Nat} {r:ρ}
theorem au8 {ops:List Oper} {s:A} {k:A→Option ρ} (h:regD cx n ops s k=some r) :
  ∃ s',k s'=some r∧P.follows .mixedOrders=true∧(∀ d,inL d (ir_ ops)=false→s'.slot d=s.slot d) ∧
  ∀ {ro:Option Nat} {S0:PH} {hv0:Nat→Value} {ob0:List AO} {Fm:List HP} {f:Fr} {w:World} {N:Fr→World→Prop},
   Rl S0 hv0 ob0 Fm s f w→(∀ f' w',Rl S0 hv0 ob0 Fm s' f' w'→Keep s.objs s'.objs→N f' w')→WA P n ro ops N f w:=by
 unfold regD at h
 rw[zc_] at h
 obtain⟨hc,h⟩:=bo_ h
 rw[a1_,a1_] at hc
 obtain⟨⟨hm,hon⟩,hpre⟩:=hc
 obtain⟨tr,V,hg,hV,hk⟩:=aj2 (avs:=[]) h ⟨rfl,λj a hj=>by simp at hj⟩
 rw[g8_] at hV
 have hb:Base s.objs.length ops (s.objs++List.replicate ops.length .unborn):=⟨by simp,λo h1 h2=>by
  rw[c6_ h1,j4_]
  rw[a9_,e8_] at h2
  rw[if_pos (by omega)]⟩
 have hlen:=(nv_ hg).1
 refine⟨_,hk,hm,λd hd => ?_,λ{ro S0 hv0 ob0 Fm f w N} hr kont => ?_⟩
 ·show (match go_ d (ops.map (·.dst)) 0 with
   | none=>s.slot d
   | some j=>(V[j]?).getD (.b .dead))=s.slot d
  rw[ap6 hd]
 obtain⟨S,hv,Ds,hle,hag,hbl,hs,hdsf⟩:=hr
 have hs0:=hs.ext ops.length
 have hob:BLe ob0 (s.objs++List.replicate ops.length .unborn):=hbl.trans λ_=>wt_
 intro Q a ha
 let don:Array Bool→Nat→Bool:=λlisted i=>listed.getD i false
 refine⟨(λlisted a w=>∃ (f':Fr) (S':PH) (hv':Nat→Value),Fits n a f'∧Cl ops (don listed) ∧
   Dy S0 hv0 ob0 (py_ Ds::Fm) (cm6 Ds) s.slot (ops.map (·.dst)) (s.objs++List.replicate ops.length .unborn) (cur s.objs.length (s.objs++List.replicate ops.length .unborn) tr (don listed)) (oe_ s.slot (ops.map (·.dst)) tr (don listed)) S' hv' f' w),?_,?_,?_⟩
 ·refine⟨f,S,hv,ha,?_,?_⟩
  ·have e:don (Array.replicate ops.length false)=λ_=>false:=by
    funext i
    show (Array.replicate ops.length false).getD i false=false
    simp only[a8_,g7_]
    split<;>rfl
   rw[e]
   exact bf9
  ·have e:don (Array.replicate ops.length false)=λ_=>false:=by
    funext i
    show (Array.replicate ops.length false).getD i false=false
    simp only[a8_,g7_]
    split<;>rfl
   rw[e,cb3]
   refine⟨hle,hag,hs0.inv.world rfl rfl λ_ _ h=>h,λx => ?_,λx => ?_,hs0.wfo,Keep.refl _,hdsf,hs0.gl⟩
   ·unfold oe_
    cases go_ x (ops.map (·.dst)) 0<;>exact hs0.rel x
   ·unfold oe_
    cases go_ x (ops.map (·.dst)) 0<;>exact hs0.wfs x
 ·rintro listed a w i hsz ⟨f',S',hv',hfit,hcl,hD⟩ hi
  have hm':=d0_.1 hi
  have hir:i<ops.length:=by simpa using hm'.1
  have h2:=hm'.2
  rw[a1_] at h2
  have hlt:i<listed.size:=by rw[hsz];simpa using hir
  have hun:don listed i=false:=by
   have:=h2.1
   show listed.getD i false=false
   simpa [a8_,d1_ hlt] using this
  have ho:ops[i]?=some (ops[i]'hir):=a7_ hir
  generalize ops[i]'hir=o at ho
  have hpr:∀ p ∈ cm_ o,don listed p=true:=by
   intro p hp
   have:=h2.2
   simp only[e0_,ho,g3_,g2_] at this
   unfold cm_ at hp
   obtain⟨e,he,rfl⟩:=d2_.1 hp
   obtain⟨he1,he2⟩:=d0_.1 he
   rw[i9_] at this
   have:=this e (by simpa using he1)
   rw[he2] at this
   show listed.getD e.on false=true
   simpa [a8_] using this
  have hset:(λj=>Nat.beq j i||don listed j)=don (listed.setIfInBounds i true):=by
   funext j
   show (Nat.beq j i||listed.getD j false)=(listed.setIfInBounds i true).getD j false
   by_cases hj:j=i
   ·subst hj
    rw[g0_]
    simp[a8_,j5_,hlt]
   ·rw[za_ hj]
    simp[a8_,h2_ (n5_ hj)]
  have hres:=dy_op (ro:=ro) hg hb hpre rfl hon hs0.wfs hob hcl ho hun hpr hD a hfit Q
  refine wpOpIn_mono ?_ hres
  rintro a' w' ⟨f'',hfit',S'',hv'',hD'⟩
  rw[hset] at hD'
  exact⟨f'',S'',hv'',hfit',by rw[← hset];exact (hcl.step ho hpr).2,hD'⟩
 ·rintro listed a w hsz ⟨f',S',hv',hfit,hcl,hD⟩ hnil
  have hall:∀ i,i<ops.length→don listed i=true:=by
   intro i
   induction i using Nat.strongRecOn with
   | _ i ih =>
    intro hir
    cases hd:don listed i with
    | true=>rfl
    | false =>
     exfalso
     have ho:ops[i]?=some (ops[i]'hir):=a7_ hir
     have hmem:i ∈ Region.ready .any ops.toArray listed:=by
      unfold Region.ready
      refine d0_.2 ⟨by simpa using hir,?_⟩
      rw[a1_]
      constructor
      ·have hlt:i<listed.size:=by rw[hsz];simpa using hir
       have hd':listed.getD i false=false:=hd
       simpa [a8_,d1_ hlt] using hd'
      ·simp only[e0_,ho,g3_,g2_]
       rw[i9_]
       intro e he
       cases hb:Region.binds .any e with
       | false=>rfl
       | true =>
        have hp:e.on ∈ cm_ (ops[i]'hir):=d2_.2 ⟨e,d0_.2 ⟨by simpa using he,hb⟩,rfl⟩
        have hlt:=sn_ hpre ho e.on hp
        have:=ih e.on (by omega) (by omega)
        have this:listed.getD e.on false=true:=this
        simpa [a8_] using this
     rw[hnil] at hmem
     cases hmem
  have hcur:cur s.objs.length (s.objs++List.replicate ops.length .unborn) tr (don listed)=ua_ (s.objs++List.replicate ops.length .unborn) tr:=by
   have e1:=cc4 hg hb hpre (t:=ops.length) (c3_ _)
   unfold Cat at e1
   rw[g6_ (by omega)] at e1
   rw[e1]
   unfold cur
   refine m2_ λo _ => ?_
   congr 1
   refine pv_ λi q hq _ => ?_
   have:=(a4_.1 hq).1
   rw[b0_,hall i (by omega),mv_.2 (by omega)]
  have hslot:∀ (d:Nat) (av:AV),av=(match go_ d (ops.map (·.dst)) 0 with
   | none=>s.slot d
   | some j=>(V[j]?).getD (.b .dead))→RA hv' S' av (f' d)∧av.lt (ua_ (s.objs++List.replicate ops.length .unborn) tr)=true:=by
   rintro d av rfl
   have h1:=hD.rel d
   have h2:=hD.wfs d
   rw[hcur] at h2
   unfold oe_ at h1 h2
   cases hx:go_ d (ops.map (·.dst)) 0 with
   | none=>rw[hx] at h1 h2;exact⟨h1,h2⟩
   | some j =>
    rw[hx] at h1 h2
    obtain⟨k,e,hk⟩:=nh_ hx
    rw[b0_] at e
    subst e
    have hj:j<ops.length:=by
     have:=(a4_.1 hk).1
     simpa using this
    have h1:RA hv' S' (cond (don listed j) (bl7 tr j) (s.slot d)) (f' d):=h1
    have h2:(cond (don listed j) (bl7 tr j) (s.slot d)).lt _=true:=h2
    rw[hall j hj] at h1 h2
    have h1:RA hv' S' (bl7 tr j) (f' d):=h1
    have h2:(bl7 tr j).lt _=true:=h2
    show RA hv' S' ((V[j]?).getD (.b .dead)) (f' d)∧((V[j]?).getD (.b .dead)).lt _=true
    cases hq:V[j]? with
    | none=>exact⟨trivial,rfl⟩
    | some a =>
     obtain⟨a0,h0⟩:=az2 hV hq
     have e0:bl7 tr j=a0:=by
      refine ay3 (i:=tr.length) ?_
      rw[e1_]
      exact h0
     rw[e0] at h1 h2
     exact⟨az1 hV hq h0 h1,cr8 hV hq h0 h2⟩
  refine⟨f',hfit,kont f' w ⟨S',hv',Ds,hD.le,hD.ag,?_,⟨?_,λd=>(hslot d _ rfl).1,λd=>(hslot d _ rfl).2,?_,hD.gl⟩,hD.ds⟩ ?_⟩
  ·intro o ho
   have h3:=hob o ho
   have hl:=bg4 h3
   show born (ua_ _ tr) o=true
   rw[← hcur]
   have h0:o<s.objs.length:=by
    apply Nat.lt_of_not_le
    intro hge
    rw[ax_,hb.un o hge hl] at h3
    obtain⟨a,h1,h2⟩:=h3
    cases h1
    exact h2 rfl
   rw[td_ hg hb hpre h0]
   exact h3
  ·have:=hD.inv
   rw[hcur] at this
   exact this
  ·have:=hD.wfo
   rw[hcur] at this
   exact this
  ·have:=hD.keep
   rw[hcur] at this
   exact keep_ext.trans this
theorem regD_ok {ops:List Oper} {s:A} {k:A→Option ρ} (h:regD cx n ops s k=some r) :
  ∃ s',k s'=some r∧(∀ d,inL d (ir_ ops)=false→s'.slot d=s.slot d) ∧
  ∀ {ro:Option Nat} {S0:PH} {hv0:Nat→Value} {ob0:List AO} {Fm:List HP} {f:Fr} {w:World} {id:Nat} {N R:Fr→World→Prop} {X:Nat→Fr→World→Prop},
   Rl S0 hv0 ob0 Fm s f w→(∀ f' w',Rl S0 hv0 ob0 Fm s' f' w'→Keep s.objs s'.objs→N f' w')→WP P n ro (.region id ops.toArray true) N R X f w:=by
 obtain⟨s',h1,hm,h2,h3⟩:=au8 h
 exact⟨s',h1,h2,λhr kont=>bm6 hm (h3 hr kont)⟩
end
end
section
variable [Gb]
theorem mskA_lt (a:AV):(mskA a).lt []=true:=by
 unfold mskA
 cases h:a.lt [] with
 | true=>exact h
 | false=>rfl
theorem mskA_ra {hv:Nat→Value} {S:PH} {a:AV} {v:Value} (h:RA hv S a v):RA hv S (mskA a) v:=by
 unfold mskA
 cases a.lt [] with
 | true=>exact h
 | false=>trivial
theorem ag_nil {a b:Nat→Value}:Ag [] a b:=λi h=>by cases h
section
variable {P:Program} [Tb P] {n:Nat} {sl:Nat→AV} {dsts:List (Option Nat)} {tab:List (List Nat)}
structure RanQ (P:Program) [Tb P] (n:Nat) (sl:Nat→AV) (dsts:List (Option Nat)) (tab:List (List Nat)) (o:Oper) (anc:List Nat) (V:List AV) (av:AV):Prop where
 dst:ey_ n o.dst=true
 lt:av.lt []=true
 run:∃ ob,OpUn P o (envQ sl dsts tab anc V) [] av ob
def cr5 (P:Program) [Tb P] (n:Nat) (sl:Nat→AV) (dsts:List (Option Nat)) (tab:List (List Nat)) (o:Oper) (anc:List Nat) (avs:List AV) (av:AV):Prop :=
 ∃ V,VOk V avs∧match o.guard with
  | none=>RanQ P n sl dsts tab o anc V av
  | some (j,b)=>inL j anc=true∧dstG n dsts j=true∧∃ a0,avs[j]?=some a0∧((asD .bool a0=some b∧RanQ P n sl dsts tab o anc V av)∨((asD .bool a0=some (!b)∨unA a0=true)∧ey_ n o.dst=true∧av = .tup []))
def ac7 (P:Program) [Tb P] (n:Nat) (sl:Nat→AV) (dsts:List (Option Nat)) (tab:List (List Nat)):List Oper→List (List Nat)→List AV→List AV→Prop
 | [],_,_,[]=>True
 | o::os,anc::ancs,avs,q::tr=>cr5 P n sl dsts tab o anc avs q∧ac7 P n sl dsts tab os ancs (avs++[q]) tr
 | _,_,_,_=>False
theorem ci2 {ρ:Type} {cx:Cx P} {r:ρ} {o:Oper} {anc:List Nat} {vals:List AV} {k:AV→Option ρ} (h:at7 cx n sl dsts tab o anc vals k=some r):∃ av,k av=some r∧RanQ P n sl dsts tab o anc vals av:=by
 unfold at7 at h
 simp only[ai5] at h
 obtain⟨hd,h⟩:=bo_ h
 obtain⟨av,ob,h1,h2⟩:=ad4 h
 obtain⟨hl,h1⟩:=bo_ h1
 exact⟨av,h1,hd,hl,ob,h2⟩
theorem aj1 {ρ:Type} {cx:Cx P} {r:ρ}:∀ {os:List Oper} {ancs:List (List Nat)} {vals avs:List AV} {k:List AV→Option ρ},uj_ cx n sl dsts tab os ancs vals k=some r→VOk vals avs →
  ∃ tr V,ac7 P n sl dsts tab os ancs avs tr∧VOk V (avs++tr)∧k V=some r
 | [],ancs,vals,avs,k,h,hv=>⟨[],vals,trivial,by simpa using hv,h⟩
 | o::os,[],vals,avs,k,h,hv=>by cases h
 | o::os,anc::ancs,vals,avs,k,h,hv=>by
  unfold uj_ at h
  have run:∀ (V:List AV),VOk V avs→at7 cx n sl dsts tab o anc V (λav=>uj_ cx n sl dsts tab os ancs (V++[av]) k)=some r →
    (∀ av,RanQ P n sl dsts tab o anc V av→cr5 P n sl dsts tab o anc avs av)→∃ tr V,ac7 P n sl dsts tab (o::os) (anc::ancs) avs tr∧VOk V (avs++tr)∧k V=some r:=λV hV h hg=>by
   obtain⟨av,h1,h2⟩:=ci2 h
   obtain⟨tr,W,g1,g2,g3⟩:=aj1 h1 (hV.app av)
   exact⟨av::tr,W,⟨hg av h2,g1⟩,by simpa using g2,g3⟩
  have skip:∀ (V:List AV),VOk V avs→cond (ey_ n o.dst) (uj_ cx n sl dsts tab os ancs (V++[.tup []]) k) none=some r→(ey_ n o.dst=true→cr5 P n sl dsts tab o anc avs (.tup [])) →
    ∃ tr V,ac7 P n sl dsts tab (o::os) (anc::ancs) avs tr∧VOk V (avs++tr)∧k V=some r:=λV hV h hg=>by
   obtain⟨hd,h⟩:=bo_ h
   obtain⟨tr,W,g1,g2,g3⟩:=aj1 h (hV.app (.tup []))
   exact⟨.tup []::tr,W,⟨hg hd,g1⟩,by simpa using g2,g3⟩
  split at h
  ·rename_i hg
   exact run vals hv h λav hR=>⟨vals,hv,by rw[hg];exact hR⟩
  ·rename_i j b hg
   obtain⟨hj,h⟩:=bo_ h
   rw[a1_] at hj
   obtain⟨hj,hjd⟩:=hj
   obtain⟨vj,hvj,h⟩:=bnd h
   obtain⟨a0,ha0,hrel⟩:=hv.2 j vj hvj
   cases hun:unA vj with
   | true =>
    rw[hun] at h
    have hun0:unA a0=true:=by
     rcases hrel with rfl | ⟨c',h3,rfl⟩
     ·exact hun
     ·cases hun
    exact skip vals hv (show cond (ey_ n o.dst) _ none=some r from h) λhd=>⟨vals,hv,by rw[hg];exact⟨hj,hjd,a0,ha0,.inr ⟨.inr hun0,hd,rfl⟩⟩⟩
   | false =>
   rw[hun] at h
   obtain⟨c,hc,h⟩:=bnd (show Option.bind _ _=some r from h)
   have hc0:asD .bool a0=some c:=by
    rcases hrel with rfl | ⟨c',h3,rfl⟩
    ·exact hc
    ·have h4:asD .bool (bV c')=some c':=rfl
     rw[h4] at hc
     cases hc
     exact h3
   have hV:=hv.set hvj hc
   have go:∀ c',c'=c→c'=b→at7 cx n sl dsts tab o anc (vals.set j (bV c')) (λav=>uj_ cx n sl dsts tab os ancs (vals.set j (bV c')++[av]) k)=some r→_:=λc' e e2 h =>
    run (vals.set j (bV c')) (by rw[e];exact hV) h λav hR=>⟨vals.set j (bV c'),by rw[e];exact hV,by rw[hg];exact⟨hj,hjd,a0,ha0,.inl ⟨hc0.trans (congrArg some (e.symm.trans e2)),hR⟩⟩⟩
   have no:∀ c',c'=c→c' = !b→cond (ey_ n o.dst) (uj_ cx n sl dsts tab os ancs (vals.set j (bV c')++[.tup []]) k) none=some r→_:=λc' e e2 h =>
    skip (vals.set j (bV c')) (by rw[e];exact hV) h λhd=>⟨vals.set j (bV c'),by rw[e];exact hV,by rw[hg];exact⟨hj,hjd,a0,ha0,.inr ⟨.inl (hc0.trans (congrArg some (e.symm.trans e2))),hd,rfl⟩⟩⟩
   cases c with
   | true=>cases b with
    | true=>exact go true rfl rfl h
    | false=>exact no true rfl rfl h
   | false=>cases b with
    | true=>exact no false rfl rfl h
    | false=>exact go false rfl rfl h
theorem sy_:∀ {os:List Oper} {ancs:List (List Nat)} {avs tr:List AV},ac7 P n sl dsts tab os ancs avs tr →
  tr.length=os.length∧∀ (t:Nat) (o:Oper),os[t]?=some o→∃ anc q,ancs[t]?=some anc∧tr[t]?=some q∧cr5 P n sl dsts tab o anc (avs++tr.take t) q
 | [],_,_,[],_=>⟨rfl,λt o h=>by simp at h⟩
 | [],_,_,_::_,h=>h.elim
 | _::_,[],_,_,h=>h.elim
 | _::_,_::_,_,[],h=>h.elim
 | o::os,anc::ancs,avs,q::tr,h=>by
  obtain⟨h1,h2⟩:=sy_ h.2
  refine⟨by simp[h1],λt p hp => ?_⟩
  cases t with
  | zero =>
   simp at hp
   subst hp
   exact⟨anc,q,rfl,rfl,by simpa using h.1⟩
  | succ t =>
   obtain⟨a,x,e1,e2,g⟩:=h2 t p (by simpa using hp)
   refine⟨a,x,by simpa using e1,by simpa using e2,?_⟩
   simpa using g
end
def avQ (tr:List AV) (j:Nat):AV:=(tr[j]?).getD (.b .dead)
def il_ (sl:Nat→AV) (dsts:List (Option Nat)) (tr:List AV) (d:Nat→Bool) (x:Nat):AV:=match go_ x dsts 0 with
 | none=>sl x
 | some j=>cond (d j) (avQ tr j) (sl x)
section
variable {P:Program} [Tb P] {n:Nat} {sl:Nat→AV} {dsts:List (Option Nat)} {tab:List (List Nat)} {os:List Oper} {tr:List AV} {ro:Option Nat} {S0:PH} {hv0:Nat→Value} {ob0 objs:List AO} {Fm:List HP}
theorem takeQ {i j:Nat} {a0:AV} (h:(tr.take i)[j]?=some a0):avQ tr j=a0:=by
 rw[i8_] at h
 split at h
 ·unfold avQ;rw[h];rfl
 ·cases h
theorem yw_ {d:Nat→Bool} (hon:tz_ dsts=true) (hds:dsts=os.map (·.dst)) {i:Nat} {o:Oper} {q:AV} (ho:os[i]?=some o) (hq:tr[i]?=some q) (x:Nat) :
  il_ sl dsts tr (λj=>Nat.beq j i||d j) x=if o.dst=some x then q else il_ sl dsts tr d x:=by
 unfold il_
 cases hx:go_ x dsts 0 with
 | none =>
  have:=ab0 hx i
  rw[hds,d5_,ho] at this
  have hne:¬ o.dst=some x:=λe=>this (by rw[← e];rfl)
  rw[if_neg hne]
 | some j =>
  obtain⟨k,e,hk⟩:=nh_ hx
  rw[b0_] at e
  subst e
  show cond (Nat.beq j i||d j) (avQ tr j) (sl x)=_
  by_cases e:j=i
  ·subst e
   have:o.dst=some x:=by
    rw[hds,d5_,ho] at hk
    exact a6_ hk
   rw[if_pos this,g0_]
   show avQ tr j=q
   unfold avQ
   rw[hq]
   rfl
  ·have hne:¬ o.dst=some x:=λe2=>by
    have h3:dsts[i]?=some (some x):=by rw[hds,d5_,ho,← e2];rfl
    exact e (bb8 hon hk h3)
   rw[if_neg hne,za_ e,k3_]
theorem dq_op (hg:ac7 P n sl dsts (lt_ os []) os (lt_ os []) [] tr) (hpre:so_ os 0=true) (hds:dsts=os.map (·.dst)) (hon:tz_ dsts=true) {d:Nat→Bool} (hd:Cl os d) {i:Nat} {p:Oper} (ho:os[i]?=some p) (hi:d i=false) (hw:∀ j ∈ cm_ p,d j=true)
  {f:Fr} {w:World} (D:Rl S0 hv0 ob0 Fm ⟨il_ sl dsts tr d,objs⟩ f w) :
  OPg P n ro os.toArray i f w λf' w'=>Rl S0 hv0 ob0 Fm ⟨il_ sl dsts tr (λj=>Nat.beq j i||d j),objs⟩ f' w':=by
 obtain⟨anc,q,ha,hq,V,hV,hgo⟩:=(sy_ hg).2 i p ho
 rw[g8_] at hV
 obtain⟨hanc',_⟩:=hd.step ho hw
 have hanc:=hanc' anc ha
 have hoa:os.toArray[i]?=some p:=by simpa using ho
 obtain⟨S,hv,Ds,hle,hag,hbl,hs,hdsf⟩:=D
 have fin:∀ (S':PH) (v:Value) (w':World),S.Le S'→RA hv S' q v→q.lt []=true→Inv w' S' (OHs hv 0 objs++(py_ Ds::Fm))→Rl S0 hv0 ob0 Fm ⟨il_ sl dsts tr (λj=>Nat.beq j i||d j),objs⟩ (wy_ f p.dst v) w':=by
  intro S' v w' hle' hr hl hI
  refine⟨S',hv,Ds,hle.trans hle',hag,hbl,⟨hI,λx => ?_,λx => ?_,hs.wfo,hs.gl.mono hle'⟩,by rw[tq_];exact hdsf⟩
  ·show RA hv S' (il_ sl dsts tr (λj=>Nat.beq j i||d j) x) (wy_ f p.dst v x)
   rw[yw_ hon hds ho hq]
   by_cases e:p.dst=some x
   ·rw[if_pos e,e]
    show RA hv S' q (upd f x v x)
    rw[nm_]
    exact hr
   ·rw[if_neg e]
    have:wy_ f p.dst v x=f x:=by
     cases hp:p.dst with
     | none=>rfl
     | some y =>
      rw[hp] at e
      exact wx_ f y v λh=>e (by rw[h])
    rw[this]
    exact RA.mono hle' (hs.rel x)
  ·show (il_ sl dsts tr (λj=>Nat.beq j i||d j) x).lt objs=true
   rw[yw_ hon hds ho hq]
   by_cases e:p.dst=some x
   ·rw[if_pos e]
    exact AV.lt_mono (λo h=>by cases h) hl
   ·rw[if_neg e]
    exact hs.wfs x
 have ran:RanQ P n sl dsts (lt_ os []) p anc V q→OP P n ro p f w λf' w'=>Rl S0 hv0 ob0 Fm ⟨il_ sl dsts tr (λj=>Nat.beq j i||d j),objs⟩ f' w':=by
  rintro⟨hdo,hl,ob,hun⟩
  have hrel:∀ x,RA hv S (envQ sl dsts (lt_ os []) anc V x) (f x):=by
   intro x
   refine mskA_ra ?_
   have h0:=hs.rel x
   have h0:RA hv S (il_ sl dsts tr d x) (f x):=h0
   unfold il_ at h0
   unfold cg7
   cases hx:go_ x dsts 0 with
   | none=>rw[hx] at h0;exact h0
   | some j =>
    rw[hx] at h0
    show RA hv S (cond (inL j anc) ((V[j]?).getD (.b .dead)) (cond (inL V.length (((lt_ os [])[j]?).getD [])) (sl x) (.b .dead))) (f x)
    cases hj:inL j anc with
    | false =>
     cases hb:inL V.length (((lt_ os [])[j]?).getD []) with
     | false=>trivial
     | true =>
      have hVl:V.length=i:=by
       have h1:=hV.1
       have h2:=(sy_ hg).1
       have h3:=(a4_.1 ho).1
       rw[h1,c7_]
       omega
      rw[hVl] at hb
      have h0:RA hv S (cond (d j) (avQ tr j) (sl x)) (f x):=h0
      rw[bc9 hd hi j hb] at h0
      exact h0
    | true =>
     have h0:RA hv S (cond (d j) (avQ tr j) (sl x)) (f x):=h0
     rw[hanc j hj] at h0
     have h0:RA hv S (avQ tr j) (f x):=h0
     show RA hv S ((V[j]?).getD (.b .dead)) (f x)
     cases hvj:V[j]? with
     | none=>trivial
     | some a =>
      obtain⟨a0,e0⟩:=az2 hV hvj
      rw[takeQ e0] at h0
      exact az1 hV hvj e0 h0
  have hsit:Sit S hv (OHs hv 0 objs++(py_ Ds::Fm)) (envQ sl dsts (lt_ os []) anc V) [] f w:=⟨hs.inv,hrel,λx=>mskA_lt _,λa h=>(by cases h),hs.gl⟩
  refine hun hsit hdo λv S' hv' w' _ _ _ _ hle' _ hr hI => ?_
  exact fin S' v w' hle' (RA.ag (n:=[]) ag_nil hl hr) hl (sw_ hI)
 split at hgo
 ·rename_i hgd
  exact xs_ hoa hgd (ran hgo)
 ·rename_i j b hgd
  obtain⟨hja,hdg,a0,ha0,hgo⟩:=hgo
  rw[g8_] at ha0
  unfold dstG at hdg
  split at hdg
  ·rename_i dd hdd
   have hdj:=hanc j hja
   have hrel:RA hv S a0 (f dd):=by
    have:=hs.rel dd
    have this:RA hv S (il_ sl dsts tr d dd) (f dd):=this
    unfold il_ at this
    rw[ai0 hon hdd] at this
    have this:RA hv S (cond (d j) (avQ tr j) (sl dd)) (f dd):=this
    rw[hdj] at this
    have this:RA hv S (avQ tr j) (f dd):=this
    rw[takeQ ha0] at this
    exact this
   have hjd:(os.toArray[j]?).bind (·.dst)=some dd:=by
    rw[hds,d5_] at hdd
    rw[e0_]
    cases hq:os[j]? with
    | none=>rw[hq] at hdd;cases hdd
    | some o=>rw[hq] at hdd;exact a6_ hdd
   rcases hgo with ⟨hcb,hR⟩ | ⟨hcb,hdo,hav⟩
   ·exact an9 hoa hgd hjd hdg (ep_ hrel hcb) rfl (ran hR)
   ·have hK:=fin S undef w (PH.Le.refl S) (by rw[hav];exact un_ra) (by rw[hav];rfl) hs.inv
    rcases hcb with hcb | hcb
    ·exact bb4 hoa hgd hjd hdg (ep_ hrel hcb) rfl hdo hK
    ·exact aa3 hoa hgd hjd hdg (bn4 hcb hrel) hdo hK
  ·cases hdg
end
section
variable {ρ:Type} {P:Program} [Tb P] {cx:Cx P} {n:Nat} {r:ρ}
theorem regQ_ok {ops:List Oper} {s:A} {k:A→Option ρ} (h:regQ cx n ops s k=some r) :
  ∃ s',k s'=some r∧(∀ d,inL d (ir_ ops)=false→s'.slot d=s.slot d) ∧
  ∀ {ro:Option Nat} {S0:PH} {hv0:Nat→Value} {ob0:List AO} {Fm:List HP} {f:Fr} {w:World} {id:Nat} {N R:Fr→World→Prop} {X:Nat→Fr→World→Prop},
   Rl S0 hv0 ob0 Fm s f w→(∀ f' w',Rl S0 hv0 ob0 Fm s' f' w'→Keep s.objs s'.objs→N f' w')→WP P n ro (.region id ops.toArray true) N R X f w:=by
 unfold regQ at h
 rw[zc_] at h
 obtain⟨hc,h⟩:=bo_ h
 rw[a1_,a1_] at hc
 obtain⟨⟨hm,hon⟩,hpre⟩:=hc
 obtain⟨tr,V,hg,hV,hk⟩:=aj1 (avs:=[]) h ⟨rfl,λj a hj=>by simp at hj⟩
 rw[g8_] at hV
 have hlen:=(sy_ hg).1
 refine⟨_,hk,λd hd => ?_,λ{ro S0 hv0 ob0 Fm f w id N R X} hr kont => ?_⟩
 ·show (match go_ d (ops.map (·.dst)) 0 with
   | none=>s.slot d
   | some j=>(V[j]?).getD (.b .dead))=s.slot d
  rw[ap6 hd]
 intro a ha
 refine wpIn_region_any hm ?_
 let don:Array Bool→Nat→Bool:=λlisted i=>listed.getD i false
 refine op_ (λlisted a w=>∃ (f':Fr),Fits n a f'∧Cl ops (don listed)∧Rl S0 hv0 ob0 Fm ⟨il_ s.slot (ops.map (·.dst)) tr (don listed),s.objs⟩ f' w) ?_ ?_ _ _ _ _ (by simp) (c5_ k2_ (by simp)) ?_
 ·rintro listed a w i hsz ⟨f',hfit,hcl,hD⟩ hi
  have hm':=d0_.1 hi
  have hir:i<ops.length:=by simpa using hm'.1
  have h2:=hm'.2
  rw[a1_] at h2
  have hlt:i<listed.size:=by rw[hsz];simpa using hir
  have ho:ops[i]?=some (ops[i]'hir):=a7_ hir
  generalize ops[i]'hir=o at ho
  have hpr:∀ p ∈ cm_ o,don listed p=true:=by
   intro p hp
   have:=h2.2
   simp only[e0_,ho,g3_,g2_] at this
   unfold cm_ at hp
   obtain⟨e,he,rfl⟩:=d2_.1 hp
   obtain⟨he1,he2⟩:=d0_.1 he
   rw[i9_] at this
   have:=this e (by simpa using he1)
   rw[he2] at this
   show listed.getD e.on false=true
   simpa [a8_] using this
  have hset:(λj=>Nat.beq j i||don listed j)=don (listed.setIfInBounds i true):=by
   funext j
   show (Nat.beq j i||listed.getD j false)=(listed.setIfInBounds i true).getD j false
   by_cases hj:j=i
   ·subst hj
    rw[g0_]
    simp[a8_,j5_,hlt]
   ·rw[za_ hj]
    simp[a8_,h2_ (n5_ hj)]
  have hun:don listed i=false:=by
   have:=h2.1
   show listed.getD i false=false
   simpa [a8_,d1_ hlt] using this
  have hres:=dq_op (ro:=ro) hg hpre rfl hon hcl ho hun hpr hD a hfit (Go.Proofs.YtgeehfnbhbibeaaGreatDoor.Pad.Ends n N R X)
  refine wpOpIn_mono ?_ hres
  rintro a' w' ⟨f'',hfit',hD'⟩
  rw[hset] at hD'
  exact⟨f'',hfit',by rw[← hset];exact (hcl.step ho hpr).2,hD'⟩
 ·rintro listed a w hsz ⟨f',hfit,hcl,hD⟩ hnil
  have hall:∀ i,i<ops.length→don listed i=true:=by
   intro i
   induction i using Nat.strongRecOn with
   | _ i ih =>
    intro hir
    cases hd:don listed i with
    | true=>rfl
    | false =>
     exfalso
     have ho:ops[i]?=some (ops[i]'hir):=a7_ hir
     have hmem:i ∈ Region.ready .any ops.toArray listed:=by
      unfold Region.ready
      refine d0_.2 ⟨by simpa using hir,?_⟩
      rw[a1_]
      constructor
      ·have hlt:i<listed.size:=by rw[hsz];simpa using hir
       have hd':listed.getD i false=false:=hd
       simpa [a8_,d1_ hlt] using hd'
      ·simp only[e0_,ho,g3_,g2_]
       rw[i9_]
       intro e he
       cases hb:Region.binds .any e with
       | false=>rfl
       | true =>
        have hp:e.on ∈ cm_ (ops[i]'hir):=d2_.2 ⟨e,d0_.2 ⟨by simpa using he,hb⟩,rfl⟩
        have hlt:=sn_ hpre ho e.on hp
        have:=ih e.on (by omega) (by omega)
        have this:listed.getD e.on false=true:=this
        simpa [a8_] using this
     rw[hnil] at hmem
     cases hmem
  obtain⟨S',hv',Ds,d1,d2,d3,d4,d5⟩:=hD
  have hslot:∀ (d:Nat) (av:AV),av=(match go_ d (ops.map (·.dst)) 0 with
   | none=>s.slot d
   | some j=>(V[j]?).getD (.b .dead))→RA hv' S' av (f' d)∧av.lt s.objs=true:=by
   rintro d av rfl
   have h1:=d4.rel d
   have h2:=d4.wfs d
   have h1:RA hv' S' (il_ s.slot (ops.map (·.dst)) tr (don listed) d) (f' d):=h1
   have h2:(il_ s.slot (ops.map (·.dst)) tr (don listed) d).lt s.objs=true:=h2
   unfold il_ at h1 h2
   cases hx:go_ d (ops.map (·.dst)) 0 with
   | none=>rw[hx] at h1 h2;exact⟨h1,h2⟩
   | some j =>
    rw[hx] at h1 h2
    obtain⟨k,e,hk⟩:=nh_ hx
    rw[b0_] at e
    subst e
    have hj:j<ops.length:=by
     have:=(a4_.1 hk).1
     simpa using this
    have h1:RA hv' S' (cond (don listed j) (avQ tr j) (s.slot d)) (f' d):=h1
    have h2:(cond (don listed j) (avQ tr j) (s.slot d)).lt _=true:=h2
    rw[hall j hj] at h1 h2
    have h1:RA hv' S' (avQ tr j) (f' d):=h1
    have h2:(avQ tr j).lt _=true:=h2
    show RA hv' S' ((V[j]?).getD (.b .dead)) (f' d)∧((V[j]?).getD (.b .dead)).lt _=true
    cases hq:V[j]? with
    | none=>exact⟨trivial,rfl⟩
    | some a =>
     obtain⟨a0,h0⟩:=az2 hV hq
     have e0:avQ tr j=a0:=by
      refine takeQ (i:=tr.length) ?_
      rw[e1_]
      exact h0
     rw[e0] at h1 h2
     exact⟨az1 hV hq h0 h1,cr8 hV hq h0 h2⟩
  exact⟨f',hfit,kont f' w ⟨S',hv',Ds,d1,d2,d3,⟨d4.inv,λd=>(hslot d _ rfl).1,λd=>(hslot d _ rfl).2,d4.wfo,d4.gl⟩,d5⟩ (Keep.refl _)⟩
 ·refine⟨f,ha,?_,?_⟩
  ·have e:don (Array.replicate ops.toArray.size false)=λ_=>false:=by
    funext i
    show (Array.replicate ops.toArray.size false).getD i false=false
    simp only[a8_,g7_]
    split<;>rfl
   rw[e]
   exact bf9
  ·have e:don (Array.replicate ops.toArray.size false)=λ_=>false:=by
    funext i
    show (Array.replicate ops.toArray.size false).getD i false=false
    simp only[a8_,g7_]
    split<;>rfl
   rw[e]
   have e2:il_ s.slot (ops.map (·.dst)) tr (λ_=>false)=s.slot:=by
    funext x
    unfold il_
    cases go_ x (ops.map (·.dst)) 0<;>rfl
   rw[e2]
   obtain⟨S,hv,Ds,d1,d2,d3,d4,d5⟩:=hr
   exact⟨S,hv,Ds,d1,d2,d3,⟨d4.inv.world rfl rfl λ_ _ h=>h,d4.rel,d4.wfs,d4.wfo,d4.gl⟩,d5⟩
end
end
section
variable [Gb]
theorem rq_ {i:Nat}:∀ {a b:List Nat},inL i (a++b)=(inL i a||inL i b)
 | [],b=>rfl
 | x::a,b=>by simp[inL,rq_ (a:=a),Bool.or_assoc]
theorem rp_ {i:Nat}:∀ {a:List Nat},inL i a=true→i ∈ a
 | [],h=>by cases h
 | x::a,h=>by
  simp only[inL,c8_] at h
  rcases h with h | h
  ·rw[a3_ h];simp
  ·simp[rp_ h]
section
variable {P:Program} [Tb P] {cx:Cx P} {n:Nat} {ro:Option Nat} {S0:PH} {hv0:Nat→Value} {ob0:List AO} {Fm:List HP}
structure Po (S0:PH) (hv0:Nat→Value) (ob0:List AO) (Fm:List HP) (asg:List Nat) (s s':A) (f:Fr) (w:World):Prop where
 rl:Rl S0 hv0 ob0 Fm s' f w
 keep:Keep s.objs s'.objs
 slot:∀ d,inL d asg=false→s'.slot d=s.slot d
theorem Po.trans {a b:List Nat} {s s1 s2:A} {f f1:Fr} {w w1:World} (h:Po S0 hv0 ob0 Fm a s s1 f1 w1) (k:Po S0 hv0 ob0 Fm b s1 s2 f w):Po S0 hv0 ob0 Fm (a++b) s s2 f w :=
 ⟨k.rl,h.keep.trans k.keep,λd hd=>by
  rw[rq_,b8_] at hd
  exact (k.slot d hd.2).trans (h.slot d hd.1)⟩
theorem Po.sub {a b:List Nat} {s s1:A} {f:Fr} {w:World} (h:Po S0 hv0 ob0 Fm a s s1 f w) (hab:∀ d,inL d b=false→inL d a=false):Po S0 hv0 ob0 Fm b s s1 f w :=
 ⟨h.rl,h.keep,λd hd=>h.slot d (hab d hd)⟩
theorem frz1_ne {l:List AO} {o j:Nat} (h:o≠j):(as6 l o)[j]?=l[j]?:=by
 unfold as6
 split
 ·exact b7_ h
 ·exact b7_ h
 ·rfl
theorem bz0 {k:Nat}:∀ {os:List Nat} {l:List AO},(∀ o ∈ os,k≤o)→∀ {j:Nat},j<k→(wp_ l os)[j]?=l[j]?
 | [],l,_,j,_=>rfl
 | o::os,l,h,j,hj=>by
  have ho:=h o (by simp)
  exact (bz0 (os:=os) (l:=as6 l o) (λp hp=>h p (by simp[hp])) hj).trans (frz1_ne (by omega))
theorem by9 {k:Nat}:∀ {l:List Nat},∀ o ∈ geN k l,k≤o
 | [],o,h=>by cases h
 | i::l,o,h=>by
  unfold geN at h
  cases hi:Nat.ble k i with
  | true =>
   rw[hi] at h
   rcases d8_.1 h with rfl | h
   ·exact b6_ hi
   ·exact by9 o h
  | false=>rw[hi] at h;exact by9 o h
theorem vIds_ge {k:Nat} {sl:Nat→AV}:∀ (es:List Sp1),∀ o ∈ vIds k sl es,k≤o:=by
 intro es
 induction es with
 | nil=>intro o h;cases h
 | cons e es ih =>
  intro o h
  cases e with
  | v d t =>
   rcases b5_.1 (show o ∈ geN k (cu8 (sl d))++vIds k sl es from h) with h | h
   ·exact by9 o h
   ·exact ih o h
  | r d t T=>exact ih o h
  | a d t T=>exact ih o h
  | o p t=>exact ih o h
  | b p ks=>exact ih o h
  | m p k v=>exact ih o h
  | g p t=>exact ih o h
  | x p=>exact ih o h
  | y p=>exact ih o h
theorem an1 {mk:Bool} {asg:List Nat} {es:List Sp1} {mv:List Nat} {s s':A} {x:br_ es} {f:Fr} {w:World} (hb:BLe ob0 s.objs) (hws:WfS s.slot s.objs) (hwo:WfO s.objs) (hr:Rl S0 hv0 ob0 Fm s' f w)
  (h4:∀ d,inL d asg=false→s'.slot d=s.slot d)
  (h5:∀ (j:Nat) (a b:AO),s.objs[j]?=some a→s'.objs[j]?=some b→(listed es j||inL j mv)=false→a≠.unborn→a≠.gone→OHeq a b)
  (hl:s.objs.length≤s'.objs.length) (h6:Kp es s.objs s'.objs) (hg:sa_ es s mv s'=some x):Rl S0 hv0 ob0 Fm (gp_ mk asg es mv s x) f w:=by
 obtain⟨S,hv,Ds,hle,hag,hbl,hs,hds⟩:=hr
 obtain⟨S1,hle1,hs1⟩:=hs.frz (vIds s.objs.length s'.slot es)
 have hold:∀ j,j<s.objs.length→(wp_ s'.objs (vIds s.objs.length s'.slot es))[j]?=s'.objs[j]?:=λj hj=>bz0 (vIds_ge es) hj
 obtain⟨hv',g1,g2,g3⟩:=put_ok (mk:=mk) (asg:=asg) (sl:=s'.slot) ⟨hs1.inv,λd=>RA.mono hle1 (hs.rel d),λd=>AV.lt_mono frzL_ble (hs.wfs d),hs1.wfo,hs1.gl⟩ hs1.rel hws hwo h4
  (λj a b ha hb=>h5 j a b ha (by rw[hold j (a4_.1 ha).1] at hb;exact hb)) (by rw[be0];exact hl)
  ⟨λo ks T c ro T' c' ro' hm ho hr=>h6.1 o ks T c ro T' c' ro' hm ho (by rw[hold o (a4_.1 ho).1] at hr;exact hr),λo Y st ro Y' st' ro' ho hr=>h6.2 o Y st ro Y' st' ro' ho (by rw[hold o (a4_.1 ho).1] at hr;exact hr)⟩ hg
 exact⟨S1,hv',Ds,hle.trans hle1,hag.trans (g1.sub hb),hb.trans g3,g2,hds⟩
theorem br7 {mk:Bool} {ob:List AO} {asg:List Nat} {e:Sp1} {x:e.den} {t:A} {d:Nat} (h:okV asg [e]=true) (hd:inL d asg=false):(fn_ mk ob e x t).slot d=t.slot d:=by
 have key:∀ {d':Nat} {v:AV},inL d' asg=true→(cg0 t.slot d' v) d=t.slot d:=λ{d' v} h'=>by
  have hb:Nat.beq d d'=false:=by
   cases hb:Nat.beq d d' with
   | false=>rfl
   | true=>rw[a3_ hb] at hd;rw[h'] at hd;cases hd
  show cond (Nat.beq d d') _ _=_
  rw[hb]
  rfl
 cases e with
 | v d' t=>exact key (by simpa [okV] using h)
 | r d' t T=>exact key (by simpa [okV] using h)
 | a d' t T=>exact key (by simpa [okV] using h)
 | o o t=>simp only[fn_];split<;>rfl
 | b o ks=>simp only[fn_];split<;>rfl
 | m o k v=>simp only[fn_];split<;>rfl
 | g o t=>simp only[fn_];split<;>rfl
 | x o=>rfl
 | y o=>simp only[fn_];split<;>rfl
theorem cl8 {asg:List Nat} {e:Sp1} {es:List Sp1}:okV asg (e::es)=(okV asg [e]&&okV asg es):=by
 cases e<;>simp[okV]
theorem bj5 {mk:Bool} {ob:List AO} {asg:List Nat} {d:Nat} (hd:inL d asg=false):∀ (es:List Sp1) (x:br_ es) (t:A),okV asg es=true→(qy_ mk ob es x t).slot d=t.slot d:=by
 intro es
 induction es with
 | nil=>intro x t _;rfl
 | cons e es ih =>
  intro x t h
  rw[cl8,a1_] at h
  exact (ih x.2 _ h.2).trans (br7 h.1 hd)
theorem kz_ {mk:Bool} {asg:List Nat} {es:List Sp1} {mv:List Nat} {s:A} {x:br_ es} (h:okV asg es=true) {d:Nat} (hd:inL d asg=false):(gp_ mk asg es mv s x).slot d=s.slot d:=by
 unfold gp_
 rw[bj5 hd es x _ h]
 show cond (inL d asg) _ _=_
 rw[hd]
 rfl
theorem an5:∀ (ks:List CK) (bs:List SV) (x:lr_ ks) (k i j:Nat),ks.length=bs.length→j ∈ roC ks i→i≤j∧(lp_ ks bs x k).1[j - i]?=bs[j - i]?:=by
 intro ks
 induction ks with
 | nil=>intro bs x k i j _ h;cases h
 | cons ck ks ih =>
  intro bs x k i j hl h
  cases bs with
  | nil=>simp at hl
  | cons b bs =>
   simp only[c4_,m7_] at hl
   have e:i+1≤j→j - i=(j - (i+1))+1:=λhj=>by omega
   cases ck with
   | keep =>
    rcases d8_.1 (show j ∈ i::roC ks (i+1) from h) with rfl | h
    ·exact⟨c3_ _,by rw[l2_];rfl⟩
    ·obtain⟨h1,h2⟩:=ih bs x k (i+1) j hl h
     exact⟨by omega,by rw[e h1];exact h2⟩
   | val t =>
    obtain⟨h1,h2⟩:=ih bs x.2 k (i+1) j hl h
    exact⟨by omega,by rw[e h1];exact h2⟩
   | row t T =>
    obtain⟨h1,h2⟩:=ih bs x.2 (k+1) (i+1) j hl h
    exact⟨by omega,by rw[e h1];exact h2⟩
   | map kt vt =>
    obtain⟨h1,h2⟩:=ih bs x.2 (k+1) (i+1) j hl h
    exact⟨by omega,by rw[e h1];exact h2⟩
def co6:AO→Bool
 | .row _ _ _ false=>true
 | .map _ _ _ false=>true
 | .grid _ _ _ false=>true
 | _=>false
theorem ax5 {a b:AO} (h:co6 a=true):K1 a b:=by
 unfold co6 at h
 split at h
 ·trivial
 ·trivial
 ·trivial
 ·cases h
theorem xu_:∀ {es:List Sp1} {ob:List AO} {j:Nat},okS ob es=true→listed es j=true→(∃ a,ob[j]?=some a∧co6 a=true)∨(∃ ks T c ro,.b j ks ∈ es∧ob[j]?=some (.cells T c ro)∧ks.length=c.length∧∀ i ∈ ro,i ∈ roC ks 0)∨∃ Y st,ob[j]?=some (.yld Y st false):=by
 intro es
 induction es with
 | nil=>intro ob j _ h;cases h
 | cons e es ih =>
  intro ob j h hl
  have tl:okS ob es=true→listed es j=true→(∃ a,ob[j]?=some a∧co6 a=true)∨(∃ ks T c ro,.b j ks ∈ e::es∧ob[j]?=some (.cells T c ro)∧ks.length=c.length∧∀ i ∈ ro,i ∈ roC ks 0)∨∃ Y st,ob[j]?=some (.yld Y st false):=λh hl=>by
   rcases ih h hl with h | ⟨ks,T,c,ro,h1,h2⟩ | h
   ·exact .inl h
   ·exact .inr (.inl ⟨ks,T,c,ro,by simp[h1],h2⟩)
   ·exact .inr (.inr h)
  cases e with
  | v d t=>exact tl h hl
  | r d t T=>exact tl h hl
  | a d t T=>exact tl h hl
  | o o t =>
   simp only[okS,a1_] at h
   simp only[listed,c8_] at hl
   rcases hl with hl | hl
   ·have:=a3_ hl
    subst this
    have h1:=h.1.1
    split at h1
    ·rename_i e1;exact .inl ⟨_,e1,rfl⟩
    ·cases h1
   ·exact tl h.2 hl
  | x o =>
   simp only[okS,a1_] at h
   simp only[listed,c8_] at hl
   rcases hl with hl | hl
   ·have:=a3_ hl
    subst this
    have h1:=h.1.1
    split at h1
    ·rename_i e1;exact .inl ⟨_,e1,rfl⟩
    ·cases h1
   ·exact tl h.2 hl
  | y o =>
   simp only[okS,a1_] at h
   simp only[listed,c8_] at hl
   rcases hl with hl | hl
   ·have:=a3_ hl
    subst this
    have h1:=h.1.1
    split at h1
    ·rename_i e1;exact .inr (.inr ⟨_,_,e1⟩)
    ·cases h1
   ·exact tl h.2 hl
  | m o k v =>
   simp only[okS,a1_] at h
   simp only[listed,c8_] at hl
   rcases hl with hl | hl
   ·have:=a3_ hl
    subst this
    have h1:=h.1.1
    split at h1
    ·rename_i e1;exact .inl ⟨_,e1,rfl⟩
    ·cases h1
   ·exact tl h.2 hl
  | g o t0 =>
   simp only[okS,a1_] at h
   simp only[listed,c8_] at hl
   rcases hl with hl | hl
   ·have:=a3_ hl
    subst this
    have h1:=h.1.1
    split at h1
    ·rename_i e1;exact .inl ⟨_,e1,rfl⟩
    ·cases h1
   ·exact tl h.2 hl
  | b o ks =>
   simp only[okS,a1_] at h
   simp only[listed,c8_] at hl
   rcases hl with hl | hl
   ·have:=a3_ hl
    subst this
    have h1:=h.1.1
    split at h1
    ·rename_i T c ro e1
     simp only[a1_] at h1
     exact .inr (.inl ⟨ks,T,c,ro,by simp,e1,a3_ h1.1,λi hi=>rp_ (bg_ h1.2 i hi)⟩)
    ·cases h1
   ·exact tl h.2 hl
theorem an2 {mk:Bool} {ob:List AO}:∀ (es:List Sp1) (x:br_ es) (t:A) (j:Nat),j<t.objs.length→∃ b,(qy_ mk ob es x t).objs[j]?=some b:=by
 intro es x t j hj
 have:=an3 (mk:=mk) (ob:=ob) es x t
 exact⟨_,a7_ (by omega)⟩
theorem ub_ {asg:List Nat} {es:List Sp1} {mv:List Nat} {s:A} {x:br_ es} (hok:okS s.objs es=true) (hm:okM s.objs mv=true):Keep s.objs (gp_ false asg es mv s x).objs:=by
 intro j a ha
 have hj:=(a4_.1 ha).1
 have hlen:(⟨λd=>cond (inL d asg) (.b .dead) (s.slot d),fo_ false es mv 0 s.objs⟩:A).objs.length=s.objs.length:=ph_
 unfold gp_
 cases hls:listed es j with
 | true =>
  rcases xu_ hok hls with ⟨af,e,hfr⟩ | ⟨ks,T,c,ro,h1,h2,h3,h4⟩ | ⟨Y,st,e⟩
  ·rw[ha] at e
   cases e
   obtain⟨b,hb⟩:=an2 (mk:=false) (ob:=s.objs) es x ⟨λd=>cond (inL d asg) (.b .dead) (s.slot d),fo_ false es mv 0 s.objs⟩ j (by rw[hlen];exact hj)
   exact⟨b,hb,ax5 hfr⟩
  ·rw[ha] at h2
   cases h2
   obtain⟨_,y,k,e⟩:=xm_ (mk:=false) es x ⟨λd=>cond (inL d asg) (.b .dead) (s.slot d),fo_ false es mv 0 s.objs⟩ j ks T c ro hok h1 ha (by rw[hlen];exact hj)
   exact⟨_,e,_,rfl,ae9 _ _ _ _ h3,λi hi=>by simpa using (an5 ks c y k 0 i h3 (h4 i hi)).2⟩
  ·rw[ha] at e
   cases e
   exact⟨_,av8 ha es x _ hok hls (by rw[hlen];exact hj),.rdy,rfl,λe=>by cases e⟩
 | false =>
  rw[nc_ es x _ j hls (by rw[hlen];exact hj)]
  show ∃ b,(fo_ false es mv 0 s.objs)[j]?=some b∧_
  rw[ld_,ha,b0_,hls]
  cases hmv:inL j mv with
  | false=>exact⟨_,rfl,by cases a<;>exact K1.refl _⟩
  | true =>
   have:=bg_ hm j (rp_ hmv)
   simp only[ha] at this
   refine⟨_,rfl,?_⟩
   split at this
   ·rename_i e;cases e;trivial
   ·rename_i e;cases e;trivial
   ·cases this
theorem ml_ {d:Nat} {os:List Oper} (h:inL d (ir_ os)=false):∀ o ∈ os,o.dst≠some d:=by
 induction os with
 | nil=>intro o ho;cases ho
 | cons x os ih =>
  intro q hq e
  cases ho:x.dst with
  | none =>
   have h':inL d (ir_ os)=false:=by simpa [ir_,ho] using h
   rcases d8_.1 hq with rfl | hq
   ·rw[ho] at e;cases e
   ·exact ih h' q hq e
  | some y =>
   have h':(Nat.beq d y||inL d (ir_ os))=false:=by simpa [ir_,ho,inL] using h
   rw[b8_] at h'
   rcases d8_.1 hq with rfl | hq
   ·rw[ho] at e
    cases e
    rw[g0_] at h'
    cases h'.1
   ·exact ih h'.2 q hq e
end
end
section
variable [Gb]
theorem cu0 {hv:Nat→Value}:∀ {l m:List AO} {i:Nat},m.length=l.length→(∀ (j:Nat) (a:AO),l[j]?=some a→∃ b,m[j]?=some b∧OHeq b a)→OHs hv i m=OHs hv i l
 | [],[],_,_,_=>rfl
 | a::l,b::m,i,hl,h=>by
  obtain⟨b',h1,h2⟩:=h 0 a rfl
  simp at h1
  subst h1
  simp only[OHs]
  rw[h2 hv (hv i),cu0 (l:=l) (m:=m) (by simpa using hl) λj a ha=>h (j+1) a (by simpa using ha)]
 | [],_::_,_,hl,_=>by simp at hl
 | _::_,[],_,hl,_=>by simp at hl
section
variable {S0:PH} {hv0:Nat→Value} {ob0:List AO} {Fm:List HP}
theorem Rl.alike {s:A} {f:Fr} {w:World} {m:List AO} (h:Rl S0 hv0 ob0 Fm s f w) (hl:m.length=s.objs.length)
  (hm:∀ (j:Nat) (a:AO),s.objs[j]?=some a→∃ b,m[j]?=some b∧OHeq b a∧(b = .unborn→a = .unborn)∧∀ n,a.lt n=true→b.lt n=true):Rl S0 hv0 ob0 Fm ⟨s.slot,m⟩ f w:=by
 obtain⟨S,hv,Ds,hle,hag,hbl,hs,hds⟩:=h
 have hb:BLe s.objs m:=λo ho=>by
  obtain⟨a,h1,h2⟩:=ax_.1 ho
  obtain⟨b,e1,_,e2,_⟩:=hm o a h1
  exact ax_.2 ⟨b,e1,λe=>h2 (e2 e)⟩
 refine⟨S,hv,Ds,hle,hag,hbl.trans hb,⟨?_,hs.rel,λd=>AV.lt_mono hb (hs.wfs d),λb hbm => ?_,hs.gl⟩,hds⟩
 ·rw[cu0 hl λj a ha=>by obtain⟨b,e1,e2,_⟩:=hm j a ha;exact⟨b,e1,e2⟩]
  exact hs.inv
 ·obtain⟨j,hj⟩:=f2_ hbm
  have hjl:j<m.length:=(a4_.1 hj).1
  have ha:s.objs[j]?=some (s.objs[j]'(by omega)):=a7_ _
  obtain⟨b',e1,_,_,e4⟩:=hm j _ ha
  rw[hj] at e1
  cases e1
  exact AO.lt_mono hb (e4 _ (hs.wfo _ (b2_ ha)))
theorem ss_ {es:List Sp1} {mv:List Nat}:∀ {l:List AO} {i j:Nat},(maskJ es mv i l)[j]?=(l[j]?).map λa=>cond (listed es (i+j)||inL (i+j) mv) (mJ a (ak7 es (i+j))) (pg_ a)
 | [],i,j=>rfl
 | a::l,i,0=>rfl
 | a::l,i,j+1=>by
  simp only[maskJ,h9_]
  rw[ss_ (l:=l) (i:=i+1) (j:=j),show i+1+j=i+(j+1) by omega]
theorem ao9 {es:List Sp1} {mv:List Nat}:∀ {l:List AO} {i:Nat},(maskJ es mv i l).length=l.length
 | [],i=>rfl
 | a::l,i=>by simp[maskJ,ao9 (l:=l)]
theorem Rl.maskJ {s:A} {f:Fr} {w:World} {es:List Sp1} {mv:List Nat} (h:Rl S0 hv0 ob0 Fm s f w):Rl S0 hv0 ob0 Fm ⟨s.slot,maskJ es mv 0 s.objs⟩ f w:=by
 refine h.alike ao9 λj a ha => ?_
 rw[ss_,ha]
 refine⟨_,rfl,?_⟩
 show OHeq (cond (listed es (0+j)||inL (0+j) mv) (mJ a (ak7 es (0+j))) (pg_ a)) a∧_∧_
 cases (listed es (0+j)||inL (0+j) mv) with
 | false =>
  refine⟨bc2 a,?_,?_⟩
  ·show pg_ a = .unborn→a = .unborn
   cases a<;>intro h<;>first | rfl | cases h
  ·show ∀ n,a.lt n=true→(pg_ a).lt n=true
   intro n hn
   cases a<;>first | exact hn | (rename_i G l q r;cases q<;>first | rfl | exact hn)
 | true =>
  have key:OHeq (mJ a (ak7 es (0+j))) a∧(mJ a (ak7 es (0+j)) = .unborn→a = .unborn)∧∀ n,a.lt n=true→(mJ a (ak7 es (0+j))).lt n=true:=by
   unfold mJ
   split
   ·exact⟨λ_ _=>rfl,λh=>(by cases h),λn hn=>hn⟩
   ·exact⟨λ_ _=>rfl,λh=>h,λn hn=>hn⟩
  exact key
theorem nf_ {o:Nat} {ks:List CK}:∀ {es:List Sp1},.b o ks ∈ es→listed es o=true
 | e::es,h=>by
  rw[le_,c8_]
  rcases d8_.1 h with rfl | h
  ·exact .inl (by simp[listed])
  ·exact .inr (nf_ h)
theorem qq_ {ob:List AO} {o:Nat} {ks:List CK}:∀ {es:List Sp1},okS ob es=true→.b o ks ∈ es→ak7 es o=some ks:=by
 intro es
 induction es with
 | nil=>intro _ h;cases h
 | cons e es ih =>
  intro h hm
  rcases d8_.1 hm with rfl | hm2
  ·simp[ak7]
  ·cases e with
   | v d t=>exact ih h hm2
   | r d t T=>exact ih h hm2
   | a d t T=>exact ih h hm2
   | o o' t=>simp only[okS,a1_] at h;exact ih h.2 hm2
   | m o' k v=>simp only[okS,a1_] at h;exact ih h.2 hm2
   | g o' t=>simp only[okS,a1_] at h;exact ih h.2 hm2
   | x o'=>simp only[okS,a1_] at h;exact ih h.2 hm2
   | y o'=>simp only[okS,a1_] at h;exact ih h.2 hm2
   | b o' ks' =>
    simp only[okS,a1_,l1_] at h
    have hne:Nat.beq o' o=false:=by
     cases hb:Nat.beq o' o with
     | false=>rfl
     | true =>
      have:=a3_ hb
      subst this
      rw[nf_ hm2] at h
      cases h.1.2
    simp only[ak7,hne,a2_]
    exact ih h.2 hm2
theorem ro_:∀ (ks:List CK) (bs cs:List SV) (i:Nat),ks.length=bs.length→cs.length=bs.length→(∀ j ∈ roC ks i,i≤j→cs[j - i]?=bs[j - i]?)→su_ ks bs cs:=by
 intro ks
 induction ks with
 | nil=>intro bs cs i h1 h2 _;cases bs with
  | nil=>cases cs with
   | nil=>trivial
   | cons c cs=>simp at h2
  | cons b bs=>simp at h1
 | cons ck ks ih =>
  intro bs cs i h1 h2 h
  cases bs with
  | nil=>simp at h1
  | cons b bs =>
   cases cs with
   | nil=>simp at h2
   | cons c cs =>
    simp only[c4_,m7_] at h1 h2
    have e:∀ j,i+1≤j→j - i=(j - (i+1))+1:=λj hj=>by omega
    have tl:∀ j ∈ roC ks (i+1),i+1≤j→(∀ j ∈ roC (ck::ks) i,i≤j→(c::cs)[j - i]?=(b::bs)[j - i]?)→j ∈ roC (ck::ks) i→cs[j - (i+1)]?=bs[j - (i+1)]?:=λj hj hij h hm=>by
     have:=h j hm (by omega)
     rw[e j hij] at this
     exact this
    cases ck with
    | keep =>
     refine⟨?_,ih bs cs (i+1) h1 h2 λj hj hij=>tl j hj hij h (by simp[roC,hj])⟩
     have:=h i (by simp[roC]) (c3_ _)
     rw[l2_] at this
     exact a6_ this
    | val t=>exact ih bs cs (i+1) h1 h2 λj hj hij=>tl j hj hij h hj
    | row t T=>exact ih bs cs (i+1) h1 h2 λj hj hij=>tl j hj hij h hj
    | map kt vt=>exact ih bs cs (i+1) h1 h2 λj hj hij=>tl j hj hij h hj
theorem cu6 {es:List Sp1} {mv:List Nat} {s:A} {objs:List AO} (hok:okS s.objs es=true) (hk:Keep (maskJ es mv 0 s.objs) objs) :
  (∀ (j:Nat) (a b:AO),s.objs[j]?=some a→objs[j]?=some b→(listed es j||inL j mv)=false→a≠.unborn→a≠.gone→OHeq a b)∧s.objs.length≤objs.length∧Kp es s.objs objs:=by
 have hg:∀ (j:Nat) (a:AO),s.objs[j]?=some a→∃ b,objs[j]?=some b∧K1 (cond (listed es j||inL j mv) (mJ a (ak7 es j)) (pg_ a)) b:=λj a ha=>hk j _ (by rw[ss_,ha,b0_];rfl)
 refine⟨λj a b ha hb hc h1 h2 => ?_,?_,λo ks T c ro T' c' ro' hm ho hr => ?_,λo Y st ro Y' st' ro' ho hr => ?_⟩
 ·obtain⟨b',e1,e2⟩:=hg j a ha
  rw[hb] at e1
  cases e1
  rw[hc] at e2
  exact cf4 e2 h1 h2
 ·by_cases h0:s.objs.length=0
  ·omega
  ·obtain⟨b,e2,_⟩:=hg _ _ (a7_ (show s.objs.length - 1<s.objs.length by omega))
   have:=(a4_.1 e2).1
   omega
 ·obtain⟨b',e1,e2⟩:=hg o _ ho
  rw[hr] at e1
  cases e1
  rw[nf_ hm,qq_ hok hm] at e2
  obtain⟨c2,e3,h3,h4⟩:=(show ∃ c2:List SV,AO.cells T' c' ro' = .cells T c2 (roC ks 0)∧c2.length=c.length∧∀ j ∈ roC ks 0,c2[j]?=c[j]? from e2)
  cases e3
  have hl:ks.length=c.length:=by
   rcases xu_ hok (nf_ hm) with ⟨af,e,hfr⟩ | ⟨ks',T,c,ro,h1,h2,h3,h4⟩ | ⟨Y,st,e⟩
   ·rw[ho] at e;cases e;cases hfr
   ·rw[ho] at h2
    cases h2
    have:=qq_ hok h1
    rw[qq_ hok hm] at this
    cases this
    exact h3
   ·rw[ho] at e;cases e
  exact⟨rfl,ro_ ks c c' 0 hl h3 λj hj _=>by simpa using h4 j hj⟩
 ·obtain⟨b',e1,e2⟩:=hg o _ ho
  rw[hr] at e1
  cases e1
  cases hc:(listed es o||inL o mv) with
  | true =>
   rw[hc] at e2
   have e2:K1 (mJ (.yld Y st ro) (ak7 es o)) (.yld Y' st' ro'):=e2
   have e3:mJ (.yld Y st ro) (ak7 es o) = .yld Y st ro:=by cases ak7 es o<;>rfl
   rw[e3] at e2
   obtain⟨st2,e4,_⟩:=(show ∃ st2,AO.yld Y' st' ro' = .yld Y st2 ro∧(ro=true→st2=st) from e2)
   cases e4
   rfl
  | false =>
   rw[hc] at e2
   obtain⟨st2,e4,_⟩:=(show ∃ st2,AO.yld Y' st' ro' = .yld Y st2 true∧(true=true→st2=st) from e2)
   cases e4
   rfl
theorem unm1_eq (a b:AO):OHeq (cg1 a b) b:=by
 unfold cg1
 split<;>exact λ_ _=>rfl
theorem vz_:∀ {l m:List AO} {j:Nat} {b:AO},m[j]?=some b→(cr9 l m)[j]?=some (match l[j]? with
  | some a=>cg1 a b
  | none=>b)
 | [],m,j,b,h=>by simpa [cr9] using h
 | a::l,[],j,b,h=>by simp at h
 | a::l,c::m,0,b,h=>by simp at h;subst h;rfl
 | a::l,c::m,j+1,b,h=>by
  simp only[cr9,h9_]
  exact vz_ (by simpa using h)
theorem az4:∀ {l m:List AO},(cr9 l m).length=m.length
 | [],m=>by simp[cr9]
 | a::l,[]=>rfl
 | a::l,c::m=>by simp[cr9,az4 (l:=l)]
theorem bn2 (a b:AO):cg1 a b = .unborn→b = .unborn:=by
 unfold cg1
 split<;>intro h<;>first | exact h | cases h
theorem unm1_lt (a b:AO) {n:List AO} (h:b.lt n=true):(cg1 a b).lt n=true:=by
 unfold cg1
 split<;>first | exact h | (rename_i G l q r;cases q<;>first | rfl | exact h)
theorem Rl.unm {s s':A} {f:Fr} {w:World} (h:Rl S0 hv0 ob0 Fm s' f w):Rl S0 hv0 ob0 Fm (Rex.unm s s') f w:=by
 refine h.alike az4 λj b hb => ?_
 refine⟨_,vz_ hb,?_⟩
 cases s.objs[j]? with
 | none=>exact⟨OHeq.refl _,λh=>h,λn hn=>hn⟩
 | some a=>exact⟨unm1_eq a b,bn2 a b,λn hn=>unm1_lt a b hn⟩
theorem cn7 {asg:List Nat} {es:List Sp1} {mv:List Nat} {s s':A} {x:br_ es} (hok:okS s.objs es=true) (hm:okM s.objs mv=true) (hk:Keep (gp_ true asg es mv s x).objs s'.objs):Keep s.objs (Rex.unm s s').objs:=by
 intro j a ha
 have hj:=(a4_.1 ha).1
 have hlen:(⟨λd=>cond (inL d asg) (.b .dead) (s.slot d),fo_ true es mv 0 s.objs⟩:A).objs.length=s.objs.length:=ph_
 have fin:∀ b,s'.objs[j]?=some b→K1 a (cg1 a b)→∃ b,(Rex.unm s s').objs[j]?=some b∧K1 a b:=λb hb h=>by
  have:=vz_ (l:=s.objs) hb
  rw[ha] at this
  exact⟨_,this,h⟩
 have any:∃ b,s'.objs[j]?=some b:=by
  obtain⟨b,hb⟩:=an2 (mk:=true) (ob:=s.objs) es x ⟨λd=>cond (inL d asg) (.b .dead) (s.slot d),fo_ true es mv 0 s.objs⟩ j (by rw[hlen];exact hj)
  obtain⟨b',h1,_⟩:=hk j b hb
  exact⟨b',h1⟩
 cases hls:listed es j with
 | true =>
  rcases xu_ hok hls with ⟨af,e,hfr⟩ | ⟨ks,T,c,ro,h1,h2,h3,h4⟩ | ⟨Y,st,e⟩
  ·rw[ha] at e
   cases e
   obtain⟨b,hb⟩:=any
   exact fin b hb (ax5 hfr)
  ·rw[ha] at h2
   cases h2
   obtain⟨_,y,k,e⟩:=xm_ (mk:=true) es x ⟨λd=>cond (inL d asg) (.b .dead) (s.slot d),fo_ true es mv 0 s.objs⟩ j ks T c ro hok h1 ha (by rw[hlen];exact hj)
   obtain⟨b,e2,hK⟩:=hk j _ e
   obtain⟨c2,rfl,g1,g2⟩:=(show ∃ c2:List SV,b = .cells T c2 (roC ks 0)∧c2.length=(lp_ ks c y k).1.length∧∀ j ∈ roC ks 0,c2[j]?=(lp_ ks c y k).1[j]? from hK)
   refine fin _ e2 ⟨c2,rfl,by rw[g1,ae9 _ _ _ _ h3],λi hi => ?_⟩
   rw[g2 i (h4 i hi)]
   simpa using (an5 ks c y k 0 i h3 (h4 i hi)).2
  ·rw[ha] at e
   cases e
   have e:=av8 (mk:=true) ha es x ⟨λd=>cond (inL d asg) (.b .dead) (s.slot d),fo_ true es mv 0 s.objs⟩ hok hls (by rw[hlen];exact hj)
   obtain⟨b,e2,hK⟩:=hk j _ e
   obtain⟨st2,rfl,_⟩:=(show ∃ st2,b=AO.yld Y st2 false∧(false=true→st2 = .rdy) from hK)
   exact fin _ e2 ⟨st2,rfl,λe=>by cases e⟩
 | false =>
  cases hmv:inL j mv with
  | true =>
   obtain⟨b,hb⟩:=any
   have:=bg_ hm j (rp_ hmv)
   simp only[ha] at this
   split at this
   ·rename_i e;cases e;exact fin b hb trivial
   ·rename_i e;cases e;exact fin b hb trivial
   ·cases this
  | false =>
   have e:(gp_ true asg es mv s x).objs[j]?=some (pg_ a):=by
    unfold gp_
    rw[nc_ es x _ j hls (by rw[hlen];exact hj)]
    show (fo_ true es mv 0 s.objs)[j]?=_
    rw[ld_,ha,b0_,hls,hmv]
    cases a<;>rfl
   obtain⟨b,e2,hK⟩:=hk j _ e
   refine fin b e2 ?_
   cases a with
   | unborn=>trivial
   | gone=>trivial
   | row t T l ro =>
    have h:b = .row t T l true:=hK
    subst h
    exact K1.refl _
   | map k v m ro =>
    have h:b = .map k v m true:=hK
    subst h
    exact K1.refl _
   | grid G l q ro =>
    have h:b = .grid G l q true:=hK
    subst h
    exact K1.refl _
   | fn f0 x0 y0=>exact hK
   | froz t x=>exact hK
   | yld Y st ro =>
    obtain⟨st2,rfl,h2⟩:=(show ∃ st2,b=AO.yld Y st2 true∧(true=true→st2=st) from hK)
    exact⟨st2,rfl,λ_=>h2 rfl⟩
   | cells T c ro =>
    obtain⟨c',rfl,hl,hc⟩:=(show ∃ c':List SV,b = .cells T c' (List.range c.length)∧c'.length=c.length∧∀ j ∈ List.range c.length,c'[j]?=c[j]? from hK)
    refine⟨c',rfl,hl,λi hi => ?_⟩
    by_cases hil:i<c.length
    ·exact hc i (by simpa using hil)
    ·rw[b4_ (by omega),b4_ (by omega)]
theorem qp_ {a b:List Sp1} {j:Nat}:listed (a++b) j=(listed a j||listed b j):=by
 induction a with
 | nil=>rfl
 | cons e a ih=>rw[l6_,le_,ih,le_ (es:=a),Bool.or_assoc]
theorem iy_:∀ {a:List Sp1} {j:Nat},noO a=true→listed a j=false
 | [],_,_=>rfl
 | .v _ _::a,j,h=>iy_ (a:=a) h
 | .r _ _ _::a,j,h=>iy_ (a:=a) h
 | .a _ _ _::a,j,h=>iy_ (a:=a) h
theorem xx_:∀ {a:List Sp1} {o:Nat} {ks:List CK},noO a=true→.b o ks ∉ a
 | .v _ _::a,o,ks,h,hm=>by
  rcases d8_.1 hm with h1 | h1
  ·cases h1
  ·exact xx_ (a:=a) h h1
 | .r _ _ _::a,o,ks,h,hm=>by
  rcases d8_.1 hm with h1 | h1
  ·cases h1
  ·exact xx_ (a:=a) h h1
 | .a _ _ _::a,o,ks,h,hm=>by
  rcases d8_.1 hm with h1 | h1
  ·cases h1
  ·exact xx_ (a:=a) h h1
end
end
section
section
variable {P:Program} {n:Nat} {N R:Fr→World→Prop} {X:Nat→Fr→World→Prop} {f:Fr} {w:World} {S:PH} {O:List HP} {ro:Option Nat}
def cw9 (N R:Fr→World→Prop) (X:Nat→Fr→World→Prop) (l:Nat) (f':Fr) (e:Ending) (w:World):Prop :=
 ∃ u rc,e = .returned u∧w.heap[l]?=some (.loop rc)∧rc.state≠.busy∧Jumps N R X f' { w with heap:=w.heap.setIfInBounds l (.loop { rc with state:=.exhausted }) } rc.pending
theorem br3 {b:Frame} {a:Act} {k:List Item} {cs:List Frame} {g:Operand} {ps:List Nat} {assign body:Code} {kf:FuncId} {fst cap:List Value}
  {l:Nat} {mk:List Deferred} {w₁:World} {f':Fr} (ha:Fits n a f) (hg:ev f g = .func (.func kf) fst.toArray cap.toArray) (hk:eh_ P kf) (hb:b.roundOf=ro)
  (he:(Instr.enterLoop b.fn a.tmps ps.toArray assign body ro).run P w = .ok (l,mk) w₁)
  (hcall:Calls P kf (fst++.func (.yield l) #[] #[]::cap).toArray w₁ (cw9 N R X l f'))
  (hf':Fits n { a with defers:=mk++a.defers } f') :
  ∃ e a' w',Pad.Ends n N R X e a' w'∧ArrivesIn (Machine.fenced P (FW ro)) P (lone (b.atR a (.code (.rangeFunc g ps.toArray assign body)::k)) cs w) b k cs e a' w':=by
 obtain⟨fn,h1,h2,h3⟩:=id hk
 have h3':fn.name ≠ "runtime.NumGoroutine" := by simpa using h3
 have h2':fn.body≠none:=by intro e;rw[e] at h2;cases h2
 have hroom:∀ k,(FW ro).room k:=cf7
 have hfen:∀ m:Machine,m.fenced P (FW ro):=λm=>fenced_wide P m
 have hinv:(invoke (.fn (.func kf) cap.toArray) (fst.toArray ++ #[.func (.yield l) #[] #[]])).run P w₁ = .ok (.enter kf (fst++.func (.yield l) #[] #[]::cap).toArray) w₁:=by
  simp[invoke,callFunc,h1]
  rw[if_neg h3',if_neg h2']
 have hres:(resolve a.eval (rcall g l) 0).run P w₁ = .ok { target:=.fn (.func kf) cap.toArray,args:=fst.toArray ++ #[.func (.yield l) #[] #[]] } w₁:=by
  rw[ha.eval]
  have e0:ev f (.const (.func (.yield l) #[] #[])) = .func (.yield l) #[] #[]:=rfl
  simp[resolve,rcall,hg,Deferred.ofValue,e0]
 have henter:=bi2 (P:=P) (b:=b) (a:=a) (k:=k) (cs:=cs) (w:=w) (g:=g) (by rw[hb];exact he) hres hinv
 obtain⟨e,w₂,fr,hR,hsteps,_,hleave⟩:=hcall (b.atR { a with defers:=mk++a.defers } (.inRangeFunc l::k)::cs)
 obtain⟨v,rc,rfl,hl,hst,hJ⟩:=hR
 have hs0:Steps P (lone (b.atR a (.code (.rangeFunc g ps.toArray assign body)::k)) cs w) (lone (b.atR { a with defers:=mk++a.defers } (.endRangeFunc l::k)) cs w₂):=by
  refine Steps.trans (.one henter) (Steps.trans hsteps (.one ?_))
  have:=step_leave_returned (P:=P) (c:=b.atR { a with defers:=mk++a.defers } (.inRangeFunc l::k)) (cs:=cs) hleave
  rw[this]
  simp[Frame.finish,Frame.atR]
 have hsIn:StepsIn (Machine.fenced P (FW ro)) P (lone (b.atR a (.code (.rangeFunc g ps.toArray assign body)::k)) cs w) (lone (b.atR { a with defers:=mk++a.defers } (.endRangeFunc l::k)) cs w₂) :=
  (stepsIn_wide (P:=P)).2 hs0
 have hov:=cj0 (P:=P) hl hst
 have hst2:=hsIn.trans (.one (hfen _) (bo4 (b:=b) (a:={ a with defers:=mk++a.defers }) (k:=k) (cs:=cs) hov))
 cases hp:rc.pending with
 | none =>
  rw[hp] at hJ hst2
  exact⟨.normal,_,_,⟨f',hf',hJ⟩,hst2⟩
 | some c =>
  rw[hp] at hJ hst2
  cases c with
  | ret =>
   obtain⟨e',a'',w₅,hq,harr⟩:=Go.wpIn_ret (F:=FW ro) (n:=0) (P:=P) (Q:=Pad.Ends n N R X) (⟨f',hf',hJ⟩:Pad.Ends n N R X .ret { a with defers:=mk++a.defers } _) b k cs hb trivial (hroom _)
   exact⟨e',a'',w₅,hq,.of_steps hst2 harr⟩
  | exit i =>
   obtain⟨e',a'',w₅,hq,harr⟩:=Go.wpIn_exit (F:=FW ro) (n:=0) (P:=P) (Q:=Pad.Ends n N R X) (⟨f',hf',hJ⟩:Pad.Ends n N R X (.exit i) { a with defers:=mk++a.defers } _) b k cs hb trivial (hroom _)
   exact⟨e',a'',w₅,hq,.of_steps hst2 harr⟩
  | _=>exact hJ.elim
theorem bm2 {g:Operand} {ps:List Nat} {assign body:Code} (hI:Inv w S O)
  (h:∀ (l D:Nat) (fn:FuncId) (tm:Array Value) (w₁:World),tm.size=n→(∀ i,tm.getD i undef=f i)→Inv w₁ S (ak6 l (sj_ fn tm ps.toArray assign body D .ready none)::Dfr D::O) →
   ∃ (kf:FuncId) (fst cap:List Value),ev f g = .func (.func kf) fst.toArray cap.toArray∧eh_ P kf∧Calls P kf (fst++.func (.yield l) #[] #[]::cap).toArray w₁ (cw9 N R X l (Pad.mark f D))) :
  WP P n none (.rangeFunc g ps.toArray assign body) N R X f w:=by
 intro a ha b k cs hb _ _
 have h1:=hI.new (.deferred (some []))
 have h2:=h1.new (.loop (sj_ b.fn a.tmps ps.toArray assign body w.heap.size .ready none))
 have hsz:(w.alloc (.deferred (some []))).heap.size=w.heap.size+1:=by simp
 rw[hsz] at h2
 obtain⟨kf,fst,cap,hg,hk,hc⟩:=h (w.heap.size+1) w.heap.size b.fn a.tmps _ ha.size ha.at_ h2
 refine br3 (ro:=none) (l:=w.heap.size+1) (mk:=[{ target:=.collected w.heap.size,args := #[] }]) (w₁:=(w.alloc (.deferred (some []))).alloc (.loop (sj_ b.fn a.tmps ps.toArray assign body w.heap.size .ready none))) (f':=Pad.mark f w.heap.size) ha hg hk hb ?_ hc ⟨ha.size,congrArg _ ha.defers,ha.at_⟩
 unfold Instr.enterLoop
 simp only[Sem.run_bind,cj1,Result.andThen,Sem.run_pure,World.size_alloc]
 rfl
end
end
section
section
theorem ac0:∀ {L:List MapEntry} {i:Nat} {e:MapEntry},(L.map (·.born)).Nodup→L[i]?=some e→L.filter (λx=>x.born != e.born)=L.eraseIdx i
 | [],_,_,_,h=>by simp at h
 | a::L,0,e,hn,h=>by
  obtain rfl:a=e:=by simpa using h
  rw[h8_,l0_] at hn
  rw[p6_ (by simp),List.eraseIdx_cons_zero,m4_]
  intro x hx
  rw[n4_]
  intro e
  exact hn.1 (d2_.2 ⟨x,hx,e⟩)
 | a::L,i+1,e,hn,h=>by
  rw[h8_,l0_] at hn
  have he:L[i]?=some e:=by simpa using h
  have hne:a.born≠e.born:=λh2=>hn.1 (d2_.2 ⟨e,b2_ he,h2.symm⟩)
  rw[p5_ (by rw[n4_];exact hne),List.eraseIdx_cons_succ,ac0 hn.2 he]
theorem st_ (es:Array MapEntry) (seen:Array Nat):(leftOf es seen).toList=es.toList.filter λe=>!seen.contains e.born:=by
 unfold leftOf
 rw[Array.toList_filter]
theorem bw8 {es:Array MapEntry} {seen:Array Nat} {i:Nat} {e:MapEntry} (hn:(es.toList.map (·.born)).Nodup) (hi:(leftOf es seen).toList[i]?=some e):(leftOf es (seen.push e.born)).toList=(leftOf es seen).toList.eraseIdx i:=by
 have hn2:((leftOf es seen).toList.map (·.born)).Nodup:=by
  rw[st_]
  exact ((o7_).map _).nodup hn
 rw[← ac0 hn2 hi,st_,st_,List.filter_filter]
 refine List.filter_congr λx _ => ?_
 rw[Array.contains_push]
 unfold bne
 cases seen.contains x.born<;>cases x.born==e.born<;>rfl
variable {K V:Type} [Enc K] [Enc V] {S:PH}
theorem MRep.len:∀ {es:List MapEntry} {m:List (K×V)},MRep S es m→es.length=m.length
 | [],[],_=>rfl
 | _::_,_::_,h=>by simp[MRep.len h.2.2]
theorem MRep.get:∀ {es:List MapEntry} {m:List (K×V)} {i:Nat} {e:MapEntry},MRep S es m→es[i]?=some e→∃ z,m[i]?=some z∧RV S e.key z.1∧RV S e.val z.2
 | [],_,_,_,_,h=>by simp at h
 | a::es,z::m,0,e,hm,h=>by
  obtain rfl:a=e:=by simpa using h
  exact⟨z,rfl,hm.1,hm.2.1⟩
 | a::es,z::m,i+1,e,hm,h=>by
  obtain⟨z',h1,h2⟩:=MRep.get (i:=i) hm.2.2 (by simpa using h)
  exact⟨z',by simpa using h1,h2⟩
end
theorem aq2 {r:Nat}:ay_ (.pointer (some ⟨r,0,none⟩)) 0 = .pointer (some ⟨r,0,none⟩):=by
 simp[ay_,Addr.add]
variable [Gb]
section
variable {P:Program} [Tb P] {cx:Cx P} {n:Nat}
def frM (bm r since clock:Nat) (es:Array MapEntry) (seen:Array Nat) (c0:Nat) (Fm:List HP):List HP :=
 HP.exact (Hp.one bm (.map es clock))::HP.exact (Hp.one r (.mapIter (some bm) since seen c0))::Fm
theorem next_ok {S1:PH} {hv1:Nat→Value} {ob1:List AO} {Fm:List HP} {s:A} {f:Fr} {w:World} {bm r since clock c0:Nat} {es:Array MapEntry} {seen:Array Nat}
  (hr:Rl S1 hv1 ob1 (frM bm r since clock es seen c0 Fm) s f w) (hold:∀ x ∈ es.toList,x.born<since) (hsc:since≤c0) (hn:(es.toList.map (·.born)).Nodup) (ty:TypeId) :
  ((leftOf es seen).toList=[]∧(Instr.next (.pointer (some ⟨r,0,none⟩)) false ty).run P w = .ok (.tuple #[.bool false]) w) ∨
  ∃ (i:Nat) (e:MapEntry) (w':World),(leftOf es seen).toList[i]?=some e∧(Instr.next (.pointer (some ⟨r,0,none⟩)) false ty).run P w = .ok (.tuple #[.bool true,e.key,e.val]) w' ∧
   Rl S1 hv1 ob1 (frM bm r since clock es (seen.push e.born) clock Fm) s f w'∧(Instr.entry (.pointer (some ⟨r,0,none⟩))).run P w' = .ok (.tuple #[e.key,e.val]) w':=by
 obtain⟨S,hv,Ds,hle,hag,hbl,hs,hds⟩:=hr
 have hI:=hs.inv
 have p1:(OHs hv 0 s.objs++py_ Ds::frM bm r since clock es seen c0 Fm).Perm (HP.exact (Hp.one r (.mapIter (some bm) since seen c0))::HP.exact (Hp.one bm (.map es clock))::(OHs hv 0 s.objs++py_ Ds::Fm)):=by
  unfold frM
  have a:(OHs hv 0 s.objs++py_ Ds::HP.exact (Hp.one bm (.map es clock))::HP.exact (Hp.one r (.mapIter (some bm) since seen c0))::Fm).Perm (HP.exact (Hp.one bm (.map es clock))::HP.exact (Hp.one r (.mapIter (some bm) since seen c0))::(OHs hv 0 s.objs++py_ Ds::Fm)):=by
   have h1:∀ (X Y D:HP) (A B:List HP),(A++D::X::Y::B).Perm (X::Y::(A++D::B)):=λX Y D A B=>by
    have e1:A++D::X::Y::B=(A++[D])++X::Y::B:=by simp
    have e2:A++D::B=(A++[D])++B:=by simp
    rw[e1,e2]
    exact (c9_).trans ((c9_).cons X)
   exact h1 _ _ _ _ _
  exact a.trans (List.Perm.swap _ _ _)
 have hI1:=hI.perm p1
 have hrr:=hI1.obj
 have hbb:=(hI1.swap).obj
 rcases run_next_at (P:=P) w ty r bm since c0 seen es clock hrr hbb hold hsc with ⟨h0,h1⟩ | ⟨e,he,w1,hw1,h1⟩
 ·exact .inl ⟨by rw[← n0_];simpa using h0,h1⟩
 ·obtain⟨i,hi⟩:=f2_ he
  refine .inr ⟨i,e,_,hi,h1,?_,?_⟩
  ·have hI2:Inv w1 S (HP.exact (Hp.one r (.mapIter (some bm) since seen c0))::HP.exact (Hp.one bm (.map es clock))::(OHs hv 0 s.objs++py_ Ds::Fm)):=by
    rcases hw1 with rfl | rfl
    ·exact hI1
    ·exact hI1.drew
   have hI3:=hI2.setObj (.mapIter (some bm) since (seen.push e.born) clock)
   refine⟨S,hv,Ds,hle,hag,hbl,⟨?_,hs.rel,hs.wfs,hs.wfo,hs.gl⟩,hds⟩
   have p2:(OHs hv 0 s.objs++py_ Ds::frM bm r since clock es (seen.push e.born) clock Fm).Perm (HP.exact (Hp.one r (.mapIter (some bm) since (seen.push e.born) clock))::HP.exact (Hp.one bm (.map es clock))::(OHs hv 0 s.objs++py_ Ds::Fm)):=by
    unfold frM
    have h1:∀ (X Y D:HP) (A B:List HP),(A++D::X::Y::B).Perm (X::Y::(A++D::B)):=λX Y D A B=>by
     have e1:A++D::X::Y::B=(A++[D])++X::Y::B:=by simp
     have e2:A++D::B=(A++[D])++B:=by simp
     rw[e1,e2]
     exact (c9_).trans ((c9_).cons X)
    exact (h1 _ _ _ _ _).trans (List.Perm.swap _ _ _)
   exact hI3.perm p2.symm
  ·have hI2:Inv w1 S (HP.exact (Hp.one r (.mapIter (some bm) since seen c0))::HP.exact (Hp.one bm (.map es clock))::(OHs hv 0 s.objs++py_ Ds::Fm)):=by
    rcases hw1 with rfl | rfl
    ·exact hI1
    ·exact hI1.drew
   have hI3:=hI2.setObj (.mapIter (some bm) since (seen.push e.born) clock)
   exact run_entry_at _ r bm since seen es clock e hI3.obj (hI3.swap).obj (mem_left he).1 hn
theorem Rl.putv {S1:PH} {hv1:Nat→Value} {ob1:List AO} {Fm:List HP} {s:A} {f:Fr} {w:World} (h:Rl S1 hv1 ob1 Fm s f w) {t:Nat} {av:AV} {v:Value} (hr:∀ {hv:Nat→Value} {S:PH},S1.Le S→RA hv S av v) (hl:∀ n,av.lt n=true):Rl S1 hv1 ob1 Fm (stA s (some t) av s.objs) (upd f t v) w:=by
 obtain⟨S,hv,Ds,hle,hag,hbl,hs,hds⟩:=h
 exact⟨S,hv,Ds,hle,hag,hbl,hs.put (d:=some t) (hr hle) (hl _),hds⟩
def Qo (a b:AO):Prop:=OHeq b a∧(b = .unborn→a = .unborn)∧∀ n,a.lt n=true→b.lt n=true
theorem Qo.refl (a:AO):Qo a a:=⟨OHeq.refl _,λh=>h,λ_ h=>h⟩
def Ql (l m:List AO):Prop:=m.length=l.length∧∀ (j:Nat) (a:AO),l[j]?=some a→∃ b,m[j]?=some b∧Qo a b
theorem Ql.refl (l:List AO):Ql l l:=⟨rfl,λ_ a h=>⟨a,h,Qo.refl a⟩⟩
theorem Ql.set {l m:List AO} {o:Nat} {a b:AO} (h:Ql l m) (hq:Qo a b):Ql (l.set o a) (m.set o b):=by
 refine⟨by simp[h.1],λj x hx => ?_⟩
 rw[g4_] at hx ⊢
 by_cases ho:o=j
 ·rw[if_pos ho] at hx ⊢
  by_cases hl:o<l.length
  ·rw[if_pos hl] at hx
   cases hx
   exact⟨b,by rw[if_pos (by rw[h.1];exact hl)],hq⟩
  ·rw[if_neg hl] at hx;cases hx
 ·rw[if_neg ho] at hx ⊢
  exact h.2 j x hx
theorem Ql.app {l m x:List AO} (h:Ql l m):Ql (l++x) (m++x):=by
 refine⟨by simp[h.1],λj a ha => ?_⟩
 by_cases hj:j<l.length
 ·rw[b1_ hj] at ha
  rw[b1_ (by rw[h.1];exact hj)]
  exact h.2 j a ha
 ·rw[c6_ (by omega)] at ha
  rw[c6_ (by rw[h.1];omega),h.1]
  exact⟨a,ha,Qo.refl a⟩
theorem bw0 {u:Value} {k v:Ty} {m m':List (k.den×v.den)} (h:m'.Perm m):bm0 u k v m'=bm0 u k v m:=by
 have e:∀ g,@MapB k.den v.den k.enc v.enc g m'=@MapB k.den v.den k.enc v.enc g m:=λg=>@MapB.perm k.den v.den k.enc v.enc g m' m h
 refine ab2 (funext λS=>funext λh0=>propext ⟨?_,?_⟩)
 ·rintro⟨g,a,b⟩
  exact⟨g,a,e g ▸ b⟩
 ·rintro⟨g,a,b⟩
  exact⟨g,a,(e g).symm ▸ b⟩
theorem vd_ {mk:Bool} {ob:List AO} {e:Sp1} {x:e.den} {s t:A} (hs:t.slot=s.slot) (h:Ql s.objs t.objs):(fn_ mk ob e x t).slot=(fn_ mk ob e x s).slot∧Ql (fn_ mk ob e x s).objs (fn_ mk ob e x t).objs:=by
 cases e with
 | v d T=>exact⟨by simp only[fn_,hs],h⟩
 | r d T q=>exact⟨by simp only[fn_,hs,h.1],h.app⟩
 | a d T q=>exact⟨by simp only[fn_,hs,h.1],h.app⟩
 | x o=>exact⟨hs,h⟩
 | o o T =>
  cases ho:ob[o]? with
  | none=>simp only[fn_,ho];exact⟨hs,h⟩
  | some a=>cases a<;>simp only[fn_,ho]<;>first | exact⟨hs,h⟩ | exact⟨hs,h.set (Qo.refl _)⟩
 | m o k v =>
  cases ho:ob[o]? with
  | none=>simp only[fn_,ho];exact⟨hs,h⟩
  | some a=>cases a<;>simp only[fn_,ho]<;>first | exact⟨hs,h⟩ | exact⟨hs,h.set (Qo.refl _)⟩
 | g o T =>
  cases ho:ob[o]? with
  | none=>simp only[fn_,ho];exact⟨hs,h⟩
  | some a=>cases a<;>simp only[fn_,ho]<;>first | exact⟨hs,h⟩ | exact⟨hs,h.set (Qo.refl _)⟩
 | y o =>
  cases ho:ob[o]? with
  | none=>simp only[fn_,ho];exact⟨hs,h⟩
  | some a=>cases a<;>simp only[fn_,ho]<;>first | exact⟨hs,h⟩ | exact⟨hs,h.set (Qo.refl _)⟩
 | b o ks =>
  cases ho:ob[o]? with
  | none=>simp only[fn_,ho];exact⟨hs,h⟩
  | some a=>cases a<;>simp only[fn_,ho]<;>first | exact⟨hs,h⟩ | (rw[h.1];exact⟨hs,(h.set (Qo.refl _)).app⟩)
theorem put1_m {mk:Bool} {ob:List AO} {o:Nat} {k v:Ty} {x x':List (k.den×v.den)} (hx:x'.Perm x) {s t:A} (hs:t.slot=s.slot) (h:Ql s.objs t.objs):(fn_ mk ob (.m o k v) x' t).slot=(fn_ mk ob (.m o k v) x s).slot∧Ql (fn_ mk ob (.m o k v) x s).objs (fn_ mk ob (.m o k v) x' t).objs:=by
 cases ho:ob[o]? with
 | none=>simp only[fn_,ho];exact⟨hs,h⟩
 | some a=>cases a<;>simp only[fn_,ho]<;>first | exact⟨hs,h⟩ | exact⟨hs,h.set ⟨λhv u=>bw0 hx,λe=>(by cases e),λn hn=>rfl⟩⟩
theorem mr_ {mk:Bool} {ob:List AO}:∀ (es:List Sp1) (x:br_ es) {s t:A},t.slot=s.slot→Ql s.objs t.objs→(qy_ mk ob es (pu_ es x) t).slot=(qy_ mk ob es x s).slot∧Ql (qy_ mk ob es x s).objs (qy_ mk ob es (pu_ es x) t).objs
 | [],x,s,t,hs,h=>⟨hs,h⟩
 | e::es,x,s,t,hs,h=>by
  cases e with
  | m o k v =>
   have:=put1_m (mk:=mk) (ob:=ob) (o:=o) (k:=k) (v:=v) (x:=x.1) (cc7 (E:=k.den×v.den) x.1) hs h
   exact mr_ es x.2 this.1 this.2
  | v d T=>have:=vd_ (mk:=mk) (ob:=ob) (e:=.v d T) (x:=x.1) hs h;exact mr_ es x.2 this.1 this.2
  | r d T q=>have:=vd_ (mk:=mk) (ob:=ob) (e:=.r d T q) (x:=x.1) hs h;exact mr_ es x.2 this.1 this.2
  | a d T q=>have:=vd_ (mk:=mk) (ob:=ob) (e:=.a d T q) (x:=x.1) hs h;exact mr_ es x.2 this.1 this.2
  | o o T=>have:=vd_ (mk:=mk) (ob:=ob) (e:=.o o T) (x:=x.1) hs h;exact mr_ es x.2 this.1 this.2
  | b o T=>have:=vd_ (mk:=mk) (ob:=ob) (e:=.b o T) (x:=x.1) hs h;exact mr_ es x.2 this.1 this.2
  | g o T=>have:=vd_ (mk:=mk) (ob:=ob) (e:=.g o T) (x:=x.1) hs h;exact mr_ es x.2 this.1 this.2
  | x o=>have:=vd_ (mk:=mk) (ob:=ob) (e:=.x o) (x:=x.1) hs h;exact mr_ es x.2 this.1 this.2
  | y o=>have:=vd_ (mk:=mk) (ob:=ob) (e:=.y o) (x:=x.1) hs h;exact mr_ es x.2 this.1 this.2
theorem Rl.canon {S1:PH} {hv1:Nat→Value} {ob1:List AO} {Fm:List HP} {mk:Bool} {asg:List Nat} {es:List Sp1} {mv:List Nat} {s1:A} {y:br_ es} {f:Fr} {w:World} (h:Rl S1 hv1 ob1 Fm (gp_ mk asg es mv s1 y) f w):Rl S1 hv1 ob1 Fm (gp_ mk asg es mv s1 (pu_ es y)) f w:=by
 have q:=mr_ (mk:=mk) (ob:=s1.objs) es y (s:=⟨λd=>cond (inL d asg) (.b .dead) (s1.slot d),fo_ mk es mv 0 s1.objs⟩) (t:=⟨λd=>cond (inL d asg) (.b .dead) (s1.slot d),fo_ mk es mv 0 s1.objs⟩) rfl (Ql.refl _)
 have e:gp_ mk asg es mv s1 (pu_ es y)=⟨(gp_ mk asg es mv s1 y).slot,(gp_ mk asg es mv s1 (pu_ es y)).objs⟩:=by
  show (⟨(gp_ mk asg es mv s1 (pu_ es y)).slot,(gp_ mk asg es mv s1 (pu_ es y)).objs⟩:A)=_
  rw[show (gp_ mk asg es mv s1 (pu_ es y)).slot=(gp_ mk asg es mv s1 y).slot from q.1]
 rw[e]
 exact h.alike q.2.1 q.2.2
theorem xy_ {S1:PH} {hv1:Nat→Value} {s1:A} {Fm:List HP} {asg:List Nat} {vs es os:List Sp1} {d:br_ (vs++os)} {s':A} {f':Fr} {w':World} (hws:WfS s1.slot s1.objs) (hwo:WfO s1.objs)
  (hA:okA s1 asg (vs++os)=true) (n1:noO vs=true) (n2:noO es=true)
  (hrl:Rl S1 hv1 s1.objs Fm s' f' w') (hk:Keep (gp_ true asg (vs++os) (mvS s1.slot s1.objs (vs++os)) s1 d).objs s'.objs) (h4:∀ e,inL e asg=false→s'.slot e=s1.slot e)
  {mk:Bool} {y:br_ (es++os)} (hy:sa_ (es++os) s1 (mvS s1.slot s1.objs (vs++os)) s'=some y):Rl S1 hv1 s1.objs Fm (gp_ mk asg (es++os) (mvS s1.slot s1.objs (vs++os)) s1 y) f' w':=by
 simp only[okA,a1_] at hA
 obtain⟨k5,kl,k6⟩:=bd0 hA.1.1 (λj Y st ro hm e=>by
  have:=bg_ hA.2 j (rp_ hm)
  simp only[e] at this
  cases this) hk
 refine an1 (BLe.refl _) hws hwo hrl h4 (λj a b ha hb hc=>k5 j a b ha hb ?_) kl ⟨λo ks T c ro T' c' ro' hm=>k6.1 o ks T c ro T' c' ro' ?_,k6.2⟩ hy
 ·rw[qp_,iy_ n2] at hc
  rw[qp_,iy_ n1]
  exact hc
 ·rcases b5_.1 hm with h1 | h1
  ·exact absurd h1 (xx_ n2)
  ·exact b5_.2 (.inr h1)
def Pz (S1:PH) (hv1:Nat→Value) (s1:A) (asg:List Nat) (Fm:List HP) (s0 s':A) (f':Fr) (w':World):Prop:=Rl S1 hv1 s1.objs Fm s' f' w'∧Keep s0.objs s'.objs∧∀ e,inL e asg=false→s'.slot e=s1.slot e
section loop
variable {S1:PH} {hv1:Nat→Value} {s1:A} {Fm:List HP} {asg:List Nat} {vs ws rs os:List Sp1} {k v:Ty} {t7 t8 t9 t10 b0 b1 fr:Nat}
theorem cd5 {hv:Nat→Value} {S:PH} (b:Bool):RB hv S (.one (.val .bool b)) (.bool b):=qz_ (hv:=hv) (S:=S) b
theorem oq_ {s:A} {t:Nat} {av:AV} {ob:List AO} {asg:List Nat} (h:inL t asg=true) {e:Nat} (he:inL e asg=false):(stA s (some t) av ob).slot e=s.slot e :=
 qf_ λh2=>by
  obtain rfl:=a6_ h2
  rw[h] at he
  cases he
theorem mp_loop {rnd:k.den×v.den→br_ (vs++os)→Option (br_ (vs++os)⊕(br_ (ws++os)⊕br_ (rs++os)))} {R0:br_ (ws++os)⊕br_ (rs++os)} {l:List (k.den×v.den)} {d0:br_ (vs++os)}
  {nx ex en:Oper} {ops4:List Oper} {rest C:Code} {i2 i3:Nat} {ty1 ty2 ty3:TypeId} {q1 q2 q3:String} {af1 af2 af3:Array Edge}
  (hnx:nx=⟨some t8,.next (.tmp t7) false,ty1,q1,af1,none⟩) (hex:ex=⟨some t9,.extract (.tmp t8) 0,ty2,q2,af2,none⟩) (hen:en=⟨some t10,.entry (.tmp t7),ty3,q3,af3,none⟩)
  (hC:C = .seq (.region i2 [nx,ex].toArray false) (.seq (.cond (.tmp t9) .skip (.exit b0)) (.block b1 (.seq (.region i3 (en::ops4).toArray false) rest))))
  (d8:Nat.blt t8 n=true) (d9:Nat.blt t9 n=true) (d10:Nat.blt t10 n=true) (h78:Nat.beq t7 t8=false) (h79:Nat.beq t7 t9=false) (h89:Nat.beq t8 t9=false) (h7a:inL t7 asg=false) (m8:inL t8 asg=true) (m9:inL t9 asg=true) (m10:inL t10 asg=true)
  (h7:s1.slot t7 = .b (.one (.ptr fr 0))) (hfr:born s1.objs fr=true)
  (hws:WfS s1.slot s1.objs) (hwo:WfO s1.objs) (hA:okA s1 asg (vs++os)=true) (nv:noO vs=true) (nw:noO ws=true) (nr:noO rs=true)
  {bm r since clock:Nat} {es:Array MapEntry} (hvf:hv1 fr = .pointer (some ⟨r,0,none⟩)) (hold:∀ x ∈ es.toList,x.born<since) (hnd:(es.toList.map (·.born)).Nodup) (hsc0:since≤clock)
  {ro:Option Nat}
  (hbody:∀ (e:k.den×v.den) (d:br_ (vs++os)) o,rnd e d=some o→∀ {Fm':List HP} {f:Fr} {w:World},Rl S1 hv1 s1.objs Fm' (mpE s1 asg vs os k v t8 t9 t10 e d) f w →
   ∀ {Nn:Fr→World→Prop},(∀ f w,WP P n ro rest
    (λf' w'=>∃ s' y,mpG vs os s1 vs s'=some y∧o = .inl (pu_ _ y)∧Pz S1 hv1 s1 asg Fm' (mpS s1 asg vs os d) s' f' w')
    (λf' w'=>∃ s' y,mpG rs os s1 vs s'=some y∧o = .inr (.inr (pu_ _ y))∧Pz S1 hv1 s1 asg Fm' (mpS s1 asg vs os d) s' f' w')
    (λi f' w'=>(Nat.beq i b1=true∧∃ s' y,mpG vs os s1 vs s'=some y∧o = .inl (pu_ _ y)∧Pz S1 hv1 s1 asg Fm' (mpS s1 asg vs os d) s' f' w') ∨
     (Nat.beq i b1=false∧Nat.beq i b0=true∧∃ s' y,mpG ws os s1 vs s'=some y∧o = .inr (.inl (pu_ _ y))∧Pz S1 hv1 s1 asg Fm' (mpS s1 asg vs os d) s' f' w')) f w→Nn f w)→WL P n ro (en::ops4).toArray Nn ops4 f w)
  {c0:Nat} {f:Fr} {w:World} (hc0:since≤c0) (hM:@MRep k.den v.den k.enc v.enc S1 es.toList l)
  (hAll:AllM rnd (λd=>(mpG ws os s1 vs (mpF s1 asg vs os t8 t9 d)).map .inl) l.length l d0 R0)
  (hr:Rl S1 hv1 s1.objs (frM bm r since clock es #[] c0 Fm) (mpS s1 asg vs os d0) f w) :
  WP P n ro (.block b0 (.loop C)) (λf' w'=>∃ y seen c,R0 = .inl y∧Rl S1 hv1 s1.objs (frM bm r since clock es seen c Fm) (gp_ false asg (ws++os) (mvS s1.slot s1.objs (vs++os)) s1 y) f' w')
   (λf' w'=>∃ y seen c,R0 = .inr y∧Rl S1 hv1 s1.objs (frM bm r since clock es seen c Fm) (gp_ false asg (rs++os) (mvS s1.slot s1.objs (vs++os)) s1 y) f' w') (λ_ _ _=>False) f w:=by
 have oV:okV asg (vs++os)=true:=by simp only[okA,a1_] at hA;exact hA.1.2
 have sl7:∀ d,(mpS s1 asg vs os d).slot t7 = .b (.one (.ptr fr 0)):=λd=>(kz_ oV h7a).trans h7
 have v7:∀ {d:br_ (vs++os)} {Fm':List HP} {f:Fr} {w:World},Rl S1 hv1 s1.objs Fm' (mpS s1 asg vs os d) f w→f t7 = .pointer (some ⟨r,0,none⟩):=λ{d Fm' f w} h=>by
  obtain⟨S,hv,Ds,hle,hag,hbl,hs,hds⟩:=h
  have:=hs.rel t7
  rw[sl7] at this
  have e:f t7=ay_ (hv fr) 0:=this.2.2
  rw[e,← hag fr hfr,hvf,aq2]
 refine ex_ ?_
 refine sc_ (σ:=List (k.den×v.den)×br_ (vs++os)) (λg f w=>∃ seen c,@MRep k.den v.den k.enc v.enc S1 (leftOf es seen).toList g.1∧since≤c∧AllM rnd (λd=>(mpG ws os s1 vs (mpF s1 asg vs os t8 t9 d)).map .inl) g.1.length g.1 g.2 R0∧Rl S1 hv1 s1.objs (frM bm r since clock es seen c Fm) (mpS s1 asg vs os g.2) f w)
  (λg=>g.1.length) (l,d0) ⟨#[],c0,?_,hc0,hAll,hr⟩ ?_
 ·have:(leftOf es #[]).toList=es.toList:=by
   rw[st_,m4_]
   intro x _
   simp
  rw[this]
  exact hM
 rintro⟨pend,d⟩ f w ⟨seen,c,hMp,hc,hAp,hrp⟩
 simp only at hMp hAp hrp
 have hf7:=v7 hrp
 rw[hC]
 have hb78:t8≠t7:=by rintro rfl;rw[g0_] at h78;cases h78
 have hb79:t9≠t7:=by rintro rfl;rw[g0_] at h79;cases h79
 have hb89:t9≠t8:=by rintro rfl;rw[g0_] at h89;cases h89
 have up:∀ (g:Fr) (t:Nat) (u:Value) (j:Nat),t≠j→upd g t u j=g j:=λg t u j h=>by
  show cond (Nat.beq j t) u (g j)=g j
  cases hb:Nat.beq j t with
  | false=>rfl
  | true=>exact absurd (a3_ hb).symm h
 have ups:∀ (g:Fr) (t:Nat) (u:Value),upd g t u t=u:=λg t u=>by
  show cond (Nat.beq t t) u (g t)=u
  rw[g0_]
  rfl
 rcases next_ok (P:=P) hrp hold hc hnd ty1 with ⟨h0,h1⟩ | ⟨i,e,w',hi,h1,hrl,hent⟩
 ·
  rw[h0] at hMp
  have hp0:pend=[]:=by
   cases pend with
   | nil=>rfl
   | cons a b=>exact hMp.elim
  subst hp0
  obtain⟨y,hy,hyo⟩:=aa8 (show ((mpG ws os s1 vs (mpF s1 asg vs os t8 t9 d)).map .inl)=some R0 from hAp)
  refine bi_ (ba_ (mq_ (by rw[hnx]) (by
   rw[hnx]
   refine cy_ (w':=w) (v:=.tuple #[.bool false]) d8 (by simp[execOp,show ev f (.tmp t7) = .pointer (some ⟨r,0,none⟩) from hf7,h1]) ?_
   refine mq_ (by rw[hex]) ?_
   rw[hex]
   refine cy_ (w':=w) (v:=.bool false) d9 (by simp[execOp,show ev (upd f t8 (.tuple #[.bool false])) (.tmp t8) = .tuple #[.bool false] from ups _ _ _,Instr.extract]) (dq_ ?_)
   refine bi_ (ji_ (b:=false) (show ev (upd (upd f t8 (.tuple #[.bool false])) t9 (.bool false)) (.tmp t9) = .bool false from ups _ _ _) rfl (sd_ ?_))
   show (cond (Nat.beq b0 b0) _ _:Fr→World→Prop) _ _
   rw[g0_]
   have hf:=((hrp.putv (t:=t8) (av:=.tup [.one (.val .bool false)]) (v:=.tuple #[.bool false]) (λ_=>⟨[.bool false],rfl,cd5 false,trivial⟩) (λn=>rfl)).putv (t:=t9) (av:=bV false) (v:=.bool false) (λ_=>qz_ false) (λn=>rfl))
   refine⟨y,seen,c,hyo.symm,xy_ hws hwo hA nv nw hf (Keep.refl _) (λe he => ?_) hy⟩
   rw[oq_ m9 he,oq_ m8 he]
   exact kz_ oV he)))
 ·
  obtain⟨z,hz,hk1,hv1'⟩:=MRep.get hMp hi
  have hlen:pend.length=(pend.eraseIdx i).length+1:=by
   rw[List.length_eraseIdx]
   have:=(a4_.1 hz).1
   rw[if_pos this]
   omega
  rw[hlen] at hAp
  have hstep:=hAp i z hz
  have hMp':@MRep k.den v.den k.enc v.enc S1 (leftOf es (seen.push e.born)).toList (pend.eraseIdx i):=by
   rw[bw8 hnd hi]
   exact hMp.erase
  have hrE:∀ {f0:Fr},f0=upd (upd (upd f t8 (.tuple #[.bool true,e.key,e.val])) t9 (.bool true)) t10 (.tuple #[e.key,e.val])→Rl S1 hv1 s1.objs (frM bm r since clock es (seen.push e.born) clock Fm) (mpE s1 asg vs os k v t8 t9 t10 z d) f0 w':=λe0=>by
   subst e0
   refine ((hrl.putv (t:=t8) (av:=.tup [.one (.val .bool true),ofB k z.1,ofB v z.2]) (v:=.tuple #[.bool true,e.key,e.val]) (λhle=>⟨[.bool true,e.key,e.val],rfl,cd5 true,ao2 (RV.mono hk1 hle),ao2 (RV.mono hv1' hle),trivial⟩) (λn => ?_)).putv (t:=t9) (av:=bV true) (v:=.bool true) (λ_=>qz_ true) (λn=>rfl)).putv (t:=t10) (av:=.tup [ofB k z.1,ofB v z.2]) (v:=.tuple #[e.key,e.val]) (λhle=>⟨[e.key,e.val],rfl,ao2 (RV.mono hk1 hle),ao2 (RV.mono hv1' hle),trivial⟩) (λn => ?_)
   ·show ((BV.one (.val .bool true)).lt n&&((ofB k z.1).lt n&&((ofB v z.2).lt n&&true)))=true
    rw[ao3,ao3]
    rfl
   ·show ((ofB k z.1).lt n&&((ofB v z.2).lt n&&true))=true
    rw[ao3,ao3]
    rfl
  have ho:∃ o,rnd z d=some o∧(∀ y,o = .inl y→AllM rnd (λd=>(mpG ws os s1 vs (mpF s1 asg vs os t8 t9 d)).map .inl) (pend.eraseIdx i).length (pend.eraseIdx i) y R0)∧(∀ y,o = .inr y→y=R0):=by
   rcases hstep with ⟨d',g1,g2⟩ | g1
   ·exact⟨_,g1,(λy e=>by cases e;exact g2),(λy e=>by cases e)⟩
   ·exact⟨_,g1,(λy e=>by cases e),(λy e=>by cases e;rfl)⟩
  obtain⟨o,ho,k1,k2⟩:=ho
  refine bi_ (ba_ (mq_ (by rw[hnx]) ?_))
  rw[hnx]
  refine cy_ (w':=w') (v:=.tuple #[.bool true,e.key,e.val]) d8 (by simp[execOp,show ev f (.tmp t7) = .pointer (some ⟨r,0,none⟩) from hf7,h1]) ?_
  refine mq_ (by rw[hex]) ?_
  rw[hex]
  refine cy_ (w':=w') (v:=.bool true) d9 (by simp[execOp,show ev (upd f t8 (.tuple #[.bool true,e.key,e.val])) (.tmp t8) = .tuple #[.bool true,e.key,e.val] from ups _ _ _,Instr.extract]) (dq_ ?_)
  refine bi_ (mw_ (b:=true) (show ev (upd (upd f t8 (.tuple #[.bool true,e.key,e.val])) t9 (.bool true)) (.tmp t9) = .bool true from ups _ _ _) rfl (lv_ ?_))
  refine ex_ (bi_ (ba_ (mq_ (by rw[hen]) ?_)))
  have h7':ev (upd (upd f t8 (.tuple #[.bool true,e.key,e.val])) t9 (.bool true)) (.tmp t7) = .pointer (some ⟨r,0,none⟩):=by
   show upd (upd f t8 (.tuple #[.bool true,e.key,e.val])) t9 (.bool true) t7=_
   rw[up _ _ _ _ hb79,up _ _ _ _ hb78]
   exact hf7
  have hop:∀ K:Fr→World→Prop,K (upd (upd (upd f t8 (.tuple #[.bool true,e.key,e.val])) t9 (.bool true)) t10 (.tuple #[e.key,e.val])) w'→OP P n ro en (upd (upd f t8 (.tuple #[.bool true,e.key,e.val])) t9 (.bool true)) w' K:=λK hK=>by
   rw[hen]
   exact cy_ (w':=w') (v:=.tuple #[e.key,e.val]) d10 (by simp[execOp,h7',hent]) hK
  refine hop _ (hbody z d o ho (hrE rfl) λf1 w1 h=>h.mono (λf2 w2 ⟨s',y,a,b,c1,c2,c3⟩ => ?_) (λf2 w2 ⟨s',y,a,b,c1,c2,c3⟩ => ?_) (λj f2 w2 h => ?_))
  ·exact⟨(pend.eraseIdx i,pu_ _ y),by show (pend.eraseIdx i).length<pend.length;omega,seen.push e.born,clock,hMp',hsc0,k1 _ b,(xy_ hws hwo hA nv nv c1 c2 c3 a).canon⟩
  ·exact⟨pu_ _ y,seen.push e.born,clock,(k2 _ b).symm,(xy_ hws hwo hA nv nr c1 c2 c3 a).canon⟩
  ·rcases h with ⟨hj,s',y,a,b,c1,c2,c3⟩ | ⟨hj,hj0,s',y,a,b,c1,c2,c3⟩
   ·show (cond (Nat.beq j b1) _ _:Fr→World→Prop) _ _
    rw[hj]
    exact⟨(pend.eraseIdx i,pu_ _ y),by show (pend.eraseIdx i).length<pend.length;omega,seen.push e.born,clock,hMp',hsc0,k1 _ b,(xy_ hws hwo hA nv nv c1 c2 c3 a).canon⟩
   ·show (cond (Nat.beq j b1) _ _:Fr→World→Prop) _ _
    rw[hj]
    show (cond (Nat.beq j b0) _ _:Fr→World→Prop) _ _
    rw[hj0]
    exact⟨pu_ _ y,seen.push e.born,clock,(k2 _ b).symm,(xy_ hws hwo hA nv nw c1 c2 c3 a).canon⟩
end loop
section ends
variable {S0:PH} {hv0:Nat→Value} {ob0:List AO} {Fm:List HP} {s:A} {f:Fr} {w:World} {k v:Ty} {m:List (k.den×v.den)} {o t7:Nat}
theorem cm3 {ro:Option Nat} {y:Operand} {T kt et:TypeId} {ty:TypeId} {q:String} {af:Array Edge} {rf:Bool} (hr:Rl S0 hv0 ob0 Fm s f w) (hy:evA s.slot y = .b (.one (.map o))) (ho:s.objs[o]?=some (.map k v m rf)) (hT:P.underlying T=some (.map kt et)) (hd:Nat.blt t7 n=true) {K:Fr→World→Prop}
  (hK:∀ (S1:PH) (hv1:Nat→Value) (bm r clock:Nat) (es:Array MapEntry) (l:List (k.den×v.den)) (f':Fr) (w':World),S0.Le S1→Ag ob0 hv0 hv1→BLe ob0 (mpB s o t7).objs→hv1 o = .map (some bm)→hv1 s.objs.length = .pointer (some ⟨r,0,none⟩) →
   @MRep k.den v.den k.enc v.enc S1 es.toList l→Stp es clock→l.Perm m→(l.map (·.1)).Nodup→WfS (mpB s o t7).slot (mpB s o t7).objs→WfO (mpB s o t7).objs→Rl S1 hv1 (mpB s o t7).objs (frM bm r clock clock es #[] clock Fm) (mpB s o t7) f' w'→K f' w') :
  OP P n ro ⟨some t7,.range T y,ty,q,af,none⟩ f w K:=by
 obtain⟨S,hv,Ds,hle,hag,hbl,hs,hds⟩:=hr
 have hey:ev f y=hv o:=by
  have:=hs.ev y
  rw[hy] at this
  exact this.2
 obtain⟨L,p1,p2⟩:=OHs.focus (hv:=hv) (i:=0) ho
 rw[b0_] at p1 p2
 obtain⟨h,⟨g,hg,es,clock,l,rfl,hM,hst,hpm,hnd⟩,hI⟩:=(hs.inv.perm (p1.append_right _)).open_
 have hb:=hI.obj
 have hI2:=hI.new (.mapIter (some g) clock #[] clock)
 have hol:o<s.objs.length:=(a4_.1 ho).1
 have hw2:WfO (s.objs.set o .gone):=dx_ (by simp) hs.wfo rfl
 have hbs:BLe s.objs (s.objs.set o .gone):=be_ (by simp)
 have hba:BLe (s.objs.set o .gone) (s.objs.set o .gone++[AO.gone]):=λ_=>io_
 have hnew:born (s.objs.set o .gone++[AO.gone]) s.objs.length=true:=ax_.2 ⟨.gone,by rw[c6_ (by simp),f6_,l2_];rfl,by simp⟩
 let r:=w.heap.size
 let hv1:=ins hv s.objs.length (.pointer (some ⟨r,0,none⟩))
 have e0:AgN s.objs.length hv hv1:=ud_
 have hag1:Ag s.objs hv hv1:=e0.ag (c3_ _)
 refine cy_ (w':=w.alloc (.mapIter (some g) clock #[] clock)) (v:=.pointer (some ⟨r,0,none⟩)) hd (by simp[execOp,show ev f y = .map (some g) from hey.trans hg,run_range_map w T kt et g es clock hT hb,r]) ?_
 have hwo:WfO (mpB s o t7).objs:=λa ha=>by
  rcases b5_.1 ha with h1 | h1
  ·exact AO.lt_mono hba (hw2 a h1)
  ·simp at h1;subst h1;rfl
 have hws:WfS (mpB s o t7).slot (mpB s o t7).objs:=λd=>by
  show (cond (Nat.beq d t7) (AV.b (.one (.ptr s.objs.length 0))) (s.slot d)).lt _=true
  cases Nat.beq d t7 with
  | true=>exact hnew
  | false=>exact AV.lt_mono hba (AV.lt_mono hbs (hs.wfs d))
 refine hK S hv1 g r clock es l _ _ hle (hag.trans (hag1.sub hbl)) (hbl.trans (hbs.trans hba)) ?_ (cn_ _ _ _) hM hst hpm hnd hws hwo ⟨S,hv1,Ds,PH.Le.refl _,λ_ _=>rfl,BLe.refl _,⟨?_,λd => ?_,hws,hwo,hs.gl⟩,hds⟩
 ·rw[← e0 o hol];exact hg
 ·show Inv _ S (OHs hv1 0 (s.objs.set o .gone++[AO.gone])++py_ Ds::frM g r clock clock es #[] clock Fm)
  rw[OHs.app,← ar9 e0 (by rw[f6_];exact c3_ _) hw2]
  show Inv _ S ((OHs hv 0 (s.objs.set o .gone)++[HP.exact Hp.emp])++py_ Ds::frM g r clock clock es #[] clock Fm)
  have h3:Inv (w.alloc (.mapIter (some g) clock #[] clock)) S (HP.exact Hp.emp::HP.exact Hp.emp::(HP.exact (Hp.one w.heap.size (.mapIter (some g) clock #[] clock))::HP.exact (Hp.one g (.map es clock))::(L++py_ Ds::Fm))):=lf_ (lf_ hI2)
  refine h3.perm ?_
  have q2:(OHs hv 0 (s.objs.set o .gone)).Perm (HP.exact Hp.emp::L):=p2 .gone
  refine List.Perm.trans ?_ (((q2.append_right [HP.exact Hp.emp]).append_right (py_ Ds::frM g r clock clock es #[] clock Fm)).symm)
  unfold frM
  have gen:∀ (e X Y D:HP) (L B:List HP),(e::e::X::Y::(L++D::B)).Perm (((e::L)++[e])++D::Y::X::B):=λe X Y D L B=>by
   have a1:(((e::L)++[e])++D::Y::X::B).Perm (e::(((e::L))++D::Y::X::B)):=by
    rw[b3_]
    exact c9_
   refine List.Perm.trans ?_ a1.symm
   refine List.Perm.cons _ ?_
   show (e::X::Y::(L++D::B)).Perm (e::(L++D::Y::X::B))
   refine List.Perm.cons _ ?_
   have a2:(L++D::Y::X::B).Perm (Y::(L++D::X::B)):=by
    have e1:L++D::Y::X::B=(L++[D])++Y::X::B:=by simp
    have e2:L++D::X::B=(L++[D])++X::B:=by simp
    rw[e1,e2]
    exact c9_
   have a3:(L++D::X::B).Perm (X::(L++D::B)):=by
    have e1:L++D::X::B=(L++[D])++X::B:=by simp
    have e2:L++D::B=(L++[D])++B:=by simp
    rw[e1,e2]
    exact c9_
   exact (List.Perm.swap _ _ _).trans ((a3.symm.cons _).trans a2.symm)
  exact gen _ _ _ _ _ _
 ·show RA hv1 S (cond (Nat.beq d t7) (AV.b (.one (.ptr s.objs.length 0))) (s.slot d)) (cond (Nat.beq d t7) _ (f d))
  cases Nat.beq d t7 with
  | true=>exact⟨rfl,⟨_,rfl⟩,by rw[show hv1 s.objs.length=_ from cn_ _ _ _,aq2];rfl⟩
  | false=>exact RA.ag hag1 (hs.wfs d) (hs.rel d)
theorem bv1 {S1:PH} {hv1:Nat→Value} {ob1:List AO} {sE:A} {rf:Bool} {bm r since clock c:Nat} {es:Array MapEntry} {seen:Array Nat} {l:List (k.den×v.den)} (h01:S0.Le S1) (hag0:Ag ob0 hv0 hv1) (hb0:BLe ob0 ob1) (hb1:born ob1 o=true) (hvo:hv1 o = .map (some bm))
  (hM:@MRep k.den v.den k.enc v.enc S1 es.toList l) (hst:Stp es clock) (hpm:l.Perm m) (hnd:(l.map (·.1)).Nodup) (hr:Rl S1 hv1 ob1 (frM bm r since clock es seen c Fm) sE f w) (ho:sE.objs[o]?=some .gone) :
  Rl S0 hv0 ob0 Fm ⟨sE.slot,sE.objs.set o (.map k v m rf)⟩ f w:=by
 obtain⟨S,hv,Ds,hle,hag,hbl,hs,hds⟩:=hr
 have hbs:BLe sE.objs (sE.objs.set o (.map k v m rf)):=be_ (by simp)
 refine⟨S,hv,Ds,h01.trans hle,hag0.trans (hag.sub hb0),hb0.trans (hbl.trans hbs),⟨?_,hs.rel,λd=>AV.lt_mono hbs (hs.wfs d),dx_ (by simp) hs.wfo rfl,hs.gl⟩,hds⟩
 obtain⟨L,p1,p2⟩:=OHs.focus (hv:=hv) (i:=0) ho
 rw[b0_] at p1 p2
 have hI:Inv w S ((HP.exact Hp.emp::L)++py_ Ds::frM bm r since clock es seen c Fm):=hs.inv.perm (p1.append_right _)
 have gen:∀ (e X Y D:HP) (L B:List HP),((e::L)++D::X::Y::B).Perm (Y::e::X::(L++D::B)):=λe X Y D L B=>by
  have a2:∀ (Z:HP) (B:List HP),(L++D::Z::B).Perm (Z::(L++D::B)):=λZ B=>by
   have e1:L++D::Z::B=(L++[D])++Z::B:=by simp
   have e2:L++D::B=(L++[D])++B:=by simp
   rw[e1,e2]
   exact c9_
  show (e::(L++D::X::Y::B)).Perm _
  refine (List.Perm.cons e ((a2 X (Y::B)).trans ((a2 Y B).cons X))).trans ?_
  exact ((List.Perm.swap Y X _).cons e).trans (List.Perm.swap Y e _)
 have hI2:=((hI.perm (gen _ _ _ _ _ _)).drop).drop
 have hI3:Inv w S (OH hv (hv o) (.map k v m rf)::(L++py_ Ds::Fm)):=by
  refine Inv.shut (A:=bm0 (hv o) k v m) hI2 ⟨bm,by rw[← hag o hb1];exact hvo,es,clock,l,rfl,hM.mono hle,hst,hpm,hnd⟩
 exact hI3.perm ((p2 _).symm.append_right _)
end ends
end
end
section
variable [Gb]
section
variable {P:Program} [Tb P] {cx:Cx P} {n:Nat} {ρ:Type} {r:ρ}
theorem mpPl_ok {ops1 ops2 ops3:List Oper} {c3:Operand} {pl:MpP} (h:mpPl ops1 ops2 ops3 c3=some pl) :
  (∃ ty q af,ops1=ops1.take pl.k++[⟨some pl.t7,.range pl.T pl.y,ty,q,af,none⟩]) ∧
  (∃ ty1 q1 af1 ty2 q2 af2,ops2=[⟨some pl.t8,.next (.tmp pl.t7) false,ty1,q1,af1,none⟩,⟨some pl.t9,.extract (.tmp pl.t8) 0,ty2,q2,af2,none⟩]) ∧
  (∃ ty3 q3 af3,ops3=⟨some pl.t10,.entry (.tmp pl.t7),ty3,q3,af3,none⟩::pl.ops4)∧c3 = .tmp pl.t9:=by
 unfold mpPl at h
 split at h
 ·rename_i t7 T y ty q af t8 u7 ty1 q1 af1 t9 u8 ty2 q2 af2 t10 w7 ty3 q3 af3 ops4 u9 e1
  obtain⟨hc,h⟩:=bo_ h
  simp only[a1_] at hc
  obtain⟨⟨⟨c1,c2⟩,c3⟩,c4⟩:=hc
  obtain rfl:=a3_ c1
  obtain rfl:=a3_ c2
  obtain rfl:=a3_ c3
  obtain rfl:=a3_ c4
  cases h
  refine⟨⟨ty,q,af,?_⟩,⟨ty1,q1,af1,ty2,q2,af2,rfl⟩,⟨ty3,q3,af3,rfl⟩,rfl⟩
  rw[← e1]
  exact (g1_ _ _).symm
 ·cases h
theorem bt1 {ob:List AO} {es:List Sp1} {o:Nat} {ks:List CK} {T:TypeId} {c:List SV} {ro:List Nat} (hok:okS ob es=true) (hm:.b o ks ∈ es) (ho:ob[o]?=some (AO.cells T c ro)):ks.length=c.length:=by
 rcases xu_ hok (nf_ hm) with ⟨af,e,hfr⟩ | ⟨ks',T,c,ro,h1,h2,h3,h4⟩ | ⟨Y,st,e⟩
 ·rw[ho] at e;cases e;cases hfr
 ·rw[ho] at h2
  cases h2
  have:=qq_ hok h1
  rw[qq_ hok hm] at this
  cases this
  exact h3
 ·rw[ho] at e;cases e
theorem tc_ {d:Nat}:∀ {os:List Oper},inL d (ir_ os)=true→∃ o ∈ os,o.dst=some d
 | [],h=>by cases h
 | x::os,h=>by
  cases ho:x.dst with
  | none =>
   have h':inL d (ir_ os)=true:=by simpa [ir_,ho] using h
   obtain⟨o,h1,h2⟩:=tc_ h'
   exact⟨o,by simp[h1],h2⟩
  | some y =>
   have h':(Nat.beq d y||inL d (ir_ os))=true:=by simpa [ir_,ho,inL] using h
   rw[c8_] at h'
   rcases h' with h1 | h1
   ·exact⟨x,by simp,by rw[ho,a3_ h1]⟩
   ·obtain⟨o,h2,h3⟩:=tc_ h1
    exact⟨o,by simp[h2],h3⟩
theorem zb_ {ops:List Oper} {kN:A→Option ρ} {s':A} (h:jz_ ops kN s'=some r):∃ s'',kN s''=some r∧s''.slot=s'.slot∧Keep s'.objs s''.objs∧∀ {S0:PH} {hv0:Nat→Value} {ob0:List AO} {Fm:List HP} {f:Fr} {w:World},Rl S0 hv0 ob0 Fm s' f w→Rl S0 hv0 ob0 Fm s'' f w:=by
 unfold jz_ at h
 cases hg:cr1 ops with
 | false=>rw[hg] at h;exact⟨s',h,rfl,Keep.refl _,λh=>h⟩
 | true =>
  rw[hg] at h
  obtain⟨b1,b2,b3⟩:=qk_ (ob:=s'.objs) s'.objs.length
  refine⟨restA s',h,rfl,b2,λ{S0 hv0 ob0 Fm f w} ⟨S,hv,Ds,d1,d2,d3,d4,d5⟩=>⟨S,hv,Ds,d1,d2,d3.trans b1,⟨wf_ d4.inv _,d4.rel,λd=>AV.lt_mono b1 (d4.wfs d),b3 d4.wfo,d4.gl⟩,d5⟩⟩
theorem cm4 {dr:Bool} {ops:List Oper} {k:Nat} {s:A} {kk:A→Option ρ} {o:Oper} (h:mpPre cx n dr ops k s kk=some r) (ho:ops=ops.take k++[o]) :
  ∃ s',kk s'=some r∧(∀ d,inL d (ir_ ops)=false→s'.slot d=s.slot d) ∧
   ∀ {ro:Option Nat} {S0:PH} {hv0:Nat→Value} {ob0:List AO} {Fm:List HP} {f:Fr} {w:World} {id:Nat} {N R:Fr→World→Prop} {X:Nat→Fr→World→Prop},
    Rl S0 hv0 ob0 Fm s f w→(∀ f' w',Rl S0 hv0 ob0 Fm s' f' w'→Keep s.objs s'.objs→WL P n ro ops.toArray N [o] f' w')→WP P n ro (.region id ops.toArray dr) N R X f w:=by
 unfold mpPre at h
 cases dr with
 | true =>
  have h:cw7 ops [] (λanc=>bv2 cx n ops k (cond (ch8 anc (k - 1) (k+1)) (k - 1) k) anc s kk)=some r:=h
  rw[zc_] at h
  generalize cond (ch8 _ (k - 1) (k+1)) (k - 1) k=j at h
  unfold bv2 at h
  obtain⟨hc,h⟩:=bo_ h
  rw[a1_,a1_,a1_,a1_] at hc
  obtain⟨⟨⟨⟨c1,c2⟩,c3⟩,c4⟩,c5⟩:=hc
  have c1:=a3_ c1
  have c2:=a3_ c2
  obtain⟨s1,h0,hm,h2,h3⟩:=au8 h
  have ht:∀ o ∈ ops.take k,o ∈ ops:=λo ho=>k7_ ho
  obtain⟨s2,h1,L⟩:=jh_ (λo ho=>ht o (q1_ ho)) h0
  obtain⟨s3,k1,k2,k3,k4⟩:=zb_ h1
  have hop:ops=(ops.take k).take j++((ops.take k).drop j++[o]):=by
   rw[← b3_,g1_]
   exact ho
  refine⟨s3,k1,λd hd => ?_,λ{ro S0 hv0 ob0 Fm f w id N R X} hr kont => ?_⟩
  ·rw[k2,L.slot d (ml_ hd)]
   refine h2 d ?_
   cases hi:inL d (ir_ ((ops.take k).take j)) with
   | false=>rfl
   | true =>
    obtain⟨o,ho,e⟩:=tc_ hi
    exact absurd e (ml_ hd o (ht o (k7_ ho)))
  ·have:=az0 (R:=R) (X:=X) (id:=id) (l1:=(ops.take k).take j) (l2:=(ops.take k).drop j++[o]) (N:=N) (n:=n) (ro:=ro) (f:=f) (w:=w) hm (by rw[← hop,c1,c2];exact c3) (by rw[← hop];exact c4) (by rw[c1];exact c5)
    (h3 (N:=λf w=>WL P n ro ((ops.take k).take j++((ops.take k).drop j++[o])).toArray N ((ops.take k).drop j++[o]) f w) hr λf1 w1 hr1 kp1=>by
     rw[← hop]
     exact L.runT (ro:=ro) (N:=N) (tail:=[o]) hr1 λf2 w2 hr2 kp2=>kont f2 w2 (k4 hr2) ((kp1.trans kp2).trans k3))
   rw[← hop] at this
   exact this
 | false =>
  have h:ol_ cx n ops (ops.take k) s (jz_ ops kk)=some r:=h
  obtain⟨s1,h1,L⟩:=jh_ (λo ho=>k7_ ho) h
  obtain⟨s3,k1,k2,k3,k4⟩:=zb_ h1
  refine⟨s3,k1,λd hd=>by rw[k2];exact L.slot d (ml_ hd),λ{ro S0 hv0 ob0 Fm f w id N R X} hr kont=>ba_ ?_⟩
  have:=L.runT (ro:=ro) (N:=N) (tail:=[o]) hr λf1 w1 hr1 kp1=>kont f1 w1 (k4 hr1) (kp1.trans k3)
  rwa [← ho] at this
def RndOk (P:Program) [Tb P] (n:Nat) (pl:MpP) (asg:List Nat) (ro:Option Nat) (en:Oper) (rest:Code) (b0 b1:Nat) {k v:Ty} {s1:A} {vs ws rs os:List Sp1} (rnd:k.den×v.den→br_ (vs++os)→Option (br_ (vs++os)⊕(br_ (ws++os)⊕br_ (rs++os)))):Prop :=
 ∀ (e:k.den×v.den) (d:br_ (vs++os)) o,rnd e d=some o→∀ {S1:PH} {hv1:Nat→Value} {Fm':List HP} {f:Fr} {w:World},Rl S1 hv1 s1.objs Fm' (mpE s1 asg vs os k v pl.t8 pl.t9 pl.t10 e d) f w →
   ∀ {Nn:Fr→World→Prop},(∀ f w,WP P n ro rest
    (λf' w'=>∃ s' y,mpG vs os s1 vs s'=some y∧o = .inl (pu_ _ y)∧Pz S1 hv1 s1 asg Fm' (mpS s1 asg vs os d) s' f' w')
    (λf' w'=>∃ s' y,mpG rs os s1 vs s'=some y∧o = .inr (.inr (pu_ _ y))∧Pz S1 hv1 s1 asg Fm' (mpS s1 asg vs os d) s' f' w')
    (λi f' w'=>(Nat.beq i b1=true∧∃ s' y,mpG vs os s1 vs s'=some y∧o = .inl (pu_ _ y)∧Pz S1 hv1 s1 asg Fm' (mpS s1 asg vs os d) s' f' w') ∨
     (Nat.beq i b1=false∧Nat.beq i b0=true∧∃ s' y,mpG ws os s1 vs s'=some y∧o = .inr (.inl (pu_ _ y))∧Pz S1 hv1 s1 asg Fm' (mpS s1 asg vs os d) s' f' w')) f w→Nn f w)→WL P n ro (en::pl.ops4).toArray Nn pl.ops4 f w
theorem cu3 {o:Nat} {k v:Ty} {m:List (k.den×v.den)} {rf:Bool} {s:A} {kk:A→Option ρ} (h:mpK o k v m rf s kk=some r):s.objs[o]?=some .gone∧kk ⟨s.slot,s.objs.set o (.map k v m rf)⟩=some r:=by
 unfold mpK at h
 split at h
 ·rename_i e;exact⟨e,h⟩
 ·cases h
theorem mpGo_ok {pl:MpP} {c0 b0 b1:Nat} {asg:List Nat} {vs0 ws0 rs0 os0:List Sp0} {s:A} {rnd:(k v:Ty)→(s1:A)→(vs ws rs os:List Sp1)→k.den×v.den→br_ (vs++os)→Option (br_ (vs++os)⊕(br_ (ws++os)⊕br_ (rs++os)))} {kN kR:A→Option ρ}
    (h:mpGo P n pl (Nat.beq c0 b0) asg vs0 ws0 rs0 os0 s rnd kN kR=some r) :
    ∃ (isR:Bool) (sF:A),(cond isR (kR sF) (kN sF))=some r∧∀ {rest:Code} {ro:Option Nat} {i2 i3:Nat} {ty ty1 ty2 ty3:TypeId} {q q1 q2 q3:String} {af af1 af2 af3:Array Edge}
    (hrnd:∀ (k v:Ty) (s1:A) (vs ws rs os:List Sp1),okV asg (vs++os)=true→inL pl.t8 asg=true→inL pl.t9 asg=true→inL pl.t10 asg=true→RndOk P n pl asg ro ⟨some pl.t10,.entry (.tmp pl.t7),ty3,q3,af3,none⟩ rest b0 b1 (s1:=s1) (rnd k v s1 vs ws rs os)) {S0:PH} {hv0:Nat→Value} {ob0:List AO} {Fm:List HP} {f:Fr} {w:World},Rl S0 hv0 ob0 Fm s f w →
      ∀ {K:Fr→World→Prop},(∀ f1 w1,WP P n ro (.block b0 (.loop (.seq (.region i2 [⟨some pl.t8,.next (.tmp pl.t7) false,ty1,q1,af1,none⟩,⟨some pl.t9,.extract (.tmp pl.t8) 0,ty2,q2,af2,none⟩].toArray false) (.seq (.cond (.tmp pl.t9) .skip (.exit c0)) (.block b1 (.seq (.region i3 (⟨some pl.t10,.entry (.tmp pl.t7),ty3,q3,af3,none⟩::pl.ops4).toArray false) rest))))))
        (λf' w'=>isR=false∧Po S0 hv0 ob0 Fm (pl.t7::asg) s sF f' w') (λf' w'=>isR=true∧Po S0 hv0 ob0 Fm (pl.t7::asg) s sF f' w') (λ_ _ _=>False) f1 w1→K f1 w1) →
        OP P n ro ⟨some pl.t7,.range pl.T pl.y,ty,q,af,none⟩ f w K:=by
  unfold mpGo at h
  split at h
  · rename_i o kt et hy hT
    split at h
    · rename_i k v m rf ho
      rw[ug_] at h
      have h:mpIn n pl (Nat.beq c0 b0) asg vs0 ws0 rs0 os0 o k v m rf (mpB s o pl.t7) (rnd k v (mpB s o pl.t7)) kN kR=some r:=h
      generalize es1:mpB s o pl.t7=s1 at h
      unfold mpIn at h
      obtain⟨vs,_,h⟩:=bnd h
      obtain⟨ws,_,h⟩:=bnd h
      obtain⟨rs,_,h⟩:=bnd h
      obtain⟨os,_,h⟩:=bnd h
      obtain⟨hc,h9⟩:=bo_ h
      simp only[a1_,l1_] at hc
      obtain⟨⟨⟨⟨⟨⟨hcb,d7⟩,d8⟩,d9⟩,d10⟩,⟨⟨n78,n79⟩,n89⟩,⟨⟨n7a,m8⟩,m9⟩,m10⟩,⟨⟨hA,⟨oW,vW⟩⟩,⟨oR,vR⟩⟩,⟨nv,nw⟩,nr⟩:=hc
      obtain rfl:=a3_ hcb
      obtain⟨d0,g1,h9⟩:=bnd h9
      obtain⟨out,g2,h9⟩:=bnd h9
      have hA':=hA
      simp only[okA,a1_] at hA'
      obtain⟨⟨oS,oV⟩,oM⟩:=hA'
      have gAll:=bv9 g2
      have hol:o<s.objs.length:=(a4_.1 ho).1
      have s1o:s1.objs=s.objs.set o .gone++[.gone]:=by rw[← es1];rfl
      have s1s:s1.slot=cg0 s.slot pl.t7 (.b (.one (.ptr s.objs.length 0))):=by rw[← es1];rfl
      have keep:∀ (sE:A),Keep s1.objs sE.objs→Keep s.objs (sE.objs.set o (.map k v m rf)):=λsE hk j a ha=>by
        have hj:=(a4_.1 ha).1
        by_cases hjo:o=j
        · subst hjo
          rw[ho] at ha
          cases ha
          obtain⟨b,hb,_⟩:=hk o .gone (by rw[s1o,b1_ (by simpa using hol)];simp[hol])
          exact⟨_,by rw[g4_,if_pos rfl,if_pos (a4_.1 hb).1],K1.refl _⟩
        · obtain⟨b,hb,h2⟩:=hk j a (by rw[s1o,b1_ (by simpa using hj),g4_,if_neg hjo];exact ha)
          exact⟨b,by rw[g4_,if_neg hjo];exact hb,h2⟩
      have slots:∀ {es:List Sp1} {y:br_ es},okV asg es=true→∀ d,inL d (pl.t7::asg)=false→(gp_ false asg es (mvS s1.slot s1.objs (vs++os)) s1 y).slot d=s.slot d:=λhv d hd=>by
        have hd:(Nat.beq d pl.t7||inL d asg)=false:=hd
        rw[b8_] at hd
        rw[kz_ hv hd.2,s1s]
        show cond (Nat.beq d pl.t7) _ _=_
        rw[hd.1]
        rfl
      have walk:∀ (sF:A) (isR:Bool) {rest:Code} {ro:Option Nat} {i2 i3:Nat} {ty ty1 ty2 ty3:TypeId} {q q1 q2 q3:String} {af af1 af2 af3:Array Edge}
    (hrnd : ∀ (k v : Ty) (s1 : A) (vs ws rs os : List Sp1), okV asg (vs ++ os) = true → inL pl.t8 asg = true → inL pl.t9 asg = true → inL pl.t10 asg = true → RndOk P n pl asg ro ⟨some pl.t10, .entry (.tmp pl.t7), ty3, q3, af3, none⟩ rest c0 b1 (s1 := s1) (rnd k v s1 vs ws rs os)) {S0 : PH} {hv0 : Nat → Value} {ob0 : List AO} {Fm : List HP} {f : Fr} {w : World}, Rl S0 hv0 ob0 Fm s f w →
          (∀ y,out = .inl y→isR=false∧(gp_ false asg (ws++os) (mvS s1.slot s1.objs (vs++os)) s1 y).objs[o]?=some .gone∧sF=⟨(gp_ false asg (ws++os) (mvS s1.slot s1.objs (vs++os)) s1 y).slot,(gp_ false asg (ws++os) (mvS s1.slot s1.objs (vs++os)) s1 y).objs.set o (.map k v m rf)⟩) →
          (∀ y,out = .inr y→isR=true∧(gp_ false asg (rs++os) (mvS s1.slot s1.objs (vs++os)) s1 y).objs[o]?=some .gone∧sF=⟨(gp_ false asg (rs++os) (mvS s1.slot s1.objs (vs++os)) s1 y).slot,(gp_ false asg (rs++os) (mvS s1.slot s1.objs (vs++os)) s1 y).objs.set o (.map k v m rf)⟩) →
          ∀ {K:Fr→World→Prop},(∀ f1 w1,WP P n ro (.block c0 (.loop (.seq (.region i2 [⟨some pl.t8,.next (.tmp pl.t7) false,ty1,q1,af1,none⟩,⟨some pl.t9,.extract (.tmp pl.t8) 0,ty2,q2,af2,none⟩].toArray false) (.seq (.cond (.tmp pl.t9) .skip (.exit c0)) (.block b1 (.seq (.region i3 (⟨some pl.t10,.entry (.tmp pl.t7),ty3,q3,af3,none⟩::pl.ops4).toArray false) rest))))))
            (λf' w'=>isR=false∧Po S0 hv0 ob0 Fm (pl.t7::asg) s sF f' w') (λf' w'=>isR=true∧Po S0 hv0 ob0 Fm (pl.t7::asg) s sF f' w') (λ_ _ _=>False) f1 w1→K f1 w1) →
            OP P n ro ⟨some pl.t7,.range pl.T pl.y,ty,q,af,none⟩ f w K:=by
        intro sF isR rest ro i2 i3 ty ty1 ty2 ty3 q q1 q2 q3 af af1 af2 af3 hrnd S0 hv0 ob0 Fm f w hr w1 w2 K hK
        refine cm3 hr hy ho (cs_ hT) d7 λS1 hv1 bm rr clock es l f' w' h01 hag0 hb0 hvo hvp hM hst hpm hnd hws hwo hrl=>hK f' w' ?_
        rw[es1] at hb0 hws hwo hrl
        have hb1:born s1.objs o=true:=ax_.2 ⟨.gone,by rw[s1o,b1_ (by simpa using hol)];simp[hol],by simp⟩
        have hbf:born s1.objs s.objs.length=true:=ax_.2 ⟨.gone,by rw[s1o,c6_ (by simp),f6_,l2_];rfl,by simp⟩
        have st:Rl S1 hv1 s1.objs (frM bm rr clock clock es #[] clock Fm) (mpS s1 asg vs os d0) f' w':=by
          refine an1 (BLe.refl _) hws hwo hrl (λ_ _=>rfl) (λj a b ha hb _ _ _=>by rw[ha] at hb;cases hb;exact OHeq.refl _) (c3_ _) ⟨λo ks T c ro T' c' ro' hm ho hr' => ?_,λo Y st ro Y' st' ro' ho hr'=>by rw[ho] at hr';cases hr';rfl⟩ g1
          rw[ho] at hr'
          cases hr'
          exact⟨rfl,ro_ ks c c 0 (bt1 oS hm ho) rfl λ_ _ _=>rfl⟩
        have hAl:AllM (rnd k v s1 vs ws rs os) (λd=>(mpG ws os s1 vs (mpF s1 asg vs os pl.t8 pl.t9 d)).map .inl) l.length l d0 out:=by
          rw[hpm.length_eq]
          exact AllM.perm hpm.symm gAll
        have h7s:s1.slot pl.t7 = .b (.one (.ptr s.objs.length 0)):=by
          rw[s1s]
          show cond (Nat.beq pl.t7 pl.t7) _ _=_
          rw[g0_]
          rfl
        refine (mp_loop (P:=P) (n:=n) (ro:=ro) (R0:=out) (b0:=c0) (b1:=b1) (fr:=s.objs.length) rfl rfl rfl rfl d8 d9 d10 n78 n79 n89 n7a m8 m9 m10 h7s hbf hws hwo hA nv nw nr hvp hst.2 hst.1 (c3_ _)
          (λe d o' ho' {Fm' f w} hE {Nn} hN=>hrnd k v s1 vs ws rs os oV m8 m9 m10 e d o' ho' hE hN) (c3_ _) hM hAl st).mono (λf2 wz ⟨y,seen,c,e,hE⟩ => ?_) (λf2 wz ⟨y,seen,c,e,hE⟩ => ?_) λ_ _ _ h=>h
        · obtain⟨e1,e2,e3⟩:=w1 y e
          subst e3
          exact⟨e1,bv1 h01 hag0 hb0 hb1 hvo hM hst hpm hnd hE e2,keep _ (ub_ oW oM),slots vW⟩
        · obtain⟨e1,e2,e3⟩:=w2 y e
          subst e3
          exact⟨e1,bv1 h01 hag0 hb0 hb1 hvo hM hst hpm hnd hE e2,keep _ (ub_ oR oM),slots vR⟩
      cases out with
      | inl y =>
        obtain⟨e1,e2⟩:=cu3 h9
        exact⟨false,_,e2,λ{rest ro i2 i3 ty ty1 ty2 ty3 q q1 q2 q3 af af1 af2 af3} hrnd {S0 hv0 ob0 Fm f w} hr {K} hK=>walk _ false hrnd hr (λy' e=>by cases e;exact⟨rfl,e1,rfl⟩) (λy' e=>by cases e) hK⟩
      | inr y =>
        obtain⟨e1,e2⟩:=cu3 h9
        exact⟨true,_,e2,λ{rest ro i2 i3 ty ty1 ty2 ty3 q q1 q2 q3 af af1 af2 af3} hrnd {S0 hv0 ob0 Fm f w} hr {K} hK=>walk _ true hrnd hr (λy' e=>by cases e) (λy' e=>by cases e;exact⟨rfl,e1,rfl⟩) hK⟩
    · cases h
  · cases h
end
end
section
variable [Gb]
section
variable {P:Program} [Tb P] {cx:Cx P} {n:Nat} {ro:Option Nat} {S0:PH} {hv0:Nat→Value} {ob0:List AO} {Fm:List HP}
theorem Po.refl {asg:List Nat} {s:A} {f:Fr} {w:World} (h:Rl S0 hv0 ob0 Fm s f w):Po S0 hv0 ob0 Fm asg s s f w:=⟨h,Keep.refl _,λ_ _=>rfl⟩
theorem af5 {asg:List Nat} {es:List Sp1} {mv:List Nat} {s s':A} {x:br_ es} {f0 f:Fr} {w0 w:World} (h0:Rl S0 hv0 ob0 Fm s f0 w0) (hok:okS s.objs es=true) (hov:okV asg es=true) (hm:okM s.objs mv=true)
  (hr:Rl S0 hv0 ob0 Fm s' f w) (h4:∀ d,inL d asg=false→s'.slot d=s.slot d)
  (h5:∀ (j:Nat) (a b:AO),s.objs[j]?=some a→s'.objs[j]?=some b→(listed es j||inL j mv)=false→a≠.unborn→a≠.gone→OHeq a b)
  (hl:s.objs.length≤s'.objs.length) (h6:Kp es s.objs s'.objs) (hg:sa_ es s mv s'=some x):Po S0 hv0 ob0 Fm asg s (gp_ false asg es mv s x) f w:=by
 obtain⟨S,hv,Ds,hle,hag,hbl,hs,hds⟩:=h0
 exact⟨an1 hbl hs.wfs hs.wfo hr h4 h5 hl h6 hg,ub_ hok hm,λd hd=>kz_ hov hd⟩
inductive Out where
 | n (s:A)
 | r (s:A)
 | x (i:Nat) (s:A)
def Out.k {ρ:Type} (kN kR:A→Option ρ) (kX:Nat→A→Option ρ):Out→Option ρ
 | .n s=>kN s
 | .r s=>kR s
 | .x i s=>kX i s
def RoOk (ro:Option Nat) (c:Code):Prop:=ro≠none→ag3 c=true
theorem RoOk.s1 {ro:Option Nat} {a b:Code} (h:RoOk ro (.seq a b)):RoOk ro a:=λe=>by
 have h:(ag3 a&&ag3 b)=true:=h e
 rw[a1_] at h
 exact h.1
theorem RoOk.s2 {ro:Option Nat} {a b:Code} (h:RoOk ro (.seq a b)):RoOk ro b:=λe=>by
 have h:(ag3 a&&ag3 b)=true:=h e
 rw[a1_] at h
 exact h.2
theorem RoOk.c1 {ro:Option Nat} {q:Operand} {a b:Code} (h:RoOk ro (.cond q a b)):RoOk ro a:=RoOk.s1 (b:=b) λe=>h e
theorem RoOk.c2 {ro:Option Nat} {q:Operand} {a b:Code} (h:RoOk ro (.cond q a b)):RoOk ro b:=RoOk.s2 (a:=a) λe=>h e
theorem RoOk.b {ro:Option Nat} {i:Nat} {c:Code} (h:RoOk ro (.block i c)):RoOk ro c:=λe=>h e
theorem RoOk.l {ro:Option Nat} {c:Code} (h:RoOk ro (.loop c)):RoOk ro c:=λe=>h e
def To (P:Program) [Tb P] (n:Nat) (c:Code) (s:A) (o:Out):Prop:=∀ {ro:Option Nat} {S0:PH} {hv0:Nat→Value} {ob0:List AO} {Fm:List HP} {f:Fr} {w:World},RoOk ro c→Rl S0 hv0 ob0 Fm s f w →
 WP P n ro c (λf' w'=>∃ s',o = .n s'∧Po S0 hv0 ob0 Fm (eo_ c) s s' f' w') (λf' w'=>∃ s',o = .r s'∧Po S0 hv0 ob0 Fm (eo_ c) s s' f' w') (λi f' w'=>∃ s',o = .x i s'∧Po S0 hv0 ob0 Fm (eo_ c) s s' f' w') f w
def bk5 {σ τ:Type} (body:σ→Option (σ⊕τ)):Nat→σ→σ
 | 0,d=>d
 | k+1,d=>match body d with
  | some (.inl d')=>bk5 body k d'
  | _=>d
theorem ap1 {σ τ:Type} {body:σ→Option (σ⊕τ)} {out:τ}:∀ {k:Nat} {d:σ},fk_ body k d=some out→body (bk5 body k d)=some (.inr out)
 | 0,d,h=>by simp[fk_] at h
 | k+1,d,h=>by
  unfold fk_ at h
  unfold bk5
  cases hb:body d with
  | none=>rw[hb] at h;cases h
  | some o=>cases o with
   | inl d'=>rw[hb] at h;exact ap1 (k:=k) h
   | inr r=>rw[hb] at h;simp only;rw[hb];cases h;rfl
theorem ty_ {c:Operand} {a b:Code} {s s':A} {f:Fr} {w:World} (h:Po S0 hv0 ob0 Fm (eo_ a) s s' f w∨Po S0 hv0 ob0 Fm (eo_ b) s s' f w):Po S0 hv0 ob0 Fm (eo_ (.cond c a b)) s s' f w:=by
 rcases h with h | h
 ·exact h.sub λd hd=>by rw[eo_,rq_,b8_] at hd;exact hd.1
 ·exact h.sub λd hd=>by rw[eo_,rq_,b8_] at hd;exact hd.2
theorem ax4:∀ (ns:List Nm) (s:A),(frzN s ns).slot=s.slot∧Keep s.objs (frzN s ns).objs∧∀ {S0:PH} {hv0:Nat→Value} {ob0:List AO} {Fm:List HP} {f:Fr} {w:World},Rl S0 hv0 ob0 Fm s f w→Rl S0 hv0 ob0 Fm (frzN s ns) f w
 | [],s=>⟨rfl,Keep.refl _,λh=>h⟩
 | p::ps,s=>by
  unfold frzN
  cases hl:bw2 s p with
  | none=>exact ax4 ps s
  | some o =>
   obtain⟨a,b,c⟩:=ax4 ps ⟨s.slot,as6 s.objs o⟩
   refine⟨a,frz1_keep.trans b,λhr=>c ?_⟩
   obtain⟨S,hv,Ds,hle,hag,hbl,hs,hds⟩:=hr
   obtain⟨S1,h1,h2⟩:=bz1 (o:=o) hs.inv
   exact⟨S1,hv,Ds,hle.trans h1,hag,hbl.trans frz1_ble,⟨h2,λd=>RA.mono h1 (hs.rel d),λd=>AV.lt_mono frz1_ble (hs.wfs d),be1 hs.wfo,hs.gl.mono h1⟩,hds⟩
theorem bx6 {es:List Sp1} {mv:List Nat} {s s':A} (hok:okS s.objs es=true) (hm:okM s.objs mv=true) (hk:Keep (maskJ es mv 0 s.objs) s'.objs):Keep s.objs (Rex.unm s s').objs:=by
 intro j a ha
 obtain⟨b,hb,hK⟩:=hk j (cond (listed es j||inL j mv) (mJ a (ak7 es j)) (pg_ a)) (by rw[ss_,ha,b0_];rfl)
 refine⟨_,by have:=vz_ (l:=s.objs) hb;rw[ha] at this;exact this,?_⟩
 show K1 a (cg1 a b)
 cases hls:listed es j with
 | true =>
  rw[hls,Bool.true_or,a5_] at hK
  rcases xu_ hok hls with ⟨af,e,hfr⟩ | ⟨ks,T,c,ro,h1,h2,h3,h4⟩ | ⟨Y,st,e⟩
  ·rw[ha] at e
   cases e
   exact ax5 hfr
  ·rw[ha] at h2
   cases h2
   rw[qq_ hok h1] at hK
   obtain⟨c2,rfl,g1,g2⟩:=(show ∃ c2:List SV,b = .cells T c2 (roC ks 0)∧c2.length=c.length∧∀ j ∈ roC ks 0,c2[j]?=c[j]? from hK)
   exact⟨c2,rfl,g1,λi hi=>g2 i (h4 i hi)⟩
  ·rw[ha] at e
   cases e
   have e3:mJ (.yld Y st false) (ak7 es j) = .yld Y st false:=by cases ak7 es j<;>rfl
   rw[e3] at hK
   obtain⟨st2,rfl,_⟩:=(show ∃ st2,b=AO.yld Y st2 false∧(false=true→st2=st) from hK)
   exact⟨st2,rfl,λe=>by cases e⟩
 | false =>
  rw[hls,k3_] at hK
  cases hmv:inL j mv with
  | true =>
   have:=bg_ hm j (rp_ hmv)
   simp only[ha] at this
   split at this
   ·rename_i e;cases e;trivial
   ·rename_i e;cases e;trivial
   ·cases this
  | false =>
   rw[hmv,a2_] at hK
   cases a with
   | unborn=>trivial
   | gone=>trivial
   | row t T l ro =>
    have h:b = .row t T l true:=hK
    subst h
    exact K1.refl _
   | map k v m ro =>
    have h:b = .map k v m true:=hK
    subst h
    exact K1.refl _
   | grid G l q ro =>
    have h:b = .grid G l q true:=hK
    subst h
    exact K1.refl _
   | fn f0 x0 y0=>exact hK
   | froz t x=>exact hK
   | yld Y st ro =>
    obtain⟨st2,rfl,h2⟩:=(show ∃ st2,b=AO.yld Y st2 true∧(true=true→st2=st) from hK)
    exact⟨st2,rfl,λ_=>h2 rfl⟩
   | cells T c ro =>
    obtain⟨c',rfl,hl,hc⟩:=(show ∃ c':List SV,b = .cells T c' (List.range c.length)∧c'.length=c.length∧∀ j ∈ List.range c.length,c'[j]?=c[j]? from hK)
    refine⟨c',rfl,hl,λi hi => ?_⟩
    by_cases hil:i<c.length
    ·exact hc i (by simpa using hil)
    ·rw[b4_ (by omega),b4_ (by omega)]
theorem br4 {ρ:Type} {g:Operand} {ps:Array Nat} {assign body:Code} {ds:List Nat} {x y:An} {s:A} {kN kR:A→Option ρ} {kX:Nat→A→Option ρ} {r:ρ}
    (h:hj_ cx n (.rangeFunc g ps assign body) (.rf ds x y) ρ s kN kR kX=some r):∃ o:Out,o.k kN kR kX=some r∧To P n (.rangeFunc g ps assign body) s o:=by
  have h : cond (fb_ (fun p => Nat.blt p n) ps.toList && ag3 assign && ag3 body) (slF s.slot ds fun sl =>
        cx.callV ρ (evA s.slot g) [.b (.one (.fn s.objs.length))] (s.objs++[.yld ⟨n,ps.toList,assign,body,.p x y,sl⟩ .rdy false]) λ_ ob=>cg5 ob λob=>rfEnd s ob kN kR kX) none=some r:=h
  obtain⟨hc,h⟩:=bo_ h
  rw[cs4] at h
  simp only[ug_] at h
  obtain⟨av,ob,h1,hct⟩:=cx.okV h
  have fin:∀ (o:Out) (Y':Yld) (st:YS) (rr:Bool),ob[s.objs.length]?=some (.yld Y' st rr)→st.st≠.busy →
      (st.pend=none→o = .n ⟨s.slot,ob.set s.objs.length .gone⟩)→(st.pend=some .ret→o = .r ⟨s.slot,ob.set s.objs.length .gone⟩)→(∀ i,st.pend=some (.exit i)→o = .x i ⟨s.slot,ob.set s.objs.length .gone⟩) →
      (∀ c,st.pend=some c→c = .ret∨∃ i,c = .exit i)→To P n (.rangeFunc g ps assign body) s o:=by
    intro o Y' st rr hob hst o1 o2 o3 hp ro S0 hv0 ob0 Fm f w hro hr
    obtain rfl:ro=none:=by
      cases ro with
      | none=>rfl
      | some l=>cases hro (by simp)
    obtain⟨S,hv,Ds,hle,hag,hbl,hs,hds⟩:=hr
    have main:WP P n none (.rangeFunc g ps.toList.toArray assign body) (λf' w'=>∃ s',o = .n s'∧Po S0 hv0 ob0 Fm (eo_ (.rangeFunc g ps assign body)) s s' f' w') (λf' w'=>∃ s',o = .r s'∧Po S0 hv0 ob0 Fm (eo_ (.rangeFunc g ps assign body)) s s' f' w') (λi f' w'=>∃ s',o = .x i s'∧Po S0 hv0 ob0 Fm (eo_ (.rangeFunc g ps assign body)) s s' f' w') f w:=by
      refine bm2 hs.inv λl D fn tm w₁ hsz htm hI1 => ?_
      let Y:Yld:=⟨n,ps.toList,assign,body,.p x y,ds.map λd=>(d,s.slot d)⟩
      let vy:Value:=.func (.yield l) #[] #[]
      have e0:AgN s.objs.length hv (ins hv s.objs.length vy):=ud_
      have hYlt:(AO.yld Y .rdy false).lt (s.objs++[AO.yld Y .rdy false])=true:=hn_ λp hp=>by
        obtain⟨d,_,rfl⟩:=d2_.1 hp
        exact AV.lt_mono (λ_=>io_) (hs.wfs d)
      have hnew:born (s.objs++[AO.yld Y .rdy false]) s.objs.length=true:=ax_.2 ⟨.yld Y .rdy false,by simp,by simp⟩
      have hI2:Inv w₁ S (OHs (ins hv s.objs.length vy) 0 (s.objs++[.yld Y .rdy false])++(py_ (D::Ds)::Fm)):=by
        have h2:Inv w₁ S (YldA (ins hv s.objs.length vy) vy Y .rdy::Dfr D::(OHs hv 0 s.objs++(py_ Ds::Fm))):=hI1.headMap λq hq=>⟨l,D,fn,tm,rfl,hq,hsz,λd=>by
          rw[htm d]
          exact RA.ag (n:=s.objs) (e0.ag (c3_ _)) (al4 (hn_ λp hp=>by
            obtain⟨d,_,rfl⟩:=d2_.1 hp
            exact hs.wfs d) d) (cs3 (f:=λi=>f i) (λp hp=>by
            obtain⟨d,_,rfl⟩:=d2_.1 hp
            exact hs.rel d) d)⟩
        rw[OHs.app,← ar9 e0 (c3_ _) hs.wfo]
        show Inv w₁ S ((OHs hv 0 s.objs++[OH _ (ins hv s.objs.length vy (0+s.objs.length)) _])++_)
        rw[b0_,cn_]
        have h3:Inv w₁ S (Dfr D::py_ Ds::(YldA (ins hv s.objs.length vy) vy Y .rdy::(OHs hv 0 s.objs++Fm))):=by
          refine h2.perm ?_
          refine (List.Perm.swap _ _ _).trans (List.Perm.cons _ ?_)
          exact (List.Perm.cons _ c9_).trans (List.Perm.swap _ _ _)
        have h4:(YldA (ins hv s.objs.length vy) vy Y .rdy::(OHs hv 0 s.objs++Fm)).Perm ((OHs hv 0 s.objs++[YldA (ins hv s.objs.length vy) vy Y .rdy])++Fm):=by
          rw[b3_]
          exact List.perm_middle.symm
        exact h3.consD.perm ((List.Perm.cons _ h4).trans List.perm_middle.symm)
      have hwo:WfO (s.objs++[.yld Y .rdy false]):=λa ha=>by
        rcases b5_.1 ha with h1 | h1
        · exact AO.lt_mono (λ_=>io_) (hs.wfo a h1)
        · simp at h1;subst h1;exact hYlt
      obtain⟨kf,cap,e1,hk,hcall⟩:=hct (vs:=[vy]) hs.gl hI2 hwo (RA.ag (n:=s.objs) (e0.ag (c3_ _)) (ik_ hs.wfs g) (hs.ev g)) ⟨⟨rfl,(cn_ _ _ _).symm⟩,trivial⟩ (λa ha=>by simp at ha;subst ha;exact hnew)
      refine⟨kf,[],cap,e1,hk,hcall.mono λe w' ⟨v,S',hv',he,b1,b2,b3,b4,b5,b6,b7,b8⟩ => ?_⟩
      obtain⟨L,p1,p2⟩:=OHs.focus (hv:=hv') (i:=0) hob
      rw[b0_] at p1 p2
      have hI3:Inv w' S' (YldA hv' (hv' s.objs.length) Y' st::(L++(py_ (D::Ds)::Fm))):=b8.perm (p1.append_right _)
      obtain⟨q,⟨l',D',fn',tm',e2,e3,_,_⟩,hI4⟩:=hI3.open_
      have e4:l'=l:=by
        have h5:=b6 s.objs.length hnew
        rw[cn_,e2] at h5
        have h6:vy = .func (.yield l') #[] #[]:=h5
        injection h6 with h7
        injection h7 with h8
        exact h8.symm
      subst e4
      have hI5:Inv w' S' (ak6 l' (sj_ fn' tm' Y'.ps.toArray Y'.assign Y'.body D' st.st st.pend)::(L++(py_ (D::Ds)::Fm))):=Inv.shut (A:=ak6 _ _) hI4 e3
      refine⟨v,_,he,hI5.obj,hst,?_⟩
      have hI6:=(hI5.setObj (.loop { sj_ fn' tm' Y'.ps.toArray Y'.assign Y'.body D' st.st st.pend with state:=.exhausted })).drop
      have hI7:=(lf_ hI6).perm ((p2 .gone).symm.append_right (py_ (D::Ds)::Fm))
      have hb0:BLe s.objs ob:=λ_ h=>b1 _ (io_ h)
      have hbo:BLe s.objs (ob.set s.objs.length .gone):=hb0.trans (be_ (by simp))
      have hrl:Rl S0 hv0 ob0 Fm ⟨s.slot,ob.set s.objs.length .gone⟩ (Pad.mark f D) { w' with heap:=w'.heap.setIfInBounds l' (.loop { sj_ fn' tm' Y'.ps.toArray Y'.assign Y'.body D' st.st st.pend with state:=.exhausted }) } :=
        ⟨S',hv',D::Ds,hle.trans b5,hag.trans ((e0.ag (c3_ _)).sub hbl |>.trans (b6.sub (hbl.trans λ_=>io_))),hbl.trans hbo,⟨hI7,λd=>RA.mono b5 (RA.ag b6 (AV.lt_mono (λ_=>io_) (hs.wfs d)) (RA.ag (n:=s.objs) (e0.ag (c3_ _)) (hs.wfs d) (hs.rel d))),λd=>AV.lt_mono hbo (hs.wfs d),dx_ (by simp) b3 rfl,hs.gl.mono b5⟩,mark_ds hds⟩
      have hpo:Po S0 hv0 ob0 Fm (eo_ (.rangeFunc g ps assign body)) s ⟨s.slot,ob.set s.objs.length .gone⟩ (Pad.mark f D) { w' with heap:=w'.heap.setIfInBounds l' (.loop { sj_ fn' tm' Y'.ps.toArray Y'.assign Y'.body D' st.st st.pend with state:=.exhausted }) } :=
        ⟨hrl,λj a ha=>by
          have hj:=(a4_.1 ha).1
          obtain⟨b,g1,g2⟩:=b2 j a (by rw[b1_ hj];exact ha)
          exact⟨b,by rw[b7_ (by omega)];exact g1,g2⟩,λ_ _=>rfl⟩
      suffices hj:∀ pe,st.pend=pe→Jumps _ _ _ _ _ pe from hj _ rfl
      intro pe hpe
      cases pe with
      | none=>exact⟨_,o1 hpe,hpo⟩
      | some c =>
        rcases hp c hpe with rfl | ⟨i,rfl⟩
        · exact⟨_,o2 hpe,hpo⟩
        · exact⟨_,o3 i hpe,hpo⟩
    simpa using main
  unfold rfEnd at h1
  split at h1
  · rename_i Y' rr hob
    exact⟨.n _,h1,fin _ Y' .rdy rr hob (by simp[YS.st]) (λ_=>rfl) (λe=>by cases e) (λi e=>by cases e) λc e=>by cases e⟩
  · rename_i Y' rr hob
    exact⟨.r _,h1,fin _ Y' .ret rr hob (by simp[YS.st]) (λe=>by cases e) (λ_=>rfl) (λi e=>by cases e) λc e=>by cases e;exact .inl rfl⟩
  · rename_i Y' i rr hob
    exact⟨.x i _,h1,fin _ Y' (.ex i) rr hob (by simp[YS.st]) (λe=>by cases e) (λe=>by cases e) (λj e=>by cases e;rfl) λc e=>by cases e;exact .inr ⟨i,rfl⟩⟩
  · cases h1
theorem bl0:∀ (N:Nat) (c:Code),SizeOf.sizeOf c<N→∀ (an:An) (ρ:Type) (s:A) (kN kR:A→Option ρ) (kX:Nat→A→Option ρ) (r:ρ),hj_ cx n c an ρ s kN kR kX=some r→∃ o:Out,o.k kN kR kX=some r∧To P n c s o:=by
  intro N
  induction N with
  | zero=>intro c h;omega
  | succ N IH =>
  intro c hN
  cases c with
  | skip=>intro an ρ s kN kR kX r h;exact⟨.n s,h,λ_ hr=>lv_ ⟨s,rfl,Po.refl hr⟩⟩
  | ret=>intro an ρ s kN kR kX r h;exact⟨.r s,h,λ_ hr=>wv_ ⟨s,rfl,Po.refl hr⟩⟩
  | exit i=>intro an ρ s kN kR kX r h;exact⟨.x i s,h,λ_ hr=>sd_ ⟨s,rfl,Po.refl hr⟩⟩
  | block i c =>
    have ih:=IH c (by simp at hN;omega)
    intro an ρ s kN kR kX r h
    obtain⟨o,ho,hto⟩:=ih an ρ s kN kR _ r h
    cases o with
    | n s'=>exact⟨.n s',ho,λhro hr=>ex_ ((hto hro.b hr).mono (λf w h=>h) (λf w h=>h) λj f w ⟨q,e,_⟩=>by cases e)⟩
    | r s'=>exact⟨.r s',ho,λhro hr=>ex_ ((hto hro.b hr).mono (λf w ⟨q,e,_⟩=>by cases e) (λf w h=>h) λj f w ⟨q,e,_⟩=>by cases e)⟩
    | x j s' =>
      have ho:cond (Nat.beq j i) (kN s') (kX j s')=some r:=ho
      cases hb:Nat.beq j i with
      | true =>
        rw[hb] at ho
        exact⟨.n s',ho,λhro hr=>ex_ ((hto hro.b hr).mono (λf w ⟨q,e,_⟩=>by cases e) (λf w ⟨q,e,_⟩=>by cases e) λj' f w ⟨q,e,hp⟩=>by
          cases e
          rw[hb]
          exact⟨s',rfl,hp⟩)⟩
      | false =>
        rw[hb] at ho
        exact⟨.x j s',ho,λhro hr=>ex_ ((hto hro.b hr).mono (λf w ⟨q,e,_⟩=>by cases e) (λf w ⟨q,e,_⟩=>by cases e) λj' f w ⟨q,e,hp⟩=>by
          cases e
          rw[hb]
          exact⟨s',rfl,hp⟩)⟩
  | cond c a b =>
    have iha:=IH a (by simp at hN;omega)
    have ihb:=IH b (by simp at hN;omega)
    intro an ρ s kN kR kX r h
    obtain⟨q,hq,h⟩:=bnd h
    have hc:∀ {S0:PH} {hv0:Nat→Value} {ob0:List AO} {Fm:List HP} {f:Fr} {w:World},Rl S0 hv0 ob0 Fm s f w→ev f c = .bool q:=λhr=>by
      obtain⟨S,hv,Ds,hle,hag,hbl,hs,hds⟩:=hr
      exact ep_ (hs.ev c) hq
    cases q with
    | true =>
      obtain⟨o,ho,hto⟩:=iha an.l ρ s kN kR kX r h
      exact⟨o,ho,λhro hr=>mw_ (hc hr) rfl ((hto hro.c1 hr).mono (λf w ⟨q,e,hp⟩=>⟨q,e,ty_ (.inl hp)⟩) (λf w ⟨q,e,hp⟩=>⟨q,e,ty_ (.inl hp)⟩) λi f w ⟨q,e,hp⟩=>⟨q,e,ty_ (.inl hp)⟩)⟩
    | false =>
      obtain⟨o,ho,hto⟩:=ihb an.r ρ s kN kR kX r h
      exact⟨o,ho,λhro hr=>ji_ (hc hr) rfl ((hto hro.c2 hr).mono (λf w ⟨q,e,hp⟩=>⟨q,e,ty_ (.inr hp)⟩) (λf w ⟨q,e,hp⟩=>⟨q,e,ty_ (.inr hp)⟩) λi f w ⟨q,e,hp⟩=>⟨q,e,ty_ (.inr hp)⟩)⟩
  | region i ops dr =>
    intro an ρ s kN kR kX r h
    have fin:∀ s',jz_ ops.toList kN s'=some r→∃ s'',kN s''=some r∧s''.slot=s'.slot∧Keep s'.objs s''.objs∧∀ {S0:PH} {hv0:Nat→Value} {ob0:List AO} {Fm:List HP} {f:Fr} {w:World},Rl S0 hv0 ob0 Fm s' f w→Rl S0 hv0 ob0 Fm s'' f w:=by
      intro s' h
      unfold jz_ at h
      cases hg:cr1 ops.toList with
      | false=>rw[hg] at h;exact⟨s',h,rfl,Keep.refl _,λh=>h⟩
      | true =>
        rw[hg] at h
        obtain⟨b1,b2,b3⟩:=qk_ (ob:=s'.objs) s'.objs.length
        refine⟨restA s',h,rfl,b2,λ{S0 hv0 ob0 Fm f w} ⟨S,hv,Ds,d1,d2,d3,d4,d5⟩=>⟨S,hv,Ds,d1,d2,d3.trans b1,⟨wf_ d4.inv _,d4.rel,λd=>AV.lt_mono b1 (d4.wfs d),b3 d4.wfo,d4.gl⟩,d5⟩⟩
    cases dr with
    | true =>
      have h:regX cx n an ops.toList s kN=some r:=h
      have both:∃ s',kN s'=some r∧(∀ d,inL d (ir_ ops.toList)=false→s'.slot d=s.slot d) ∧
          ∀ {ro:Option Nat} {S0:PH} {hv0:Nat→Value} {ob0:List AO} {Fm:List HP} {f:Fr} {w:World} {id:Nat} {N R:Fr→World→Prop} {X:Nat→Fr→World→Prop},
            Rl S0 hv0 ob0 Fm s f w→(∀ f' w',Rl S0 hv0 ob0 Fm s' f' w'→Keep s.objs s'.objs→N f' w')→WP P n ro (.region id ops.toList.toArray true) N R X f w:=by
        cases an with
        | q ns x y=>exact regQ_ok h
        | sp k m =>
          have h:regS cx n k m ops.toList s (jz_ ops.toList kN)=some r:=h
          generalize ops.toList=ops at *
          unfold regS at h
          rw[zc_] at h
          obtain⟨hc,h⟩:=bo_ h
          rw[a1_,a1_,a1_,a1_] at hc
          obtain⟨⟨⟨⟨c1,c2⟩,c3⟩,c4⟩,c5⟩:=hc
          have c1:=a3_ c1
          have c2:=a3_ c2
          obtain⟨s1,h1,hm,h2,h3⟩:=au8 h
          obtain⟨s2,h4,L⟩:=jh_ (λo ho=>q1_ ho) h1
          obtain⟨s3,k1,k2,k3,k4⟩:=fin s2 h4
          have ht:∀ o ∈ ops.take k,o ∈ ops:=λo ho=>k7_ ho
          refine⟨s3,k1,λd hd => ?_,λ{ro S0 hv0 ob0 Fm f w id N R X} hr kont => ?_⟩
          · rw[k2,L.slot d (ml_ hd)]
            refine h2 d ?_
            cases hi:inL d (ir_ (ops.take k)) with
            | false=>rfl
            | true =>
              obtain⟨o,ho,e⟩:=tc_ hi
              exact absurd e (ml_ hd o (ht o ho))
          · have e:ops.take k++ops.drop k=ops:=g1_ k ops
            have:=az0 (R:=R) (X:=X) (id:=id) (l1:=ops.take k) (l2:=ops.drop k) (N:=N) (n:=n) (ro:=ro) (f:=f) (w:=w) hm (by rw[e,c1,c2];exact c3) (by rw[e];exact c4) (by rw[c1];exact c5)
              (h3 (N:=λf w=>WL P n ro (ops.take k++ops.drop k).toArray N (ops.drop k) f w) hr λf1 w1 hr1 kp1=>by
                rw[e]
                exact L.run hr1 λf2 w2 hr2 kp2=>kont f2 w2 (k4 hr2) ((kp1.trans kp2).trans k3))
            rw[e] at this
            exact this
        | _ =>
          obtain⟨s',h1,h2,h3⟩:=regD_ok (show regD cx n ops.toList s (jz_ ops.toList kN)=some r from h)
          obtain⟨s'',k1,k2,k3,k4⟩:=fin s' h1
          exact⟨s'',k1,λd hd=>by rw[k2];exact h2 d hd,λhr kont=>h3 hr λf' w' hr' hkp=>kont f' w' (k4 hr') (hkp.trans k3)⟩
      obtain⟨s',h1,h2,h3⟩:=both
      refine⟨.n s',h1,λ{ro S0 hv0 ob0 Fm f w} _ hr => ?_⟩
      have h4:=h3 (ro:=ro) (id:=i) (N:=λf' w'=>∃ s'',Out.n s' = .n s''∧Po S0 hv0 ob0 Fm (eo_ (.region i ops true)) s s'' f' w') (R:=λf' w'=>∃ s'',Out.n s' = .r s''∧Po S0 hv0 ob0 Fm (eo_ (.region i ops true)) s s'' f' w') (X:=λj f' w'=>∃ s'',Out.n s' = .x j s''∧Po S0 hv0 ob0 Fm (eo_ (.region i ops true)) s s'' f' w') hr λf' w' hr' hkp=>⟨s',rfl,hr',hkp,h2⟩
      simpa using h4
    | false =>
      have h:ol_ cx n ops.toList ops.toList s (jz_ ops.toList kN)=some r:=h
      obtain⟨s0,h1,L⟩:=jh_ (λo ho=>ho) h
      obtain⟨s',k1,k2,k3,k4⟩:=fin s0 h1
      refine⟨.n s',k1,λ{ro S0 hv0 ob0 Fm f w} _ hr => ?_⟩
      have h2:=ba_ (R:=λf' w'=>∃ s'',Out.n s' = .r s''∧Po S0 hv0 ob0 Fm (eo_ (.region i ops false)) s s'' f' w') (X:=λj f' w'=>∃ s'',Out.n s' = .x j s''∧Po S0 hv0 ob0 Fm (eo_ (.region i ops false)) s s'' f' w') (i:=i)
        (L.run (ro:=ro) (N:=λf' w'=>∃ s'',Out.n s' = .n s''∧Po S0 hv0 ob0 Fm (eo_ (.region i ops false)) s s'' f' w') hr λf' w' hr' hkp=>⟨s',rfl,k4 hr',hkp.trans k3,λd hd=>by rw[k2];exact L.slot d (ml_ hd)⟩)
      simpa using h2
  | seq a b =>
    have iha:=IH a (by simp at hN;omega)
    have ihb:=IH b (by simp at hN;omega)
    intro an ρ s kN kR kX r h
    have sa:∀ d,inL d (eo_ (.seq a b))=false→inL d (eo_ a)=false:=λd hd=>by rw[eo_,rq_,b8_] at hd;exact hd.1
    have two:∀ {s s1:A} {o:Out},(∀ {ro:Option Nat} {S0:PH} {hv0:Nat→Value} {ob0:List AO} {Fm:List HP} {f:Fr} {w:World},RoOk ro a→Rl S0 hv0 ob0 Fm s f w →
        WP P n ro a (λf' w'=>Po S0 hv0 ob0 Fm (eo_ a) s s1 f' w') (λ_ _=>False) (λ_ _ _=>False) f w)→To P n b s1 o→To P n (.seq a b) s o:=by
      intro s s1 o h1 h2 ro S0 hv0 ob0 Fm f w hro hr
      exact bi_ ((h1 hro.s1 hr).mono (λf1 w1 p1=>(h2 hro.s2 p1.rl).mono (λf w ⟨q,e,hp⟩=>⟨q,e,p1.trans hp⟩) (λf w ⟨q,e,hp⟩=>⟨q,e,p1.trans hp⟩) λi f w ⟨q,e,hp⟩=>⟨q,e,p1.trans hp⟩) (λ_ _ h=>h.elim) λ_ _ _ h=>h.elim)
    have plain:∀ (s:A) x y,hj_ cx n a x ρ s (λs=>hj_ cx n b y ρ s kN kR kX) kR kX=some r→∃ o:Out,o.k kN kR kX=some r∧To P n (.seq a b) s o:=λs x y h=>by
      obtain⟨o,ho,hto⟩:=iha x ρ s _ kR kX r h
      cases o with
      | n s1 =>
        obtain⟨o2,ho2,hto2⟩:=ihb y ρ s1 kN kR kX r ho
        exact⟨o2,ho2,two (λhro hr=>(hto hro hr).mono (λf w ⟨q,e,hp⟩=>by cases e;exact hp) (λf w ⟨q,e,_⟩=>by cases e) λi f w ⟨q,e,_⟩=>by cases e) hto2⟩
      | r s1=>exact⟨.r s1,ho,λhro hr=>bi_ ((hto hro.s1 hr).mono (λf w ⟨q,e,_⟩=>by cases e) (λf w ⟨q,e,hp⟩=>⟨q,e,hp.sub sa⟩) λi f w ⟨q,e,_⟩=>by cases e)⟩
      | x i s1=>exact⟨.x i s1,ho,λhro hr=>bi_ ((hto hro.s1 hr).mono (λf w ⟨q,e,_⟩=>by cases e) (λf w ⟨q,e,_⟩=>by cases e) λj f w ⟨q,e,hp⟩=>⟨q,e,hp.sub sa⟩)⟩
    cases an with
    | mp vs0 ws0 rs0 os0 x =>
      unfold hj_ at h
      simp only at h
      split at h
      · rename_i i1 ops1 dr b0 i2 ops2 c3 c0 b1 i3 ops3 rest
        obtain⟨pl,hpl,h⟩:=bnd h
        obtain⟨⟨ty,q,af,e1⟩,⟨ty1,q1,af1,ty2,q2,af2,e2⟩,⟨ty3,q3,af3,e3⟩,rfl⟩:=mpPl_ok hpl
        obtain⟨s0,h,sl0,pre⟩:=cm4 h e1
        have hir:=IH rest (by simp at hN;omega)
        generalize hC:eo_ (.block b0 (.loop (.seq (.region i2 ops2 false) (.seq (.cond (.tmp pl.t9) .skip (.exit c0)) (.block b1 (.seq (.region i3 ops3 false) rest))))))=asg at h
        have hasg:asg=ir_ ops2.toList++(([]++[])++(ir_ ops3.toList++eo_ rest)):=by rw[← hC];rfl
        obtain⟨isR,sF,hk,walk⟩:=mpGo_ok h
        have g2:ops2=[⟨some pl.t8,.next (.tmp pl.t7) false,ty1,q1,af1,none⟩,⟨some pl.t9,.extract (.tmp pl.t8) 0,ty2,q2,af2,none⟩].toArray:=by rw[← e2]
        have g3:ops3=(⟨some pl.t10,.entry (.tmp pl.t7),ty3,q3,af3,none⟩::pl.ops4).toArray:=by rw[← e3]
        refine⟨cond isR (.r sF) (.n sF),by cases isR<;>exact hk,λ{ro S0 hv0 ob0 Fm f w} hro hr => ?_⟩
        have hrr:RoOk ro rest:=λe=>by
          have h:=hro e
          simp only[ag3,a1_] at h
          exact h.2.2.2.2
        have p0:=pre (ro:=ro) (id:=i1) (N:=λf w=>WP P n ro (.block b0 (.loop (.seq (.region i2 ops2 false) (.seq (.cond (.tmp pl.t9) .skip (.exit c0)) (.block b1 (.seq (.region i3 ops3 false) rest)))))) (λf' w'=>∃ s',cond isR (Out.r sF) (Out.n sF) = .n s'∧Po S0 hv0 ob0 Fm (eo_ (.seq (.region i1 ops1 dr) (.block b0 (.loop (.seq (.region i2 ops2 false) (.seq (.cond (.tmp pl.t9) .skip (.exit c0)) (.block b1 (.seq (.region i3 ops3 false) rest)))))))) s s' f' w')
          (λf' w'=>∃ s',cond isR (Out.r sF) (Out.n sF) = .r s'∧Po S0 hv0 ob0 Fm (eo_ (.seq (.region i1 ops1 dr) (.block b0 (.loop (.seq (.region i2 ops2 false) (.seq (.cond (.tmp pl.t9) .skip (.exit c0)) (.block b1 (.seq (.region i3 ops3 false) rest)))))))) s s' f' w')
          (λi f' w'=>∃ s',cond isR (Out.r sF) (Out.n sF) = .x i s'∧Po S0 hv0 ob0 Fm (eo_ (.seq (.region i1 ops1 dr) (.block b0 (.loop (.seq (.region i2 ops2 false) (.seq (.cond (.tmp pl.t9) .skip (.exit c0)) (.block b1 (.seq (.region i3 ops3 false) rest)))))))) s s' f' w') f w)
          (R:=λf' w'=>∃ s',cond isR (Out.r sF) (Out.n sF) = .r s'∧Po S0 hv0 ob0 Fm (eo_ (.seq (.region i1 ops1 dr) (.block b0 (.loop (.seq (.region i2 ops2 false) (.seq (.cond (.tmp pl.t9) .skip (.exit c0)) (.block b1 (.seq (.region i3 ops3 false) rest)))))))) s s' f' w')
          (X:=λi f' w'=>∃ s',cond isR (Out.r sF) (Out.n sF) = .x i s'∧Po S0 hv0 ob0 Fm (eo_ (.seq (.region i1 ops1 dr) (.block b0 (.loop (.seq (.region i2 ops2 false) (.seq (.cond (.tmp pl.t9) .skip (.exit c0)) (.block b1 (.seq (.region i3 ops3 false) rest)))))))) s s' f' w') hr λf1 w1 hr1 kp1=>mq_ rfl ?_
        · rw[show ops1.toList.toArray=ops1 by simp] at p0
          exact bi_ p0
        have fin:∀ {f':Fr} {w':World},Po S0 hv0 ob0 Fm (pl.t7::asg) s0 sF f' w'→Po S0 hv0 ob0 Fm (eo_ (.seq (.region i1 ops1 dr) (.block b0 (.loop (.seq (.region i2 ops2 false) (.seq (.cond (.tmp pl.t9) .skip (.exit c0)) (.block b1 (.seq (.region i3 ops3 false) rest)))))))) s sF f' w':=λhp=>by
          refine⟨hp.rl,kp1.trans hp.keep,λd hd => ?_⟩
          have hd:inL d (ir_ ops1.toList++asg)=false:=by rw[← hC];exact hd
          rw[rq_,b8_] at hd
          refine (hp.slot d ?_).trans (sl0 d hd.1)
          show (Nat.beq d pl.t7||inL d asg)=false
          rw[hd.2,i0_]
          cases hb:Nat.beq d pl.t7 with
          | false=>rfl
          | true =>
            have e:=a3_ hb
            subst e
            have hm:(⟨some pl.t7,.range pl.T pl.y,ty,q,af,none⟩:Oper) ∈ ops1.toList:=by rw[e1];simp
            exact absurd rfl (ml_ hd.1 _ hm)
        refine walk (rest:=rest) (ro:=ro) (i2:=i2) (i3:=i3) (ty1:=ty1) (ty2:=ty2) (ty3:=ty3) (q1:=q1) (q2:=q2) (q3:=q3) (af1:=af1) (af2:=af2) (af3:=af3) ?_ hr1 λf2 w2 hwp=>dq_ ?_
        · intro k v s1 vs ws rs os oV m8 m9 m10 e d o ho S1 hv1 Fm' f w hE Nn hN
          obtain⟨s2,h2,L⟩:=jh_ (λq hq=>by rw[e3];simp[hq]) ho
          obtain⟨s3,k1,k2,k3,k4⟩:=zb_ h2
          obtain⟨oo,ho2,hto⟩:=hir x _ s3 _ _ _ o k1
          rw[← e3]
          refine L.run hE λf3 w3 hr3 kp3=>hN f3 w3 ?_
          have pz:∀ {s':A} {f':Fr} {w':World},Po S1 hv1 s1.objs Fm' (eo_ rest) s3 s' f' w'→Pz S1 hv1 s1 asg Fm' (mpS s1 asg vs os d) s' f' w':=λhp=>by
            refine⟨hp.rl,(kp3.trans k3).trans hp.keep,λe he => ?_⟩
            have hh:=he
            simp only[hasg,rq_,b8_] at hh
            rw[hp.slot e hh.2.2.2,k2,L.slot e (ml_ hh.2.2.1)]
            unfold mpE
            rw[oq_ m10 he,oq_ m9 he,oq_ m8 he]
            exact kz_ oV he
          refine (hto hrr (k4 hr3)).mono (λf' w' ⟨s',e,hp⟩ => ?_) (λf' w' ⟨s',e,hp⟩ => ?_) λi f' w' ⟨s',e,hp⟩ => ?_
          · subst e
            obtain⟨y,hy,hyo⟩:=aa8 (show Option.map _ _=some _ from ho2)
            exact⟨s',y,hy,hyo.symm,pz hp⟩
          · subst e
            obtain⟨y,hy,hyo⟩:=aa8 (show Option.map _ _=some _ from ho2)
            exact⟨s',y,hy,hyo.symm,pz hp⟩
          · subst e
            have ho2:cond (Nat.beq i b1) ((mpG vs os s1 vs s').map λy=>.inl (pu_ _ y)) (cond (Nat.beq i b0) ((mpG ws os s1 vs s').map λy=>.inr (.inl (pu_ _ y))) none)=some o:=ho2
            cases hb:Nat.beq i b1 with
            | true =>
              rw[hb] at ho2
              obtain⟨y,hy,hyo⟩:=aa8 (show Option.map _ _=some _ from ho2)
              exact .inl ⟨rfl,s',y,hy,hyo.symm,pz hp⟩
            | false =>
              rw[hb] at ho2
              obtain⟨hb0,ho2⟩:=bo_ (show cond (Nat.beq i b0) _ none=some o from ho2)
              obtain⟨y,hy,hyo⟩:=aa8 ho2
              exact .inr ⟨rfl,hb0,s',y,hy,hyo.symm,pz hp⟩
        · rw[← g2,← g3] at hwp
          refine hwp.mono (λf' w' ⟨e,hp⟩ => ?_) (λf' w' ⟨e,hp⟩ => ?_) λ_ _ _ h=>h.elim
          · subst e;exact⟨sF,rfl,fin hp⟩
          · subst e;exact⟨sF,rfl,fin hp⟩
      · cases h
    | z=>exact plain s _ _ h
    | p x y=>exact plain s _ _ h
    | lp vs ws os b x=>exact plain s _ _ h
    | ls vs ws os b x=>exact plain s _ _ h
    | rf ds x y=>exact plain s _ _ h
    | sp k m=>exact plain s _ _ h
    | q ns x y =>
      obtain⟨e1,e2,e3⟩:=ax4 ns s
      obtain⟨o,ho,hto⟩:=plain (frzN s ns) x y h
      refine⟨o,ho,λhro hr=>(hto hro (e3 hr)).mono (λf w ⟨q,e,hp⟩=>⟨q,e,hp.rl,e2.trans hp.keep,λd hd => ?_⟩) (λf w ⟨q,e,hp⟩=>⟨q,e,hp.rl,e2.trans hp.keep,λd hd => ?_⟩) λi f w ⟨q,e,hp⟩=>⟨q,e,hp.rl,e2.trans hp.keep,λd hd => ?_⟩⟩
      all_goals rw[hp.slot d hd,e1]
    | js σ0 x y =>
      obtain⟨σ,_,h⟩:=bnd h
      have h:cond (okA s (eo_ a) σ) ((hj_ cx n a x (br_ σ⊕ρ) ⟨s.slot,maskJ σ (mvS s.slot s.objs σ) 0 s.objs⟩ (λs'=>(sa_ σ s (mvS s.slot s.objs σ) s').map .inl) (λs'=>(kR (unm s s')).map .inr)
        (λi s'=>(kX i (unm s s')).map .inr)).bind fun
        | .inl d=>hj_ cx n b y ρ (gp_ false (eo_ a) σ (mvS s.slot s.objs σ) s d) kN kR kX
        | .inr r=>some r) none=some r:=h
      obtain⟨hok,h⟩:=bo_ h
      simp only[okA,a1_] at hok
      obtain⟨out,h1,h⟩:=bnd h
      obtain⟨o,ho,hto⟩:=iha x _ _ _ _ _ out h1
      have back:∀ {S0:PH} {hv0:Nat→Value} {ob0:List AO} {Fm:List HP} {s':A} {f':Fr} {w':World},Po S0 hv0 ob0 Fm (eo_ a) ⟨s.slot,maskJ σ (mvS s.slot s.objs σ) 0 s.objs⟩ s' f' w'→Po S0 hv0 ob0 Fm (eo_ a) s (unm s s') f' w':=λhp =>
        ⟨hp.rl.unm,bx6 hok.1.1 hok.2 hp.keep,hp.slot⟩
      cases o with
      | r s1 =>
        obtain⟨y',hy,hyo⟩:=aa8 (show Option.map _ _=some _ from ho)
        cases hyo
        cases (show some y'=some r from h)
        exact⟨.r (unm s s1),hy,λhro hr=>bi_ ((hto hro.s1 (Rl.maskJ hr)).mono (λf w ⟨q,e,_⟩=>by cases e) (λf w ⟨q,e,hp⟩=>by cases e;exact⟨_,rfl,(back hp).sub sa⟩) λi f w ⟨q,e,_⟩=>by cases e)⟩
      | x i s1 =>
        obtain⟨y',hy,hyo⟩:=aa8 (show Option.map _ _=some _ from ho)
        cases hyo
        cases (show some y'=some r from h)
        exact⟨.x i (unm s s1),hy,λhro hr=>bi_ ((hto hro.s1 (Rl.maskJ hr)).mono (λf w ⟨q,e,_⟩=>by cases e) (λf w ⟨q,e,_⟩=>by cases e) λj f w ⟨q,e,hp⟩=>by cases e;exact⟨_,rfl,(back hp).sub sa⟩)⟩
      | n s1 =>
        obtain⟨d,hy,hyo⟩:=aa8 (show Option.map _ _=some _ from ho)
        cases hyo
        obtain⟨o2,ho2,hto2⟩:=ihb y ρ _ kN kR kX r h
        refine⟨o2,ho2,two (λhro hr=>(hto hro (Rl.maskJ hr)).mono (λf w ⟨q,e,hp⟩ => ?_) (λf w ⟨q,e,_⟩=>by cases e) λi f w ⟨q,e,_⟩=>by cases e) hto2⟩
        cases e
        obtain⟨k5,kl,k6⟩:=cu6 hok.1.1 hp.keep
        exact af5 hr hok.1.1 hok.1.2 hok.2 hp.rl hp.slot k5 kl k6 hy
    | j0 σ0 x y =>
      obtain⟨σ,_,h⟩:=bnd h
      have h:cond (okA s (eo_ a) σ) ((hj_ cx n a x (br_ σ) ⟨s.slot,maskJ σ (mvS s.slot s.objs σ) 0 s.objs⟩ (sa_ σ s (mvS s.slot s.objs σ)) (λ_=>none) (λ_ _=>none)).bind λd =>
        hj_ cx n b y ρ (gp_ false (eo_ a) σ (mvS s.slot s.objs σ) s d) kN kR kX) none=some r:=h
      obtain⟨hok,h⟩:=bo_ h
      simp only[okA,a1_] at hok
      obtain⟨d,h1,h⟩:=bnd h
      obtain⟨o,ho,hto⟩:=iha x (br_ σ) _ _ _ _ d h1
      cases o with
      | r s1=>cases ho
      | x i s1=>cases ho
      | n s1 =>
        obtain⟨o2,ho2,hto2⟩:=ihb y ρ _ kN kR kX r h
        refine⟨o2,ho2,two (λhro hr=>(hto hro (Rl.maskJ hr)).mono (λf w ⟨q,e,hp⟩ => ?_) (λf w ⟨q,e,_⟩=>by cases e) λi f w ⟨q,e,_⟩=>by cases e) hto2⟩
        cases e
        obtain⟨k5,kl,k6⟩:=cu6 hok.1.1 hp.keep
        exact af5 hr hok.1.1 hok.1.2 hok.2 hp.rl hp.slot k5 kl k6 ho
  | loop c =>
    have ih:=IH c (by simp at hN;omega)
    intro an ρ s kN kR kX r h
    have head:∀ {S0:PH} {hv0:Nat→Value} {ob0:List AO} {Fm:List HP} {f:Fr} {w:World},Rl S0 hv0 ob0 Fm s f w→∀ {vs ws os:List Sp1} {d:br_ (vs++os)} {asg:List Nat},okA s asg (vs++os)=true→okS s.objs (ws++os)=true→okV asg (ws++os)=true→noO vs=true→noO ws=true→asg=eo_ c →
        ∀ {s':A} {f':Fr} {w':World},Po S0 hv0 ob0 Fm asg (gp_ true asg (vs++os) (mvS s.slot s.objs (vs++os)) s d) s' f' w' →
        (∀ y,sa_ (vs++os) s (mvS s.slot s.objs (vs++os)) s'=some y→Rl S0 hv0 ob0 Fm (gp_ true asg (vs++os) (mvS s.slot s.objs (vs++os)) s y) f' w') ∧
        (∀ y,sa_ (ws++os) s (mvS s.slot s.objs (vs++os)) s'=some y→Po S0 hv0 ob0 Fm asg s (gp_ false asg (ws++os) (mvS s.slot s.objs (vs++os)) s y) f' w'):=by
      intro S0 hv0 ob0 Fm f w hr vs ws os d asg hA hS hV n1 n2 ea s' f' w' hp
      simp only[okA,a1_] at hA
      obtain⟨k5,kl,k6⟩:=bd0 hA.1.1 (λj Y st ro hm e=>by
        have:=bg_ hA.2 j (rp_ hm)
        simp only[e] at this
        cases this) hp.keep
      have h4:∀ e,inL e asg=false→s'.slot e=s.slot e:=λe he=>(hp.slot e he).trans (kz_ hA.1.2 he)
      obtain⟨S,hv,Ds,hle,hag,hbl,hs,hds⟩:=id hr
      refine⟨λy hy=>an1 hbl hs.wfs hs.wfo hp.rl h4 k5 kl k6 hy,λy hy=>af5 hr hS hV hA.2 hp.rl h4 (λj a b ha hb hc=>k5 j a b ha hb ?_) kl ⟨λo ks T c ro T' c' ro' hm=>k6.1 o ks T c ro T' c' ro' ?_,k6.2⟩ hy⟩
      · rw[qp_,iy_ n2] at hc
        rw[qp_,iy_ n1]
        exact hc
      · rcases b5_.1 hm with h1 | h1
        · exact absurd h1 (xx_ n2)
        · exact b5_.2 (.inr h1)
    have start:∀ {S0:PH} {hv0:Nat→Value} {ob0:List AO} {Fm:List HP} {f:Fr} {w:World},Rl S0 hv0 ob0 Fm s f w→∀ {es:List Sp1} {d:br_ es},okS s.objs es=true→sa_ es s (mvS s.slot s.objs es) s=some d→Rl S0 hv0 ob0 Fm (gp_ true (eo_ c) es (mvS s.slot s.objs es) s d) f w:=by
      intro S0 hv0 ob0 Fm f w hr es d hok hd
      obtain⟨S,hv,Ds,hle,hag,hbl,hs,hds⟩:=id hr
      refine an1 hbl hs.wfs hs.wfo hr (λ_ _=>rfl) (λj a b ha hb _ _ _=>by rw[ha] at hb;cases hb;exact OHeq.refl _) (c3_ _) ⟨λo ks T c ro T' c' ro' hm ho hr' => ?_,λo Y st ro Y' st' ro' ho hr'=>by rw[ho] at hr';cases hr';rfl⟩ hd
      rw[ho] at hr'
      cases hr'
      exact⟨rfl,ro_ ks c c 0 (bt1 hok hm ho) rfl λ_ _ _=>rfl⟩
    cases an with
    | z=>cases h
    | p x y=>cases h
    | q ns x y=>cases h
    | j0 σ x y=>cases h
    | js σ x y=>cases h
    | rf ds x y=>cases h
    | mp _ _ _ _ _=>cases h
    | sp k m=>cases h
    | lp vs0 ws0 os0 b x =>
      obtain⟨vs,_,h⟩:=bnd h
      obtain⟨ws,_,h⟩:=bnd h
      obtain⟨os,_,h⟩:=bnd h
      have h:cond (okA s (eo_ c) (vs++os)&&okS s.objs (ws++os)&&okV (eo_ c) (ws++os)&&noO vs&&noO ws)
        ((sa_ (vs++os) s (mvS s.slot s.objs (vs++os)) s).bind λd0 =>
          (af_ (λd=>hj_ cx n c x (br_ (vs++os)⊕br_ (ws++os)) (gp_ true (eo_ c) (vs++os) (mvS s.slot s.objs (vs++os)) s d)
            (λs'=>(sa_ (vs++os) s (mvS s.slot s.objs (vs++os)) s').map .inl) (λ_=>none)
            (λi s'=>cond (Nat.beq i b) ((sa_ (ws++os) s (mvS s.slot s.objs (vs++os)) s').map .inr) none)) d0).bind λd =>
          kX b (gp_ false (eo_ c) (ws++os) (mvS s.slot s.objs (vs++os)) s d)) none=some r:=h
      obtain⟨hok,h⟩:=bo_ h
      simp only[a1_] at hok
      obtain⟨⟨⟨⟨o1,o2⟩,o3⟩,o4⟩,o5⟩:=hok
      obtain⟨d0,g1,h⟩:=bnd h
      obtain⟨out,g2,h⟩:=bnd h
      have oS:okS s.objs (vs++os)=true:=by simp only[okA,a1_] at o1;exact o1.1.1
      refine⟨.x b (gp_ false (eo_ c) (ws++os) (mvS s.slot s.objs (vs++os)) s out),h,λ{ro S0 hv0 ob0 Fm f w} hro hr => ?_⟩
      refine ak8 (λd f w=>Rl S0 hv0 ob0 Fm (gp_ true (eo_ c) (vs++os) (mvS s.slot s.objs (vs++os)) s d) f w) g2 (start hr oS g1) λd f1 w1 o hI hbody hout => ?_
      obtain⟨oo,ho,hto⟩:=ih x _ _ _ _ _ o hbody
      refine (hto hro.l hI).mono (λf' w' ⟨s',e,hp⟩ => ?_) (λf' w' ⟨s',e,hp⟩ => ?_) λi f' w' ⟨s',e,hp⟩ => ?_
      · subst e
        obtain⟨y,hy,hyo⟩:=aa8 (show Option.map _ _=some _ from ho)
        exact⟨y,hyo.symm,(head hr o1 o2 o3 o4 o5 rfl hp).1 y hy⟩
      · subst e;cases ho
      · subst e
        obtain⟨hi,hk2⟩:=bo_ (show cond (Nat.beq i b) _ none=some o from ho)
        obtain⟨y,hy,hyo⟩:=aa8 hk2
        have e1:=hout y hyo.symm
        refine⟨gp_ false (eo_ c) (ws++os) (mvS s.slot s.objs (vs++os)) s y,?_,(head hr o1 o2 o3 o4 o5 rfl hp).2 y hy⟩
        rw[a3_ hi,e1]
    | ls vs0 ws0 os0 b x =>
      obtain⟨vs,_,h⟩:=bnd h
      obtain⟨ws,_,h⟩:=bnd h
      obtain⟨os,_,h⟩:=bnd h
      have h:cond (okA s (eo_ c) (vs++os)&&okS s.objs (ws++os)&&okV (eo_ c) (ws++os)&&noO vs&&noO ws)
        ((sa_ (vs++os) s (mvS s.slot s.objs (vs++os)) s).bind λd0 =>
          (af_ (λd=>hj_ cx n c x (br_ (vs++os)⊕(br_ (ws++os)⊕ρ)) (gp_ true (eo_ c) (vs++os) (mvS s.slot s.objs (vs++os)) s d)
            (λs'=>(sa_ (vs++os) s (mvS s.slot s.objs (vs++os)) s').map .inl) (λs'=>(kR (unm s s')).map λr=>.inr (.inr r))
            (λi s'=>cond (Nat.beq i b) ((sa_ (ws++os) s (mvS s.slot s.objs (vs++os)) s').map λy=>.inr (.inl y)) ((kX i (unm s s')).map λr=>.inr (.inr r)))) d0).bind fun
          | .inl d=>kX b (gp_ false (eo_ c) (ws++os) (mvS s.slot s.objs (vs++os)) s d)
          | .inr r=>some r) none=some r:=h
      obtain⟨hok,h⟩:=bo_ h
      simp only[a1_] at hok
      obtain⟨⟨⟨⟨o1,o2⟩,o3⟩,o4⟩,o5⟩:=hok
      obtain⟨d0,g1,h⟩:=bnd h
      obtain⟨out,g2,h⟩:=bnd h
      have oS:okS s.objs (vs++os)=true:=by simp only[okA,a1_] at o1;exact o1.1.1
      have oV:okV (eo_ c) (vs++os)=true:=by simp only[okA,a1_] at o1;exact o1.1.2
      have oM:okM s.objs (mvS s.slot s.objs (vs++os))=true:=by simp only[okA,a1_] at o1;exact o1.2
      have back:∀ {S0:PH} {hv0:Nat→Value} {ob0:List AO} {Fm:List HP} {d:br_ (vs++os)} {s':A} {f':Fr} {w':World},Po S0 hv0 ob0 Fm (eo_ c) (gp_ true (eo_ c) (vs++os) (mvS s.slot s.objs (vs++os)) s d) s' f' w'→Po S0 hv0 ob0 Fm (eo_ c) s (unm s s') f' w':=λhp =>
        ⟨hp.rl.unm,cn7 oS oM hp.keep,λe he=>(hp.slot e he).trans (kz_ oV he)⟩
      generalize hbd : (fun d => hj_ cx n c x (br_ (vs ++ os) ⊕ (br_ (ws ++ os) ⊕ ρ)) (gp_ true (eo_ c) (vs ++ os) (mvS s.slot s.objs (vs ++ os)) s d)
            (λs'=>(sa_ (vs++os) s (mvS s.slot s.objs (vs++os)) s').map .inl) (λs'=>(kR (unm s s')).map λr=>.inr (.inr r))
            (λi s'=>cond (Nat.beq i b) ((sa_ (ws++os) s (mvS s.slot s.objs (vs++os)) s').map λy=>.inr (.inl y)) ((kX i (unm s s')).map λr=>.inr (.inr r))))=body at g2
      obtain⟨k0,gk⟩:=ho_.1 g2
      have hlast:=ap1 gk
      generalize hdl:bk5 body k0 d0=dl at hlast
      have hl2:=hlast
      rw[← hbd] at hl2
      obtain⟨ol,hol,htol⟩:=ih x _ _ _ _ _ _ hl2
      have walk:∀ (o:Out),(∀ s',ol = .r s'→o = .r (unm s s'))→(∀ i s',ol = .x i s'→Nat.beq i b=false→o = .x i (unm s s')) →
          (∀ i s' y,ol = .x i s'→Nat.beq i b=true→sa_ (ws++os) s (mvS s.slot s.objs (vs++os)) s'=some y→o = .x b (gp_ false (eo_ c) (ws++os) (mvS s.slot s.objs (vs++os)) s y))→To P n (.loop c) s o:=by
        intro o w1 w2 w3 ro S0 hv0 ob0 Fm f w hro hr
        refine ak8 (λd f w=>Rl S0 hv0 ob0 Fm (gp_ true (eo_ c) (vs++os) (mvS s.slot s.objs (vs++os)) s d) f w∧∃ k,fk_ body k d=some out∧bk5 body k d=dl) g2 ⟨start hr oS g1,k0,gk,hdl⟩ λd f1 w1' oS1 hI hbody hout => ?_
        obtain⟨hI,k,hk1,hk2⟩:=hI
        cases k with
        | zero=>simp[fk_] at hk1
        | succ k =>
          unfold fk_ at hk1
          unfold bk5 at hk2
          rw[hbody] at hk1 hk2
          cases oS1 with
          | inl d' =>
            have hb2:=hbody
            rw[← hbd] at hb2
            obtain⟨oo,ho,hto⟩:=ih x _ _ _ _ _ _ hb2
            refine (hto hro.l hI).mono (λf' w' ⟨s',e,hp⟩ => ?_) (λf' w' ⟨s',e,hp⟩ => ?_) λi f' w' ⟨s',e,hp⟩ => ?_
            · subst e
              obtain⟨y,hy,hyo⟩:=aa8 (show Option.map _ _=some _ from ho)
              cases hyo
              exact⟨d',rfl,(head hr o1 o2 o3 o4 o5 rfl hp).1 d' hy,k,hk1,hk2⟩
            · subst e
              obtain⟨y,hy,hyo⟩:=aa8 (show Option.map _ _=some _ from ho)
              cases hyo
            · subst e
              have ho:cond (Nat.beq i b) ((sa_ (ws++os) s (mvS s.slot s.objs (vs++os)) s').map λy=>Sum.inr (Sum.inl y)) ((kX i (unm s s')).map λr=>Sum.inr (Sum.inr r))=some (Sum.inl d'):=ho
              cases hi:Nat.beq i b with
              | true=>rw[hi] at ho;obtain⟨y,hy,hyo⟩:=aa8 (show Option.map _ _=some _ from ho);cases hyo
              | false=>rw[hi] at ho;obtain⟨y,hy,hyo⟩:=aa8 (show Option.map _ _=some _ from ho);cases hyo
          | inr o' =>
            have ed:d=dl:=hk2
            subst ed
            refine (htol hro.l hI).mono (λf' w' ⟨s',e,hp⟩ => ?_) (λf' w' ⟨s',e,hp⟩=>⟨_,w1 s' e,back hp⟩) λi f' w' ⟨s',e,hp⟩ => ?_
            · subst e
              obtain⟨y,hy,hyo⟩:=aa8 (show Option.map _ _=some _ from hol)
              cases hyo
            · cases hi:Nat.beq i b with
              | false=>exact⟨_,w2 i s' e hi,back hp⟩
              | true =>
                subst e
                have ho:cond (Nat.beq i b) ((sa_ (ws++os) s (mvS s.slot s.objs (vs++os)) s').map λy=>Sum.inr (Sum.inl y)) ((kX i (unm s s')).map λr=>Sum.inr (Sum.inr r))=some (Sum.inr out):=hol
                rw[hi] at ho
                obtain⟨y,hy,hyo⟩:=aa8 (show Option.map _ _=some _ from ho)
                have:=w3 i s' y rfl hi hy
                rw[a3_ hi]
                exact⟨_,this,(head hr o1 o2 o3 o4 o5 rfl hp).2 y hy⟩
      cases ol with
      | n s' =>
        obtain⟨y,hy,hyo⟩:=aa8 (show Option.map _ _=some _ from hol)
        cases hyo
      | r s' =>
        obtain⟨y,hy,hyo⟩:=aa8 (show Option.map _ _=some _ from hol)
        cases hyo
        obtain rfl:y=r:=a6_ h
        exact⟨.r (unm s s'),hy,walk _ (λq e=>by cases e;rfl) (λi q e=>by cases e) λi q y e=>by cases e⟩
      | x i s' =>
        have ho:cond (Nat.beq i b) ((sa_ (ws++os) s (mvS s.slot s.objs (vs++os)) s').map λy=>Sum.inr (Sum.inl y)) ((kX i (unm s s')).map λr=>Sum.inr (Sum.inr r))=some (Sum.inr out):=hol
        cases hi:Nat.beq i b with
        | true =>
          rw[hi] at ho
          obtain⟨y,hy,hyo⟩:=aa8 (show Option.map _ _=some _ from ho)
          cases hyo
          exact⟨.x b (gp_ false (eo_ c) (ws++os) (mvS s.slot s.objs (vs++os)) s y),h,walk _ (λq e=>by cases e) (λj q e hj=>by cases e;rw[hi] at hj;cases hj) λj q y' e hj hy'=>by cases e;rw[hy] at hy';cases hy';rfl⟩
        | false =>
          rw[hi] at ho
          obtain⟨y,hy,hyo⟩:=aa8 (show Option.map _ _=some _ from ho)
          cases hyo
          obtain rfl:y=r:=a6_ h
          exact⟨.x i (unm s s'),hy,walk _ (λq e=>by cases e) (λj q e hj=>by cases e;rfl) λj q y' e hj=>by cases e;rw[hi] at hj;cases hj⟩
  | rangeFunc g ps assign body =>
    intro an ρ s kN kR kX r h
    cases an with
    | sp k m=>cases h
    | rf ds x y=>exact br4 h
    | _=>cases h
  | _=>intro an ρ s kN kR kX r h;cases h
theorem yq_ (c:Code) (an:An) (ρ:Type) (s:A) (kN kR:A→Option ρ) (kX:Nat→A→Option ρ) (r:ρ) (h:hj_ cx n c an ρ s kN kR kX=some r):∃ o:Out,o.k kN kR kX=some r∧To P n c s o :=
 bl0 (SizeOf.sizeOf c+1) c (Nat.lt_succ_self _) an ρ s kN kR kX r h
end
end
section
variable [Gb]
section
variable {ρ:Type}
def resL (P:Program) [Tb P]:List ResultVar→A→(List AV→Option ρ)→Option ρ
 | [],_,k=>k []
 | .tmp t::rs,s,k=>resL P rs s λl=>k (s.slot t::l)
 | .cell a T::rs,s,k=>bw3 P T (s.slot a) s.objs λv=>resL P rs s λl=>k (v::l)
def toBs:List AV→Option (List BV)
 | []=>some []
 | .b x::l=>(toBs l).bind λr=>some (x::r)
 | _=>none
def bv3:List AV→Option AV
 | [a]=>some a
 | l=>(toBs l).bind λr=>some (.tup r)
def cg9 (l:List AV) (i:Nat):AV:=(l[i]?).getD (.b .dead)
def okFn (fn:Func) (m:Nat):Bool:=Nat.ble m fn.ntmps&&!(fn.name == "runtime.NumGoroutine")
noncomputable def inlF {P:Program} [Tb P] (cx:Cx P) (an:An) (k:FuncId) (args:List AV) (objs:List AO) (kk:AV→List AO→Option ρ):Option ρ:=(fns P k).bind λfn=>fn.body.bind λc =>
 cond (okFn fn args.length) (hj_ cx fn.ntmps c an ρ ⟨cg9 args,objs⟩ (λs=>resL P fn.results.toList s λl=>(bv3 l).bind λav=>kk av s.objs)
  (λs=>resL P fn.results.toList s λl=>(bv3 l).bind λav=>kk av s.objs) λ_ _=>none) none
end
def capA:(t:Ty)→t.den→Option (List AV)
 | .unit,_=>some []
 | .pair a b,x=>cond a.agg none ((capA b x.2).bind λl=>some (.b (.one (.val a x.1))::l))
 | _,_=>none
def fnA (g:AV) (objs:List AO):Option (FuncId×List AV):=match g with
 | .b (.one (.val (.clo k t) x))=>(capA t x).bind λl=>some (k,l)
 | .b (.one (.fn o))=>match objs[o]? with
  | some (.fn (.func k) [] l)=>some (k,l.map λs=>.b (.one s))
  | _=>none
 | _=>none
section
variable {ρ:Type} {P:Program} [Tb P] {S:PH} {hv:Nat→Value} {Fm:List HP} {r:ρ}
theorem bg3:∀ {t:Ty} {x:t.den} {l:List AV} {ys:List Value},capA t x=some l→t.enc.rep S ys x→Fa (RA hv S) l ys∧∀ n,∀ a ∈ l,a.lt n=true
 | .unit,x,l,ys,h,hr=>by
  cases h
  have hr:ys=[]:=hr
  subst hr
  exact⟨trivial,λ_ a ha=>by cases ha⟩
 | .pair a b,x,l,ys,h,⟨c1,c2,e,r1,r2⟩=>by
  have h:cond a.agg none ((capA b x.2).bind λl=>some (.b (.one (.val a x.1))::l))=some l:=h
  cases h0:a.agg with
  | true=>rw[h0] at h;cases h
  | false =>
   rw[h0] at h
   obtain⟨m,h1,h⟩:=bnd (show Option.bind _ _=some _ from h)
   cases h
   obtain⟨g1,g2⟩:=bg3 h1 r2
   have h3:=uy_ (hv:=hv) h0 r1
   cases c1 with
   | nil=>exact h3.elim
   | cons u c1 =>
    cases c1 with
    | cons _ _=>exact h3.2.elim
    | nil =>
     subst e
     exact⟨⟨h3.1,g1⟩,λn q hq=>by
      rcases d8_.1 hq with rfl | hq
      ·rfl
      ·exact g2 n q hq⟩
 | .int,_,_,_,h,_=>by cases h
 | .bool,_,_,_,h,_=>by cases h
 | .u8,_,_,_,h,_=>by cases h
 | .str,_,_,_,h,_=>by cases h
 | .one _,_,_,_,h,_=>by cases h
 | .list _,_,_,_,h,_=>by cases h
 | .ref _,_,_,_,h,_=>by cases h
 | .clo _ _,_,_,_,h,_=>by cases h
theorem bz6 {sl:Nat→AV} {objs:List AO} {f:Fr} {w:World} {g:AV} {k:FuncId} {l:List AV} {v:Value} (hs:Sit S hv Fm sl objs f w) (h:fnA g objs=some (k,l)) (hr:RA hv S g v) :
  ∃ cap:List Value,v = .func (.func k) #[] cap.toArray∧Fa (RA hv S) l cap∧∀ a ∈ l,a.lt objs=true:=by
 unfold fnA at h
 split at h
 ·rename_i k' t x
  obtain⟨m,h1,h⟩:=bnd h
  cases h
  obtain⟨_,_,cs,⟨ys,e1,e2⟩,e3⟩:=hr
  obtain⟨g1,g2⟩:=bg3 (hv:=hv) h1 e2
  subst e1
  exact⟨ys,e3,g1,g2 objs⟩
 ·rename_i o
  split at h
  ·rename_i k' m ho
   cases h
   obtain⟨L,hI,_⟩:=hs.at ho
   obtain⟨hh,⟨h0,xs,ys,e1,e2,e3⟩,_⟩:=hI.open_
   have e4:v=hv o:=hr.2
   cases xs with
   | cons _ _=>exact e2.elim
   | nil =>
    refine⟨ys,e4.trans e1,?_,λa ha => ?_⟩
    ·have gen:∀ {m:List SV} {ys:List Value},Fa (RS hv S) m ys→Fa (RA hv S) (m.map λs=>AV.b (.one s)) ys:=by
      intro m
      induction m with
      | nil=>intro ys h;cases ys with
       | nil=>trivial
       | cons _ _=>exact h.elim
      | cons s m ih=>intro ys h;cases ys with
       | nil=>exact h.elim
       | cons y ys=>exact⟨h.1,ih h.2⟩
     exact gen e3
    ·obtain⟨s,hs1,rfl⟩:=d2_.1 ha
     have:=hs.wfo _ (b2_ ho)
     simp only[AO.lt,a1_] at this
     exact bg_ this.2 s hs1
  ·cases h
 ·cases h
theorem cn4 {T:TypeId} {v u:Value} {w:World} (h:(Instr.loadAt T v).run P w = .ok u w):(do loadVar T (← asAddr v):Sem Value).run P w = .ok u w:=by
 have hp:∃ a,v = .pointer (some a):=by
  cases v with
  | pointer a=>cases a with
   | some a=>exact⟨a,rfl⟩
   | none=>simp[Instr.loadAt,Instr.sureAddr] at h
  | _=>simp[Instr.loadAt,Instr.sureAddr] at h
 obtain⟨a,rfl⟩:=hp
 simpa [Instr.loadAt,Instr.sureAddr,asAddr] using h
theorem au5:∀ {rs:List ResultVar} {s:A} {k:List AV→Option ρ},resL P rs s k=some r→∃ l,k l=some r∧(WfS s.slot s.objs→WfO s.objs→∀ a ∈ l,a.lt s.objs=true) ∧
  ∀ {S:PH} {hv:Nat→Value} {Fm:List HP} {f:Fr} {w:World},Sit S hv Fm s.slot s.objs f w→∃ vs,Fa (RA hv S) l vs∧∀ tm:Array Value,(∀ i,tm.getD i undef=f i)→(rs.mapM fun
   | .tmp t=>pure (tm.getD t undef)
   | .cell a t=>do loadVar t (← asAddr (tm.getD a undef)):Sem (List Value)).run P w = .ok vs w
 | [],s,k,h=>⟨[],h,λ_ _ a ha=>(by cases ha),λhs=>⟨[],trivial,λ_ _=>rfl⟩⟩
 | .tmp t::rs,s,k,h=>by
  obtain⟨l,h1,h2,h4⟩:=au5 (rs:=rs) h
  refine⟨_,h1,λa b x hx => ?_,λ{S hv Fm f w} hs => ?_⟩
  ·rcases d8_.1 hx with rfl | hx
   ·exact a t
   ·exact h2 a b x hx
  ·obtain⟨vs,g2,g1⟩:=h4 hs
   refine⟨f t::vs,⟨hs.rel t,g2⟩,λtm ht => ?_⟩
   rw[List.mapM_cons]
   simp only[Sem.run_bind,Sem.run_pure,Result.andThen_ok,g1 tm ht,ht t]
 | .cell a T::rs,s,k,h=>by
  obtain⟨v,h0,hl,hv0⟩:=bc5 (show bw3 P T (s.slot a) s.objs _=some r from h)
  obtain⟨l,h1,h2,h4⟩:=au5 (rs:=rs) h0
  refine⟨_,h1,λa b x hx => ?_,λ{S hv Fm f w} hs => ?_⟩
  ·rcases d8_.1 hx with rfl | hx
   ·exact hl b
   ·exact h2 a b x hx
  ·obtain⟨vs,g2,g1⟩:=h4 hs
   obtain⟨u,e1,e2⟩:=hv0 hs (hs.rel a)
   refine⟨u::vs,⟨e2,g2⟩,λtm ht => ?_⟩
   have e3:=cn4 e1
   rw[List.mapM_cons]
   simp only[Sem.run_bind] at e3
   simp only[Sem.run_bind,ht a,e3,Sem.run_pure,Result.andThen_ok,g1 tm ht]
theorem bn6:∀ {l:List AV} {bs:List BV} {vs:List Value},toBs l=some bs→Fa (RA hv S) l vs→Fa (RB hv S) bs vs∧∀ n,(∀ a ∈ l,a.lt n=true)→fb_ (BV.lt n) bs=true
 | [],bs,[],h,_=>by cases h;exact⟨trivial,λ_ _=>rfl⟩
 | .b x::l,bs,v::vs,h,hf=>by
  obtain⟨q,h1,h⟩:=bnd h
  cases h
  obtain⟨g1,g2⟩:=bn6 h1 hf.2
  refine⟨⟨hf.1,g1⟩,λn hn => ?_⟩
  simp only[fb_,a1_]
  exact⟨hn (.b x) (by simp),g2 n λa ha=>hn a (by simp[ha])⟩
 | .tup t::l,bs,v::vs,h,hf=>by cases h
theorem cm5 {l:List AV} {av:AV} {vs:List Value} (h:bv3 l=some av) (hf:Fa (RA hv S) l vs):RA hv S av (if h:vs.toArray.size=1 then vs.toArray[0] else .tuple vs.toArray)∧∀ n,(∀ a ∈ l,a.lt n=true)→av.lt n=true:=by
 unfold bv3 at h
 split at h
 ·rename_i a
  cases h
  match vs,hf with
  | [v],hf=>exact⟨hf.1,λn hn=>hn av (by simp)⟩
 ·rename_i hne
  obtain⟨bs,h1,h⟩:=bnd h
  cases h
  obtain⟨g1,g2⟩:=bn6 h1 hf
  have hl:¬ vs.toArray.size=1:=by
   intro e
   have:=hf.len
   match l,this,hne with
   | [a],_,hne=>exact hne a rfl
   | [],h,_=>simp at e;simp at h;omega
   | _::_::_,h,_=>simp at e;simp at h;omega
  rw[dif_neg hl]
  exact⟨⟨vs,rfl,g1⟩,g2⟩
end
end
section
variable [Gb]
theorem ca7 {α β:Type} {R:α→β→Prop} {l l':List α} {m m':List β} (h:Fa R l m) (k:Fa R l' m'):Fa R (l++l') (m++m'):=Fa.app h k
theorem ce5 {hv:Nat→Value} {S:PH}:∀ {l:List AV} {vs:List Value},Fa (RA hv S) l vs→∀ i,RA hv S (cg9 l i) (fr0 vs i)
 | [],[],_,i=>by simp[cg9];trivial
 | a::l,v::vs,h,0=>h.1
 | a::l,v::vs,h,i+1=>by
  have e:cg9 (a::l) (i+1)=cg9 l i:=by simp[cg9]
  rw[e]
  exact ce5 h.2 i
theorem argS_lt {l:List AV} {n:List AO} (h:∀ a ∈ l,a.lt n=true) (i:Nat):(cg9 l i).lt n=true:=by
 unfold cg9
 cases hi:l[i]? with
 | none=>rfl
 | some a=>exact h a (b2_ hi)
noncomputable def callI {ρ:Type} {P:Program} [Tb P] (cx:Cx P) (an:FuncId→An) (o:Oper) (sl:Nat→AV) (objs:List AO) (k:AV→List AO→Option ρ):Option ρ:=match o.op with
 | .call ⟨.value g,⟨args⟩,_⟩=>(fnA (evA sl g) objs).bind λq=>inlF cx (an q.1) q.1 (args.map (evA sl)++q.2) objs k
 | _=>none
section
variable {ρ:Type} {P:Program} [Tb P] {cx:Cx P}
theorem ah7 {an:An} {fk:FuncId} {avs:List AV} {objs:List AO} {k:AV→List AO→Option ρ} {r:ρ} (h:inlF cx an fk avs objs k=some r):eh_ P fk∧∃ av objs',k av objs'=some r ∧
  ∀ {S:PH} {hv:Nat→Value} {Fm:List HP} {w:World} {vs:List Value},GlS S→Inv w S (OHs hv 0 objs++Fm)→WfO objs→Fa (RA hv S) avs vs→(∀ a ∈ avs,a.lt objs=true) →
   Calls P fk vs.toArray w λe w'=>∃ v S' hv',e = .returned v∧BLe objs objs'∧Keep objs objs'∧WfO objs'∧av.lt objs'=true∧S.Le S'∧Ag objs hv hv'∧RA hv' S' av v∧Inv w' S' (OHs hv' 0 objs'++Fm):=by
 obtain⟨fn,hfn,h⟩:=bnd h
 have hfn:=cv4 hfn
 obtain⟨c,hc,h⟩:=bnd h
 obtain⟨hok,h⟩:=bo_ h
 simp only[okFn,a1_,l1_] at hok
 refine⟨⟨fn,hfn,by rw[hc];rfl,hok.2⟩,?_⟩
 obtain⟨out,ho,hto⟩:=yq_ c an ρ _ _ _ _ r h
 have main:∀ (s1:A),(resL P fn.results.toList s1 λl=>(bv3 l).bind λav=>k av s1.objs)=some r→(out = .n s1∨out = .r s1) →
   ∃ av objs',k av objs'=some r∧∀ {S:PH} {hv:Nat→Value} {Fm:List HP} {w:World} {vs:List Value},GlS S→Inv w S (OHs hv 0 objs++Fm)→WfO objs→Fa (RA hv S) avs vs→(∀ a ∈ avs,a.lt objs=true) →
   Calls P fk vs.toArray w λe w'=>∃ v S' hv',e = .returned v∧BLe objs objs'∧Keep objs objs'∧WfO objs'∧av.lt objs'=true∧S.Le S'∧Ag objs hv hv'∧RA hv' S' av v∧Inv w' S' (OHs hv' 0 objs'++Fm):=by
  intro s1 h1 hout
  obtain⟨rl,g1,g2,g4⟩:=au5 h1
  obtain⟨av,g5,g6⟩:=bnd g1
  refine⟨av,s1.objs,g6,?_⟩
  intro S hv Fm w vs hG hI hw hargs hlt
  have hlen:=hargs.len
  refine ar1 (n:=fn.ntmps) hfn hc rfl (by rw[← hlen];exact hok.1) ?_
  have hr:Rl S hv objs Fm ⟨cg9 avs,objs⟩ (fr0 vs) w :=
   ⟨S,hv,[],PH.Le.refl _,λ_ _=>rfl,BLe.refl _,⟨(Inv.noD hI).perm List.perm_middle.symm,ce5 hargs,argS_lt hlt,hw,hG⟩,rfl⟩
  have fin:∀ (f':Fr) (w':World),Po S hv objs Fm (eo_ c) ⟨cg9 avs,objs⟩ s1 f' w'→RetM P fn fn.ntmps (λe w'=>∃ v S' hv',e = .returned v∧BLe objs s1.objs∧Keep objs s1.objs∧WfO s1.objs∧av.lt s1.objs=true∧S.Le S'∧Ag objs hv hv'∧RA hv' S' av v∧Inv w' S' (OHs hv' 0 s1.objs++Fm)) f' w':=by
   intro f' w' hp
   obtain⟨S',hv',Ds,hle,hag,hbl,hs0,hds⟩:=hp.rl
   refine ret_m (O:=OHs hv' 0 s1.objs++Fm) hds (hs0.inv.perm c9_) λw2 hI2 => ?_
   have hs':Sit S' hv' Fm s1.slot s1.objs f' w2:=⟨hI2,hs0.rel,hs0.wfs,hs0.wfo,hs0.gl⟩
   obtain⟨vs,q2,q1⟩:=g4 hs'
   obtain⟨q3,q4⟩:=cm5 g5 q2
   refine⟨_,λa ha => ?_,_,S',hv',rfl,hbl,hp.keep,hs'.wfo,q4 _ (g2 hs'.wfs hs'.wfo),hle,hag,q3,hs'.inv⟩
   unfold results
   rw[Sem.run_bind,Array.mapM_eq_mapM_toList,map_eq_pure_bind,Sem.run_bind]
   exact congrArg (λz:Result (List Value)=>(z.andThen λa w'=>Sem.run P (pure a.toArray) w').andThen λa w'=>Sem.run P (pure (if h:a.size=1 then a[0] else Value.tuple a)) w') (q1 a.tmps ha.at_)
  refine (hto (λe=>absurd rfl e) hr).mono (λf' w' ⟨q,e,hp⟩ => ?_) (λf' w' ⟨q,e,hp⟩ => ?_) λi f' w' ⟨q,e,hp⟩ => ?_
  ·rcases hout with h | h
   ·rw[h] at e;cases e;exact fin f' w' hp
   ·rw[h] at e;cases e
  ·rcases hout with h | h
   ·rw[h] at e;cases e
   ·rw[h] at e;cases e;exact fin f' w' hp
  ·rcases hout with h | h<;>rw[h] at e<;>cases e
 cases out with
 | n s1=>exact main s1 ho (.inl rfl)
 | r s1=>exact main s1 ho (.inr rfl)
 | x i s1=>cases ho
variable {an:FuncId→An}
theorem cq2 {o:Oper} {sl:Nat→AV} {objs:List AO} {k:AV→List AO→Option ρ} {r:ρ} (h:callI cx an o sl objs k=some r):∃ av objs',k av objs'=some r∧OpUn P o sl objs av objs':=by
 obtain⟨dd,op,ty,pos,af,gd⟩:=o
 unfold callI at h
 simp only at h
 split at h
 ·rename_i g args ct
  obtain⟨⟨fk,l⟩,hq,h⟩:=bnd h
  obtain⟨hcall,av,objs',h1,h2⟩:=ah7 h
  refine⟨av,objs',h1,?_⟩
  intro S hv Fm f w n ro K hs hd kk
  obtain⟨cap,e1,e2,e3⟩:=bz6 hs hq (hs.ev g)
  have hargs:Fa (RA hv S) (args.map (evA sl)++l) (args.map (ev f)++cap):=ca7 (ai8 hs args) e2
  have hlt:∀ a ∈ args.map (evA sl)++l,a.lt objs=true:=λa ha=>by
   rcases b5_.1 ha with h1 | h1
   ·obtain⟨x,_,rfl⟩:=d2_.1 h1
    exact ik_ hs.wfs x
   ·exact e3 a h1
  refine mz_ (k:=fk) (vs:=(args.map (ev f)++cap).toArray) (sh_ hcall e1 (by simp)) (h2 hs.gl hs.inv hs.wfo hargs hlt) λe w' ⟨v,S',hv',he,g1,g2,g3,g4,g5,g6,g7,g8⟩ => ?_
  exact⟨v,he,hd,kk v S' hv' w' g1 g2 g3 g4 g5 g6 g7 g8⟩
 ·cases h
def mvFn {ρ:Type} (fr m:Nat) (k:AV→List AO→Option ρ) (av:AV) (objs:List AO):Option ρ:=match av with
 | .b (.one (.fn o))=>match objs[o]? with
  | some (.fn f a b)=>cond (isUn objs fr) (k (.b (.one (.fn fr))) (objs.set fr (.fn f a b))) (k av objs)
  | _=>k av objs
 | .b (.one (.row o))=>match objs[o]? with
  | some (.row t T l false)=>cond (isUn objs fr&&Nat.ble m o) (k (.b (.one (.row fr))) ((objs.set o .gone).set fr (.row t T l false))) (k av objs)
  | _=>k av objs
 | _=>k av objs
theorem mvFn_ok {o:Oper} {sl:Nat→AV} {objs objs':List AO} {fr m:Nat} {av:AV} {k:AV→List AO→Option ρ} {r:ρ} (h:mvFn fr m k av objs'=some r) (hu:OpUn P o sl objs av objs'):∃ av2 ob2,k av2 ob2=some r∧OpUn P o sl objs av2 ob2:=by
 unfold mvFn at h
 split at h
 ·rename_i o2
  split at h
  ·rename_i f0 a b hf
   cases hi:isUn objs' fr with
   | false=>rw[hi] at h;exact⟨_,_,h,hu⟩
   | true =>
    rw[hi] at h
    refine⟨_,_,h,?_⟩
    intro S hv Fm f w n ro K hs hd kk
    have hn:=cg_ hi
    refine hu hs hd λv S' hv' w' b1 b2 b3 b4 b5 b6 b7 b8 => ?_
    have hl:(AO.fn f0 a b).lt objs'=true:=b3 _ (b2_ hf)
    have hag:=ng_ (hv:=hv') (v:=v) hn
    have hb:Ag objs' (ins hv' fr v) hv':=λi h=>(hag i h).symm
    have e:OH (ins hv' fr v) v (.fn f0 a b)=OH hv' (hv' o2) (.fn f0 a b):=by
     rw[← OH.ag hag hb hl]
     exact congrArg (λz=>OH hv' z (.fn f0 a b)) b7.2
    have hi2:Inv w' S' (OH (ins hv' fr v) v (.fn f0 a b)::(OHs hv' 0 objs'++Fm)):=by
     rw[e]
     obtain⟨L,h1,h2⟩:=OHs.focus (hv:=hv') (i:=0) hf
     rw[b0_] at h1
     obtain⟨q,hq,_⟩:=(b8.perm (h1.append_right Fm)).open_
     have hq0:q=Hp.emp:=hq.1
     refine Inv.shut (k:=q) ?_ hq
     rw[hq0]
     exact lf_ b8
    exact kk v S' (ins hv' fr v) w' (b1.trans (be_ (by simp))) (b2.trans (cd_ hn trivial)) (dx_ (by simp) b3 (AO.lt_mono (be_ (by simp)) hl)) (iu_ hi (by simp)) b5 (b6.trans (hag.sub b1)) ⟨b7.1,(cn_ _ _ _).symm⟩ (gx_ b3 hn hi2)
  ·exact⟨_,_,h,hu⟩
 ·rename_i o2
  split at h
  ·rename_i t T l hf
   cases hi:(isUn objs' fr&&Nat.ble m o2) with
   | false=>rw[hi] at h;exact⟨_,_,h,hu⟩
   | true =>
    rw[hi] at h
    rw[a1_] at hi
    refine⟨_,_,h,?_⟩
    intro S hv Fm f w n ro K hs hd kk
    have hn:=cg_ hi.1
    have hne:o2≠fr:=by
     rintro rfl
     rw[hf] at hn
     cases hn
    have hn2:(objs'.set o2 .gone)[fr]?=some .unborn:=by rw[b7_ hne];exact hn
    have hi2:isUn (objs'.set o2 .gone) fr=true:=by unfold isUn;rw[hn2]
    refine hu hs hd λv S' hv' w' b1 b2 b3 b4 b5 b6 b7 b8 => ?_
    have hw2:WfO (objs'.set o2 .gone):=dx_ (by simp) b3 rfl
    have hag:=ng_ (hv:=hv') (v:=v) hn
    have hb2:BLe objs' (objs'.set o2 .gone):=be_ (by simp)
    have hi3:Inv w' S' (OH (ins hv' fr v) v (.row t T l false)::(OHs hv' 0 (objs'.set o2 .gone)++Fm)):=by
     have e:OH (ins hv' fr v) v (.row t T l false)=OH hv' (hv' o2) (.row t T l false):=congrArg (λz=>OH hv' z (.row t T l false)) b7.2
     rw[e]
     obtain⟨L,h1,h2⟩:=OHs.focus (hv:=hv') (i:=0) hf
     rw[b0_] at h1 h2
     have h3:=(lf_ (b8.perm (h1.append_right Fm))).swap
     exact h3.perm (((h2 .gone).symm.append_right Fm).cons _)
    exact kk v S' (ins hv' fr v) w' (b1.trans (hb2.trans (be_ (by simp)))) ((b2.trans (cd_ hf trivial)).trans (cd_ hn2 trivial)) (dx_ (by simp) hw2 rfl) (iu_ hi2 (by simp)) b5 (b6.trans (hag.sub b1)) ⟨b7.1,(cn_ _ _ _).symm⟩ (gx_ hw2 hn2 hi3)
  ·exact⟨_,_,h,hu⟩
 ·exact⟨_,_,h,hu⟩
theorem inlV_ok {an:FuncId→An} {g:AV} {args:List AV} {objs:List AO} {k:AV→List AO→Option ρ} {r:ρ} (h:((fnA g objs).bind λq=>inlF cx (an q.1) q.1 (args++q.2) objs k)=some r):∃ av objs',k av objs'=some r∧cx1 P g args objs av objs':=by
 obtain⟨⟨fk,l⟩,hq,h⟩:=bnd h
 obtain⟨hcall,av,objs',h1,h2⟩:=ah7 h
 refine⟨av,objs',h1,?_⟩
 intro S hv Fm w gv vs hG hI hw hg ha hlt
 have hs:Sit S hv Fm (λ_=>.b .dead) objs ⟨λ_=>undef,[]⟩ w:=⟨hI,λ_=>trivial,λ_=>rfl,hw,hG⟩
 obtain⟨cap,e1,e2,e3⟩:=bz6 hs hq hg
 exact⟨fk,cap,e1,hcall,h2 hG hI hw (ca7 ha e2) λa h=>by
  rcases b5_.1 h with h1 | h1
  ·exact hlt a h1
  ·exact e3 a h1⟩
def updY (sl:Nat→AV):List Nat→List AV→Nat→AV
 | p::ps,a::l=>updY (cg0 sl p a) ps l
 | _,_=>sl
theorem bm9 {S:PH} {hv:Nat→Value}:∀ {ps:List Nat} {l:List AV} {us:List Value} {sl:Nat→AV} {g:Nat→Value},(∀ i,RA hv S (sl i) (g i))→Fa (RA hv S) l us→∀ i,RA hv S (updY sl ps l i) (updL g ps us i)
 | [],l,us,sl,g,h,ha,i=>by cases us<;>exact h i
 | p::ps,[],[],sl,g,h,ha,i=>h i
 | p::ps,a::l,u::us,sl,g,h,ha,i=>bm9 (ps:=ps) (λj=>at1 (f:=⟨g,[]⟩) h ha.1 j) ha.2 i
theorem bn0 {n:List AO}:∀ {ps:List Nat} {l:List AV} {sl:Nat→AV},(∀ i,(sl i).lt n=true)→(∀ a ∈ l,a.lt n=true)→∀ i,(updY sl ps l i).lt n=true
 | [],l,sl,h,ha,i=>h i
 | p::ps,[],sl,h,ha,i=>h i
 | p::ps,a::l,sl,h,ha,i=>bn0 (ps:=ps) (λj=>by
  show (cond (Nat.beq j p) a (sl j)).lt n=true
  cases Nat.beq j p with
  | true=>exact ha a (by simp)
  | false=>exact h j) (λb hb=>ha b (by simp[hb])) i
noncomputable def callY {ρ:Type} {P:Program} [Tb P] (cx:Cx P) (y:Nat) (Y:Yld) (avs:List AV) (objs:List AO) (k:AV→List AO→Option ρ):Option ρ :=
 cond (Nat.beq avs.length Y.ps.length&&fb_ (λp=>Nat.blt p Y.n) Y.ps&&ag3 Y.assign&&ag3 Y.body)
  (hj_ cx Y.n Y.assign Y.an.l ρ ⟨updY (slY Y.sl) Y.ps avs,objs.set y (.yld Y .asg false)⟩ (λs=>match s.objs[y]? with
   | some (.yld _ .asg _)=>hj_ cx Y.n Y.body Y.an.r ρ ⟨s.slot,s.objs.set y (.yld Y .busy false)⟩ (λs=>k (bV true) (s.objs.set y (.yld Y .rdy false))) (λs=>k (bV false) (s.objs.set y (.yld Y .ret false))) λi s=>k (bV false) (s.objs.set y (.yld Y (.ex i) false))
   | _=>none) (λ_=>none) λ_ _=>none) none
def yldA (g:AV) (objs:List AO):Option (Nat×Yld):=match g with
 | .b (.one (.fn y))=>match objs[y]? with
  | some (.yld Y .rdy false)=>some (y,Y)
  | _=>none
 | _=>none
theorem cl4 {n:Nat} {o:Oper} {f:Fr} {w:World} {K:Fr→World→Prop} {ro:Option Nat} {g:Operand} {args:List Operand} {ct:Array TypeId} {l:Nat} {fn:FuncId} {tmps:Array Value} {assign body:Code} {vs:List Value}
  (ho:o.op = .call ⟨.value g,⟨args⟩,ct⟩) (hd:ey_ n o.dst=true) (hg:ev f g = .func (.yield l) #[] #[]) (hargs:args.map (ev f)=vs) (hy:(Instr.yield l vs.toArray).run P w = .ok (.round l fn tmps assign body) w)
  (hr:RoundIn (FW none) 0 P l fn tmps assign body w λe w'=>∃ v,e = .returned v∧K (wy_ f o.dst v) w'):OP P n ro o f w K:=by
 obtain⟨dd,op,ty,pos,af,gd⟩:=o
 simp only at ho
 subst ho
 intro a ha Q
 refine⟨λ_ _=>trivial,?_⟩
 have hrun:(execOp a.eval ⟨dd,.call ⟨.value g,⟨args⟩,ct⟩,ty,pos,af,gd⟩).run P w = .ok (.round l fn tmps assign body) w:=by
  rw[ha.eval]
  simp[execOp,resolve,hg,Deferred.ofValue,invoke,hargs,hy]
 rw[qg_ hrun (λ_ e=>by cases e)]
 refine⟨λh=>(by cases h),RoundIn.mono (F:=FW ro) hr λe w' h => ?_⟩
 obtain⟨r,rfl,h⟩:=h
 exact⟨_,ha.putO hd r,h⟩
theorem bx5 {l:List AO} {y:Nat} {Y:Yld} {st st':YS} (h:l[y]?=some (.yld Y st false)):Keep l (l.set y (.yld Y st' false)):=λj a ha=>by
 by_cases e:y=j
 ·subst e
  rw[h] at ha
  cases ha
  exact⟨.yld Y st' false,by simp[(a4_.1 h).1],st',rfl,λe=>by cases e⟩
 ·exact⟨a,by rw[b7_ e];exact ha,K1.refl a⟩
theorem cq1 {o:Oper} {sl:Nat→AV} {objs:List AO} {k:AV→List AO→Option ρ} {r:ρ} {g:Operand} {args:List Operand} {ct:Array TypeId} {y:Nat} {Y:Yld}
  (ho:o.op = .call ⟨.value g,⟨args⟩,ct⟩) (hy:yldA (evA sl g) objs=some (y,Y)) (h:callY cx y Y (args.map (evA sl)) objs k=some r):∃ av objs',k av objs'=some r∧OpUn P o sl objs av objs':=by
 have hgy:evA sl g = .b (.one (.fn y))∧objs[y]?=some (.yld Y .rdy false):=by
  unfold yldA at hy
  split at hy
  ·rename_i y' hg
   split at hy
   ·rename_i Y' hob
    cases hy
    exact⟨hg,hob⟩
   ·cases hy
  ·cases hy
 obtain⟨hg,hob⟩:=hgy
 obtain⟨hc,h⟩:=bo_ h
 simp only[a1_] at hc
 obtain⟨⟨⟨hl,hps⟩,n1⟩,n2⟩:=hc
 obtain⟨o1,ho1,hto1⟩:=yq_ _ _ _ _ _ _ _ _ h
 cases o1 with
 | r s1=>cases ho1
 | x i s1=>cases ho1
 | n s1 =>
 have ho1:(match s1.objs[y]? with
   | some (.yld _ .asg _)=>hj_ cx Y.n Y.body Y.an.r ρ ⟨s1.slot,s1.objs.set y (.yld Y .busy false)⟩ (λs=>k (bV true) (s.objs.set y (.yld Y .rdy false))) (λs=>k (bV false) (s.objs.set y (.yld Y .ret false))) λi s=>k (bV false) (s.objs.set y (.yld Y (.ex i) false))
   | _=>none)=some r:=ho1
 split at ho1
 case h_2=>cases ho1
 rename_i Y1 r1 hob1
 obtain⟨o2,ho2,hto2⟩:=yq_ _ _ _ _ _ _ _ _ ho1
 have walk:∀ (s2:A) (st:YS) (b:Bool) (j:Option Code),j=st.pend→(j.isNone=b)→(st.st=if j.isNone then .ready else .done)→k (bV b) (s2.objs.set y (.yld Y st false))=some r →
   ((o2 = .n s2∧j=none)∨(o2 = .r s2∧j=some .ret)∨∃ i,o2 = .x i s2∧j=some (.exit i))→∃ av objs',k av objs'=some r∧OpUn P o sl objs av objs':=by
  intro s2 st b j hj hb hst hk ho2e
  refine⟨_,_,hk,?_⟩
  intro S hv Fm f w n ro K hs hd kk
  have hyl:y<objs.length:=(a4_.1 hob).1
  have hby:born objs y=true:=ax_.2 ⟨_,hob,by simp⟩
  have hgv:ev f g=hv y:=by
   have:=hs.ev g
   rw[hg] at this
   exact this.2
  obtain⟨L,p1,p2⟩:=OHs.focus (hv:=hv) (i:=0) hob
  rw[b0_] at p1 p2
  obtain⟨q,⟨l,D,fn,tm,e1,e2,hsz,htm⟩,hI1⟩:=(hs.inv.perm (p1.append_right Fm)).open_
  have hI2:Inv w S (ak6 l (sj_ fn tm Y.ps.toArray Y.assign Y.body D .ready none)::(L++Fm)):=Inv.shut (A:=ak6 _ _) hI1 e2
  have hlen:(args.map (ev f)).length=Y.ps.length:=by
   have:=a3_ hl
   simpa using this
  refine cl4 ho hd (by rw[hgv,e1]) rfl (au0 hI2.obj (by simpa [sj_] using hlen)) (cj3 ?_)
  have hps':(Y.ps.all λp=>Nat.blt p Y.n)=true:=f3_.2 λp hp=>bg_ hps p hp
  have hfit:=ab6 (n:=Y.n) (f:=⟨λ_=>undef,[]⟩) Y.ps (args.map (ev f)) tm (λi=>tm.getD i undef) hps' hlen.symm hsz λ_=>rfl
  have e3:((Y.ps.toArray.zip (args.map (ev f)).toArray).foldl (λts (t,a)=>ts.setIfInBounds t a) tm)=(Y.ps.zip (args.map (ev f))).foldl (λts (t,a)=>ts.setIfInBounds t a) tm:=by
   rw[← Array.foldl_toList];simp
  show Y.assign.wpIn (FW (some l)) 0 P _ { tmps:=((Y.ps.toArray.zip (args.map (ev f)).toArray).foldl (λts (t,a)=>ts.setIfInBounds t a) tm),defers:=[] } w
  rw[e3]
  have hYlt:(AO.yld Y .rdy false).lt objs=true:=hs.wfo _ (b2_ hob)
  have hwf1:WfO (objs.set y (.yld Y .asg false)):=dx_ (by simp) hs.wfo (AO.lt_mono (be_ (by simp)) hYlt)
  have hble1:BLe objs (objs.set y (.yld Y .asg false)):=be_ (by simp)
  have hI3:Inv w S (OHs hv 0 (objs.set y (.yld Y .asg false))++(py_ []::Fm)):=by
   have h1:Inv w S (OH hv (hv y) (.yld Y .asg false)::(L++Fm)):=Inv.shut (A:=YldA hv (hv y) Y .asg) hI1 ⟨l,D,fn,tm,e1,e2,hsz,htm⟩
   have h2:=h1.perm ((p2 (.yld Y .asg false)).symm.append_right Fm)
   exact (Inv.noD h2).perm List.perm_middle.symm
  have hr1:Rl S hv (objs.set y (.yld Y .asg false)) Fm ⟨updY (slY Y.sl) Y.ps (args.map (evA sl)),objs.set y (.yld Y .asg false)⟩ ⟨updL (λi=>tm.getD i undef) Y.ps (args.map (ev f)),[]⟩ w :=
   ⟨S,hv,[],PH.Le.refl _,λ_ _=>rfl,BLe.refl _,⟨hI3,bm9 htm (ai8 hs args),bn0 (al4 (AO.lt_mono hble1 hYlt)) (λa ha=>by
    obtain⟨x,_,rfl⟩:=d2_.1 ha
    exact AV.lt_mono hble1 (ik_ hs.wfs x)),hwf1,hs.gl⟩,rfl⟩
  refine Go.wpIn_mono ((hto1 (ro:=some l) (λ_=>n1) hr1) _ hfit) λe a₁ w₁ hq => ?_
  obtain⟨f₁,hf₁,hq⟩:=hq
  have back:∀ {m:List AO},Keep (objs.set y (.yld Y .asg false)) m→∃ st',m[y]?=some (.yld Y st' false):=λhk=>by
   obtain⟨b,g1,st',g2,_⟩:=hk y (.yld Y .asg false) (by simp[hyl])
   exact⟨st',by rw[g1,g2]⟩
  cases e with
  | ret=>obtain⟨_,e,_⟩:=hq;cases e
  | exit i=>obtain⟨_,e,_⟩:=hq;cases e
  | goto t=>exact hq.elim
  | panic ch=>exact hq.elim
  | outgrown=>exact hq.elim
  | normal =>
  obtain⟨s1',e,hp1⟩:=hq
  cases e
  obtain⟨st1,g1⟩:=back hp1.keep
  have hob1':=hob1
  rw[g1] at hob1'
  cases hob1'
  obtain⟨S1,hv1,Ds1,x1,x2,x3,hs1,hds1⟩:=hp1.rl
  obtain⟨L1,q1,q2⟩:=OHs.focus (hv:=hv1) (i:=0) g1
  rw[b0_] at q1 q2
  obtain⟨k1,⟨l1,D1,fn1,tm1,a1,a2,a3,a4⟩,hI4⟩:=(hs1.inv.perm (q1.append_right _)).open_
  have hl1:∀ (hv':Nat→Value) (lx:Nat),Ag (objs.set y (.yld Y .asg false)) hv hv'→hv' y = .func (.yield lx) #[] #[]→lx=l:=λhv' lx ha hx=>by
   have h5:=ha y (hble1 y hby)
   rw[e1,hx] at h5
   have h6:Value.func (.yield l) #[] #[] = .func (.yield lx) #[] #[]:=h5
   injection h6 with h7
   injection h7 with h8
   exact h8.symm
  obtain rfl:=hl1 _ _ x2 a1
  have hI5:Inv w₁ S1 (ak6 l1 (sj_ fn1 tm1 Y.ps.toArray Y.assign Y.body D1 .ready none)::(L1++(py_ Ds1::Fm))):=Inv.shut (A:=ak6 _ _) hI4 a2
  refine⟨rfl,_,bq0 hI5.obj rfl,?_⟩
  have hI6:=hI5.setObj (.loop { sj_ fn1 tm1 Y.ps.toArray Y.assign Y.body D1 .ready none with state:=.busy })
  have hI7:=(hI6.headMap (B:=OH hv1 (hv1 y) (.yld Y .busy false)) λq hq=>⟨l1,D1,fn1,tm1,a1,hq,a3,a4⟩).perm ((q2 (.yld Y .busy false)).symm.append_right _)
  have hk2:Keep s1.objs (s1.objs.set y (.yld Y .busy false)):=bx5 g1
  have hble2:BLe s1.objs (s1.objs.set y (.yld Y .busy false)):=be_ (by simp)
  have hwf2:WfO (s1.objs.set y (.yld Y .busy false)):=dx_ (by simp) hs1.wfo (AO.lt_mono hble2 (show (AO.yld Y .asg false).lt s1.objs=true from hs1.wfo _ (b2_ g1)))
  have hr2:Rl S hv (objs.set y (.yld Y .asg false)) Fm ⟨s1.slot,s1.objs.set y (.yld Y .busy false)⟩ f₁ _ :=
   ⟨S1,hv1,Ds1,x1,x2,x3.trans hble2,⟨hI7,hs1.rel,λd=>AV.lt_mono hble2 (hs1.wfs d),hwf2,hs1.gl⟩,hds1⟩
  refine Go.wpIn_mono ((hto2 (ro:=some l1) (λ_=>n2) hr2) _ hf₁) λe a₂ w₂ hq => ?_
  obtain⟨f₂,hf₂,hq⟩:=hq
  have done:∀ {asg:List Nat},Po S hv (objs.set y (.yld Y .asg false)) Fm asg ⟨s1.slot,s1.objs.set y (.yld Y .busy false)⟩ s2 f₂ w₂→∃ v w',(Instr.endRound l1 j).run P w₂ = .ok v w'∧∃ v',Ending.returned v = .returned v'∧K (wy_ f o.dst v') w':=by
   intro asg hp2
   obtain⟨S2,hv2,Ds2,y1,y2,y3,hs2,hds2⟩:=hp2.rl
   obtain⟨st2,g2⟩:=back ((hp1.keep.trans hk2).trans hp2.keep)
   obtain⟨L2,r1,r2⟩:=OHs.focus (hv:=hv2) (i:=0) g2
   rw[b0_] at r1 r2
   obtain⟨k2,⟨l2,D2,fn2,tm2,b1,b2,b3,b4⟩,hI8⟩:=(hs2.inv.perm (r1.append_right _)).open_
   obtain rfl:=hl1 _ _ y2 b1
   have hI9:Inv w₂ S2 (ak6 l2 (sj_ fn2 tm2 Y.ps.toArray Y.assign Y.body D2 st2.st st2.pend)::(L2++(py_ Ds2::Fm))):=Inv.shut (A:=ak6 _ _) hI8 b2
   refine⟨_,_,run_end j hI9.obj,_,rfl,?_⟩
   have hI10:=hI9.setObj (.loop { sj_ fn2 tm2 Y.ps.toArray Y.assign Y.body D2 st2.st st2.pend with state:=if j.isNone then .ready else .done,pending:=j })
   have hI11:=(hI10.headMap (B:=OH hv2 (hv2 y) (.yld Y st false)) λq hq=>⟨l2,D2,fn2,tm2,b1,by rw[← hj,hst];exact hq,b3,b4⟩).perm ((r2 (.yld Y st false)).symm.append_right _)
   have hI12:=(hI11.perm c9_).drop
   have hble3:BLe s2.objs (s2.objs.set y (.yld Y st false)):=be_ (by simp)
   have hwf3:WfO (s2.objs.set y (.yld Y st false)):=dx_ (by simp) hs2.wfo (AO.lt_mono hble3 (show (AO.yld Y st2 false).lt s2.objs=true from hs2.wfo _ (b2_ g2)))
   have hkeep:Keep objs (s2.objs.set y (.yld Y st false)):=((bx5 hob).trans ((hp1.keep.trans hk2).trans hp2.keep)).trans (bx5 g2)
   refine kk _ S2 hv2 _ (hble1.trans (y3.trans hble3)) hkeep hwf3 rfl y1 (y2.sub hble1) ?_ hI12
   rw[hb]
   exact qz_ b
  cases e with
  | normal =>
   obtain⟨s2',e,hp2⟩:=hq
   rcases ho2e with ⟨h1,h2⟩ | ⟨h1,h2⟩ | ⟨i,h1,h2⟩<;>rw[h1] at e<;>cases e
   rw[h2] at done
   exact done hp2
  | ret =>
   obtain⟨s2',e,hp2⟩:=hq
   rcases ho2e with ⟨h1,h2⟩ | ⟨h1,h2⟩ | ⟨i,h1,h2⟩<;>rw[h1] at e<;>cases e
   rw[h2] at done
   exact done hp2
  | exit i =>
   obtain⟨s2',e,hp2⟩:=hq
   rcases ho2e with ⟨h1,h2⟩ | ⟨h1,h2⟩ | ⟨i,h1,h2⟩<;>rw[h1] at e<;>cases e
   rw[h2] at done
   exact done hp2
  | goto t=>exact hq.elim
  | panic ch=>exact hq.elim
  | outgrown=>exact hq.elim
 cases o2 with
 | n s2=>exact walk s2 .rdy true none rfl rfl rfl ho2 (.inl ⟨rfl,rfl⟩)
 | r s2=>exact walk s2 .ret false (some .ret) rfl rfl rfl ho2 (.inr (.inl ⟨rfl,rfl⟩))
 | x i s2=>exact walk s2 (.ex i) false (some (.exit i)) rfl rfl rfl ho2 (.inr (.inr ⟨i,rfl,rfl⟩))
noncomputable def cxI {P:Program} [Tb P] (an:FuncId→An) (has:FuncId→Bool) (con:Cx P):Nat→Cx P
 | 0=>con
 | d+1=>⟨con.need,λρ o sl objs fr k=>match o.op with
  | .call ⟨.value g,⟨args⟩,_⟩=>match yldA (evA sl g) objs with
   | some q=>callY (cxI an has con d) q.1 q.2 (args.map (evA sl)) objs k
   | none=>(fnA (evA sl g) objs).bind λq=>cond (has q.1) (con.call ρ o sl objs fr k) (callI (cxI an has con d) an o sl objs (mvFn fr objs.length k))
  | _=>none,λ{ρ o sl objs fr k r} h=>(by
   split at h
   ·rename_i g args ct ho
    split at h
    ·rename_i q hq
     exact cq1 ho hq h
    ·obtain⟨q,_,h⟩:=bnd h
     cases hq:has q.1 with
     | true=>rw[hq] at h;exact con.ok h
     | false =>
      rw[hq] at h
      obtain⟨av,ob,h1,h2⟩:=cq2 h
      exact mvFn_ok h1 h2
   ·cases h),λρ g args objs k=>(fnA g objs).bind λq=>inlF (cxI an has con d) (an q.1) q.1 (args++q.2) objs k,λh=>inlV_ok h⟩
end
end
section
variable [Gb]
structure CSrc (t:Ty) (S:PH) (O:List HP) (v:Value) (l:List t.den):Prop where
 form:∀ {w},Inv w S O→∃ a cap,v = .slice a l.length cap∧(a=none→l=[])
 src:∀ {w} {A:List HP},Inv w S (A++O)→@Src t.den t.enc w S v l
theorem cb4 {t:Ty} {S:PH} {O:List HP} {v:Value} {l:List t.den} (h:RVt (.list t) S v l):CSrc t S O v l where
 form _:=by
  obtain⟨a,cap,e,_,_,hn,_⟩:=@iw_ t.den t.enc S v l h
  exact⟨a,cap,e,λh=>(hn h).1⟩
 src hI:=@RV.src t.den t.enc _ S v l h hI.in_
theorem cp7 {t:Ty} {S:PH} {O L:List HP} {E:TypeId} {v:Value} {l:List t.den} (hp:O.Perm (@Row t.den t.enc E v l::L)):CSrc t S O v l where
 form hI:=by
  obtain⟨a,cap,e,hn⟩:=@Inv.rowForm t.den t.enc _ S L E v l (hI.perm hp)
  refine⟨a,cap,e,λha => ?_⟩
  obtain⟨k,hk,_⟩:=(hI.perm hp).open_
  rcases hk with ⟨_,h2,_⟩ | ⟨g,cp,pre,ls,post,h1,_⟩
  ·exact h2
  ·rw[e,ha] at h1;cases h1
 src {w A} hI:=by
  have:(A++O).Perm (@Row t.den t.enc E v l::(A++L)):=(l9_ A hp).trans c9_
  exact @Inv.rowSrc t.den t.enc w S (A++L) E v l (hI.perm this)
theorem cp8 {t:Ty} {S:PH} {O:List HP}:CSrc t S O (.slice none 0 0) [] where
 form _:=⟨none,0,rfl,λ_=>rfl⟩
 src hI:=@Inv.rowSrc t.den t.enc _ S _ 0 (.slice none 0 0) [] hI.rowNil
structure Cpy (P:Program) [Tb P] where
 k:FuncId
 t:Ty
 E:TypeId
 ok:∀ {w:World} {S:PH} {O:List HP} {v:Value} {l r:List t.den},CSrc t S O v l→Inv w S O→push? [] l=some r →
  Calls P k [v].toArray w λe w'=>∃ u,e = .returned u∧Inv w' S (@Row t.den t.enc E u r::O)
def cloneC (T T2:TypeId) (r0 r1 r2 r3:Nat) (t0 t1 t2 t3 t4 t5 t6 t7:TypeId) (p0 p1 p2 p3 p4 p5 p6 p7:String) (e0 e1 e2 e3 e4 e5 e6 e7:Array Edge):Code :=
 .seq (.region r0 [⟨some 2,.assign (.const (.slice none 0 0)),t0,p0,e0,none⟩].toArray false)
  (.seq (.seq (.region r1 [⟨some 3,.move (.tmp 0),t1,p1,e1,none⟩,⟨some 4,.binOp .eql T (.tmp 3) (.const (.slice none 0 0)) T2,t2,p2,e2,none⟩].toArray false)
    (.cond (.tmp 4) (.seq (.region r2 [⟨some 2,.assign (.const (.slice none 0 0)),t3,p3,e3,none⟩].toArray false) .ret) .skip))
   (.seq (.region r3 [⟨some 5,.buildSlice T 0 [].toArray,t4,p4,e4,none⟩,⟨some 6,.move (.tmp 0),t5,p5,e5,none⟩,⟨some 7,.call ⟨.builtin .append,[.tmp 5,.tmp 6].toArray,[T,T].toArray⟩,t6,p6,e6,none⟩,⟨some 2,.assign (.tmp 7),t7,p7,e7,none⟩].toArray false) .ret))
theorem bf8 {P:Program} [Tb P] {k:FuncId} {fn:Func} {T T2 E:TypeId} {t:Ty} {zd:t.den} {r0 r1 r2 r3:Nat} {t0 t1 t2 t3 t4 t5 t6 t7:TypeId} {p0 p1 p2 p3 p4 p5 p6 p7:String} {e0 e1 e2 e3 e4 e5 e6 e7:Array Edge}
  (hf:P.funcs[k]?=some fn) (hb:fn.body=some (cloneC T T2 r0 r1 r2 r3 t0 t1 t2 t3 t4 t5 t6 t7 p0 p1 p2 p3 p4 p5 p6 p7 e0 e1 e2 e3 e4 e5 e6 e7)) (hn:fn.ntmps=8) (hr:fn.results = #[.tmp 2])
  (hT:elemOf P T=some E) (hz:rf_ P E t=some zd) (hs:Nat.blt 0 t.sz=true)
  {w:World} {S:PH} {O:List HP} {v:Value} {l r:List t.den} (hc:CSrc t S O v l) (hI:Inv w S O) (h:push? [] l=some r) :
  Calls P k [v].toArray w λe w'=>∃ u,e = .returned u∧Inv w' S (@Row t.den t.enc E u r::O):=by
 have hT:=em_ hT
 obtain⟨bytes,zv,h1,h2,_⟩:=ka_ hz
 obtain⟨z1,cp1,rfl,hnil⟩:=hc.form hI
 refine ru_ (n:=8) (vs:=[.slice z1 l.length cp1]) hf hb hn rfl ?_
 refine bi_ (ba_ (mq_ rfl (pb_ (v:=.slice none 0 0) rfl rfl (dq_ ?_))))
 refine bi_ (bi_ (ba_ (mq_ rfl (ns_ (v:=.slice z1 l.length cp1) rfl rfl (mq_ rfl (cl5 rfl hT rfl rfl (dq_ ?_)))))))
 cases z1 with
 | none =>
  refine mw_ (b:=true) rfl rfl ?_
  refine bi_ (ba_ (mq_ rfl (pb_ (v:=.slice none 0 0) rfl rfl (dq_ ?_))))
  refine wv_ ?_
  have hl:=hnil rfl
  subst hl
  obtain rfl:=a6_ h
  exact⟨rfl,_,res1 hr rfl,_,rfl,hI.rowNil⟩
 | some ad =>
  refine ji_ (b:=false) rfl rfl (lv_ ?_)
  refine bi_ (ba_ ?_)
  refine mq_ rfl (@sq_ none P 8 _ w _ 5 _ _ _ _ T E t.den t.enc S O bytes zv zd [] [] 0 [] rfl hT h1 parts0 rfl (by simp) (by decide) trivial hI (λu1 w1 I1 => ?_))
  refine mq_ rfl (ns_ (v:=.slice (some ad) l.length cp1) rfl rfl ?_)
  refine mq_ rfl (@xt_ none P 8 _ w1 _ 7 _ _ _ _ (.tmp 5) (.tmp 6) u1 (.slice (some ad) l.length cp1) T E t.den t.enc S O [] bytes zv zd l r #[T,T] rfl rfl hT h1 h2 (by rw[cj_];exact b6_ hs) rfl rfl I1 (hc.src (A:=[_]) I1) h (λu2 w2 I2 => ?_))
  refine mq_ rfl (pb_ (v:=u2) rfl rfl ?_)
  refine dq_ ?_
  refine wv_ ?_
  exact⟨rfl,_,res1 hr rfl,_,rfl,I2⟩
def cc1 {ρ:Type} {P:Program} [Tb P] (c:Cpy P) (a:AV) (objs:List AO) (fr:Nat) (k:AV→List AO→Option ρ):Option ρ:=match a with
 | .b (.one (.val (.list t) l))=>(zr_ t c.t l).bind λl=>(push? [] l).bind λr=>zg_ objs fr (.row c.t c.E r false) (zf_ fr) k
 | .b (.one .nils)=>zg_ objs fr (.row c.t c.E [] false) (zf_ fr) k
 | .b (.one (.row o))=>match objs[o]? with
  | some (.row t _ l _)=>(zr_ t c.t l).bind λl=>(push? [] l).bind λr=>zg_ objs fr (.row c.t c.E r false) (zf_ fr) k
  | _=>none
 | _=>none
section
variable {ρ:Type} {P:Program} [Tb P] {objs:List AO} {r:ρ} {fr:Nat} {k:AV→List AO→Option ρ}
theorem cc0 {c:Cpy P} {a:AV} (h:cc1 c a objs fr k=some r):∃ av objs',k av objs'=some r∧BLe objs objs'∧Keep objs objs'∧(WfO objs→WfO objs')∧av.lt objs'=true ∧
  ∀ {S:PH} {hv:Nat→Value} {Fm:List HP} {sl:Nat→AV} {f:Fr} {w:World} {v:Value},Sit S hv Fm sl objs f w→RA hv S a v →
   Calls P c.k [v].toArray w λe w'=>∃ u hv',e = .returned u∧Ag objs hv hv'∧RA hv' S av u∧Inv w' S (OHs hv' 0 objs'++Fm):=by
 have fin:∀ {l m:List c.t.den},push? [] l=some m→zg_ objs fr (.row c.t c.E m false) (zf_ fr) k=some r →
   (∀ {S:PH} {hv:Nat→Value} {Fm:List HP} {sl:Nat→AV} {f:Fr} {w:World} {v:Value},Sit S hv Fm sl objs f w→RA hv S a v→CSrc c.t S (OHs hv 0 objs++Fm) v l) →
   ∃ av objs',k av objs'=some r∧BLe objs objs'∧Keep objs objs'∧(WfO objs→WfO objs')∧av.lt objs'=true ∧
  ∀ {S:PH} {hv:Nat→Value} {Fm:List HP} {sl:Nat→AV} {f:Fr} {w:World} {v:Value},Sit S hv Fm sl objs f w→RA hv S a v →
   Calls P c.k [v].toArray w λe w'=>∃ u hv',e = .returned u∧Ag objs hv hv'∧RA hv' S av u∧Inv w' S (OHs hv' 0 objs'++Fm):=by
  intro l m hm h hsrc
  obtain⟨hu,h⟩:=gb_ h
  refine⟨_,_,h,be_ (by simp),cd_ (cg_ hu) trivial,λhw=>dx_ (by simp) hw rfl,iu_ hu (by simp),λ{S hv Fm sl f w v} hs hr => ?_⟩
  refine (c.ok (hsrc hs hr) hs.inv hm).mono λe w' he => ?_
  obtain⟨u,rfl,hI⟩:=he
  obtain⟨g1,g2⟩:=ow_ (hv:=hv) (fr:=fr) hI
  exact⟨u,_,rfl,ng_ (cg_ hu),g2,gx_ hs.wfo (cg_ hu) hI⟩
 unfold cc1 at h
 split at h
 ·rename_i t l
  obtain⟨m,h1,h3⟩:=bnd h
  obtain⟨q,h2,h4⟩:=bnd h3
  clear h h3
  obtain⟨e1,e2⟩:=hv_ h1
  subst e1
  have e2:m=l:=e2
  subst e2
  exact fin h2 h4 λhs hr=>cb4 hr.2.2
 ·exact fin (l:=[]) rfl h λ{S hv Fm sl f w v} hs hr=>by
   have e:v = .slice none 0 0:=hr.2
   rw[e]
   exact cp8
 ·rename_i o
  split at h
  ·rename_i t B l ro ho
   obtain⟨m,h1,h3⟩:=bnd h
   obtain⟨q,h2,h4⟩:=bnd h3
   clear h h3
   obtain⟨e1,e2⟩:=hv_ h1
   subst e1
   have e2:m=l:=e2
   subst e2
   exact fin h2 h4 λ{S hv Fm sl f w v} hs hr=>by
    obtain⟨L,g1,_⟩:=OHs.focus (hv:=hv) (i:=0) ho
    rw[b0_] at g1
    have e:v=hv o:=hr.2
    rw[e]
    exact cp7 (g1.append_right Fm)
  ·cases h
 ·cases h
end
end
section
variable [Gb]
def od_:List Ty→Type
 | []=>Unit
 | t::ts=>t.den×od_ ts
def bt4 (t:Ty) (x:t.den):BV:=cond t.agg (.val t x) (.one (.val t x))
def cg3:(ts:List Ty)→od_ ts→List AV
 | [],_=>[]
 | t::ts,x=>.b (bt4 t x.1)::cg3 ts x.2
def ofBs:(ts:List Ty)→od_ ts→List BV
 | [],_=>[]
 | t::ts,x=>bt4 t x.1::ofBs ts x.2
def as5:(rs:List Ty)→od_ rs→AV
 | [t],x=>.b (bt4 t x.1)
 | rs,x=>.tup (ofBs rs x)
theorem bt3 {t:Ty} {x:t.den}:ofD t x = .b (bt4 t x):=by unfold ofD bt4;cases t.agg<;>rfl
theorem pd_ {hv:Nat→Value} {S:PH} {t:Ty} {x:t.den} {v:Value} (h:RVt t S v x):RB hv S (bt4 t x) v:=by
 have:=sr_ (hv:=hv) h
 rw[bt3] at this
 exact this
theorem rl_ {hv:Nat→Value} {S:PH} {t:Ty} {x:t.den} {v:Value} (h:RB hv S (bt4 t x) v):RVt t S v x:=by
 unfold bt4 at h
 cases h0:t.agg with
 | true=>rw[h0] at h;exact h.2
 | false=>rw[h0] at h;exact h.2.2
theorem aw4 {n:List AO} {t:Ty} {x:t.den}:(bt4 t x).lt n=true:=by unfold bt4;cases t.agg<;>rfl
theorem bt6 {n:List AO}:∀ {ts:List Ty} {x:od_ ts},fb_ (BV.lt n) (ofBs ts x)=true
 | [],_=>rfl
 | t::ts,x=>by
  show (BV.lt n (bt4 t x.1)&&fb_ (BV.lt n) (ofBs ts x.2))=true
  rw[aw4,bt6]
  rfl
theorem af6 {n:List AO} {rs:List Ty} {x:od_ rs}:(as5 rs x).lt n=true:=by
 unfold as5
 split
 ·exact aw4
 ·exact bt6
def Ty.flat:Ty→Bool
 | .int | .bool | .u8 | .str | .unit=>true
 | .one t=>t.flat
 | .pair a b=>a.flat&&b.flat
 | .clo _ t=>t.flat
 | _=>false
theorem ta_ {S S':PH}:∀ {t:Ty} {cs:List Value} {x:t.den},t.flat=true→t.enc.rep S cs x→t.enc.rep S' cs x
 | .int,_,_,_,h=>h
 | .bool,_,_,_,h=>h
 | .u8,_,_,_,h=>h
 | .str,_,_,_,h=>h
 | .unit,_,_,_,h=>h
 | .one t,_,_,hf,h=>ta_ (t:=t) hf h
 | .pair a b,_,_,hf,⟨c1,c2,e,h1,h2⟩=>by
  simp only[Ty.flat,a1_] at hf
  exact⟨c1,c2,e,ta_ hf.1 h1,ta_ hf.2 h2⟩
 | .clo f t,_,_,hf,⟨ys,e,h⟩=>⟨ys,e,ta_ (t:=t) hf h⟩
 | .list _,_,_,hf,_=>by cases hf
 | .ref _,_,_,hf,_=>by cases hf
theorem ca1 {S S':PH} {t:Ty} {v:Value} {x:t.den} (hf:t.flat=true) (h:RVt t S v x):RVt t S' v x:=by
 obtain⟨cs,hr,e⟩:=h
 exact⟨cs,ta_ hf hr,e⟩
theorem ca2 {hv hv':Nat→Value} {S S':PH}:∀ {ts:List Ty} {x:od_ ts} {vs:List Value},fb_ Ty.flat ts=true→Fa (RB hv S) (ofBs ts x) vs→Fa (RB hv' S') (ofBs ts x) vs
 | [],_,[],_,_=>trivial
 | t::ts,x,v::vs,hf,h=>by
  simp only[fb_,a1_] at hf
  exact⟨pd_ (ca1 hf.1 (rl_ h.1)),ca2 hf.2 h.2⟩
theorem co8 {hv hv':Nat→Value} {S S':PH} {rs:List Ty} {x:od_ rs} {v:Value} (hf:fb_ Ty.flat rs=true) (h:RA hv S (as5 rs x) v):RA hv' S' (as5 rs x) v:=by
 revert h
 unfold as5
 split<;>intro h
 ·rename_i t x
  simp only[fb_,a1_] at hf
  exact pd_ (ca1 hf.1 (rl_ h))
 ·obtain⟨vs,e,hf2⟩:=h
  exact⟨vs,e,ca2 hf hf2⟩
theorem bs5 {hv hv':Nat→Value} {S:PH} {rs:List Ty} {x:od_ rs} {v:Value} (h:RA hv S (as5 rs x) v):RA hv' S (as5 rs x) v :=
 RA.ag (n:=[]) (λi hi=>by cases hi) af6 h
structure Con (P:Program) [Tb P] where
 k:FuncId
 ts:List Ty
 rs:List Ty
 F:od_ ts→Option (od_ rs)
 ok:∀ {w:World} {S:PH} {Fr:List HP} {hv:Nat→Value} {vs:List Value} {x:od_ ts} {r:od_ rs},GlS S→Inv w S Fr→Fa (RA hv S) (cg3 ts x) vs→F x=some r →
  Calls P k vs.toArray w (Done S Fr λT v O'=>O'=[]∧RA (λ_=>undef) T (as5 rs r) v)
def hdS:List SV→Option (SV×List SV)
 | []=>none
 | s::l=>some (s,l)
def full {α:Type}:Option (α×List SV)→Option α
 | some (x,[])=>some x
 | _=>none
def imR (ob:List AO) (t:Ty) (s:SV):Option (Ty.list t).den:=match s with
 | .row o=>match ob[o]? with
  | some (.row t' _ m _)=>zr_ t' t m
  | _=>none
 | s=>asC (.list t) s
def imP (ob:List AO) (t:Ty) (f:List SV→Option (t.den×List SV)) (s:SV):Option (Ty.ref t).den:=match s with
 | .ptr o 0=>match ob[o]? with
  | some (.cells _ c _)=>full (f c)
  | _=>none
 | s=>asC (.ref t) s
def im1 (t:Ty) (f:SV→Option t.den) (l:List SV):Option (t.den×List SV):=(hdS l).bind λq=>(f q.1).bind λx=>some (x,q.2)
def imL (ob:List AO):(t:Ty)→List SV→Option (t.den×List SV)
 | .unit,l=>some ((),l)
 | .one t,l=>imL ob t l
 | .pair a b,l=>(imL ob a l).bind λp=>(imL ob b p.2).bind λq=>some ((p.1,q.1),q.2)
 | .ref t,l=>im1 (.ref t) (imP ob t (imL ob t)) l
 | .list t,l=>im1 (.list t) (imR ob t) l
 | .int,l=>im1 .int (asC .int) l
 | .bool,l=>im1 .bool (asC .bool) l
 | .u8,l=>im1 .u8 (asC .u8) l
 | .str,l=>im1 .str (asC .str) l
 | .clo f t,l=>im1 (.clo f t) (asC (.clo f t)) l
def ldA (ob:List AO) (t:Ty):AV→Option t.den
 | .b (.one s)=>cond t.agg none (full (imL ob t [s]))
 | .b (.val a x)=>yy_ a t x
 | .b (.agg l)=>cond t.agg (full (imL ob t l)) none
 | _=>none
def ldAs (ob:List AO):(ts:List Ty)→List AV→Option (od_ ts)
 | [],[]=>some ()
 | t::ts,a::l=>(ldA ob t a).bind λx=>(ldAs ob ts l).bind λy=>some (x,y)
 | _,_=>none
def asDs:(ts:List Ty)→List AV→Option (od_ ts)
 | [],[]=>some ()
 | t::ts,a::l=>(asD t a).bind λx=>(asDs ts l).bind λy=>some (x,y)
 | _,_=>none
structure Lent (hv:Nat→Value) (ob:List AO) (T:PH):Prop where
 row:∀ (o:Nat) (t:Ty) (E:TypeId) (l:List t.den) (ro:Bool),ob[o]?=some (AO.row t E l ro)→RVt (.list t) T (hv o) l
 cell:∀ (o:Nat) (E:TypeId) (c:List SV) (ro:List Nat),ob[o]?=some (AO.cells E c ro)→∃ (g:Nat) (cs:List Value),hv o = .pointer (some ⟨g,0,none⟩)∧Fa (RS hv T) c cs∧T.m g=some (.cells cs.toArray E (0,0))
theorem cn6 {w:World} {S:PH} {hv:Nat→Value} {ob:List AO} {Fm:List HP} (hI:Inv w S (OHs hv 0 ob++Fm)):∃ T,∃ Fr:List HP,S.Le T∧Inv w T Fr∧Lent hv ob T∧∀ {w' U},Inv w' U Fr→T.Le U→Inv w' S (OHs hv 0 ob++Fm):=by
 obtain⟨T,hs,Fr,hle,hI2,hlen,hat,back⟩:=Inv.lendN (OHs hv 0 ob) hI
 refine⟨T,Fr,hle,hI2,⟨λo t E l ro ho => ?_,λo E c ro ho => ?_⟩,λh1 h2=>back [] trivial h1 h2⟩
 ·have hA:(OHs hv 0 ob)[o]?=some (OH hv (hv o) (.row t E l ro)):=by rw[xv_,ho,b0_];rfl
  have hl:o<hs.length:=by rw[hlen];exact (a4_.1 hA).1
  obtain⟨p1,q1⟩:=hat o _ _ hA (a7_ hl)
  exact RowP.rv p1 hle q1
 ·have hA:(OHs hv 0 ob)[o]?=some (OH hv (hv o) (.cells E c ro)):=by rw[xv_,ho,b0_];rfl
  have hl:o<hs.length:=by rw[hlen];exact (a4_.1 hA).1
  obtain⟨⟨g,cs,e1,e2,e3⟩,q1⟩:=hat o _ _ hA (a7_ hl)
  exact⟨g,cs,e1,e2.imp λ_ _=>RS.mono hle,q1 g _ (by rw[e3];simp[Hp.one])⟩
section
variable {hv:Nat→Value} {T:PH} {ob:List AO}
theorem yi_ {α:Type} {q:Option (α×List SV)} {x:α} (h:full q=some x):q=some (x,[]):=by
 unfold full at h
 split at h
 ·cases h;rfl
 ·cases h
theorem rr_ {t:Ty} (h0:t.agg=false) {f:SV→Option t.den} (hf:∀ s v x,RS hv T s v→f s=some x→RVt t T v x) {l l':List SV} {cs:List Value} {x:t.den} (h:Fa (RS hv T) l cs) (hx:im1 t f l=some (x,l')) :
  ∃ a b,cs=a++b∧t.enc.rep T a x∧Fa (RS hv T) l' b:=by
 obtain⟨⟨s,l1⟩,h1,hx⟩:=bnd hx
 obtain⟨y,h2,hx⟩:=bnd hx
 cases hx
 cases l with
 | nil=>cases h1
 | cons s' l =>
  cases h1
  cases cs with
  | nil=>exact h.elim
  | cons v cs=>exact⟨[v],cs,rfl,ox_ h0 (hf _ _ _ h.1 h2),h.2⟩
theorem by2 (hL:Lent hv ob T):∀ {t:Ty} {l l':List SV} {cs:List Value} {x:t.den},Fa (RS hv T) l cs→imL ob t l=some (x,l')→∃ a b,cs=a++b∧t.enc.rep T a x∧Fa (RS hv T) l' b:=by
 intro t
 induction t with
 | unit=>intro l l' cs x h hx;cases hx;exact⟨[],cs,rfl,rfl,h⟩
 | one t ih=>intro l l' cs x h hx;exact ih h hx
 | pair a b iha ihb =>
  intro l l' cs x h hx
  obtain⟨⟨y,l1⟩,h1,hx⟩:=bnd hx
  obtain⟨⟨z,l2⟩,h2,hx⟩:=bnd hx
  cases hx
  obtain⟨c1,c2,rfl,r1,f1⟩:=iha h h1
  obtain⟨c3,c4,rfl,r2,f2⟩:=ihb f1 h2
  exact⟨c1++c3,c4,by simp,⟨c1,c3,rfl,r1,r2⟩,f2⟩
 | ref t ih =>
  intro l l' cs x h hx
  refine rr_ (t:=.ref t) rfl (λs v y hr hy => ?_) h hx
  unfold imP at hy
  split at hy
  ·rename_i o
   split at hy
   ·rename_i E c ro ho
    have hy:=yi_ hy
    obtain⟨g,ds,e1,e2,e3⟩:=hL.cell o E c ro ho
    obtain⟨c1,c2,rfl,r1,f1⟩:=ih e2 hy
    cases c2 with
    | cons _ _=>exact f1.elim
    | nil =>
     refine na_ ⟨⟨g,0,none⟩,c1,?_,r1,λj u hu => ?_⟩
     ·have h2:(∃ a,v = .pointer (some a))∧v=ay_ (hv o) 0:=hr.2
      rw[e1] at h2
      exact tb_ h2.2
     ·rw[fj_]
      simp only[PH.cell,e3]
      simpa using hu
   ·cases hy
  ·exact re_ rfl hr hy
 | list t ih =>
  intro l l' cs x h hx
  refine rr_ (t:=.list t) rfl (λs v y hr hy => ?_) h hx
  cases s
  case row o =>
   have hy:imR ob t (.row o)=some y:=hy
   unfold imR at hy
   cases ho:ob[o]? with
   | none=>simp[ho] at hy
   | some a =>
    cases a with
    | row t' E m ro =>
     simp only[ho] at hy
     obtain⟨e1,e2⟩:=hv_ hy
     subst e1
     have e3:y=m:=e2
     subst e3
     have:=hL.row o t' E y ro ho
     have e4:v=hv o:=hr.2
     rw[e4]
     exact this
    | _=>simp[ho] at hy
  all_goals exact re_ rfl hr hy
 | int=>exact λh hx=>rr_ (t:=.int) rfl (λs v y hr hy=>re_ rfl hr hy) h hx
 | bool=>exact λh hx=>rr_ (t:=.bool) rfl (λs v y hr hy=>re_ rfl hr hy) h hx
 | u8=>exact λh hx=>rr_ (t:=.u8) rfl (λs v y hr hy=>re_ rfl hr hy) h hx
 | str=>exact λh hx=>rr_ (t:=.str) rfl (λs v y hr hy=>re_ rfl hr hy) h hx
 | clo f t ih=>exact λh hx=>rr_ (t:=.clo f t) rfl (λs v y hr hy=>re_ rfl hr hy) h hx
theorem ldA_rv (hL:Lent hv ob T) {t:Ty} {a:AV} {v:Value} {x:t.den} (h:RA hv T a v) (hx:ldA ob t a=some x):RVt t T v x:=by
 cases a with
 | tup l=>cases hx
 | b a =>
  cases a with
  | dead=>cases hx
  | one s =>
   cases h0:t.agg with
   | true=>simp[ldA,h0] at hx
   | false =>
    have hx:=yi_ (show full (imL ob t [s])=some x by simpa [ldA,h0] using hx)
    obtain⟨c1,c2,e,hr,hf2⟩:=by2 hL (l:=[s]) (cs:=[v]) ⟨h,trivial⟩ hx
    cases c2 with
    | cons _ _=>cases hf2
    | nil =>
     rw[e7_] at e
     subst e
     exact bp5 h0 hr
  | val t' y =>
   obtain⟨rfl,rfl⟩:=gm_ hx
   exact h.2
  | agg l =>
   cases h0:t.agg with
   | false=>simp[ldA,h0] at hx
   | true =>
    have hx:=yi_ (show full (imL ob t l)=some x by simpa [ldA,h0] using hx)
    obtain⟨cs,rfl,hf⟩:=h
    obtain⟨c1,c2,rfl,hr,hf2⟩:=by2 hL hf hx
    cases c2 with
    | cons _ _=>cases hf2
    | nil=>exact⟨c1,hr,by rw[jt_,h0,e7_];rfl⟩
theorem bw9 (hL:Lent hv ob T):∀ {ts:List Ty} {l:List AV} {vs:List Value} {x:od_ ts},Fa (RA hv T) l vs→ldAs ob ts l=some x→Fa (RA hv T) (cg3 ts x) vs
 | [],[],[],x,_,_=>trivial
 | t::ts,a::l,v::vs,x,h,hx=>by
  obtain⟨y,h1,hx⟩:=bnd hx
  obtain⟨z,h2,hx⟩:=bnd hx
  cases hx
  exact⟨pd_ (ldA_rv hL h.1 h1),bw9 hL h.2 h2⟩
 | [],_::_,_,_,_,hx=>by cases hx
 | _::_,[],_,_,_,hx=>by cases hx
end
theorem ay5 {hv:Nat→Value} {S:PH}:∀ {ts:List Ty} {l:List AV} {vs:List Value} {x:od_ ts},Fa (RA hv S) l vs→asDs ts l=some x→Fa (RA hv S) (cg3 ts x) vs
 | [],[],[],x,_,_=>trivial
 | t::ts,a::l,v::vs,x,h,hx=>by
  obtain⟨y,h1,hx⟩:=bnd hx
  obtain⟨z,h2,hx⟩:=bnd hx
  cases hx
  exact⟨pd_ (gn_ h.1 h1),ay5 h.2 h2⟩
 | [],_::_,_,_,_,hx=>by cases hx
 | _::_,[],_,_,_,hx=>by cases hx
def ai1:List AV→List Nat
 | []=>[]
 | a::l=>cu8 a++ai1 l
def ar2 (P:Program) [Tb P] (k:FuncId):Bool:=match fns P k with
 | some fn=>fn.body.isSome&&!(fn.name == "runtime.NumGoroutine")
 | none=>false
def aj5 {ρ:Type} {P:Program} [Tb P] (c:Con P) (avs:List AV) (objs:List AO) (k:AV→List AO→Option ρ):Option ρ :=
 cond (fb_ Ty.flat c.rs) ((ldAs objs c.ts avs).bind λx=>(c.F x).bind λr=>k (as5 c.rs r) objs)
  ((asDs c.ts (avs.map (rsA (wp_ objs (ai1 avs))))).bind λx=>(c.F x).bind λr=>k (as5 c.rs r) (wp_ objs (ai1 avs)))
def conL {ρ:Type} {P:Program} [Tb P]:List (Con P)→FuncId→List AV→List AO→(AV→List AO→Option ρ)→Option ρ
 | [],_,_,_,_=>none
 | c::cs,q,avs,objs,k=>cond (Nat.beq c.k q) (aj5 c avs objs k) (conL cs q avs objs k)
def conX {ρ:Type} {P:Program} [Tb P] (cs:List (Con P)) (o:Oper) (sl:Nat→AV) (objs:List AO) (k:AV→List AO→Option ρ):Option ρ:=match o.op with
 | .call ⟨.value g,⟨args⟩,_⟩=>(fnA (evA sl g) objs).bind λq=>cond (ar2 P q.1) (conL cs q.1 (args.map (evA sl)++q.2) objs k) none
 | _=>none
section
variable {ρ:Type} {P:Program} [Tb P]
theorem yz_ {k:FuncId} (h:ar2 P k=true):eh_ P k:=by
 unfold ar2 at h
 split at h
 ·rename_i fn e
  simp only[a1_,l1_] at h
  exact⟨fn,cv4 e,by simpa using h.1,h.2⟩
 ·cases h
theorem bl1 {c:Con P} {avs:List AV} {objs:List AO} {k:AV→List AO→Option ρ} {r:ρ} (h:aj5 c avs objs k=some r):∃ av objs',k av objs'=some r ∧
  ∀ {S:PH} {hv:Nat→Value} {Fm:List HP} {sl:Nat→AV} {f:Fr} {w:World} {vs:List Value},Sit S hv Fm sl objs f w→Fa (RA hv S) avs vs →
   Calls P c.k vs.toArray w λe w'=>∃ v S',e = .returned v∧BLe objs objs'∧Keep objs objs'∧WfO objs'∧av.lt objs'=true∧S.Le S'∧RA hv S' av v∧Inv w' S' (OHs hv 0 objs'++Fm):=by
 unfold aj5 at h
 cases hf:fb_ Ty.flat c.rs with
 | true =>
  rw[hf] at h
  obtain⟨x,hx,h⟩:=bnd (show Option.bind _ _=some r from h)
  obtain⟨y,hy,h⟩:=bnd h
  refine⟨_,_,h,λ{S hv Fm sl f w vs} hs hr => ?_⟩
  obtain⟨T,Fr,hle,hI,hL,back⟩:=cn6 hs.inv
  refine (c.ok (hs.gl.mono hle) hI (bw9 hL (hr.imp λ_ _=>RA.mono hle) hx) hy).mono λe w' he => ?_
  cases e with
  | returned v =>
   obtain⟨U,O',h1,h2,rfl,h3⟩:=he
   exact⟨v,S,rfl,BLe.refl _,Keep.refl _,hs.wfo,af6,PH.Le.refl S,co8 hf h3,back h2 h1⟩
  | panicked _=>exact he.elim
  | outgrown=>exact he.elim
 | false =>
  rw[hf] at h
  obtain⟨x,hx,h⟩:=bnd (show Option.bind _ _=some r from h)
  obtain⟨y,hy,h⟩:=bnd h
  refine⟨_,_,h,λ{S hv Fm sl f w vs} hs hr => ?_⟩
  obtain⟨S1,hle,hI⟩:=yj_ (os:=ai1 avs) hs.inv
  have hr2:Fa (RA hv S1) (avs.map (rsA (wp_ objs (ai1 avs)))) vs:=Fa.map (R:=RA hv S) (f:=rsA (wp_ objs (ai1 avs))) (λa v ha=>ba3 hI (RA.mono hle ha)) hr
  refine (c.ok (hs.gl.mono hle) hI (ay5 hr2 hx) hy).mono λe w' he => ?_
  cases e with
  | returned v =>
   obtain⟨U,O',h1,h2,rfl,h3⟩:=he
   exact⟨v,U,rfl,frzL_ble,frzL_keep,sz_ hs.wfo,af6,hle.trans h1,bs5 h3,h2⟩
  | panicked _=>exact he.elim
  | outgrown=>exact he.elim
theorem cb7:∀ {cs:List (Con P)} {q:FuncId} {avs:List AV} {objs:List AO} {k:AV→List AO→Option ρ} {r:ρ},conL cs q avs objs k=some r→∃ av objs',k av objs'=some r ∧
  ∀ {S:PH} {hv:Nat→Value} {Fm:List HP} {sl:Nat→AV} {f:Fr} {w:World} {vs:List Value},Sit S hv Fm sl objs f w→Fa (RA hv S) avs vs →
   Calls P q vs.toArray w λe w'=>∃ v S',e = .returned v∧BLe objs objs'∧Keep objs objs'∧WfO objs'∧av.lt objs'=true∧S.Le S'∧RA hv S' av v∧Inv w' S' (OHs hv 0 objs'++Fm)
 | [],_,_,_,_,_,h=>by cases h
 | c::cs,q,avs,objs,k,r,h=>by
  unfold conL at h
  cases hb:Nat.beq c.k q with
  | true =>
   rw[hb] at h
   have:=a3_ hb
   subst this
   exact bl1 (show aj5 c avs objs k=some r from h)
  | false =>
   rw[hb] at h
   exact cb7 (show conL cs q avs objs k=some r from h)
theorem cb6 {cs:List (Con P)} {o:Oper} {sl:Nat→AV} {objs:List AO} {k:AV→List AO→Option ρ} {r:ρ} (h:conX cs o sl objs k=some r):∃ av objs',k av objs'=some r∧OpUn P o sl objs av objs':=by
 obtain⟨dd,op,ty,pos,af,gd⟩:=o
 unfold conX at h
 simp only at h
 split at h
 ·rename_i g args ct
  obtain⟨⟨fk,l⟩,hq,h⟩:=bnd h
  obtain⟨hok,h⟩:=bo_ h
  obtain⟨av,objs',h1,h2⟩:=cb7 h
  refine⟨av,objs',h1,?_⟩
  intro S hv Fm f w n ro K hs hd kk
  obtain⟨cap,e1,e2,e3⟩:=bz6 hs hq (hs.ev g)
  have hargs:Fa (RA hv S) (args.map (evA sl)++l) (args.map (ev f)++cap):=ca7 (ai8 hs args) e2
  refine mz_ (k:=fk) (vs:=(args.map (ev f)++cap).toArray) (sh_ (yz_ hok) e1 (by simp)) (h2 hs hargs) λe w' he => ?_
  obtain⟨v,S',rfl,g1,g2,g3,g4,g5,g6,g7⟩:=he
  exact⟨v,rfl,hd,kk v S' hv w' g1 g2 g3 g4 g5 (λ_ _=>rfl) g6 g7⟩
 ·cases h
def statK:Op→Option FuncId
 | .call ⟨.value (.func k),_,_⟩=>some k
 | _=>none
def bk6:List (Cpy P)→FuncId→Option (Cpy P)
 | [],_=>none
 | c::cs,q=>cond (Nat.beq c.k q) (some c) (bk6 cs q)
theorem by8:∀ {cs:List (Cpy P)} {q:FuncId} {c:Cpy P},bk6 cs q=some c→c.k=q
 | [],_,_,h=>by cases h
 | c::cs,q,d,h=>by
  unfold bk6 at h
  cases hb:Nat.beq c.k q with
  | true=>rw[hb] at h;cases h;exact a3_ hb
  | false=>rw[hb] at h;exact by8 h
def clX (cl:List (Cpy P)) (o:Oper) (sl:Nat→AV) (objs:List AO) (fr:Nat) (k:AV→List AO→Option ρ) (els:Option ρ):Option ρ:=match o.op with
 | .call ⟨.value (.func q),⟨[x]⟩,_⟩=>match bk6 cl q with
  | some c=>cond (ar2 P q) (cc1 c (evA sl x) objs fr k) none
  | none=>els
 | _=>els
theorem cw2 {cl:List (Cpy P)} {o:Oper} {sl:Nat→AV} {objs:List AO} {fr:Nat} {k:AV→List AO→Option ρ} {els:Option ρ} {r:ρ} (h:clX cl o sl objs fr k els=some r):els=some r∨∃ av objs',k av objs'=some r∧OpUn P o sl objs av objs':=by
 obtain⟨dd,op,ty,pos,af,gd⟩:=o
 unfold clX at h
 simp only at h
 split at h
 ·rename_i q x ct
  split at h
  ·rename_i c hc
   obtain⟨hok,h⟩:=bo_ h
   obtain⟨av,objs',h1,g1,g2,g3,g4,g5⟩:=cc0 h
   have hk:=by8 hc
   subst hk
   refine .inr ⟨av,objs',h1,?_⟩
   intro S hv Fm f w n ro K hs hd kk
   refine mz_ (k:=c.k) (vs:=[ev f x].toArray) (sh_ (yz_ hok) (f:=f) (g:=.func c.k) (cap := #[]) rfl (by simp)) (g5 hs (hs.ev x)) λe w' he => ?_
   obtain⟨u,hv',rfl,q1,q2,q3⟩:=he
   exact⟨u,rfl,hd,kk u S hv' w' g1 g2 (g3 hs.wfo) g4 (PH.Le.refl _) q1 q2 q3⟩
  ·exact .inl h
 ·exact .inl h
def cxC (cs:List (Con P)) (cl:List (Cpy P)):Cx P:=⟨λo=>match statK o.op with
  | some q=>cond (bk6 cl q).isSome 1 0
  | none=>0,λ_ o sl objs fr k=>clX cl o sl objs fr k (conX cs o sl objs k),λh=>(cw2 h).elim cb6 id,λ_ _ _ _ _=>none,λh=>(by cases h)⟩
structure Rpt (P:Program) [Tb P] where
 k:FuncId
 ts:List Ty
 t:Ty
 E:TypeId
 F:od_ ts→Option (List t.den)
 ok:∀ {w:World} {S:PH} {Fr:List HP} {hv:Nat→Value} {vs:List Value} {x:od_ ts} {r:List t.den},GlS S→Inv w S Fr→Fa (RA hv S) (cg3 ts x) vs→F x=some r →
  Calls P k vs.toArray w λe w'=>∃ u S',e = .returned u∧S.Le S'∧Inv w' S' (@Row t.den t.enc E u r::Fr)
def by5:List (Rpt P)→FuncId→Option (Rpt P)
 | [],_=>none
 | c::cs,q=>cond (Nat.beq c.k q) (some c) (by5 cs q)
theorem by4:∀ {cs:List (Rpt P)} {q:FuncId} {c:Rpt P},by5 cs q=some c→c.k=q
 | [],_,_,h=>by cases h
 | c::cs,q,d,h=>by
  unfold by5 at h
  cases hb:Nat.beq c.k q with
  | true=>rw[hb] at h;cases h;exact a3_ hb
  | false=>rw[hb] at h;exact by4 h
def rptCall (c:Rpt P) (avs:List AV) (objs:List AO) (fr:Nat) (k:AV→List AO→Option ρ):Option ρ :=
 (asDs c.ts (avs.map (rsA (wp_ objs (ai1 avs))))).bind λx=>(c.F x).bind λr=>zg_ (wp_ objs (ai1 avs)) fr (.row c.t c.E r false) (zf_ fr) k
def rpX (rp:List (Rpt P)) (o:Oper) (sl:Nat→AV) (objs:List AO) (fr:Nat) (k:AV→List AO→Option ρ) (els:Option ρ):Option ρ:=match o.op with
 | .call ⟨.value (.func q),⟨args⟩,_⟩=>match by5 rp q with
  | some c=>cond (ar2 P q) (rptCall c (args.map (evA sl)) objs fr k) none
  | none=>els
 | _=>els
theorem rpX_ok {rp:List (Rpt P)} {o:Oper} {sl:Nat→AV} {objs:List AO} {fr:Nat} {k:AV→List AO→Option ρ} {els:Option ρ} {r:ρ} (h:rpX rp o sl objs fr k els=some r):els=some r∨∃ av objs',k av objs'=some r∧OpUn P o sl objs av objs':=by
 obtain⟨dd,op,ty,pos,af,gd⟩:=o
 unfold rpX at h
 simp only at h
 split at h
 ·rename_i q args ct
  split at h
  ·rename_i c hc
   obtain⟨hok,h⟩:=bo_ h
   obtain⟨x,hx,h⟩:=bnd h
   obtain⟨y,hy,h⟩:=bnd h
   obtain⟨hu,h9⟩:=gb_ h
   have hk:=by4 hc
   subst hk
   refine .inr ⟨_,_,h9,?_⟩
   intro S hv Fm f w n ro K hs hd kk
   generalize hids:ai1 (args.map (evA sl))=ids at hx hu kk ⊢
   obtain⟨S1,hle,hI⟩:=yj_ (os:=ids) hs.inv
   have hr2:Fa (RA hv S1) ((args.map (evA sl)).map (rsA (wp_ objs ids))) (args.map (ev f)):=Fa.map (R:=RA hv S) (f:=rsA (wp_ objs ids)) (λa v ha=>ba3 hI (RA.mono hle ha)) (ai8 hs args)
   refine mz_ (k:=c.k) (vs:=(args.map (ev f)).toArray) (sh_ (yz_ hok) (f:=f) (g:=.func c.k) (cap := #[]) rfl (by simp)) (c.ok (hs.gl.mono hle) hI (ay5 hr2 hx) hy) λe w' he => ?_
   obtain⟨u,S2,rfl,h1,h2⟩:=he
   obtain⟨g1,g2⟩:=ow_ (hv:=hv) (fr:=fr) h2
   exact⟨u,rfl,hd,kk u S2 (ins hv fr u) w' (frzL_ble.trans (be_ (by simp))) (frzL_keep.trans (cd_ (cg_ hu) trivial)) (dx_ (by simp) (sz_ hs.wfo) rfl) (iu_ hu (by simp)) (hle.trans h1) ((ng_ (cg_ hu)).sub frzL_ble) g2 (gx_ (sz_ hs.wfo) (cg_ hu) h2)⟩
  ·exact .inl h
 ·exact .inl h
def cxR (rp:List (Rpt P)) (cs:List (Con P)) (cl:List (Cpy P)):Cx P:=⟨λo=>match statK o.op with
  | some q=>cond (bk6 cl q).isSome 1 (cond (by5 rp q).isSome 1 0)
  | none=>0,λ_ o sl objs fr k=>rpX rp o sl objs fr k (clX cl o sl objs fr k (conX cs o sl objs k)),λh=>(rpX_ok h).elim (λh=>(cw2 h).elim cb6 id) id,λ_ _ _ _ _=>none,λh=>(by cases h)⟩
end
end
section
variable [Gb]
def asBs:(ts:List Ty)→List BV→Option (od_ ts)
 | [],[]=>some ()
 | t::ts,a::l=>(asD t (.b a)).bind λx=>(asBs ts l).bind λy=>some (x,y)
 | _,_=>none
def outR:(rs:List Ty)→AV→Option (od_ rs)
 | [t],a=>(asD t a).bind λx=>some (x,())
 | rs,.tup l=>asBs rs l
 | _,_=>none
def outD (rs:List Ty) (av:AV) (objs:List AO):Option (od_ rs):=outR rs (rsA (wp_ objs (cu8 av)) av)
noncomputable def au_ {P:Program} [Tb P] (cx:Cx P) (an:An) (k:FuncId) (ts rs:List Ty) (x:od_ ts):Option (od_ rs):=inlF cx an k (cg3 ts x) [] λav objs=>outD rs av objs
section
variable {hv:Nat→Value} {S:PH}
theorem ce3:∀ {ts:List Ty} {l:List BV} {vs:List Value} {x:od_ ts},Fa (RB hv S) l vs→asBs ts l=some x→Fa (RB hv S) (ofBs ts x) vs
 | [],[],[],x,_,_=>trivial
 | t::ts,a::l,v::vs,x,h,hx=>by
  obtain⟨y,h1,hx⟩:=bnd hx
  obtain⟨z,h2,hx⟩:=bnd hx
  cases hx
  exact⟨pd_ (gn_ (a:=.b a) h.1 h1),ce3 h.2 h2⟩
 | [],_::_,_,_,_,hx=>by cases hx
 | _::_,[],_,_,_,hx=>by cases hx
theorem bs6 {rs:List Ty} {a:AV} {v:Value} {x:od_ rs} (h:RA hv S a v) (hx:outR rs a=some x):RA hv S (as5 rs x) v:=by
 unfold outR at hx
 split at hx
 ·obtain⟨y,h1,hx⟩:=bnd hx
  cases hx
  exact pd_ (gn_ h h1)
 ·rename_i rs' l hne
  obtain⟨vs,e,hf⟩:=h
  unfold as5
  split
  ·exact absurd rfl (hne _)
  ·exact⟨vs,e,ce3 hf hx⟩
 ·cases hx
theorem bt2 {n:List AO}:∀ {ts:List Ty} {x:od_ ts},∀ a ∈ cg3 ts x,a.lt n=true
 | [],_,a,h=>by cases h
 | t::ts,x,a,h=>by
  rcases d8_.1 h with rfl | h
  ·exact aw4
  ·exact bt2 (ts:=ts) a h
end
theorem cp3 {P:Program} [Tb P] {cx:Cx P} {an:An} {k:FuncId} {ts rs:List Ty} {x:od_ ts} {r:od_ rs} (h:au_ cx an k ts rs x=some r) {w:World} {S:PH} {Fr:List HP} {hv:Nat→Value} {vs:List Value} (hG:GlS S) (hI:Inv w S Fr) (ha:Fa (RA hv S) (cg3 ts x) vs) :
  Calls P k vs.toArray w (Done S Fr λT v O'=>O'=[]∧RA (λ_=>undef) T (as5 rs r) v):=by
 obtain⟨_,av,objs',h1,h2⟩:=ah7 h
 refine (h2 (Fm:=Fr) (hv:=hv) hG hI (λa ha=>by cases ha) ha λa h=>bt2 a h).mono λe w' he => ?_
 obtain⟨v,S',hv',rfl,g1,g2,g3,g4,g5,g6,g7,g8⟩:=he
 obtain⟨S2,h3,h4⟩:=yj_ (os:=cu8 av) g8
 exact⟨S2,[],g5.trans h3,sw_ h4,rfl,bs5 (bs6 (ba3 h4 (RA.mono h3 g7)) h1)⟩
noncomputable def av_ {P:Program} [Tb P] (cx:Cx P) (an:An) (k:FuncId) (ts rs:List Ty) (F:od_ ts→Option (od_ rs)) (h:au_ cx an k ts rs=F):Con P :=
 ⟨k,ts,rs,F,λhG hI ha hF=>cp3 (by rw[h];exact hF) hG hI ha⟩
def cf8 (P:Program) [Tb P] (k:FuncId) (ts rs:List Ty) (F:od_ ts→Option (od_ rs)):Prop :=
 ∀ {w:World} {S:PH} {Fr:List HP} {hv:Nat→Value} {vs:List Value} {x:od_ ts} {r:od_ rs},GlS S→Inv w S Fr→Fa (RA hv S) (cg3 ts x) vs→F x=some r →
  Calls P k vs.toArray w (Done S Fr λT v O'=>O'=[]∧RA (λ_=>undef) T (as5 rs r) v)
def cnv {P:Program} [Tb P] (k:FuncId) (ts rs:List Ty) (F:od_ ts→Option (od_ rs)) (h:cf8 P k ts rs F):Con P:=⟨k,ts,rs,F,λhG hI ha hF=>h hG hI ha hF⟩
def ca_ {α β γ:Type} (v:α⊕β) (f:α→γ) (g:β→γ):γ:=Sum.casesOn v f g
@[simp] theorem ad1 {α β γ:Type} (x:α) (f:α→γ) (g:β→γ):ca_ (.inl x) f g=f x:=rfl
@[simp] theorem sumE_inr {α β γ:Type} (x:β) (f:α→γ) (g:β→γ):ca_ (.inr x) f g=g x:=rfl
end
section
noncomputable def cpCon [Gb] {P:Program} [Tb P] (c:Cpy P):Con P :=
 ⟨c.k,[.list c.t],[.list c.t],λx=>(push? [] x.1).map λr=>(r,()),λ{w S Fr hv vs x r} hG hI hf hF=>by
  match vs,hf with
  | [v],⟨hv1,_⟩ =>
   have hr:RVt (.list c.t) S v x.1:=rl_ (hv:=hv) hv1
   obtain⟨m,hm,rfl⟩:=f4_.1 hF
   refine (c.ok (cb4 hr) hI hm).mono λe w' he => ?_
   obtain⟨u,rfl,hI2⟩:=he
   obtain⟨U,g1,g2,g3⟩:=@Inv.rowFreeze c.t.den c.t.enc _ _ _ _ _ _ hI2
   exact⟨U,[],g1,g2,rfl,pd_ (t:=.list c.t) g3⟩⟩
def cvG {i j:Gb} {P:Program} [Tb P] (h:∀ g,@Gb.ev j g=@Gb.ev i g) (h2:∀ g,@Gb.rw j g=@Gb.rw i g) (c:@Con i P _):@Con j P _ :=
 @Con.mk j P _ (@Con.k i P _ c) (@Con.ts i P _ c) (@Con.rs i P _ c) (@Con.F i P _ c) λ{w S Fr hv vs x r} hG hI hf hF=>@Con.ok i P _ c w S Fr hv vs x r ⟨λg d e=>hG.1 g d (by rw[h];exact e),λg cs e=>hG.2 g cs (by rw[h2];exact e)⟩ hI hf hF
end
end Go.Proofs.YtgeehfnbhbibeaaGreatDoor.Rex
namespace Go.Proofs.YtgeehfnbhbibeaaGreatDoor.Pad
open Go Go.ChangeShapes Go.WideShapes Go.ChangeAt Go.RowKit Go.Deep
section
def PH.all (W:World):PH:=⟨λb=>W.heap[b]?,W.os,W.output⟩
theorem inv_all (W:World):Inv W (PH.all W) []:=⟨rfl,rfl,λ_ _ h=>h⟩
section
variable {H:Type} {enc:TypeId×Value→H} {P:Program} {W:World} {base:Nat} {sp:Nat→Bool} {hd:Bool}
def Rd (enc:TypeId×Value→H) (P:Program) (W:World) (base:Nat) (sp:Nat→Bool) (hd:Bool) (α:Type) [Enc α] (t:TypeId):Prop :=
 ∀ (n:Nat) (cs:List Value) (x:DataW H×List MemPlace),DataW.trod enc P W base sp hd n t cs=some x→∃ a:α,Enc.rep (PH.all W) cs a
theorem rd_int {t:TypeId} (ht:P.underlying t=some (.int .i64)):Rd enc P W base sp hd Int t:=by
 intro n cs x h
 obtain⟨a,rfl,_,_⟩:=DataW.trod_int ht h
 exact⟨a,rfl⟩
theorem rd_bool {t:TypeId} (ht:P.underlying t=some .bool):Rd enc P W base sp hd Bool t:=by
 intro n cs x h
 obtain⟨a,rfl,_⟩:=DataW.trod_bool ht h
 exact⟨a,rfl⟩
theorem cv2 {α:Type} {Q:Nat→α→Prop}:∀ {n:Nat},(∀ i,i<n→∃ x,Q i x)→∃ l:List α,l.length=n∧∀ i x,l[i]?=some x→Q i x
 | 0,_=>⟨[],rfl,λi x h=>by simp at h⟩
 | n+1,h=>by
  obtain⟨l,h1,h2⟩:=cv2 (n:=n) (λi hi=>h i (by omega))
  obtain⟨y,hy⟩:=h n (by omega)
  refine⟨l++[y],by simp[h1],λi x hx => ?_⟩
  rcases l3_ i n with hi | hi
  ·rw[b1_ (by omega)] at hx
   exact h2 i x hx
  ·rw[c6_ (by omega)] at hx
   have:i=n:=by
    rcases l3_ (i - l.length) 1 with h' | h'
    ·omega
    ·rw[b4_ (by simpa using h')] at hx;cases hx
   subst this
   rw[h1,l2_] at hx
   simp only[l5_,p0_] at hx
   subst hx;exact hy
theorem rd_list {α:Type} [Enc α] {t e:TypeId} (ht:P.underlying t=some (.slice e)) (hc:P.cellsOf e=Enc.sz α) (h:Rd enc P W base sp hd α e):Rd enc P W base sp hd (List α) t:=by
 intro n cs x hx
 rcases open_slice ht hx with ⟨rfl,_⟩ | ⟨a,len,cap,m,k,D,Pl,rfl,_,hl,hm,hmm,_,hel⟩
 ·exact⟨[],none,0,rfl,c3_ _,by decide,λ_=>⟨rfl,rfl⟩,λad had=>by cases had⟩
 ·have hle:len≤m:=by rw[hmm];split<;>omega
  obtain⟨l,h1,h2⟩:=cv2 (n:=len) (Q:=λi (y:α)=>∃ es,Enc.rep (PH.all W) es y∧∀ j u,es[j]?=some u→W.cell? (a.add (i * Enc.sz α+j))=some u) (λi hi=>by
   obtain⟨cs',c1,c2⟩:=hel i (by omega)
   obtain⟨y,hy⟩:=h k cs' _ c2
   obtain⟨_,c3,c4⟩:=World.cells?_some c1
   refine⟨y,cs',hy,λj u hj => ?_⟩
   have hj':j<P.cellsOf e:=by rw[← c3];exact (a4_.1 hj).1
   have:=c4 j hj'
   rw[ez_,hj,hc] at this
   exact this)
  exact⟨l,some a,cap,by rw[h1],by omega,hm,λh=>(by cases h),λad had i y hy=>(by cases had;exact h2 i y hy)⟩
def RdF (enc:TypeId×Value→H) (P:Program) (W:World) (base:Nat) (sp:Nat→Bool) (hd:Bool) (α:Type) [Enc α] (off:Nat) (fs:List Field):Prop :=
 ∀ (n:Nat) (cs:List Value),cs.length=off+Enc.sz α→(∀ f ∈ fs,∃ y,DataW.trod enc P W base sp hd n f.type ((cs.drop f.offset).take (P.cellsOf f.type))=some y)→∃ a:α,Enc.rep (PH.all W) (cs.drop off) a
theorem br1 {α:Type} [Enc α] {off:Nat} {f:Field} (ho:f.offset=off) (hc:P.cellsOf f.type=Enc.sz α) (h:Rd enc P W base sp hd α f.type):RdF enc P W base sp hd α off [f]:=by
 intro n cs hl hf
 obtain⟨y,hy⟩:=hf f (by simp)
 obtain⟨a,ha⟩:=h _ _ _ hy
 rw[ho,g6_ (by rw[j2_,hc];omega)] at ha
 exact⟨a,ha⟩
theorem bb0 {α β:Type} [Enc α] [Enc β] {off:Nat} {f:Field} {fs:List Field} (ho:f.offset=off) (hc:P.cellsOf f.type=Enc.sz α) (h:Rd enc P W base sp hd α f.type)
  (hr:RdF enc P W base sp hd β (off+Enc.sz α) fs):RdF enc P W base sp hd (α×β) off (f::fs):=by
 intro n cs hl hf
 obtain⟨y,hy⟩:=hf f (by simp)
 obtain⟨a,ha⟩:=h _ _ _ hy
 have hl':cs.length=off+(Enc.sz α+Enc.sz β):=hl
 obtain⟨b,hb⟩:=hr n cs (by omega) (λg hg=>hf g (by simp[hg]))
 rw[ho,hc] at ha
 refine⟨(a,b),_,_,?_,ha,hb⟩
 rw[← List.drop_drop,g1_]
theorem an0 {σ τ:Type} [Enc τ] (f:σ→τ) (g:τ→σ) (hfg:∀ x,f (g x)=x) {t:TypeId} {fs:Array Field} (ht:P.underlying t=some (.struct fs)) (hc:P.cellsOf t=Enc.sz τ)
  (h:RdF enc P W base sp hd τ 0 fs.toList):@Rd H enc P W base sp hd σ (encBy f) t:=by
 intro n cs x hx
 obtain⟨xs,k,_,_,hl,hlen,hf⟩:=DataW.trod_struct ht hx
 obtain⟨a,ha⟩:=h k cs (by omega) (λfl hfl=>by
  obtain⟨i,hi,e⟩:=q3_ hfl
  have hi':i<fs.size:=by simpa using hi
  have:=hf i fl (by rw[d1_ hi',← e];simp)
  rw[a7_ (by omega)] at this
  exact⟨_,this⟩)
 refine⟨g a,?_⟩
 show Enc.rep (PH.all W) cs (f (g a))
 rw[hfg]
 simpa using ha
theorem al6 {α:Type} [Enc α] {r:Reach} {b0:Nat} {t:TypeId} {fs:Array Field} {v:Value} {d:DataW H} {ps:List MemPlace} (ha:Enc.agg α=true) (ht:P.underlying t=some (.struct fs))
  (hval:Value.okWide P W r b0 t v) (hr:DataW.Trod enc P W base sp hd t v d ps) (h:Rd enc P W base sp hd α t):∃ a:α,RV (PH.all W) v a:=by
 obtain⟨cs,rfl,_⟩:=okWide_struct ht hval
 obtain⟨n,hn⟩:=hr
 obtain⟨a,h1⟩:=h _ _ _ hn
 refine⟨a,_,h1,?_⟩
 rw[ha];simp[mkV,Value.cells]
theorem ci9 {α:Type} [Enc α] {r:Reach} {b0:Nat} {t e:TypeId} {v:Value} {d:DataW H} {ps:List MemPlace} (ht:P.underlying t=some (.slice e))
  (hval:Value.okWide P W r b0 t v) (hr:DataW.Trod enc P W base sp hd t v d ps) (h:Rd enc P W base sp hd (List α) t):∃ a:List α,RV (PH.all W) v a:=by
 obtain⟨a,len,cap,rfl⟩:=okWide_slice ht hval
 obtain⟨n,hn⟩:=hr
 obtain⟨x,h1⟩:=h _ _ _ hn
 exact⟨x,_,h1,rfl⟩
end
structure Old (W W':World):Prop where
 os:W'.os=W.os
 out:W'.output=W.output
 heap:∀ (b:Nat) o,W.heap[b]?=some o→W'.heap[b]?=some o
theorem Old.of_inv {W W':World} {T:PH} {O:List HP} (h:Inv W' T O) (hle:(PH.all W).Le T):Old W W' :=
 ⟨h.os.trans hle.os,h.out.trans hle.out,λb o hb=>h.in_ b o (hle.m b o hb)⟩
theorem Old.at_ {W W':World} (h:Old W W') {b:Nat} (hb:b<W.heap.size):W'.heap[b]?=W.heap[b]?:=by
 rw[d1_ hb]
 exact h.heap b _ (d1_ hb)
theorem Old.same {W W':World} (h:Old W W') {p:MemPlace} (hp:p.block<W.heap.size):W.sameAt W' p:=by
 cases p with
 | cell b off =>
  show W'.cell? ⟨b,off,none⟩=W.cell? ⟨b,off,none⟩
  unfold World.cell?
  rw[h.at_ (by exact hp)]
 | map b=>exact h.at_ hp
theorem Old.kept {W W':World} (h:Old W W') (may:MemPlace→Prop):W.keptBut W' may:=by
 refine⟨h.os,h.out,λi hi => ?_⟩
 rw[h.at_ hi,d1_ hi]
 cases W.heap[i] with
 | cells c t fr=>exact⟨rfl,rfl,rfl,λ_ _=>rfl⟩
 | map es cl=>exact .inr ⟨rfl,rfl⟩
 | _=>rfl
section
variable {H:Type} {enc:TypeId×Value→H} {P:Program}
theorem Old.trodAll {W W':World} (h:Old W W') (hl:laidOutB P=true) {sp':Nat→Bool}:∀ {ts:List TypeId} {vs:List Value} {ds:List (DataW H)} {ps:List MemPlace},
  (∀ t ∈ ts,P.readableRec t=true∧t<P.types.size)→DataW.TrodAll enc P W 0 (λ_=>true) true ts vs ds ps→(∀ p ∈ ps,p.block<W.heap.size)→(∀ p ∈ ps,sp' p.block=true)→DataW.TrodAll enc P W' 0 sp' true ts vs ds ps
 | [],_,_,_,_,hA,_,_=>by
  obtain⟨rfl,rfl,rfl⟩:=trodAll_nil hA
  exact rfl
 | t::ts,_,_,_,ht,hA,hp,hs=>by
  obtain⟨v,vs,d,ds,p,q,rfl,rfl,rfl,h0,h1⟩:=trodAll_cons hA
  exact⟨p,q,WideElems.Trod_stays hl (ht t (by simp)).1 (ht t (by simp)).2 h0 (λx hx=>h.same (hp x (by simp[hx]))) (λx hx=>hs x (by simp[hx])),
   Old.trodAll h hl (λt ht'=>ht t (by simp[ht'])) h1 (λx hx=>hp x (by simp[hx])) (λx hx=>hs x (by simp[hx])),rfl⟩
theorem ck7 {f:Func} {s:ChangeSpec} {W W':World} {args:Array Value} {ds gs:List (DataW H)} {before:List MemPlace} {tb:TypeId}
  (hl:laidOutB P=true) (hts:∀ t ∈ f.params.toList,P.readableRec t=true∧t<P.types.size) (hv:s.vars=[]) (hr:f.resultTypes = #[tb]) (hb:P.underlying tb=some .bool)
  (hW:DataW.Whole enc P f.params.toList s.vars false W args.toList ds gs before) (hold:Old W W')
  (e1:(s.fn H (ds++gs)).results=[.lit (.bool true)]) (e2:(s.fn H (ds++gs)).args=ds) (e3:(s.fn H (ds++gs)).vars=[]) :
  s.post enc P f false true false false W args (.bool true) W':=by
 have hlt:=hW.lt
 obtain⟨p,q,hA,hV,rfl,hz,hn⟩:=id hW
 rw[hv] at hV
 obtain⟨rfl,rfl⟩:=trodVars_none hV
 simp only[e7_] at hlt hW
 have hold':∀ x ∈ p,(λb=>decide (b<W.heap.size)) x.block=true:=λx hx=>by simpa using hlt x hx
 refine⟨ds,[],p,[],p,[],hW,?_,?_,?_,World.keptBut_mono (λx hx=>⟨hx,.inr (.inl hx)⟩) (hold.kept _),λh=>by cases h⟩
 ·simp only[e7_] at e1
  rw[hr]
  simp only[e7_,e1]
  exact trodAll_cons_mk (shut_bool hb _) trodAll_mk0
 ·rw[e7_] at e2 ⊢
  rw[e2]
  exact hold.trodAll hl hts hA hlt hold'
 ·rw[e7_] at e3 ⊢
  rw[e3,hv]
  exact rfl
end
end
end Go.Proofs.YtgeehfnbhbibeaaGreatDoor.Pad
namespace Go.Proofs.YtgeehfnbhbibeaaGreatDoor.Rex
open Go Pad Go.ChangeShapes Go.WideShapes Go.ChangeAt Go.RowKit Go.Deep
section
def intN:Ty→Nat→Bool
 | .one .int,n=>Nat.beq n 1
 | .pair .int b,n+1=>intN b n
 | _,_=>false
def isI (P:Program) [Tb P] (e:TypeId):Bool:=match und P e with
 | some (.int .i64)=>true
 | _=>false
mutual
def rdB (P:Program) [Tb P]:Ty→TypeId→Bool
 | .int,T=>match und P T with
  | some (.int .i64)=>true
  | _=>false
 | .bool,T=>match und P T with
  | some .bool=>true
  | _=>false
 | .str,T=>match und P T with
  | some .string=>true
  | _=>false
 | .list t,T=>match und P T with
  | some (.slice e)=>Nat.beq (P.cellsOf e) t.sz&&rdB P t e
  | _=>false
 | .one t,T=>match und P T with
  | some (.struct ⟨[f]⟩)=>Nat.beq (P.cellsOf T) t.sz&&(Nat.beq f.offset 0&&(Nat.beq (P.cellsOf f.type) t.sz&&rdB P t f.type))
  | _=>false
 | .pair a b,T=>match und P T with
  | some (.struct ⟨f::r⟩)=>Nat.beq (P.cellsOf T) (a.sz+b.sz)&&(Nat.beq f.offset 0&&(Nat.beq (P.cellsOf f.type) a.sz&&(rdB P a f.type&&rdFB P b a.sz r)))
  | some (.array n e)=>Nat.beq (P.cellsOf T) n&&(Nat.beq (P.cellsOf e) 1&&(isI P e&&intN (.pair a b) n))
  | _=>false
 | _,_=>false
def rdFB (P:Program) [Tb P]:Ty→Nat→List Field→Bool
 | .one t,off,[f]=>Nat.beq f.offset off&&(Nat.beq (P.cellsOf f.type) t.sz&&rdB P t f.type)
 | .pair a b,off,f::r=>Nat.beq f.offset off&&(Nat.beq (P.cellsOf f.type) a.sz&&(rdB P a f.type&&rdFB P b (off+a.sz) r))
 | _,_,_=>false
end
section
variable [Gb] {H:Type} {enc:TypeId×Value→H} {P:Program} [Tb P] {W:World} {base:Nat} {sp:Nat→Bool} {hd:Bool}
abbrev RdT (enc:TypeId×Value→H) (P:Program) (W:World) (base:Nat) (sp:Nat→Bool) (hd:Bool) (t:Ty) (T:TypeId):Prop:=@Rd H enc P W base sp hd t.den t.enc T
abbrev RdFT (enc:TypeId×Value→H) (P:Program) (W:World) (base:Nat) (sp:Nat→Bool) (hd:Bool) (t:Ty) (off:Nat) (fs:List Field):Prop:=@RdF H enc P W base sp hd t.den t.enc off fs
theorem rd_str {t:TypeId} (ht:P.underlying t=some .string):RdT enc P W base sp hd .str t:=by
 intro n cs x h
 obtain⟨s,rfl,_,_⟩:=DataW.trod_string ht h
 refine⟨s.data.toList,?_⟩
 show [Value.string s]=[Value.string ⟨s.data.toList.toArray⟩]
 rw[k8_]
theorem bd3 {S:PH}:∀ {t:Ty} {n:Nat} {cs:List Value},intN t n=true→cs.length=n→(∀ c ∈ cs,∃ k:Int,c = .int .i64 k)→∃ x:t.den,t.enc.rep S cs x
 | .one .int,n,cs,h,hl,hc=>by
  obtain rfl:n=1:=a3_ h
  match cs,hl with
  | [c],_ =>
   obtain⟨k,rfl⟩:=hc c (by simp)
   exact⟨k,rfl⟩
 | .pair .int b,n+1,cs,h,hl,hc=>by
  match cs,hl with
  | c::cs,hl =>
   obtain⟨k,rfl⟩:=hc c (by simp)
   obtain⟨x,hx⟩:=bd3 (S:=S) (t:=b) (n:=n) (cs:=cs) h (by simpa using hl) λc hm=>hc c (by simp[hm])
   exact⟨(k,x),[_],cs,rfl,rfl,hx⟩
 | .int,_,_,h,_,_=>by cases h
 | .bool,_,_,h,_,_=>by cases h
 | .u8,_,_,h,_,_=>by cases h
 | .str,_,_,h,_,_=>by cases h
 | .unit,_,_,h,_,_=>by cases h
 | .list _,_,_,h,_,_=>by cases h
 | .ref _,_,_,h,_,_=>by cases h
 | .clo _ _,_,_,h,_,_=>by cases h
 | .one .bool,_,_,h,_,_=>by cases h
 | .one .u8,_,_,h,_,_=>by cases h
 | .one .str,_,_,h,_,_=>by cases h
 | .one .unit,_,_,h,_,_=>by cases h
 | .one (.list _),_,_,h,_,_=>by cases h
 | .one (.one _),_,_,h,_,_=>by cases h
 | .one (.pair _ _),_,_,h,_,_=>by cases h
 | .one (.ref _),_,_,h,_,_=>by cases h
 | .one (.clo _ _),_,_,h,_,_=>by cases h
 | .pair .int b,0,_,h,_,_=>by cases h
 | .pair .bool _,_,_,h,_,_=>by cases h
 | .pair .u8 _,_,_,h,_,_=>by cases h
 | .pair .str _,_,_,h,_,_=>by cases h
 | .pair .unit _,_,_,h,_,_=>by cases h
 | .pair (.list _) _,_,_,h,_,_=>by cases h
 | .pair (.one _) _,_,_,h,_,_=>by cases h
 | .pair (.pair _ _) _,_,_,h,_,_=>by cases h
 | .pair (.ref _) _,_,_,h,_,_=>by cases h
 | .pair (.clo _ _) _,_,_,h,_,_=>by cases h
theorem isI_ok {e:TypeId} (h:isI P e=true):P.underlying e=some (.int .i64):=by
 unfold isI at h
 split at h
 ·rename_i hu;exact cs_ hu
 ·cases h
theorem rd_arr {t:Ty} {T e:TypeId} {n:Nat} (ht:P.underlying T=some (.array n e)) (h1:P.cellsOf T=n) (h2:P.cellsOf e=1) (h3:P.underlying e=some (.int .i64)) (h4:intN t n=true):RdT enc P W base sp hd t T:=by
 intro m cs x h
 obtain⟨xs,k,_,_,hl,hn,hi⟩:=DataW.trod_array ht h
 refine bd3 h4 (hl.trans h1) λc hc => ?_
 obtain⟨i,hi1,rfl⟩:=q3_ hc
 have hin:i<n:=by omega
 have:=hi i hin
 rw[h2,q2_] at this
 have e1:(cs.drop i).take 1=[cs[i]]:=by
  rw[i5_ hi1]
  rfl
 rw[e1,a7_ (by omega)] at this
 obtain⟨a,e2,_,_⟩:=DataW.trod_int h3 this
 exact⟨a,by simpa using e2⟩
theorem ao1 {r:Reach} {b0:Nat} {T e:TypeId} {n:Nat} {v:Value} (ht:P.underlying T=some (.array n e)) (h:Value.okWide P W r b0 T v):∃ cs,v = .agg cs∧cs.size=P.cellsOf T:=by
 simp only[Value.okWide,ht] at h
 obtain⟨cs,h1,h2,_⟩:=h
 exact⟨cs,h1,h2⟩
theorem bl5 {a b:Nat} (h:Nat.beq a b=true):a=b:=a3_ h
mutual
theorem aa0:∀ {t:Ty} {T:TypeId},rdB P t T=true→RdT enc P W base sp hd t T
 | .int,T,h=>by
  unfold rdB at h
  split at h
  ·rename_i hu;exact rd_int (cs_ hu)
  ·cases h
 | .bool,T,h=>by
  unfold rdB at h
  split at h
  ·rename_i hu;exact rd_bool (cs_ hu)
  ·cases h
 | .str,T,h=>by
  unfold rdB at h
  split at h
  ·rename_i hu;exact rd_str (cs_ hu)
  ·cases h
 | .list t,T,h=>by
  unfold rdB at h
  split at h
  ·rename_i e hu
   rw[a1_] at h
   exact @rd_list H enc P W base sp hd t.den t.enc T e (cs_ hu) ((bl5 h.1).trans (cj_ t).symm) (aa0 h.2)
  ·cases h
 | .one t,T,h=>by
  unfold rdB at h
  split at h
  ·rename_i f hu
   simp only[a1_] at h
   obtain⟨h1,h2,h3,h4⟩:=h
   exact @an0 H enc P W base sp hd t.den t.den t.enc (λx=>x) (λx=>x) (λ_=>rfl) T _ (cs_ hu) ((bl5 h1).trans (cj_ t).symm)
    (@br1 H enc P W base sp hd t.den t.enc 0 f (bl5 h2) ((bl5 h3).trans (cj_ t).symm) (aa0 h4))
  ·cases h
 | .pair a b,T,h=>by
  unfold rdB at h
  split at h
  ·rename_i f r hu
   simp only[a1_] at h
   obtain⟨h1,h2,h3,h4,h5⟩:=h
   have hr:RdFT enc P W base sp hd b (0+a.sz) r:=by rw[b0_];exact br2 h5
   rw[← cj_ a] at hr
   exact @an0 H enc P W base sp hd (a.den×b.den) (a.den×b.den) (@instEncProd a.den b.den a.enc b.enc) (λx=>x) (λx=>x) (λ_=>rfl) T _ (cs_ hu) ((bl5 h1).trans (by rw[← cj_ a,← cj_ b];rfl))
    (@bb0 H enc P W base sp hd a.den b.den a.enc b.enc 0 f r (bl5 h2) ((bl5 h3).trans (cj_ a).symm) (aa0 h4) hr)
  ·rename_i n e hu
   simp only[a1_] at h
   obtain⟨h1,h2,h3,h4⟩:=h
   exact rd_arr (cs_ hu) (bl5 h1) (bl5 h2) (isI_ok h3) h4
  ·cases h
 | .u8,_,h=>by cases h
 | .unit,_,h=>by cases h
 | .ref _,_,h=>by cases h
 | .clo _ _,_,h=>by cases h
theorem br2:∀ {t:Ty} {off:Nat} {fs:List Field},rdFB P t off fs=true→RdFT enc P W base sp hd t off fs
 | .one t,off,[f],h=>by
  unfold rdFB at h
  simp only[a1_] at h
  obtain⟨h2,h3,h4⟩:=h
  exact @br1 H enc P W base sp hd t.den t.enc off f (bl5 h2) ((bl5 h3).trans (cj_ t).symm) (aa0 h4)
 | .pair a b,off,f::r,h=>by
  unfold rdFB at h
  simp only[a1_] at h
  obtain⟨h2,h3,h4,h5⟩:=h
  have hr:RdFT enc P W base sp hd b (off+a.sz) r:=br2 h5
  rw[← cj_ a] at hr
  exact @bb0 H enc P W base sp hd a.den b.den a.enc b.enc off f r (bl5 h2) ((bl5 h3).trans (cj_ a).symm) (aa0 h4) hr
 | .one _,_,[],h=>by cases h
 | .one _,_,_::_::_,h=>by cases h
 | .pair _ _,_,[],h=>by cases h
 | .int,_,_,h=>by cases h
 | .bool,_,_,h=>by cases h
 | .str,_,_,h=>by cases h
 | .list _,_,_,h=>by cases h
 | .u8,_,_,h=>by cases h
 | .unit,_,_,h=>by cases h
 | .ref _,_,_,h=>by cases h
 | .clo _ _,_,_,h=>by cases h
end
theorem arg_rv {r:Reach} {b0:Nat} {t:Ty} {T:TypeId} {v:Value} {d:DataW H} {ps:List MemPlace} (hb:rdB P t T=true) (hval:Value.okWide P W r b0 T v) (hr:DataW.Trod enc P W base sp hd T v d ps):∃ x:t.den,RVt t (PH.all W) v x:=by
 have hR:RdT enc P W base sp hd t T:=aa0 hb
 cases t with
 | int =>
  unfold rdB at hb
  split at hb
  ·rename_i hu
   obtain⟨n,rfl,_⟩:=open_int (cs_ hu) hval hr
   exact⟨n,_,rfl,rfl⟩
  ·cases hb
 | bool =>
  unfold rdB at hb
  split at hb
  ·rename_i hu
   obtain⟨n,rfl,_⟩:=open_bool (cs_ hu) hval hr
   exact⟨n,_,rfl,rfl⟩
  ·cases hb
 | str =>
  unfold rdB at hb
  split at hb
  ·rename_i hu
   obtain⟨s,rfl⟩:=okWide_string (cs_ hu) hval
   refine⟨s.data.toList,[.string ⟨s.data.toList.toArray⟩],rfl,?_⟩
   rw[k8_]
   rfl
  ·cases hb
 | list t =>
  unfold rdB at hb
  split at hb
  ·rename_i e hu
   exact @ci9 H enc P W base sp hd t.den t.enc r b0 T e v d ps (cs_ hu) hval hr hR
  ·cases hb
 | one t =>
  unfold rdB at hb
  split at hb
  ·rename_i f hu
   exact @al6 H enc P W base sp hd t.den (cv9 t.enc) r b0 T _ v d ps rfl (cs_ hu) hval hr hR
  ·cases hb
 | pair a b =>
  unfold rdB at hb
  split at hb
  ·rename_i f l hu
   exact @al6 H enc P W base sp hd (a.den×b.den) (@instEncProd a.den b.den a.enc b.enc) r b0 T _ v d ps rfl (cs_ hu) hval hr hR
  ·rename_i n e hu
   obtain⟨cs,rfl,_⟩:=ao1 (cs_ hu) hval
   obtain⟨n,hn⟩:=hr
   obtain⟨x,h1⟩:=hR _ _ _ hn
   exact⟨x,_,h1,rfl⟩
  ·cases hb
 | u8=>cases hb
 | unit=>cases hb
 | ref _=>cases hb
 | clo _ _=>cases hb
def rdBs (P:Program) [Tb P]:List Ty→List TypeId→Bool
 | [],[]=>true
 | t::ts,T::Ts=>rdB P t T&&rdBs P ts Ts
 | _,_=>false
theorem ce4 {hv:Nat→Value} {r:Reach} {b0:Nat}:∀ {ts:List Ty} {Ts:List TypeId} {vs:List Value} {ds:List (DataW H)} {ps:List MemPlace},rdBs P ts Ts=true→DataW.TrodAll enc P W base sp hd Ts vs ds ps →
  (∀ (j:Nat) T v,Ts[j]?=some T→vs[j]?=some v→Value.okWide P W r b0 T v)→∃ x:od_ ts,Fa (RA hv (PH.all W)) (cg3 ts x) vs
 | [],[],vs,ds,ps,_,h,_=>by
  obtain⟨rfl,_⟩:=trodAll_nil h
  exact⟨(),trivial⟩
 | t::ts,T::Ts,vs,ds,ps,hb,h,hval=>by
  obtain⟨v,vs',d,ds',p,q,rfl,rfl,rfl,h0,h1⟩:=trodAll_cons h
  unfold rdBs at hb
  rw[a1_] at hb
  obtain⟨x,hx⟩:=arg_rv hb.1 (hval 0 T v rfl rfl) h0
  obtain⟨y,hy⟩:=ce4 (hv:=hv) hb.2 h1 (λj T' v' e1 e2=>hval (j+1) T' v' (by simpa using e1) (by simpa using e2))
  exact⟨(x,y),pd_ hx,hy⟩
 | [],_::_,_,_,_,hb,_,_=>by cases hb
 | _::_,[],_,_,_,hb,_,_=>by cases hb
theorem bx3 {fuel:Nat} {t e:TypeId} {n:String} {g:Nat} {cs:Array Value} {l:List (List UInt8)} {p:List MemPlace} (ht:P.underlying t=some (.slice e)) (he:P.underlying e=some .string) (hc:P.cellsOf e=1)
  (hg:P.globalNamed n=some g) (hv:W.var? P n=some cs) (h:DataW.trod (λ_:TypeId×Value=>()) P W 0 (λ_=>true) false fuel t cs.toList=some (.slice (l.map λs=>.lit (.string s)) [],p)) :
  cr4 (.list .str) (PH.all W) (.pointer (some ⟨g,0,none⟩)) l:=by
 rcases open_strings ht he hc h with ⟨_,hx⟩ | ⟨a,len,cap,ss,hcs,_,hl,hm,hlen,hx,hcell,_⟩
 ·cases hx
 ·simp only[Prod.mk.injEq,DataW.slice.injEq] at hx
  obtain⟨⟨hx1,hx2⟩,_⟩:=hx
  have hsc:ss.length=cap:=by simpa using hlen
  have hd:ss.drop len=[]:=List.map_eq_nil_iff.1 hx2.symm
  have hle:ss.length≤len:=by
   have:=congrArg List.length hd
   rw[j2_,j7_] at this
   omega
  rw[g6_ hle] at hx1
  have hmap:l=ss.map λs=>s.data.toList:=by
   have:=congrArg (List.map λd:DataW Unit=>match d with
    | .lit (.string s)=>s
    | _=>[]) hx1
   unfold strs at this
   rw[List.map_map,List.map_map] at this
   simpa [Function.comp_def] using this
  have hcell0:W.cell? ⟨g,0,none⟩=some (.slice (some a) len cap):=by
   have:=World.var?_cell hg hv 0
   have e:cs = #[.slice (some a) len cap]:=by rw[← k8_ (xs:=cs),hcs]
   rw[e] at this
   simpa using this
  have hlen3:l.length=ss.length:=by rw[hmap,d3_]
  have hlen2:len=l.length:=by omega
  refine⟨_,[.slice (some a) l.length cap],rfl,⟨some a,cap,rfl,c5_ (Nat.le_of_eq hlen2.symm) hl,hm,λh=>(by cases h),λad had i y hy => ?_⟩,λj u hu => ?_⟩
  ·obtain rfl:=a6_ had
   have hy:(ss.map λs=>s.data.toList)[i]?=some y:=by rw[← hmap];exact hy
   rw[d5_] at hy
   obtain⟨s,hs,rfl⟩:=f4_.1 hy
   refine⟨[.string ⟨s.data.toList.toArray⟩],rfl,λj u hu => ?_⟩
   have hi:=(a4_.1 hs).1
   have h1:=hcell i hi
   rw[m0_,hs] at h1
   cases j with
   | zero =>
    simp only[l5_,p0_] at hu
    subst hu
    rw[k8_]
    show W.cell? (a.add (i * 1+0))=_
    rw[q2_,m6_]
    exact h1
   | succ j=>simp at hu
  ·cases j with
   | zero =>
    simp only[l5_,p0_] at hu
    subst hu
    rw[← hlen2]
    exact hcell0
   | succ j=>simp at hu
theorem ra_true {hv:Nat→Value} {T:PH} {v:Value} (h:RA hv T (as5 [.bool] (true,())) v):v = .bool true:=by
 obtain⟨cs,h1,h2⟩:=(rl_ (hv:=hv) (t:=.bool) h:RVt .bool T v true)
 have h1:cs=[.bool true]:=h1
 subst h1
 exact h2
end
end
end Go.Proofs.YtgeehfnbhbibeaaGreatDoor.Rex
namespace Go.Proofs.YtgeehfnbhbibeaaGreatDoor.Rx
open Go Pad Rex Sum
section
theorem bg8 {α:Type} (l:List α) (i:Nat):at? l (i:Int)=l[i]?:=by
 unfold at?
 rw[if_pos (Int.natCast_nonneg i)]
 rfl
theorem ai_ {α:Type} {l:List α} {i:Nat} {x:α} (h:l[i]?=some x):at? l (i:Int)=some x:=by rw[bg8,h]
theorem am_ {α:Type} {l:List α} {i:Nat} {x:α} (h:l[i]?=some x):i<l.length:=(a4_.1 h).1
theorem bf_ {α:Type} {l:List α} {i:Nat} (h:i<l.length):∃ x,l[i]?=some x:=⟨_,a7_ h⟩
abbrev Sm (n:Nat):Prop:=n≤1000000000
theorem hd_ {n:Int} (h1 : -4000000000≤n) (h2:n≤4000000000):w64 n=n:=lw_ (by omega) (by omega)
theorem bb_ {i:Nat} (h:Sm i):w64 ((i:Int)+1)=((i+1:Nat):Int):=by
 rw[hd_ (by omega) (by omega)]
 omega
theorem dlt {i n:Nat} (h:i<n):decide ((i:Int)<(n:Int))=true:=b9_ (by omega)
theorem dnl (n:Nat):decide ((n:Int)<(n:Int))=false:=c2_ (by omega)
def hf_ {α ρ:Type} (p:Nat→α→Option ρ):Nat→List α→Option ρ
 | _,[]=>none
 | i,x::l=>match p i x with
  | some r=>some r
  | none=>hf_ p (i+1) l
theorem pz_ {σ ρ:Type} {body:σ→Option (σ⊕ρ)} {s:σ} {k:Nat} {r:ρ} (h:fk_ body k s=some r):af_ body s=some r:=ho_.2 ⟨k,h⟩
theorem ax1 {σ ρ:Type} {body:σ→Option (σ⊕ρ)} {s t:σ} {k:Nat} (h:body s=some (.inl t)):fk_ body (k+1) s=fk_ body k t:=by
 rw[fk_,h]
theorem wi_ {σ ρ:Type} {body:σ→Option (σ⊕ρ)} {s:σ} {k:Nat} {r:ρ} (h:body s=some (.inr r)):fk_ body (k+1) s=some r:=by
 rw[fk_,h]
theorem ap0 {α ρ σ:Type} {l:List α} {p:Nat→α→Option ρ} {F:Nat→σ} {r0:ρ} {body:σ→Option (σ⊕ρ)}
  (h:∀ i x,l[i]?=some x→body (F i)=some (match p i x with | none=>.inl (F (i+1)) | some r=>.inr r)) (e:body (F l.length)=some (.inr r0)) :
  ∀ (m:List α) (i:Nat),i+m.length=l.length→(∀ j x,m[j]?=some x→l[i+j]?=some x)→fk_ body (m.length+1) (F i)=some ((hf_ p i m).getD r0)
 | [],i,hi,_=>by
  have:i=l.length:=by simpa using hi
  subst this
  exact wi_ e
 | x::m,i,hi,hm=>by
  have h0:=h i x (by simpa using hm 0 x rfl)
  unfold hf_
  cases hp:p i x with
  | some r =>
   rw[hp] at h0
   exact wi_ h0
  | none =>
   rw[hp] at h0
   show fk_ body (m.length+1+1) (F i)=_
   rw[ax1 h0]
   refine ap0 h e m (i+1) (by simp at hi;omega) λj y hj => ?_
   have:=hm (j+1) y (by simpa using hj)
   rw[show i+1+j=i+(j+1) by omega]
   exact this
theorem pi_ {α ρ σ:Type} (l:List α) (p:Nat→α→Option ρ) (F:Nat→σ) {r0:ρ} {body:σ→Option (σ⊕ρ)}
  (h:∀ i x,l[i]?=some x→body (F i)=some (match p i x with | none=>.inl (F (i+1)) | some r=>.inr r)) (e:body (F l.length)=some (.inr r0)) :
  af_ body (F 0)=some ((hf_ p 0 l).getD r0):=pz_ (ap0 h e l 0 (by simp) (λj x hj=>by simpa using hj))
theorem bw_ {α ρ σ τ:Type} (l:List α) (p:Nat→α→Option ρ) (F:Nat→σ) {r0:ρ} {body:σ→Option (σ⊕ρ)} {K:ρ→Option τ} {x:Option τ}
  (h:∀ i x,l[i]?=some x→body (F i)=some (match p i x with | none=>.inl (F (i+1)) | some r=>.inr r)) (e:body (F l.length)=some (.inr r0)) (hk:K ((hf_ p 0 l).getD r0)=x) :
  (af_ body (F 0)).bind K=x:=by
 rw[pi_ l p F h e,a0_,hk]
theorem kc_ {α ρ:Type} {q:α→Bool} {r:ρ}:∀ (l:List α) (i:Nat),hf_ (λ_ x=>cond (q x) none (some r)) i l=cond (l.all q) none (some r)
 | [],_=>rfl
 | x::l,i=>by
  unfold hf_
  cases hq:q x with
  | false=>simp[hq]
  | true=>simp[hq,kc_ l (i+1)]
theorem hz_ {α ρ:Type} {q:α→Bool} {r:ρ}:∀ (l:List α) (i:Nat),hf_ (λ_ x=>cond (q x) (some r) none) i l=cond (l.any q) (some r) none
 | [],_=>rfl
 | x::l,i=>by
  unfold hf_
  cases hq:q x with
  | true=>simp[hq]
  | false=>simp[hq,hz_ l (i+1)]
theorem ae1 {α ρ:Type} {q:α→Bool} {f:Nat→ρ}:∀ (l:List α) (k:Nat),(hf_ (λi x=>cond (q x) (some (f i)) none) k l=none∧l.any q=false)∨∃ i:Nat,hf_ (λi x=>cond (q x) (some (f i)) none) k l=some (f i)∧l.any q=true
 | [],_=>.inl ⟨rfl,rfl⟩
 | x::l,k=>by
  unfold hf_
  cases hq:q x with
  | true=>exact .inr ⟨k,rfl,by simp[hq]⟩
  | false =>
   simp only[p7_,hq,k3_]
   exact ae1 l (k+1)
theorem ad9 {α ρ τ:Type} {p:Nat→α→Option ρ} {f:ρ→τ}:∀ (l:List α) (i:Nat),hf_ (λi x=>(p i x).map f) i l=(hf_ p i l).map f
 | [],_=>rfl
 | x::l,i=>by
  unfold hf_
  cases p i x with
  | some r=>rfl
  | none=>exact ad9 l (i+1)
theorem kv_ {α ρ:Type} {p:Nat→α→Option ρ}:∀ (l:List α) (i:Nat),hf_ p i l=none↔∀ j x,l[j]?=some x→p (i+j) x=none
 | [],_=>by simp[hf_]
 | x::l,i=>by
  unfold hf_
  constructor
  ·intro h j y hj
   cases hp:p i x with
   | some r=>rw[hp] at h;cases h
   | none =>
    rw[hp] at h
    cases j with
    | zero=>simp at hj;subst hj;simpa using hp
    | succ j =>
     have:=(kv_ l (i+1)).1 h j y (by simpa using hj)
     rwa [show i+1+j=i+(j+1) by omega] at this
  ·intro h
   have h0:=h 0 x rfl
   rw[m6_] at h0
   rw[h0]
   exact (kv_ l (i+1)).2 λj y hj=>by
    have:=h (j+1) y (by simpa using hj)
    rwa [show i+1+j=i+(j+1) by omega]
theorem ne_ {α τ σ ρ:Type} (l:List α) (f:Nat→τ→α→τ) (F:Nat→τ→σ) (R:τ→ρ) (t0:τ) {body:σ→Option (σ⊕ρ)} (I:Nat→τ→Prop) (h0:I 0 t0)
  (h:∀ i x t,l[i]?=some x→I i t→body (F i t)=some (.inl (F (i+1) (f i t x)))∧I (i+1) (f i t x)) (e:∀ t,I l.length t→body (F l.length t)=some (.inr (R t))) :
  ∃ t,I l.length t∧af_ body (F 0 t0)=some (R t):=by
 have gen:∀ (k i:Nat) (t:τ),i+k=l.length→I i t→∃ t',I l.length t'∧fk_ body (k+1) (F i t)=some (R t'):=by
  intro k
  induction k with
  | zero =>
   intro i t hi ht
   have:i=l.length:=by omega
   subst this
   exact⟨t,ht,wi_ (e t ht)⟩
  | succ k ih =>
   intro i t hi ht
   obtain⟨x,hx⟩:=bf_ (l:=l) (i:=i) (by omega)
   obtain⟨h1,h2⟩:=h i x t hx ht
   obtain⟨t',a,b⟩:=ih (i+1) _ (by omega) h2
   exact⟨t',a,by rw[ax1 h1];exact b⟩
 obtain⟨t,a,b⟩:=gen l.length 0 t0 (by omega) h0
 exact⟨t,a,pz_ b⟩
theorem pt_ {α:Type} {l:List α} (hl:Sm l.length) (q:α→Bool) {body:(Int×Unit)→Option ((Int×Unit)⊕(Unit⊕(Bool×Unit)))}
  (h:∀ (i:Nat) y,l[i]?=some y→body ((i:Int),())=some (cond (q y) (.inr (.inr (decide (0≤(i:Int)),()))) (.inl (w64 ((i:Int)+1),())))) (e:body ((l.length:Int),())=some (.inr (.inl ()))) :
  ((af_ body (0,())).bind λv=>ca_ v (λ_=>some (decide ((0:Int)≤(-1)),())) (λw=>some w))=some (l.any q,()):=by
 refine bw_ l (λi y=>cond (q y) (some (inr (true,()):Unit⊕(Bool×Unit))) none) (λi=>((i:Int),())) (r0:=inl ()) (λi y hy => ?_) e ?_
 ·have hi:=am_ hy
  rw[h i y hy,bb_ (show Sm i by omega),show decide (0≤(i:Int))=true from b9_ (by omega)]
  cases q y<;>rfl
 ·rw[hz_ (q:=q)]
  cases l.any q<;>rfl
theorem if_lt {α:Type} {l:List α} (hl:Sm l.length) (q:α→Bool) {body:(Int×Unit)→Option ((Int×Unit)⊕(Unit⊕(Int×Unit)))}
  (h:∀ (i:Nat) y,l[i]?=some y→body ((i:Int),())=some (cond (q y) (.inr (.inr ((i:Int),()))) (.inl (w64 ((i:Int)+1),())))) (e:body ((l.length:Int),())=some (.inr (.inl ()))) :
  ∃ n:Int,((af_ body (0,())).bind λv=>ca_ v (λ_=>some ((-1:Int),())) (λw=>some w))=some (n,())∧decide (n<0) = !(l.any q)∧(n = -1∨∃ i:Nat,n=(i:Int)∧i<l.length):=by
 have hrun:=pi_ l (λi y=>cond (q y) (some (inr ((i:Int),()):Unit⊕(Int×Unit))) none) (λi=>((i:Int),())) (r0:=inl ()) (body:=body) (λi y hy=>by
  have hi:=am_ hy
  rw[h i y hy,bb_ (show Sm i by omega)]
  cases q y<;>rfl) e
 have hr2:af_ body (0,())=some ((hf_ (λi y=>cond (q y) (some (inr ((i:Int),()):Unit⊕(Int×Unit))) none) 0 l).getD (inl ())):=hrun
 rw[hr2]
 have key:∀ (m:List α) (k:Nat),(hf_ (λi y=>cond (q y) (some (inr ((i:Int),()):Unit⊕(Int×Unit))) none) k m=none∧m.any q=false)∨∃ i:Nat,hf_ (λi y=>cond (q y) (some (inr ((i:Int),()):Unit⊕(Int×Unit))) none) k m=some (inr ((i:Int),()))∧m.any q=true∧i<k+m.length:=by
  intro m
  induction m with
  | nil=>exact λk=>.inl ⟨rfl,rfl⟩
  | cons x m ih =>
   intro k
   unfold hf_
   cases hq:q x with
   | true=>exact .inr ⟨k,rfl,by simp[hq],by simp⟩
   | false =>
    rcases ih (k+1) with ⟨a,b⟩ | ⟨i,a,b,c⟩
    ·exact .inl ⟨a,by simp[hq,b]⟩
    ·exact .inr ⟨i,a,by simp[hq,b],by simp only[c4_];omega⟩
 rcases key l 0 with ⟨a,b⟩ | ⟨i,a,b,c⟩
 ·refine⟨-1,by rw[a];rfl,by rw[b];rfl,.inl rfl⟩
 ·refine⟨(i:Int),by rw[a];rfl,by rw[b];exact c2_ (by omega),.inr ⟨i,rfl,by omega⟩⟩
end
end Go.Proofs.YtgeehfnbhbibeaaGreatDoor.Rx
namespace Go.Proofs.YtgeehfnbhbibeaaGreatDoor.Rx
open Go Pad Rex Go.Proofs Go.Proofs.Tryz Sum
section
set_option maxRecDepth 100000
noncomputable def trU:Tre (λT=>prog.underlying T):=(.node 148 _ underlying148 (.node 74 _ underlying74 (.node 34 _ underlying34 (.node 17 _ underlying17 (.node 9 _ underlying9 (.node 5 _ underlying5 (.node 3 _ underlying3 (.node 2 _ underlying2 (.node 1 _ underlying1 .nil .nil) .nil) (.node 4 _ underlying4 .nil .nil)) (.node 7 _ underlying7 (.node 6 _ underlying6 .nil .nil) (.node 8 _ underlying8 .nil .nil))) (.node 13 _ underlying13 (.node 11 _ underlying11 (.node 10 _ underlying10 .nil .nil) (.node 12 _ underlying12 .nil .nil)) (.node 15 _ underlying15 (.node 14 _ underlying14 .nil .nil) (.node 16 _ underlying16 .nil .nil)))) (.node 26 _ underlying26 (.node 22 _ underlying22 (.node 20 _ underlying20 (.node 19 _ underlying19 (.node 18 _ underlying18 .nil .nil) .nil) (.node 21 _ underlying21 .nil .nil)) (.node 24 _ underlying24 (.node 23 _ underlying23 .nil .nil) (.node 25 _ underlying25 .nil .nil))) (.node 30 _ underlying30 (.node 28 _ underlying28 (.node 27 _ underlying27 .nil .nil) (.node 29 _ underlying29 .nil .nil)) (.node 32 _ underlying32 (.node 31 _ underlying31 .nil .nil) (.node 33 _ underlying33 .nil .nil))))) (.node 54 _ underlying54 (.node 45 _ underlying45 (.node 39 _ underlying39 (.node 37 _ underlying37 (.node 36 _ underlying36 (.node 35 _ underlying35 .nil .nil) .nil) (.node 38 _ underlying38 .nil .nil)) (.node 42 _ underlying42 (.node 40 _ underlying40 .nil .nil) (.node 43 _ underlying43 .nil .nil))) (.node 50 _ underlying50 (.node 47 _ underlying47 (.node 46 _ underlying46 .nil .nil) (.node 49 _ underlying49 .nil .nil)) (.node 52 _ underlying52 (.node 51 _ underlying51 .nil .nil) (.node 53 _ underlying53 .nil .nil)))) (.node 64 _ underlying64 (.node 60 _ underlying60 (.node 58 _ underlying58 (.node 57 _ underlying57 (.node 55 _ underlying55 .nil .nil) .nil) (.node 59 _ underlying59 .nil .nil)) (.node 62 _ underlying62 (.node 61 _ underlying61 .nil .nil) (.node 63 _ underlying63 .nil .nil))) (.node 69 _ underlying69 (.node 67 _ underlying67 (.node 66 _ underlying66 .nil .nil) (.node 68 _ underlying68 .nil .nil)) (.node 72 _ underlying72 (.node 70 _ underlying70 .nil .nil) (.node 73 _ underlying73 .nil .nil)))))) (.node 114 _ underlying114 (.node 93 _ underlying93 (.node 83 _ underlying83 (.node 79 _ underlying79 (.node 77 _ underlying77 (.node 76 _ underlying76 (.node 75 _ underlying75 .nil .nil) .nil) (.node 78 _ underlying78 .nil .nil)) (.node 81 _ underlying81 (.node 80 _ underlying80 .nil .nil) (.node 82 _ underlying82 .nil .nil))) (.node 88 _ underlying88 (.node 86 _ underlying86 (.node 85 _ underlying85 .nil .nil) (.node 87 _ underlying87 .nil .nil)) (.node 91 _ underlying91 (.node 90 _ underlying90 .nil .nil) (.node 92 _ underlying92 .nil .nil)))) (.node 102 _ underlying102 (.node 98 _ underlying98 (.node 96 _ underlying96 (.node 95 _ underlying95 (.node 94 _ underlying94 .nil .nil) .nil) (.node 97 _ underlying97 .nil .nil)) (.node 100 _ underlying100 (.node 99 _ underlying99 .nil .nil) (.node 101 _ underlying101 .nil .nil))) (.node 108 _ underlying108 (.node 105 _ underlying105 (.node 103 _ underlying103 .nil .nil) (.node 107 _ underlying107 .nil .nil)) (.node 111 _ underlying111 (.node 109 _ underlying109 .nil .nil) (.node 113 _ underlying113 .nil .nil))))) (.node 132 _ underlying132 (.node 123 _ underlying123 (.node 119 _ underlying119 (.node 117 _ underlying117 (.node 116 _ underlying116 (.node 115 _ underlying115 .nil .nil) .nil) (.node 118 _ underlying118 .nil .nil)) (.node 121 _ underlying121 (.node 120 _ underlying120 .nil .nil) (.node 122 _ underlying122 .nil .nil))) (.node 128 _ underlying128 (.node 125 _ underlying125 (.node 124 _ underlying124 .nil .nil) (.node 127 _ underlying127 .nil .nil)) (.node 130 _ underlying130 (.node 129 _ underlying129 .nil .nil) (.node 131 _ underlying131 .nil .nil)))) (.node 140 _ underlying140 (.node 136 _ underlying136 (.node 134 _ underlying134 (.node 133 _ underlying133 .nil .nil) (.node 135 _ underlying135 .nil .nil)) (.node 138 _ underlying138 (.node 137 _ underlying137 .nil .nil) (.node 139 _ underlying139 .nil .nil))) (.node 144 _ underlying144 (.node 142 _ underlying142 (.node 141 _ underlying141 .nil .nil) (.node 143 _ underlying143 .nil .nil)) (.node 146 _ underlying146 (.node 145 _ underlying145 .nil .nil) (.node 147 _ underlying147 .nil .nil))))))) (.node 223 _ underlying223 (.node 187 _ underlying187 (.node 167 _ underlying167 (.node 159 _ underlying159 (.node 153 _ underlying153 (.node 151 _ underlying151 (.node 150 _ underlying150 (.node 149 _ underlying149 .nil .nil) .nil) (.node 152 _ underlying152 .nil .nil)) (.node 155 _ underlying155 (.node 154 _ underlying154 .nil .nil) (.node 157 _ underlying157 .nil .nil))) (.node 163 _ underlying163 (.node 161 _ underlying161 (.node 160 _ underlying160 .nil .nil) (.node 162 _ underlying162 .nil .nil)) (.node 165 _ underlying165 (.node 164 _ underlying164 .nil .nil) (.node 166 _ underlying166 .nil .nil)))) (.node 177 _ underlying177 (.node 173 _ underlying173 (.node 170 _ underlying170 (.node 169 _ underlying169 (.node 168 _ underlying168 .nil .nil) .nil) (.node 171 _ underlying171 .nil .nil)) (.node 175 _ underlying175 (.node 174 _ underlying174 .nil .nil) (.node 176 _ underlying176 .nil .nil))) (.node 182 _ underlying182 (.node 180 _ underlying180 (.node 179 _ underlying179 .nil .nil) (.node 181 _ underlying181 .nil .nil)) (.node 184 _ underlying184 (.node 183 _ underlying183 .nil .nil) (.node 185 _ underlying185 .nil .nil))))) (.node 205 _ underlying205 (.node 196 _ underlying196 (.node 192 _ underlying192 (.node 190 _ underlying190 (.node 189 _ underlying189 (.node 188 _ underlying188 .nil .nil) .nil) (.node 191 _ underlying191 .nil .nil)) (.node 194 _ underlying194 (.node 193 _ underlying193 .nil .nil) (.node 195 _ underlying195 .nil .nil))) (.node 200 _ underlying200 (.node 198 _ underlying198 (.node 197 _ underlying197 .nil .nil) (.node 199 _ underlying199 .nil .nil)) (.node 202 _ underlying202 (.node 201 _ underlying201 .nil .nil) (.node 204 _ underlying204 .nil .nil)))) (.node 215 _ underlying215 (.node 210 _ underlying210 (.node 208 _ underlying208 (.node 207 _ underlying207 (.node 206 _ underlying206 .nil .nil) .nil) (.node 209 _ underlying209 .nil .nil)) (.node 213 _ underlying213 (.node 211 _ underlying211 .nil .nil) (.node 214 _ underlying214 .nil .nil))) (.node 219 _ underlying219 (.node 217 _ underlying217 (.node 216 _ underlying216 .nil .nil) (.node 218 _ underlying218 .nil .nil)) (.node 221 _ underlying221 (.node 220 _ underlying220 .nil .nil) (.node 222 _ underlying222 .nil .nil)))))) (.node 260 _ underlying260 (.node 242 _ underlying242 (.node 232 _ underlying232 (.node 228 _ underlying228 (.node 226 _ underlying226 (.node 225 _ underlying225 (.node 224 _ underlying224 .nil .nil) .nil) (.node 227 _ underlying227 .nil .nil)) (.node 230 _ underlying230 (.node 229 _ underlying229 .nil .nil) (.node 231 _ underlying231 .nil .nil))) (.node 236 _ underlying236 (.node 234 _ underlying234 (.node 233 _ underlying233 .nil .nil) (.node 235 _ underlying235 .nil .nil)) (.node 239 _ underlying239 (.node 238 _ underlying238 .nil .nil) (.node 241 _ underlying241 .nil .nil)))) (.node 252 _ underlying252 (.node 247 _ underlying247 (.node 245 _ underlying245 (.node 244 _ underlying244 (.node 243 _ underlying243 .nil .nil) .nil) (.node 246 _ underlying246 .nil .nil)) (.node 249 _ underlying249 (.node 248 _ underlying248 .nil .nil) (.node 251 _ underlying251 .nil .nil))) (.node 256 _ underlying256 (.node 254 _ underlying254 (.node 253 _ underlying253 .nil .nil) (.node 255 _ underlying255 .nil .nil)) (.node 258 _ underlying258 (.node 257 _ underlying257 .nil .nil) (.node 259 _ underlying259 .nil .nil))))) (.node 300 _ underlying300 (.node 278 _ underlying278 (.node 272 _ underlying272 (.node 266 _ underlying266 (.node 265 _ underlying265 (.node 264 _ underlying264 .nil .nil) .nil) (.node 267 _ underlying267 .nil .nil)) (.node 275 _ underlying275 (.node 273 _ underlying273 .nil .nil) (.node 277 _ underlying277 .nil .nil))) (.node 288 _ underlying288 (.node 284 _ underlying284 (.node 279 _ underlying279 .nil .nil) (.node 286 _ underlying286 .nil .nil)) (.node 292 _ underlying292 (.node 289 _ underlying289 .nil .nil) (.node 293 _ underlying293 .nil .nil)))) (.node 338 _ underlying338 (.node 323 _ underlying323 (.node 304 _ underlying304 (.node 302 _ underlying302 .nil .nil) (.node 316 _ underlying316 .nil .nil)) (.node 326 _ underlying326 (.node 324 _ underlying324 .nil .nil) (.node 337 _ underlying337 .nil .nil))) (.node 343 _ underlying343 (.node 341 _ underlying341 (.node 340 _ underlying340 .nil .nil) (.node 342 _ underlying342 .nil .nil)) (.node 345 _ underlying345 (.node 344 _ underlying344 .nil .nil) (.node 347 _ underlying347 .nil .nil))))))))
noncomputable def trI:Tre (λT=>prog.info? T):=(.node 148 t148 (by kernel_rfl) (.node 74 t74 (by kernel_rfl) (.node 34 t34 (by kernel_rfl) (.node 17 t17 (by kernel_rfl) (.node 9 t9 (by kernel_rfl) (.node 5 t5 (by kernel_rfl) (.node 3 t3 (by kernel_rfl) (.node 2 t2 (by kernel_rfl) (.node 1 t1 (by kernel_rfl) .nil .nil) .nil) (.node 4 t4 (by kernel_rfl) .nil .nil)) (.node 7 t7 (by kernel_rfl) (.node 6 t6 (by kernel_rfl) .nil .nil) (.node 8 t8 (by kernel_rfl) .nil .nil))) (.node 13 t13 (by kernel_rfl) (.node 11 t11 (by kernel_rfl) (.node 10 t10 (by kernel_rfl) .nil .nil) (.node 12 t12 (by kernel_rfl) .nil .nil)) (.node 15 t15 (by kernel_rfl) (.node 14 t14 (by kernel_rfl) .nil .nil) (.node 16 t16 (by kernel_rfl) .nil .nil)))) (.node 26 t26 (by kernel_rfl) (.node 22 t22 (by kernel_rfl) (.node 20 t20 (by kernel_rfl) (.node 19 t19 (by kernel_rfl) (.node 18 t18 (by kernel_rfl) .nil .nil) .nil) (.node 21 t21 (by kernel_rfl) .nil .nil)) (.node 24 t24 (by kernel_rfl) (.node 23 t23 (by kernel_rfl) .nil .nil) (.node 25 t25 (by kernel_rfl) .nil .nil))) (.node 30 t30 (by kernel_rfl) (.node 28 t28 (by kernel_rfl) (.node 27 t27 (by kernel_rfl) .nil .nil) (.node 29 t29 (by kernel_rfl) .nil .nil)) (.node 32 t32 (by kernel_rfl) (.node 31 t31 (by kernel_rfl) .nil .nil) (.node 33 t33 (by kernel_rfl) .nil .nil))))) (.node 54 t54 (by kernel_rfl) (.node 45 t45 (by kernel_rfl) (.node 39 t39 (by kernel_rfl) (.node 37 t37 (by kernel_rfl) (.node 36 t36 (by kernel_rfl) (.node 35 t35 (by kernel_rfl) .nil .nil) .nil) (.node 38 t38 (by kernel_rfl) .nil .nil)) (.node 42 t42 (by kernel_rfl) (.node 40 t40 (by kernel_rfl) .nil .nil) (.node 43 t43 (by kernel_rfl) .nil .nil))) (.node 50 t50 (by kernel_rfl) (.node 47 t47 (by kernel_rfl) (.node 46 t46 (by kernel_rfl) .nil .nil) (.node 49 t49 (by kernel_rfl) .nil .nil)) (.node 52 t52 (by kernel_rfl) (.node 51 t51 (by kernel_rfl) .nil .nil) (.node 53 t53 (by kernel_rfl) .nil .nil)))) (.node 64 t64 (by kernel_rfl) (.node 60 t60 (by kernel_rfl) (.node 58 t58 (by kernel_rfl) (.node 57 t57 (by kernel_rfl) (.node 55 t55 (by kernel_rfl) .nil .nil) .nil) (.node 59 t59 (by kernel_rfl) .nil .nil)) (.node 62 t62 (by kernel_rfl) (.node 61 t61 (by kernel_rfl) .nil .nil) (.node 63 t63 (by kernel_rfl) .nil .nil))) (.node 69 t69 (by kernel_rfl) (.node 67 t67 (by kernel_rfl) (.node 66 t66 (by kernel_rfl) .nil .nil) (.node 68 t68 (by kernel_rfl) .nil .nil)) (.node 72 t72 (by kernel_rfl) (.node 70 t70 (by kernel_rfl) .nil .nil) (.node 73 t73 (by kernel_rfl) .nil .nil)))))) (.node 114 t114 (by kernel_rfl) (.node 93 t93 (by kernel_rfl) (.node 83 t83 (by kernel_rfl) (.node 79 t79 (by kernel_rfl) (.node 77 t77 (by kernel_rfl) (.node 76 t76 (by kernel_rfl) (.node 75 t75 (by kernel_rfl) .nil .nil) .nil) (.node 78 t78 (by kernel_rfl) .nil .nil)) (.node 81 t81 (by kernel_rfl) (.node 80 t80 (by kernel_rfl) .nil .nil) (.node 82 t82 (by kernel_rfl) .nil .nil))) (.node 88 t88 (by kernel_rfl) (.node 86 t86 (by kernel_rfl) (.node 85 t85 (by kernel_rfl) .nil .nil) (.node 87 t87 (by kernel_rfl) .nil .nil)) (.node 91 t91 (by kernel_rfl) (.node 90 t90 (by kernel_rfl) .nil .nil) (.node 92 t92 (by kernel_rfl) .nil .nil)))) (.node 102 t102 (by kernel_rfl) (.node 98 t98 (by kernel_rfl) (.node 96 t96 (by kernel_rfl) (.node 95 t95 (by kernel_rfl) (.node 94 t94 (by kernel_rfl) .nil .nil) .nil) (.node 97 t97 (by kernel_rfl) .nil .nil)) (.node 100 t100 (by kernel_rfl) (.node 99 t99 (by kernel_rfl) .nil .nil) (.node 101 t101 (by kernel_rfl) .nil .nil))) (.node 108 t108 (by kernel_rfl) (.node 105 t105 (by kernel_rfl) (.node 103 t103 (by kernel_rfl) .nil .nil) (.node 107 t107 (by kernel_rfl) .nil .nil)) (.node 111 t111 (by kernel_rfl) (.node 109 t109 (by kernel_rfl) .nil .nil) (.node 113 t113 (by kernel_rfl) .nil .nil))))) (.node 132 t132 (by kernel_rfl) (.node 123 t123 (by kernel_rfl) (.node 119 t119 (by kernel_rfl) (.node 117 t117 (by kernel_rfl) (.node 116 t116 (by kernel_rfl) (.node 115 t115 (by kernel_rfl) .nil .nil) .nil) (.node 118 t118 (by kernel_rfl) .nil .nil)) (.node 121 t121 (by kernel_rfl) (.node 120 t120 (by kernel_rfl) .nil .nil) (.node 122 t122 (by kernel_rfl) .nil .nil))) (.node 128 t128 (by kernel_rfl) (.node 125 t125 (by kernel_rfl) (.node 124 t124 (by kernel_rfl) .nil .nil) (.node 127 t127 (by kernel_rfl) .nil .nil)) (.node 130 t130 (by kernel_rfl) (.node 129 t129 (by kernel_rfl) .nil .nil) (.node 131 t131 (by kernel_rfl) .nil .nil)))) (.node 140 t140 (by kernel_rfl) (.node 136 t136 (by kernel_rfl) (.node 134 t134 (by kernel_rfl) (.node 133 t133 (by kernel_rfl) .nil .nil) (.node 135 t135 (by kernel_rfl) .nil .nil)) (.node 138 t138 (by kernel_rfl) (.node 137 t137 (by kernel_rfl) .nil .nil) (.node 139 t139 (by kernel_rfl) .nil .nil))) (.node 144 t144 (by kernel_rfl) (.node 142 t142 (by kernel_rfl) (.node 141 t141 (by kernel_rfl) .nil .nil) (.node 143 t143 (by kernel_rfl) .nil .nil)) (.node 146 t146 (by kernel_rfl) (.node 145 t145 (by kernel_rfl) .nil .nil) (.node 147 t147 (by kernel_rfl) .nil .nil))))))) (.node 223 t223 (by kernel_rfl) (.node 187 t187 (by kernel_rfl) (.node 167 t167 (by kernel_rfl) (.node 159 t159 (by kernel_rfl) (.node 153 t153 (by kernel_rfl) (.node 151 t151 (by kernel_rfl) (.node 150 t150 (by kernel_rfl) (.node 149 t149 (by kernel_rfl) .nil .nil) .nil) (.node 152 t152 (by kernel_rfl) .nil .nil)) (.node 155 t155 (by kernel_rfl) (.node 154 t154 (by kernel_rfl) .nil .nil) (.node 157 t157 (by kernel_rfl) .nil .nil))) (.node 163 t163 (by kernel_rfl) (.node 161 t161 (by kernel_rfl) (.node 160 t160 (by kernel_rfl) .nil .nil) (.node 162 t162 (by kernel_rfl) .nil .nil)) (.node 165 t165 (by kernel_rfl) (.node 164 t164 (by kernel_rfl) .nil .nil) (.node 166 t166 (by kernel_rfl) .nil .nil)))) (.node 177 t177 (by kernel_rfl) (.node 173 t173 (by kernel_rfl) (.node 170 t170 (by kernel_rfl) (.node 169 t169 (by kernel_rfl) (.node 168 t168 (by kernel_rfl) .nil .nil) .nil) (.node 171 t171 (by kernel_rfl) .nil .nil)) (.node 175 t175 (by kernel_rfl) (.node 174 t174 (by kernel_rfl) .nil .nil) (.node 176 t176 (by kernel_rfl) .nil .nil))) (.node 182 t182 (by kernel_rfl) (.node 180 t180 (by kernel_rfl) (.node 179 t179 (by kernel_rfl) .nil .nil) (.node 181 t181 (by kernel_rfl) .nil .nil)) (.node 184 t184 (by kernel_rfl) (.node 183 t183 (by kernel_rfl) .nil .nil) (.node 185 t185 (by kernel_rfl) .nil .nil))))) (.node 205 t205 (by kernel_rfl) (.node 196 t196 (by kernel_rfl) (.node 192 t192 (by kernel_rfl) (.node 190 t190 (by kernel_rfl) (.node 189 t189 (by kernel_rfl) (.node 188 t188 (by kernel_rfl) .nil .nil) .nil) (.node 191 t191 (by kernel_rfl) .nil .nil)) (.node 194 t194 (by kernel_rfl) (.node 193 t193 (by kernel_rfl) .nil .nil) (.node 195 t195 (by kernel_rfl) .nil .nil))) (.node 200 t200 (by kernel_rfl) (.node 198 t198 (by kernel_rfl) (.node 197 t197 (by kernel_rfl) .nil .nil) (.node 199 t199 (by kernel_rfl) .nil .nil)) (.node 202 t202 (by kernel_rfl) (.node 201 t201 (by kernel_rfl) .nil .nil) (.node 204 t204 (by kernel_rfl) .nil .nil)))) (.node 215 t215 (by kernel_rfl) (.node 210 t210 (by kernel_rfl) (.node 208 t208 (by kernel_rfl) (.node 207 t207 (by kernel_rfl) (.node 206 t206 (by kernel_rfl) .nil .nil) .nil) (.node 209 t209 (by kernel_rfl) .nil .nil)) (.node 213 t213 (by kernel_rfl) (.node 211 t211 (by kernel_rfl) .nil .nil) (.node 214 t214 (by kernel_rfl) .nil .nil))) (.node 219 t219 (by kernel_rfl) (.node 217 t217 (by kernel_rfl) (.node 216 t216 (by kernel_rfl) .nil .nil) (.node 218 t218 (by kernel_rfl) .nil .nil)) (.node 221 t221 (by kernel_rfl) (.node 220 t220 (by kernel_rfl) .nil .nil) (.node 222 t222 (by kernel_rfl) .nil .nil)))))) (.node 260 t260 (by kernel_rfl) (.node 242 t242 (by kernel_rfl) (.node 232 t232 (by kernel_rfl) (.node 228 t228 (by kernel_rfl) (.node 226 t226 (by kernel_rfl) (.node 225 t225 (by kernel_rfl) (.node 224 t224 (by kernel_rfl) .nil .nil) .nil) (.node 227 t227 (by kernel_rfl) .nil .nil)) (.node 230 t230 (by kernel_rfl) (.node 229 t229 (by kernel_rfl) .nil .nil) (.node 231 t231 (by kernel_rfl) .nil .nil))) (.node 236 t236 (by kernel_rfl) (.node 234 t234 (by kernel_rfl) (.node 233 t233 (by kernel_rfl) .nil .nil) (.node 235 t235 (by kernel_rfl) .nil .nil)) (.node 239 t239 (by kernel_rfl) (.node 238 t238 (by kernel_rfl) .nil .nil) (.node 241 t241 (by kernel_rfl) .nil .nil)))) (.node 252 t252 (by kernel_rfl) (.node 247 t247 (by kernel_rfl) (.node 245 t245 (by kernel_rfl) (.node 244 t244 (by kernel_rfl) (.node 243 t243 (by kernel_rfl) .nil .nil) .nil) (.node 246 t246 (by kernel_rfl) .nil .nil)) (.node 249 t249 (by kernel_rfl) (.node 248 t248 (by kernel_rfl) .nil .nil) (.node 251 t251 (by kernel_rfl) .nil .nil))) (.node 256 t256 (by kernel_rfl) (.node 254 t254 (by kernel_rfl) (.node 253 t253 (by kernel_rfl) .nil .nil) (.node 255 t255 (by kernel_rfl) .nil .nil)) (.node 258 t258 (by kernel_rfl) (.node 257 t257 (by kernel_rfl) .nil .nil) (.node 259 t259 (by kernel_rfl) .nil .nil))))) (.node 300 t300 (by kernel_rfl) (.node 278 t278 (by kernel_rfl) (.node 272 t272 (by kernel_rfl) (.node 266 t266 (by kernel_rfl) (.node 265 t265 (by kernel_rfl) (.node 264 t264 (by kernel_rfl) .nil .nil) .nil) (.node 267 t267 (by kernel_rfl) .nil .nil)) (.node 275 t275 (by kernel_rfl) (.node 273 t273 (by kernel_rfl) .nil .nil) (.node 277 t277 (by kernel_rfl) .nil .nil))) (.node 288 t288 (by kernel_rfl) (.node 284 t284 (by kernel_rfl) (.node 279 t279 (by kernel_rfl) .nil .nil) (.node 286 t286 (by kernel_rfl) .nil .nil)) (.node 292 t292 (by kernel_rfl) (.node 289 t289 (by kernel_rfl) .nil .nil) (.node 293 t293 (by kernel_rfl) .nil .nil)))) (.node 338 t338 (by kernel_rfl) (.node 323 t323 (by kernel_rfl) (.node 304 t304 (by kernel_rfl) (.node 302 t302 (by kernel_rfl) .nil .nil) (.node 316 t316 (by kernel_rfl) .nil .nil)) (.node 326 t326 (by kernel_rfl) (.node 324 t324 (by kernel_rfl) .nil .nil) (.node 337 t337 (by kernel_rfl) .nil .nil))) (.node 343 t343 (by kernel_rfl) (.node 341 t341 (by kernel_rfl) (.node 340 t340 (by kernel_rfl) .nil .nil) (.node 342 t342 (by kernel_rfl) .nil .nil)) (.node 345 t345 (by kernel_rfl) (.node 344 t344 (by kernel_rfl) .nil .nil) (.node 347 t347 (by kernel_rfl) .nil .nil))))))))
noncomputable def trF:Tre (λk=>prog.funcs[k]?):=(.node 138 _ func138 (.node 77 _ func77 (.node 45 _ func45 (.node 24 _ func24 (.node 12 _ func12 (.node 8 _ func8 (.node 6 _ func6 (.node 3 _ func3 .nil .nil) (.node 7 _ func7 .nil .nil)) (.node 10 _ func10 (.node 9 _ func9 .nil .nil) (.node 11 _ func11 .nil .nil))) (.node 20 _ func20 (.node 14 _ func14 (.node 13 _ func13 .nil .nil) (.node 19 _ func19 .nil .nil)) (.node 22 _ func22 (.node 21 _ func21 .nil .nil) (.node 23 _ func23 .nil .nil)))) (.node 32 _ func32 (.node 28 _ func28 (.node 26 _ func26 (.node 25 _ func25 .nil .nil) (.node 27 _ func27 .nil .nil)) (.node 30 _ func30 (.node 29 _ func29 .nil .nil) (.node 31 _ func31 .nil .nil))) (.node 37 _ func37 (.node 34 _ func34 (.node 33 _ func33 .nil .nil) (.node 36 _ func36 .nil .nil)) (.node 44 _ func44 (.node 41 _ func41 .nil .nil) .nil)))) (.node 60 _ func60 (.node 53 _ func53 (.node 49 _ func49 (.node 47 _ func47 (.node 46 _ func46 .nil .nil) (.node 48 _ func48 .nil .nil)) (.node 51 _ func51 (.node 50 _ func50 .nil .nil) (.node 52 _ func52 .nil .nil))) (.node 57 _ func57 (.node 55 _ func55 (.node 54 _ func54 .nil .nil) (.node 56 _ func56 .nil .nil)) (.node 59 _ func59 (.node 58 _ func58 .nil .nil) .nil))) (.node 68 _ func68 (.node 64 _ func64 (.node 62 _ func62 (.node 61 _ func61 .nil .nil) (.node 63 _ func63 .nil .nil)) (.node 66 _ func66 (.node 65 _ func65 .nil .nil) (.node 67 _ func67 .nil .nil))) (.node 72 _ func72 (.node 70 _ func70 (.node 69 _ func69 .nil .nil) (.node 71 _ func71 .nil .nil)) (.node 76 _ func76 (.node 73 _ func73 .nil .nil) .nil))))) (.node 107 _ func107 (.node 92 _ func92 (.node 85 _ func85 (.node 81 _ func81 (.node 79 _ func79 (.node 78 _ func78 .nil .nil) (.node 80 _ func80 .nil .nil)) (.node 83 _ func83 (.node 82 _ func82 .nil .nil) (.node 84 _ func84 .nil .nil))) (.node 89 _ func89 (.node 87 _ func87 (.node 86 _ func86 .nil .nil) (.node 88 _ func88 .nil .nil)) (.node 91 _ func91 (.node 90 _ func90 .nil .nil) .nil))) (.node 100 _ func100 (.node 96 _ func96 (.node 94 _ func94 (.node 93 _ func93 .nil .nil) (.node 95 _ func95 .nil .nil)) (.node 98 _ func98 (.node 97 _ func97 .nil .nil) (.node 99 _ func99 .nil .nil))) (.node 104 _ func104 (.node 102 _ func102 (.node 101 _ func101 .nil .nil) (.node 103 _ func103 .nil .nil)) (.node 106 _ func106 (.node 105 _ func105 .nil .nil) .nil)))) (.node 122 _ func122 (.node 115 _ func115 (.node 111 _ func111 (.node 109 _ func109 (.node 108 _ func108 .nil .nil) (.node 110 _ func110 .nil .nil)) (.node 113 _ func113 (.node 112 _ func112 .nil .nil) (.node 114 _ func114 .nil .nil))) (.node 119 _ func119 (.node 117 _ func117 (.node 116 _ func116 .nil .nil) (.node 118 _ func118 .nil .nil)) (.node 121 _ func121 (.node 120 _ func120 .nil .nil) .nil))) (.node 131 _ func131 (.node 126 _ func126 (.node 124 _ func124 (.node 123 _ func123 .nil .nil) (.node 125 _ func125 .nil .nil)) (.node 129 _ func129 (.node 128 _ func128 .nil .nil) (.node 130 _ func130 .nil .nil))) (.node 135 _ func135 (.node 133 _ func133 (.node 132 _ func132 .nil .nil) (.node 134 _ func134 .nil .nil)) (.node 137 _ func137 (.node 136 _ func136 .nil .nil) .nil)))))) (.node 204 _ func204 (.node 171 _ func171 (.node 154 _ func154 (.node 146 _ func146 (.node 142 _ func142 (.node 140 _ func140 (.node 139 _ func139 .nil .nil) (.node 141 _ func141 .nil .nil)) (.node 144 _ func144 (.node 143 _ func143 .nil .nil) (.node 145 _ func145 .nil .nil))) (.node 150 _ func150 (.node 148 _ func148 (.node 147 _ func147 .nil .nil) (.node 149 _ func149 .nil .nil)) (.node 152 _ func152 (.node 151 _ func151 .nil .nil) (.node 153 _ func153 .nil .nil)))) (.node 164 _ func164 (.node 158 _ func158 (.node 156 _ func156 (.node 155 _ func155 .nil .nil) (.node 157 _ func157 .nil .nil)) (.node 160 _ func160 (.node 159 _ func159 .nil .nil) (.node 161 _ func161 .nil .nil))) (.node 168 _ func168 (.node 166 _ func166 (.node 165 _ func165 .nil .nil) (.node 167 _ func167 .nil .nil)) (.node 170 _ func170 (.node 169 _ func169 .nil .nil) .nil)))) (.node 186 _ func186 (.node 179 _ func179 (.node 175 _ func175 (.node 173 _ func173 (.node 172 _ func172 .nil .nil) (.node 174 _ func174 .nil .nil)) (.node 177 _ func177 (.node 176 _ func176 .nil .nil) (.node 178 _ func178 .nil .nil))) (.node 183 _ func183 (.node 181 _ func181 (.node 180 _ func180 .nil .nil) (.node 182 _ func182 .nil .nil)) (.node 185 _ func185 (.node 184 _ func184 .nil .nil) .nil))) (.node 197 _ func197 (.node 193 _ func193 (.node 191 _ func191 (.node 190 _ func190 .nil .nil) (.node 192 _ func192 .nil .nil)) (.node 195 _ func195 (.node 194 _ func194 .nil .nil) (.node 196 _ func196 .nil .nil))) (.node 201 _ func201 (.node 199 _ func199 (.node 198 _ func198 .nil .nil) (.node 200 _ func200 .nil .nil)) (.node 203 _ func203 (.node 202 _ func202 .nil .nil) .nil))))) (.node 237 _ func237 (.node 219 _ func219 (.node 212 _ func212 (.node 208 _ func208 (.node 206 _ func206 (.node 205 _ func205 .nil .nil) (.node 207 _ func207 .nil .nil)) (.node 210 _ func210 (.node 209 _ func209 .nil .nil) (.node 211 _ func211 .nil .nil))) (.node 216 _ func216 (.node 214 _ func214 (.node 213 _ func213 .nil .nil) (.node 215 _ func215 .nil .nil)) (.node 218 _ func218 (.node 217 _ func217 .nil .nil) .nil))) (.node 230 _ func230 (.node 223 _ func223 (.node 221 _ func221 (.node 220 _ func220 .nil .nil) (.node 222 _ func222 .nil .nil)) (.node 225 _ func225 (.node 224 _ func224 .nil .nil) (.node 229 _ func229 .nil .nil))) (.node 234 _ func234 (.node 232 _ func232 (.node 231 _ func231 .nil .nil) (.node 233 _ func233 .nil .nil)) (.node 236 _ func236 (.node 235 _ func235 .nil .nil) .nil)))) (.node 254 _ func254 (.node 245 _ func245 (.node 241 _ func241 (.node 239 _ func239 (.node 238 _ func238 .nil .nil) (.node 240 _ func240 .nil .nil)) (.node 243 _ func243 (.node 242 _ func242 .nil .nil) (.node 244 _ func244 .nil .nil))) (.node 251 _ func251 (.node 247 _ func247 (.node 246 _ func246 .nil .nil) (.node 248 _ func248 .nil .nil)) (.node 253 _ func253 (.node 252 _ func252 .nil .nil) .nil))) (.node 266 _ func266 (.node 258 _ func258 (.node 256 _ func256 (.node 255 _ func255 .nil .nil) (.node 257 _ func257 .nil .nil)) (.node 264 _ func264 (.node 259 _ func259 .nil .nil) (.node 265 _ func265 .nil .nil))) (.node 275 _ func275 (.node 273 _ func273 (.node 272 _ func272 .nil .nil) (.node 274 _ func274 .nil .nil)) (.node 279 _ func279 (.node 278 _ func278 .nil .nil) .nil)))))))
theorem ue61:(if prog.stoodInHeld 61=false∧prog.eqGuardType prog.depth 61=false then some () else none)=some ():=if_pos ⟨stoodInHeld61,eqGuardType61⟩
theorem ue63:(if prog.stoodInHeld 63=false∧prog.eqGuardType prog.depth 63=false then some () else none)=some ():=if_pos ⟨stoodInHeld63,eqGuardType63⟩
theorem ue228:(if prog.stoodInHeld 228=false∧prog.eqGuardType prog.depth 228=false then some () else none)=some ():=if_pos ⟨stoodInHeld228,eqGuardType228⟩
noncomputable def trE:Tre (λT=>if prog.stoodInHeld T=false∧prog.eqGuardType prog.depth T=false then some () else none):=(.node 63 () ue63 (.node 61 () ue61 .nil .nil) (.node 228 () ue228 .nil .nil))
noncomputable instance:Tb prog:=⟨trU,trI,trF,trE⟩
end
end Go.Proofs.YtgeehfnbhbibeaaGreatDoor.Rx
