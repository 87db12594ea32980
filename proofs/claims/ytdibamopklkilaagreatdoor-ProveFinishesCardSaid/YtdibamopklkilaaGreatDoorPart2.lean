/- A part of the proof: what the functions of the program compute, shown over the model. -/
import Derived.Test.YtdibamopklkilaaGreatDoorPart1
set_option linter.unusedSectionVars false
set_option linter.unusedVariables false
set_option linter.unusedSimpArgs false
namespace Go.Proofs.YtdibamopklkilaaGreatDoor.Rex
open Go Pad
section
variable [Gb]
def zv_:AV→Option (List SV)
  | .b (.one s)=>some [s]
  | .b (.val t x)=>some (exp t x)
  | .b (.agg l)=>some l
  | _=>none
def capD:List AV→Option DV
  | []=>some ⟨.unit,()⟩
  | .b (.one (.val t x))::l=>(capD l).bind λd=>some ⟨.pair t d.t,(x,d.x)⟩
  | _=>none
def cj6 {α ρ:Type} (sl:Nat→AV) (lo hi:Option Operand) (l:List α) (k:List α→Option ρ):Option ρ:=match lo,hi with
  | some y,none=>(asD .int (evA sl y)).bind λ(a:Int)=>(sub? l a (l.length:Nat)).bind k
  | none,some z=>(asD .int (evA sl z)).bind λ(b:Int)=>(sub? l 0 b).bind k
  | some y,some z=>(asD .int (evA sl y)).bind λ(a:Int)=>(asD .int (evA sl z)).bind λ(b:Int)=>(sub? l a b).bind k
  | none,none=>none
def idxS {ρ:Type} (s:Str) (i:Int) (k:AV→Option ρ):Option ρ:=(at? s i).bind λc=>k (uV (c.toNat:Int))
def stepP {ρ:Type} (P:Program) [Tb P] (o:Oper) (sl:Nat→AV) (objs:List AO) (k:AV→Option ρ):Option ρ:=match o.op with
  | .move x=>k (evA sl x)
  | .assign x=>k (evA sl x)
  | .pick c a b=>(asD .bool (evA sl c)).bind λq=>cond q (k (evA sl a)) (k (evA sl b))
  | .binOp op T x y _=>binA P op T (evA sl x) (evA sl y) objs k
  | .unOp .not _ x=>(asD .bool (evA sl x)).bind λb=>k (bV (!b))
  | .unOp .neg _ x=>(asD .int (evA sl x)).bind λ(b:Int)=>k (iV (w64 (0 - b)))
  | .extract x i=>match evA sl x with
    | .tup l=>(l[i]?).bind λb=>k (.b b)
    | _=>none
  | .nilCheck x=>match evA sl x with
    | .b (.one (.ptr p i))=>k (.b (.one (.ptr p i)))
    | .b (.one (.val (.ref t) y))=>k (.b (.one (.val (.ref t) y)))
    | .b (.one (.ptrE p i n z q))=>k (.b (.one (.ptrE p i n z q)))
    | _=>none
  | .fieldAddr T x i=>(offOf P T i).bind λoff=>fldA off i (evA sl x) k
  | .indexAddr T x y=>match und P T with
    | some (.array n E)=>(asD .int (evA sl y)).bind λi=>arrX P E n i (evA sl x) objs k
    | _=>(elemOf P T).bind λE=>(asD .int (evA sl y)).bind λi=>idxA P E i (evA sl x) objs k
  | .load T x=>bu4 P T (evA sl x) objs k
  | .index T x y=>match und P T with
    | some .string=>(asD .str (evA sl x)).bind λs=>(asD .int (evA sl y)).bind λi=>idxS s i k
    | _=>none
  | .makeFunc (.func f) ⟨[]⟩ ⟨ca⟩=>(capD (ca.map (evA sl))).bind λd=>k (.b (.one (.val (.clo f d.t) d.x)))
  | .call ⟨.builtin .len,⟨[x]⟩,⟨[T]⟩⟩=>match und P T with
    | some .string=>(asD .str (evA sl x)).bind λs=>k (iV (s.length:Nat))
    | some (.slice _)=>lenA (evA sl x) objs k
    | _=>none
  | .call ⟨.builtin .max,⟨[x,y]⟩,_⟩=>(asD .int (evA sl x)).bind λa=>(asD .int (evA sl y)).bind λb=>k (iV (maxI a b))
  | .call ⟨.builtin .min,⟨[x,y]⟩,_⟩=>(asD .int (evA sl x)).bind λa=>(asD .int (evA sl y)).bind λb=>k (iV (minI a b))
  | .lookup T x y ok=>(bi7 P T).bind λq=>match evA sl x with
    | .b (.one (.map o))=>match objs[o]? with
      | some (.map kt vt m _)=>cond (bv6 P q.1 kt) ((rc_ P q.2 vt).bind λz=>(asD kt (evA sl y)).bind λkey=>cond ok (k (.tup [ofB vt (cl4 z m key),.one (.val .bool (hasD m key))])) (k (ofD vt (cl4 z m key)))) none
      | _=>none
    | _=>none
  | .slice T x lo hi none=>match und P T with
    | some .string=>(asD .str (evA sl x)).bind λs=>cj6 sl lo hi (show List UInt8 from s) λm=>k (sV m)
    | _=>(elemOf P T).bind λE=>match evA sl x with
    | .b (.one (.val (.list t) l))=>cond (bc8 P E t) (cj6 sl lo hi l λm=>k (.b (.one (.val (.list t) m)))) none
    | _=>none
  | _=>none
section
variable {ρ:Type} {P:Program} [Tb P] {objs:List AO} {k:AV→Option ρ} {r:ρ} {sl:Nat→AV}
theorem ai0 {hv:Nat→Value} {S:PH}:∀ {l:List AV} {vs:List Value} {d:DV},capD l=some d→Fa (RA hv S) l vs→d.t.enc.rep S vs d.x
  | [],[],d,h,_=>by cases h;rfl
  | a::l,v::vs,d,h,hf=>by
    unfold capD at h
    split at h
    · rename_i e;cases e
    · rename_i t x l' e
      cases e
      obtain⟨d',h1,h⟩:=bnd h
      cases h
      have hv1:=hf.1
      exact⟨[v],vs,rfl,nw_ hv1.2.1 hv1.2.2,ai0 h1 hf.2⟩
    · cases h
theorem ag4 {hv:Nat→Value} {S:PH} {Fm:List HP} {f:Fr} {w:World} (hs:Sit S hv Fm sl objs f w):∀ (ca:List Operand),Fa (RA hv S) (ca.map (evA sl)) (ca.map (ev f))
  | []=>trivial
  | x::ca=>⟨hs.ev x,ag4 hs ca⟩
theorem str_ext (s:Str) (a b:Int) (h0:0≤a) (h1:a≤b) (h2:b≤(s.length:Nat)):((⟨s.toArray⟩:ByteArray).extract a.toNat b.toNat)=⟨((s.take b.toNat).drop a.toNat).toArray⟩:=by
  apply ByteArray.ext
  rw[ByteArray.data_extract]
  simp
  show (s.drop a.toNat).take (b.toNat - a.toNat)=_
  rw[List.drop_take]
theorem aa5 {o:Oper} (h:stepP P o sl objs k=some r):∃ av,k av=some r∧OpOk P o sl objs av objs:=by
  obtain⟨dd,op,ty,pos,af,gd⟩:=o
  unfold stepP at h
  simp only at h
  split at h
  · rename_i x
    exact⟨_,h,.pure (λhs _=>ig_ hs x) λhs=>⟨_,by simp[execOp],hs.ev x⟩⟩
  · rename_i x
    exact⟨_,h,.pure (λhs _=>ig_ hs x) λhs=>⟨_,by simp[execOp],hs.ev x⟩⟩
  · rename_i c a b
    obtain⟨q,hq,h⟩:=bnd h
    cases q with
    | true=>exact⟨_,h,.pure (λhs _=>ig_ hs a) λ{S hv Fm f w} hs=>⟨_,by simp[execOp,en_ (hs.ev c) hq,asBool],hs.ev a⟩⟩
    | false=>exact⟨_,h,.pure (λhs _=>ig_ hs b) λ{S hv Fm f w} hs=>⟨_,by simp[execOp,en_ (hs.ev c) hq,asBool],hs.ev b⟩⟩
  · rename_i op T x y T2
    obtain⟨av,h1,h2,h3⟩:=binA_ok h
    refine⟨_,h1,.pure (λ_ _=>h2 _) λ{S hv Fm f w} hs => ?_⟩
    obtain⟨c,g1,g2,g3⟩:=h3 (w:=w) (hs.ev x) (hs.ev y)
    exact⟨c,by simp[execOp,Sem.run_bind,g1,g2,Result.andThen],g3⟩
  · rename_i T x
    obtain⟨b,hb,h⟩:=bnd h
    exact⟨_,h,.pure (λ_ _=>rfl) λ{S hv Fm f w} hs=>⟨_,by simp[execOp,en_ (hs.ev x) hb,Op.unary],tr_ _⟩⟩
  · rename_i T x
    obtain⟨b,hb,h⟩:=bnd h
    exact⟨_,h,.pure (λ_ _=>rfl) λ{S hv Fm f w} hs=>⟨_,by simp[execOp,dt_ (hs.ev x) hb,Op.unary,Op.intArith];rfl,af3 _⟩⟩
  · rename_i x i
    split at h
    · rename_i l hl
      obtain⟨b,hb,h⟩:=bnd h
      refine⟨_,h,.pure (λhs _ => ?_) λ{S hv Fm f w} hs => ?_⟩
      · have:=ig_ hs x
        rw[hl] at this
        exact bj_ this b (b9_ hb)
      · have:=hs.ev x
        rw[hl] at this
        obtain⟨vs,e,hf⟩:=this
        obtain⟨v,h1,h2⟩:=hf.get hb
        exact⟨v,by simp[execOp,e,Instr.extract,h1],h2⟩
    · cases h
  · rename_i x
    have key:∀ {av:AV},evA sl x=av→(∀ {hv:Nat→Value} {S:PH} {v:Value},RA hv S av v→∃ a,v = .pointer (some a))→OpOk P ⟨dd,.nilCheck x,ty,pos,af,gd⟩ sl objs av objs:=λ{av} e hp=>by
      refine .pure (λhs _=>by rw[← e];exact ig_ hs x) λ{S hv Fm f w} hs => ?_
      have:=hs.ev x
      rw[e] at this
      obtain⟨a,ha⟩:=hp this
      exact⟨ev f x,by simp[execOp,ha],this⟩
    split at h
    · rename_i p i e
      exact⟨_,h,key e λhr=>hr.2.1⟩
    · rename_i t y e
      exact⟨_,h,key e λhr=>PtS.ptr (pj_ hr.2.2)⟩
    · rename_i p i n z q e
      exact⟨_,h,key e λhr=>hr.2.1⟩
    · cases h
  · rename_i T x i
    obtain⟨off,hoff,h⟩:=bnd h
    obtain⟨av,h1,h2,h3⟩:=fldA_ok (objs:=objs) (ck3 hoff) h
    refine⟨_,h1,.pure (λhs _=>h2 (ig_ hs x)) λ{S hv Fm f w} hs => ?_⟩
    obtain⟨u,g1,g2⟩:=h3 (w:=w) (hs.ev x)
    exact⟨u,by simp[execOp,g1],g2⟩
  · rename_i T x y
    split at h
    · rename_i n E hT
      obtain⟨i,hi,h⟩:=bnd h
      obtain⟨av,h1,h2,h3⟩:=arrX_ok (dk_ hT) h
      refine⟨_,h1,.pure (λhs _=>h2 (ig_ hs x)) λ{S hv Fm f w} hs => ?_⟩
      obtain⟨u,g1,g2⟩:=h3 hs (hs.ev x)
      exact⟨u,by simp[execOp,dt_ (hs.ev y) hi,g1],g2⟩
    · obtain⟨E,hE,h⟩:=bnd h
      obtain⟨i,hi,h⟩:=bnd h
      obtain⟨av,h1,h2,h3⟩:=idxA_ok (fs_ hE) h
      refine⟨_,h1,.pure (λhs _=>h2 (ig_ hs x)) λ{S hv Fm f w} hs => ?_⟩
      obtain⟨u,g1,g2⟩:=h3 hs (hs.ev x)
      exact⟨u,by simp[execOp,dt_ (hs.ev y) hi,g1],g2⟩
  · rename_i T x
    obtain⟨av,h1,h2,h3⟩:=ba7 h
    refine⟨_,h1,.pure (λ_ hw=>h2 hw) λ{S hv Fm f w} hs => ?_⟩
    obtain⟨u,g1,g2⟩:=h3 hs (hs.ev x)
    exact⟨u,by simp[execOp,g1],g2⟩
  · rename_i T x y
    split at h
    · rename_i hT
      have hT:=dk_ hT
      obtain⟨s,hs1,h⟩:=bnd h
      obtain⟨i,hi,h⟩:=bnd h
      obtain⟨c,hc,h⟩:=bnd h
      refine⟨_,h,.pure (λ_ _=>rfl) λ{S hv Fm f w} hs=>⟨_,?_,uV_ra _⟩⟩
      obtain⟨h0,hlt,hc⟩:=dd_ hc
      have e:(⟨(show Str from s).toArray⟩:ByteArray)[(show Int from i).toNat]?=some c:=by
        have hlt2:(show Int from i).toNat<(⟨(show Str from s).toArray⟩:ByteArray).size:=by rw[mx_];exact hlt
        have h1:=getElem?_pos (⟨(show Str from s).toArray⟩:ByteArray) (show Int from i).toNat hlt2
        rw[h1]
        rw[a7_ hlt] at hc
        exact hc
      have h0':(0:Int)≤i:=h0
      simp[execOp,iz_ (hs.ev x) hs1,dt_ (hs.ev y) hi,Instr.index,asIntOf,run_underlying hT,h0',e]
    · cases h
  · rename_i f0 ca
    obtain⟨d,hd,h⟩:=bnd h
    refine⟨_,h,.pure (λ_ _=>rfl) λ{S hv Fm f w} hs=>⟨.func (.func f0) #[] (ca.map (ev f)).toArray,by simp[execOp,Instr.makeFunc],rfl,rfl,[.func (.func f0) #[] (ca.map (ev f)).toArray],⟨_,rfl,ai0 hd (ag4 hs ca)⟩,rfl⟩⟩
  · rename_i x T
    split at h
    · rename_i hT
      have hT:=dk_ hT
      obtain⟨s,hs1,h⟩:=bnd h
      refine⟨_,h,.pure (λ_ _=>rfl) λ{S hv Fm f w} hs=>⟨_,?_,af3 _⟩⟩
      have e:=iz_ (hs.ev x) hs1
      have e2:=mx_ s
      simp[execOp,e,resolve,invoke,builtin,Builtin.len_,run_underlying hT,goInt]
      exact congrArg (λn:Nat=>(n:Int)) e2
    · rename_i E hT
      have hT:=dk_ hT
      obtain⟨av,h1,h2,h3⟩:=lenA_ok hT h
      refine⟨_,h1,.pure (λ_ _=>h2) λ{S hv Fm f w} hs => ?_⟩
      obtain⟨n,g1,a,c,e⟩:=h3 hs (hs.ev x)
      exact⟨_,by simp[execOp,e,resolve,invoke,builtin,Builtin.len_,run_underlying hT,goInt],g1⟩
    · cases h
  · rename_i x y ct
    obtain⟨a,ha,h⟩:=bnd h
    obtain⟨b,hb,h⟩:=bnd h
    refine⟨_,h,.pure (λ_ _=>rfl) λ{S hv Fm f w} hs=>⟨_,?_,af3 _⟩⟩
    simp[execOp,dt_ (hs.ev x) ha,dt_ (hs.ev y) hb,resolve,invoke,builtin,Builtin.max_,Builtin.max2,maxI]
  · rename_i x y ct
    obtain⟨a,ha,h⟩:=bnd h
    obtain⟨b,hb,h⟩:=bnd h
    refine⟨_,h,.pure (λ_ _=>rfl) λ{S hv Fm f w} hs=>⟨_,?_,af3 _⟩⟩
    simp[execOp,dt_ (hs.ev x) ha,dt_ (hs.ev y) hb,resolve,invoke,builtin,Builtin.min_,Builtin.min2,minI]
  · rename_i T x y ok
    obtain⟨⟨kT,vT⟩,hq,h⟩:=bnd h
    have hT:=ae0 hq
    split at h
    · rename_i o hx
      split at h
      · rename_i kt vt m ro ho
        obtain⟨hk,h⟩:=bv_ h
        obtain⟨z,hz,h⟩:=bnd h
        obtain⟨key,hkey,h⟩:=bnd h
        have hK:=ae4 hk
        obtain⟨bytes,zv,⟨ei,hE⟩,_,hzr⟩:=lg_ hz
        have main:∀ {S:PH} {hv:Nat→Value} {Fm:List HP} {f:Fr} {w:World},Sit S hv Fm sl objs f w→∃ q,RVt vt S q (cl4 z m key)∧(Instr.lookup T (ev f x) (ev f y) ok).run P w = .ok (if ok then .tuple #[q,.bool (hasD m key)] else q) w:=λ{S hv Fm f w} hs=>by
          obtain⟨L,hI,_⟩:=hs.at ho
          obtain⟨hh,⟨g,e1,e2⟩,hI2⟩:=hI.open_
          have hI3:Inv w S (bf7 g m::(L++Fm)):=hI2.shut e2
          have hxv:=hs.ev x
          rw[hx] at hxv
          have e3:ev f x = .map (some g):=hxv.2.trans e1
          rw[e3]
          exact @bg9 P w _ T kT vT kt.den vt.den kt.enc vt.enc kt.deq S _ m g key zv z hT hK (λw=>by simp[zeroValue,typeInfo,hE.hi,hE.hz]) hzr hI3 (gm_ (hs.ev y) hkey) ok
        cases ok with
        | true =>
          refine⟨_,h,.pure (λ_ _ => ?_) λ{S hv Fm f w} hs => ?_⟩
          · show (BV.lt objs (ofB vt (cl4 z m key))&&(true&&true))=true
            rw[ofB_lt]
            rfl
          · obtain⟨q,h1,h2⟩:=main hs
            exact⟨_,by simp[execOp,h2],[q,.bool (hasD m key)],rfl,ofB_rb h1,⟨rfl,rfl,ab4 _⟩,trivial⟩
        | false =>
          refine⟨_,h,.pure (λ_ _=>ba2) λ{S hv Fm f w} hs => ?_⟩
          obtain⟨q,h1,h2⟩:=main hs
          exact⟨q,by simp[execOp,h2],rt_ h1⟩
      · cases h
    · cases h
  · rename_i T x lo hi
    split at h
    case h_1 =>
      rename_i hT
      have hT:=dk_ hT
      obtain⟨s,hs1,h⟩:=bnd h
      unfold cj6 at h
      have ext:=λa b h0 h1 h2=>str_ext (show Str from s) a b h0 h1 h2
      split at h
      · rename_i y _
        obtain⟨a,ha,h⟩:=bnd h
        obtain⟨m,hm,h⟩:=bnd h
        refine⟨_,h,.pure (λ_ _=>rfl) λ{S hv Fm f w} hs => ?_⟩
        obtain⟨h0,h1,h2,rfl⟩:=km_ hm
        refine⟨_,?_,bg7 _⟩
        have e:=iz_ (hs.ev x) hs1
        have e2:(⟨(show Str from s).toArray⟩:ByteArray).size=(show Str from s).length:=mx_ _
        have h1':(show Int from a)≤((show Str from s).length:Nat):=h1
        have h0':0≤(show Int from a):=h0
        simp[execOp,e,dt_ (hs.ev y) ha,Instr.sliceAt,Instr.slice,run_underlying hT,Instr.sliceBounds,Instr.sliceBound,asIntOf,e2,h0',h1']
        have:=ext a ((show Str from s).length:Nat) h0' h1' (n5_ _)
        simpa using this
      · rename_i y _
        obtain⟨b,hb,h⟩:=bnd h
        obtain⟨m,hm,h⟩:=bnd h
        refine⟨_,h,.pure (λ_ _=>rfl) λ{S hv Fm f w} hs => ?_⟩
        obtain⟨h0,h1,h2,rfl⟩:=km_ hm
        refine⟨_,?_,bg7 _⟩
        have e:=iz_ (hs.ev x) hs1
        have e2:(⟨(show Str from s).toArray⟩:ByteArray).size=(show Str from s).length:=mx_ _
        have h1':0≤(show Int from b):=h1
        have h2':(show Int from b)≤((show Str from s).length:Nat):=h2
        simp[execOp,e,dt_ (hs.ev y) hb,Instr.sliceAt,Instr.slice,run_underlying hT,Instr.sliceBounds,Instr.sliceBound,asIntOf,e2,h1',h2']
        have:=ext 0 b (n5_ _) h1' h2'
        simpa using this
      · rename_i y z _
        obtain⟨a,ha,h⟩:=bnd h
        obtain⟨b,hb,h⟩:=bnd h
        obtain⟨m,hm,h⟩:=bnd h
        refine⟨_,h,.pure (λ_ _=>rfl) λ{S hv Fm f w} hs => ?_⟩
        obtain⟨h0,h1,h2,rfl⟩:=km_ hm
        refine⟨_,?_,bg7 _⟩
        have e:=iz_ (hs.ev x) hs1
        have e2:(⟨(show Str from s).toArray⟩:ByteArray).size=(show Str from s).length:=mx_ _
        have h0':0≤(show Int from a):=h0
        have h1':(show Int from a)≤(show Int from b):=h1
        have h2':(show Int from b)≤((show Str from s).length:Nat):=h2
        have hb0:0≤(show Int from b):=Int.le_trans h0' h1'
        have hmx:(show Int from a)≤(((show Int from b).toNat:Nat):Int):=by omega
        simp[execOp,e,dt_ (hs.ev y) ha,dt_ (hs.ev z) hb,Instr.sliceAt,Instr.slice,run_underlying hT,Instr.sliceBounds,Instr.sliceBound,asIntOf,e2,h0',h1',h2',hb0,hmx]
        have:=ext a b h0' h1' h2'
        simpa using this
      · cases h
    obtain⟨E,hE,h⟩:=bnd h
    split at h
    · rename_i t l hx
      obtain⟨hf,h⟩:=bv_ h
      have hS:=jj_ hf
      have hlist:∀ {S:PH} {hv:Nat→Value} {Fm:List HP} {f:Fr} {w:World},Sit S hv Fm sl objs f w→RVt (.list t) S (ev f x) l:=λhs=>by
        have:=hs.ev x
        rw[hx] at this
        exact this.2.2
      unfold cj6 at h
      split at h
      · rename_i y _ _
        obtain⟨a,ha,h⟩:=bnd h
        obtain⟨m,hm,h⟩:=bnd h
        refine⟨_,h,.pure (λ_ _=>rfl) λ{S hv Fm f w} hs => ?_⟩
        obtain⟨h0,h1,h2,rfl⟩:=km_ hm
        obtain⟨ad,cap,e,hc,hp⟩:=@RV.part t.den t.enc S _ l a.toNat l.length (hlist hs) (by omega) (c4_ _)
        refine⟨_,?_,rt_ (t:=.list t) (x:=(l.take ((l.length:Nat):Int).toNat).drop a.toNat) (v:=sliced ad a.toNat l.length cap (Enc.sz t.den)) ?_⟩
        · simp[execOp,e,dt_ (hs.ev y) ha,cr7 (fs_ hE) hS h0 h1]
        · exact hp
      · rename_i y _ _
        obtain⟨b,hb,h⟩:=bnd h
        obtain⟨m,hm,h⟩:=bnd h
        refine⟨_,h,.pure (λ_ _=>rfl) λ{S hv Fm f w} hs => ?_⟩
        obtain⟨h0,h1,h2,rfl⟩:=km_ hm
        obtain⟨ad,cap,e,hc,hp⟩:=@RV.part t.den t.enc S _ l 0 b.toNat (hlist hs) (by omega) (by omega)
        refine⟨_,?_,rt_ (t:=.list t) (x:=(l.take b.toNat).drop (0:Int).toNat) (v:=sliced ad 0 b.toNat cap (Enc.sz t.den)) ?_⟩
        · have hc2:(show Int from b)≤(cap:Int):=Int.le_trans h2 (Int.ofNat_le.2 hc)
          simp[execOp,e,dt_ (hs.ev y) hb,cr8 (fs_ hE) hS h1 hc2]
        · exact hp
      · rename_i y z _ _
        obtain⟨a,ha,h⟩:=bnd h
        obtain⟨b,hb,h⟩:=bnd h
        obtain⟨m,hm,h⟩:=bnd h
        refine⟨_,h,.pure (λ_ _=>rfl) λ{S hv Fm f w} hs => ?_⟩
        obtain⟨h0,h1,h2,rfl⟩:=km_ hm
        obtain⟨ad,cap,e,hc,hp⟩:=@RV.part t.den t.enc S _ l a.toNat b.toNat (hlist hs) (by omega) (by omega)
        refine⟨_,?_,rt_ (t:=.list t) (x:=(l.take b.toNat).drop a.toNat) (v:=sliced ad a.toNat b.toNat cap (Enc.sz t.den)) ?_⟩
        · have hc2:(show Int from b)≤(cap:Int):=Int.le_trans h2 (Int.ofNat_le.2 hc)
          simp[execOp,e,dt_ (hs.ev y) ha,dt_ (hs.ev z) hb,part_lh (fs_ hE) hS h0 h1 hc2]
        · exact hp
      · cases h
    · cases h
  · cases h
end
end
section
variable [Gb]
theorem ba_:∀ {l:List AO} {o:Nat},born l o=true↔∃ a,l[o]?=some a∧a≠.unborn
  | [],_=>by simp[born]
  | a::l,0=>by
    cases a<;>simp[born]
  | a::l,o+1=>by
    have:=ba_ (l:=l) (o:=o)
    cases a<;>simpa [born] using this
theorem bl_ {l:List AO} {i:Nat} {b:AO} (hb:b≠.unborn):BLe l (l.set i b):=by
  intro o ho
  obtain⟨a,h1,h2⟩:=ba_.1 ho
  refine ba_.2 ?_
  by_cases e:i=o
  · subst e
    have hl:=(a3_.1 h1).1
    exact⟨b,by simp[hl],hb⟩
  · exact⟨a,by rw[b6_ e];exact h1,h2⟩
theorem ej_ {l:List AO} {i:Nat} {b:AO} (hb:b≠.unborn) (hw:WfO l) (hl:b.lt (l.set i b)=true):WfO (l.set i b):=by
  intro a ha
  rcases p5_ ha with h | rfl
  · exact AO.lt_mono (bl_ hb) (hw a h)
  · exact hl
def ins (hv:Nat→Value) (i:Nat) (v:Value):Nat→Value:=λj=>cond (Nat.beq j i) v (hv j)
theorem cx_ (hv:Nat→Value) (i:Nat) (v:Value):ins hv i v i=v:=by simp[ins]
theorem np_ {hv:Nat→Value} {l:List AO} {i:Nat} {v:Value} (h:l[i]?=some .unborn):Ag l hv (ins hv i v):=by
  intro j hj
  obtain⟨a,h1,h2⟩:=ba_.1 hj
  have:j≠i:=by rintro rfl;rw[h] at h1;cases h1;exact h2 rfl
  have hb:Nat.beq j i=false:=by
    cases hb:Nat.beq j i with
    | false=>rfl
    | true=>exact absurd (a6_ hb) this
  simp[ins,hb]
theorem OHs.agS {hv hv':Nat→Value} {l:List AO} (ha:Ag l hv hv') (hw:WfO l):OHs hv 0 l=OHs hv' 0 l :=
  OHs.ag ha (λo ho=>by rw[b0_];exact ho) hw
theorem id_ {S:PH} {hv:Nat→Value} {Fm:List HP} {objs:List AO} {w:World} {fr:Nat} {v:Value} {a:AO} (hw:WfO objs) (hu:objs[fr]?=some .unborn)
    (hI:Inv w S (OH (ins hv fr v) v a::(OHs hv 0 objs++Fm))):Inv w S (OHs (ins hv fr v) 0 (objs.set fr a)++Fm):=by
  rw[OHs.agS (np_ hu) hw] at hI
  obtain⟨L,h1,h2⟩:=OHs.focus (hv:=ins hv fr v) (i:=0) hu
  rw[b0_,cx_] at h1 h2
  have h3:=hI.perm ((h1.append_right Fm).cons _)
  have h4:Inv w S (OH (ins hv fr v) v a::(L++Fm)):=(h3.swap).drop
  exact h4.perm ((h2 a).symm.append_right Fm)
theorem ac0 {S:PH} {hv:Nat→Value} {Fm:List HP} {objs:List AO} {w:World} {o:Nat} {L:List HP} {a:AO} (h2:∀ b,(OHs hv 0 (objs.set o b)).Perm (OH hv (hv o) b::L))
    (hI:Inv w S (OH hv (hv o) a::(L++Fm))):Inv w S (OHs hv 0 (objs.set o a)++Fm):=hI.perm ((h2 a).symm.append_right Fm)
section
variable {hv:Nat→Value} {S:PH}
theorem sf_ {a:AV} {v:Value} {l:List SV} (h:RA hv S a v) (hl:zv_ a=some l):Fa (RS hv S) l v.cells.toList:=by
  cases a with
  | tup l=>cases hl
  | b a =>
    cases a with
    | dead=>cases hl
    | one s =>
      cases hl
      have:v.cells = #[v]:=by
        have h1:=h.1
        cases v<;>first | rfl | (simp[Value.oneCell'] at h1)
      rw[this]
      exact⟨h,trivial⟩
    | val t x =>
      cases hl
      exact ag7 (RV.cells h.2)
    | agg l =>
      cases hl
      obtain⟨cs,rfl,hf⟩:=h
      exact hf
theorem sg_ {n:List AO} {a:AV} {l:List SV} (h:a.lt n=true) (hl:zv_ a=some l):fd_ (SV.lt n) l=true:=by
  cases a with
  | tup l=>cases hl
  | b a =>
    cases a with
    | dead=>cases hl
    | one s=>cases hl;simp only[fd_,h4_];exact h
    | val t x=>cases hl;exact bd3
    | agg l=>cases hl;exact h
theorem fa_ag {n:List AO} {hv':Nat→Value} (ha:Ag n hv hv') {l:List SV} {cs:List Value} (hl:fd_ (SV.lt n) l=true) (h:Fa (RS hv S) l cs):Fa (RS hv' S) l cs :=
  h.imp' λa hm _ k=>RS.ag ha (bj_ hl a hm) k
theorem fa_one {l:List SV} {cs:List Value} (h:Fa (RS hv S) l cs):∀ u ∈ cs,u.oneCell'=true:=by
  intro u hu
  obtain⟨i,hi⟩:=e7_ hu
  obtain⟨a,_,h2⟩:=h.get' hi
  exact h2.1
end
def putL {α:Type}:List α→Nat→List α→List α
  | l,_,[]=>l
  | [],_,_=>[]
  | a::l,0,b::m=>b::putL l 0 m
  | a::l,i+1,b::m=>a::putL l i (b::m)
theorem ac3 {α:Type}:∀ (l:List α) (i:Nat) (m:List α),i+m.length≤l.length→putL l i m=l.take i++m++l.drop (i+m.length)
  | l,i,[],_=>by unfold putL;simp
  | [],i,b::m,h=>by simp at h
  | a::l,0,b::m,h=>by
    simp only[c5_] at h
    unfold putL
    rw[ac3 l 0 m (by omega)]
    simp only[b0_,k4_,g7_,c5_,List.drop_succ_cons,l1_]
  | a::l,i+1,b::m,h=>by
    simp only[c5_] at h
    unfold putL
    rw[ac3 l i (b::m) (by simp;omega)]
    simp only[List.take_succ_cons,l1_,c5_,b5_]
    rw[show i+1+(m.length+1)=(i+(m.length+1))+1 by omega,List.drop_succ_cons]
theorem Fa.putL {α β:Type} {R:α→β→Prop}:∀ {l:List α} {cs:List β} {i:Nat} {m:List α} {ds:List β},Fa R l cs→Fa R m ds→Fa R (Rex.putL l i m) (Rex.putL cs i ds)
  | l,cs,i,[],[],h,_=>by unfold Rex.putL;exact h
  | [],[],i,b::m,d::ds,_,_=>by unfold Rex.putL;trivial
  | a::l,c::cs,0,b::m,d::ds,h,k=>by unfold Rex.putL;exact⟨k.1,Fa.putL h.2 k.2⟩
  | a::l,c::cs,i+1,b::m,d::ds,h,k=>by unfold Rex.putL;exact⟨h.1,Fa.putL h.2 k⟩
theorem ac2 {α:Type}:∀ {l:List α} {i:Nat} {m:List α},(putL l i m).length=l.length
  | l,i,[]=>by unfold putL;rfl
  | [],i,b::m=>by unfold putL;rfl
  | a::l,0,b::m=>by unfold putL;simp[ac2 (l:=l)]
  | a::l,i+1,b::m=>by unfold putL;simp[ac2 (l:=l)]
theorem ac1 {α:Type}:∀ {l:List α} {i:Nat} {m:List α} {j:Nat},(Nat.blt j i||Nat.ble (i+m.length) j)=true→(putL l i m)[j]?=l[j]?
  | l,i,[],j,h=>by unfold putL;rfl
  | [],i,b::m,j,h=>by unfold putL;rfl
  | a::l,0,b::m,j,h=>by
    simp only[c9_] at h
    unfold putL
    cases j with
    | zero =>
      rcases h with h | h
      · cases h
      · have:=c0_ h;simp at this
    | succ j =>
      simp only[i5_]
      refine ac1 ?_
      rcases h with h | h
      · cases h
      · have:=c0_ h
        simp only[c5_] at this
        simp only[c9_]
        exact .inr (i0_ (by omega))
  | a::l,i+1,b::m,j,h=>by
    simp only[c9_] at h
    unfold putL
    cases j with
    | zero=>rfl
    | succ j =>
      simp only[i5_]
      refine ac1 ?_
      simp only[c9_]
      rcases h with h | h
      · have:j+1<i+1:=c0_ h
        exact .inl (i0_ (by omega:j.succ≤i))
      · have:=c0_ h
        exact .inr (i0_ (by omega))
theorem cj_ {l:List AO} {o:Nat} {a b:AO} (ho:l[o]?=some a) (h:K1 a b):Keep l (l.set o b):=by
  intro p c hp
  by_cases e:o=p
  · subst e
    rw[ho] at hp
    cases hp
    have hl:=(a3_.1 ho).1
    exact⟨b,by simp[hl],h⟩
  · exact⟨c,by rw[b6_ e];exact hp,K1.refl c⟩
theorem bq3 {n:List AO} {l m:List SV} (h:fd_ (SV.lt n) l=true) (k:fd_ (SV.lt n) m=true):∀ {i:Nat},fd_ (SV.lt n) (putL l i m)=true:=by
  intro i
  induction l generalizing i m with
  | nil=>cases m<;>exact h
  | cons a l ih =>
    cases m with
    | nil=>exact h
    | cons b m =>
      simp only[fd_,a2_] at h k
      cases i with
      | zero=>simp only[putL,fd_,a2_];exact⟨k.1,ih h.2 k.2⟩
      | succ i=>simp only[putL,fd_,a2_];exact⟨h.1,ih h.2 (by simp only[fd_,a2_];exact k)⟩
section
variable {ρ:Type}
def bg0 (P:Program) [Tb P] (T:TypeId):Option (List SV):=(inf P T).bind λi=>i.zero.bind λz=>cond (z.cells.toList.all (·.oneCell')) (some (z.cells.toList.map ofC)) none
def at1 (P:Program) [Tb P]:List Field→Option (List (Nat×Nat))
  | []=>some []
  | f::fs=>(inf P f.type).bind λi=>(at1 P fs).bind λr=>some ((f.offset,i.size)::r)
def cn1 (pl:List (Nat×Nat)) (l:List SV):List (Nat×AV)→Option (List SV)
  | []=>some l
  | (i,a)::ps=>(pl[i]?).bind λq=>(zv_ a).bind λm=>cond (Nat.beq m.length q.2&&Nat.ble (q.1+m.length) l.length) (cn1 pl (putL l q.1 m) ps) none
def cb3 (P:Program) [Tb P] (T:TypeId) (ps:List (Nat×AV)) (k:AV→Option ρ):Option ρ:=match und P T with
  | some (.struct fs)=>(at1 P fs.toList).bind λpl=>(bg0 P T).bind λz=>(cn1 pl z ps).bind λl=>k (.b (.agg l))
  | _=>none
def cq2 (P:Program) [Tb P] (T:TypeId) (p v:AV) (objs:List AO) (k:List AO→Option ρ):Option ρ:=match p with
  | .b (.one (.ptr o i))=>match objs[o]? with
    | some (.cells B l ro)=>(zv_ v).bind λm=>(shp P T).bind λsh=>cond (Nat.beq sh.2 m.length&&Nat.ble (i+m.length) l.length&&fd_ (λj=>Nat.blt j i||Nat.ble (i+m.length) j) ro) (k (objs.set o (.cells B (putL l i m) ro))) none
    | _=>none
  | _=>none
end
section
variable {ρ:Type} {P:Program} [Tb P] {objs:List AO} {r:ρ} {T:TypeId}
theorem rd_ {hv:Nat→Value} {S:PH} {l:List SV} (h:bg0 P T=some l):∃ z,(∀ w,(zeroValue T).run P w = .ok z w)∧Fa (RS hv S) l z.cells.toList∧∀ n,fd_ (SV.lt n) l=true:=by
  obtain⟨i,h1,h⟩:=bnd h
  obtain⟨z,h2,h⟩:=bnd h
  have h1:=xb_ h1
  obtain⟨hc,h⟩:=bv_ h
  cases h
  refine⟨z,λw=>by simp[zeroValue,typeInfo,h1,h2],cu5 λv hv=>e6_.1 hc v hv,λn=>hf_ λs hs => ?_⟩
  obtain⟨v,_,rfl⟩:=d8_.1 hs
  exact bs4 v
theorem ze_:∀ {fs:List Field} {pl:List (Nat×Nat)},at1 P fs=some pl→∀ w,(fs.mapM λf=>do pure (f.offset,← sizeOf f.type):Sem (List (Nat×Nat))).run P w = .ok pl w
  | [],pl,h,w=>by cases h;rfl
  | f::fs,pl,h,w=>by
    obtain⟨i,h1,h⟩:=bnd h
    obtain⟨r,h2,h⟩:=bnd h
    have h1:=xb_ h1
    cases h
    have:=ze_ h2 w
    have hs:(sizeOf f.type).run P w = .ok i.size w:=by simp[sizeOf,typeInfo,h1]
    rw[List.mapM_cons]
    simp only[Sem.run_bind,hs,Result.andThen_ok,Sem.run_pure] at this ⊢
    rw[this]
    rfl
theorem bd1 {hv:Nat→Value} {S:PH} {pl:List (Nat×Nat)}:∀ {ps:List (Nat×AV)} {vs:List (Nat×Value)} {l l':List SV} {cs:List Value},cn1 pl l ps=some l'→Fa (λp q=>p.1=q.1∧RA hv S p.2 q.2) ps vs→Fa (RS hv S) l cs →
    ∃ cs',ao2 (pl[·]?) cs.toArray (vs.map λp=>(p.1,p.2.cells))=some cs'.toArray∧Fa (RS hv S) l' cs'
  | [],[],l,l',cs,h,_,hf=>by cases h;exact⟨cs,rfl,hf⟩
  | (i,a)::ps,(j,v)::vs,l,l',cs,h,hp,hf=>by
    obtain⟨q,h1,h⟩:=bnd h
    obtain⟨m,h2,h⟩:=bnd h
    obtain⟨hc,h⟩:=bv_ h
    simp only[a2_] at hc
    have c1:=a6_ hc.1
    have c2:=c0_ hc.2
    obtain⟨⟨e1,e2⟩,e3⟩:=hp
    simp only at e1 e2
    subst e1
    have hm:=sf_ e2 h2
    obtain⟨cs',g1,g2⟩:=bd1 h e3 (hf.putL (i:=q.1) hm)
    refine⟨cs',?_,g2⟩
    have hl:=hm.len
    have hl2:=hf.len
    simp only[j8_]
    unfold ao2
    simp only[h1]
    have hn:¬ (v.cells.size≠q.2∨q.1+v.cells.size > cs.toArray.size):=by
      have e:v.cells.size=m.length:=by rw[hl];simp
      rw[e]
      simp
      omega
    have:(decide (v.cells.size≠q.2)||decide (q.1+v.cells.size > cs.toArray.size))=false:=by
      simpa using hn
    rw[if_neg (by rw[this];decide)]
    rw[← na_ v.cells.toList cs.toArray q.1 (by simp; (have e:v.cells.size=m.length:=by rw[hl];simp);omega)]
    have e4:(cs.toArray.toList.take q.1++v.cells.toList++cs.toArray.toList.drop (q.1+v.cells.toList.length))=putL cs q.1 v.cells.toList:=by
      rw[ac3]
      · rw[← hl];omega
    rw[e4]
    exact g1
  | [],_::_,_,_,_,_,hp,_=>hp.elim
  | _::_,[],_,_,_,_,hp,_=>hp.elim
theorem bd2 {pl:List (Nat×Nat)} {n:List AO}:∀ {ps:List (Nat×AV)} {l l':List SV},cn1 pl l ps=some l'→(∀ p ∈ ps,p.2.lt n=true)→fd_ (SV.lt n) l=true→fd_ (SV.lt n) l'=true
  | [],l,l',h,_,hl=>by cases h;exact hl
  | (i,a)::ps,l,l',h,hp,hl=>by
    obtain⟨q,h1,h⟩:=bnd h
    obtain⟨m,h2,h⟩:=bnd h
    obtain⟨hc,h⟩:=bv_ h
    exact bd2 h (λp hm=>hp p (by simp[hm])) (bq3 hl (sg_ (hp (i,a) (by simp)) h2))
theorem cb2 {ps:List (Nat×AV)} {k:AV→Option ρ} (h:cb3 P T ps k=some r):∃ av,k av=some r∧(∀ n,(∀ p ∈ ps,p.2.lt n=true)→av.lt n=true)∧∀ {S:PH} {hv:Nat→Value} {w:World} {vs:List (Nat×Value)},
    Fa (λp q=>p.1=q.1∧RA hv S p.2 q.2) ps vs→∃ u,(Instr.build T vs.toArray).run P w = .ok u w∧RA hv S av u:=by
  unfold cb3 at h
  split at h
  · rename_i fs hT
    have hT:=dk_ hT
    obtain⟨pl,h1,h⟩:=bnd h
    obtain⟨z,h2,h⟩:=bnd h
    obtain⟨l,h3,h⟩:=bnd h
    refine⟨_,h,λn hn => ?_,λ{S hv w vs} hp => ?_⟩
    · obtain⟨zv,_,_,hz⟩:=rd_ (hv:=λ_=>undef) (S:=⟨Hp.emp,default,#[]⟩) h2
      exact bd2 h3 hn (hz n)
    · obtain⟨zv,z1,z2,_⟩:=rd_ (hv:=hv) (S:=S) h2
      obtain⟨cs',g1,g2⟩:=bd1 h3 hp z2
      have hst:StructT P T zv.cells pl.toArray:=⟨fs,⟨λw=>by simp[Sem.run_bind,z1 w],hT,λw=>by
        rw[Array.mapM_eq_mapM_toList,map_eq_pure_bind,Sem.run_bind,ze_ h1 w]
        rfl⟩⟩
      refine⟨.agg cs'.toArray,hst.run w vs.toArray (c:=cs'.toArray) ?_,cs',rfl,g2⟩
      rw[ag3]
      simpa using g1
  · cases h
end
end
section
variable [Gb]
def setF:(t:Ty)→t.den→Nat→((u:Ty)→u.den→Option u.den)→Option t.den
  | .one t,x,0,f=>f t x
  | .pair a b,x,0,f=>(f a x.1).bind λy=>some (y,x.2)
  | .pair a b,x,k+1,f=>(setF b x.2 k f).bind λy=>some (x.1,y)
  | _,_,_,_=>none
def setP:(p:List Nat)→(t:Ty)→t.den→AV→Option t.den
  | [],t,_,a=>asD t a
  | k::p,t,x,a=>setF t x k λu y=>setP p u y a
def tyP:Ty→List Nat→Option Ty
  | t,[]=>some t
  | t,k::p=>(cm9 t k).bind λu=>tyP u p
theorem ay2 {S:PH} {f:(u:Ty)→u.den→Option u.den} {us:List Value} {off:Ty→Nat} (hf:∀ u (y y':u.den) ds,f u y=some y'→u.enc.rep S ds y→∃ A B C,ds=A++(B++C)∧A.length=off u∧B.length=us.length∧u.enc.rep S (A++(us++C)) y') :
    ∀ {t:Ty} {x x':t.den} {k:Nat} {cs:List Value},setF t x k f=some x'→t.enc.rep S cs x →
    ∃ A B C,cs=A++(B++C)∧A.length=(bx9 t k+match cm9 t k with | some u=>off u | none=>0)∧B.length=us.length∧t.enc.rep S (A++(us++C)) x'
  | .one t,x,x',0,cs,h,hr=>by
    obtain⟨A,B,C,e,h1,h2,h3⟩:=hf t x x' cs h hr
    exact⟨A,B,C,e,by simp[bx9,cm9,h1],h2,h3⟩
  | .pair a b,x,x',0,cs,h,⟨c1,c2,e,r1,r2⟩=>by
    obtain⟨y,h1,h⟩:=bnd h
    cases h
    obtain⟨A,B,C,e1,h2,h3,h4⟩:=hf a x.1 y c1 h1 r1
    refine⟨A,B,C++c2,by rw[e,e1];simp,by simp[bx9,cm9,h2],h3,A++(us++C),c2,by simp,h4,r2⟩
  | .pair a b,x,x',k+1,cs,h,⟨c1,c2,e,r1,r2⟩=>by
    obtain⟨y,h1,h⟩:=bnd h
    cases h
    obtain⟨A,B,C,e1,h2,h3,h4⟩:=ay2 hf (t:=b) h1 r2
    have hl:=Enc.len (α:=a.den) r1
    rw[cg_] at hl
    refine⟨c1++A,B,C,by rw[e,e1];simp,?_,h3,c1,A++(us++C),by simp,r1,h4⟩
    simp only[a8_,h2,hl,bx9,cm9]
    omega
  | .one t,_,_,k+1,_,h,_=>by cases h
  | .int,_,_,_,_,h,_=>by cases h
  | .bool,_,_,_,_,h,_=>by cases h
  | .u8,_,_,_,_,h,_=>by cases h
  | .str,_,_,_,_,h,_=>by cases h
  | .unit,_,_,_,_,h,_=>by cases h
  | .list _,_,_,_,_,h,_=>by cases h
  | .ref _,_,_,_,_,h,_=>by cases h
  | .clo _ _,_,_,_,_,h,_=>by cases h
theorem ay1 {hv:Nat→Value} {S:PH} {a:AV} {u:Value} (ha:RA hv S a u):∀ {p:List Nat} {t:Ty} {x x':t.den} {cs:List Value},setP p t x a=some x'→t.enc.rep S cs x →
    ∃ A B C,cs=A++(B++C)∧A.length=ck2 t p∧B.length=u.cells.toList.length∧t.enc.rep S (A++(u.cells.toList++C)) x'
  | [],t,x,x',cs,h,hr=>by
    have h1:=RV.cells (gm_ ha h)
    have l1:=Enc.len (α:=t.den) h1
    have l2:=Enc.len (α:=t.den) hr
    exact⟨[],cs,[],by simp,rfl,by rw[l1,l2],by simpa using h1⟩
  | k::p,t,x,x',cs,h,hr=>by
    obtain⟨A,B,C,e,h1,h2,h3⟩:=ay2 (us:=u.cells.toList) (off:=λu=>ck2 u p) (λu y y' ds hy hr=>ay1 ha (p:=p) hy hr) h hr
    refine⟨A,B,C,e,?_,h2,h3⟩
    rw[h1]
    rfl
theorem bo0 {f:(u:Ty)→u.den→Option u.den}:∀ {t:Ty} {x x':t.den} {k:Nat},setF t x k f=some x'→∃ u y y',cm9 t k=some u∧f u y=some y'
  | .one t,x,x',0,h=>⟨t,x,x',rfl,h⟩
  | .pair a b,x,x',0,h=>by
    obtain⟨y,h1,h⟩:=bnd h
    exact⟨a,x.1,y,rfl,h1⟩
  | .pair a b,x,x',k+1,h=>by
    obtain⟨y,h1,h⟩:=bnd h
    exact bo0 (t:=b) h1
  | .one t,_,_,k+1,h=>by cases h
  | .int,_,_,_,h=>by cases h
  | .bool,_,_,_,h=>by cases h
  | .u8,_,_,_,h=>by cases h
  | .str,_,_,_,h=>by cases h
  | .unit,_,_,_,h=>by cases h
  | .list _,_,_,_,h=>by cases h
  | .ref _,_,_,_,h=>by cases h
  | .clo _ _,_,_,_,h=>by cases h
theorem bn9 {hv:Nat→Value} {S:PH} {a:AV} {u:Value} (ha:RA hv S a u):∀ {p:List Nat} {t t':Ty} {x x':t.den},setP p t x a=some x'→tyP t p=some t'→u.cells.size=t'.sz
  | [],t,t',x,x',h,hp=>by
    cases hp
    have l1:=Enc.len (α:=t.den) (RV.cells (gm_ ha h))
    rw[cg_] at l1
    simpa using l1
  | k::p,t,t',x,x',h,hp=>by
    obtain⟨u1,y,y',h1,h2⟩:=bo0 h
    obtain⟨u2,h3,h4⟩:=bnd hp
    rw[h1] at h3
    cases h3
    exact bn9 ha h2 h4
structure LV where
  t:Ty
  l:List t.den
def srcA (y:AV) (objs:List AO):Option LV:=match y with
  | .b (.one (.val (.list t) l))=>some ⟨t,l⟩
  | .b (.one (.row o))=>match objs[o]? with
    | some (.row t _ l _)=>some ⟨t,l⟩
    | _=>none
  | _=>none
def ys_ (a b:Ty) (x:List a.den):Option (List b.den):=if h:a.eqb b=true then some (Ty.eqb_eq h ▸ x) else none
theorem hp_ {a b:Ty} {x:List a.den} {y:List b.den} (h:ys_ a b x=some y):∃ e:a=b,y=e ▸ x:=by
  unfold ys_ at h
  split at h
  · rename_i e;exact⟨Ty.eqb_eq e,(a5_ h).symm⟩
  · cases h
theorem bn5 {S:PH} {hv:Nat→Value} {Fm:List HP} {sl:Nat→AV} {objs:List AO} {f:Fr} {w:World} (hs:Sit S hv Fm sl objs f w) {y:AV} {d:LV} {u:Value} (h:srcA y objs=some d) (hr:RA hv S y u) :
    @Src d.t.den d.t.enc w S u d.l:=by
  unfold srcA at h
  split at h
  · rename_i t l
    cases h
    exact @RV.src t.den t.enc w S u l hr.2.2 hs.inv.in_
  · rename_i o
    split at h
    · rename_i t B l rr ho
      cases h
      obtain⟨L,hI,_⟩:=hs.at ho
      have e:u=hv o:=hr.2
      rw[e]
      exact @Inv.rowSrc t.den t.enc w S (L++Fm) B (hv o) l hI
    · cases h
  · cases h
def lits (t:Ty):List AV→Option (List t.den)
  | []=>some []
  | a::l=>(asD t a).bind λx=>(lits t l).bind λr=>some (x::r)
def xc_:Nat→List (Nat×Operand)→Bool
  | _,[]=>true
  | i,p::ps=>Nat.beq i p.1&&xc_ (i+1) ps
end
section
variable [Gb]
def isUn (objs:List AO) (i:Nat):Bool:=match objs[i]? with
  | some .unborn=>true
  | _=>false
theorem cn_ {objs:List AO} {i:Nat} (h:isUn objs i=true):objs[i]?=some .unborn:=by
  unfold isUn at h
  split at h
  · assumption
  · cases h
def ch4:Operand→Operand→Bool
  | .tmp i,.tmp j=>Nat.beq i j
  | .const (.int .i64 a),.const (.int .i64 b)=>decide (a=b)
  | _,_=>false
theorem ay3 {x y:Operand} (h:ch4 x y=true):x=y:=by
  unfold ch4 at h
  split at h
  · rw[a6_ h]
  · rw[f6_ h]
  · cases h
abbrev yi_ (o:Nat):AV:=.b (.one (.row o))
abbrev ptrV (o k:Nat):AV:=.b (.one (.ptr o k))
section
variable {ρ:Type}
def yd_ (objs:List AO) (fr:Nat) (a:AO) (v:AV) (k:AV→List AO→Option ρ):Option ρ:=cond (isUn objs fr) (k v (objs.set fr a)) none
def bn0 (P:Program) [Tb P] (T:TypeId) (p v:AV) (objs:List AO) (k:List AO→Option ρ):Option ρ:=match p with
  | .b (.one (.ptrE o e n z q))=>match objs[o]? with
    | some (.row t B l false)=>(at? l e).bind λx=>(setP q t x v).bind λx'=>(tyP t q).bind λt'=>cond (Nat.beq n (ck2 t q)&&Nat.beq z t.sz&&bc8 P T t') (k (objs.set o (.row t B (l.set e.toNat x') false))) none
    | _=>none
  | _=>cq2 P T p v objs k
def appA (P:Program) [Tb P] (T:TypeId) (x y:AV) (objs:List AO) (fr:Nat) (k:AV→List AO→Option ρ):Option ρ:=(elemOf P T).bind λE=>match x with
  | .b (.one .nils)=>(srcA y objs).bind λd=>cond (Nat.blt 0 d.t.sz) ((rc_ P E d.t).bind λ_=>(push? [] d.l).bind λr=>yd_ objs fr (.row d.t E r false) (yi_ fr) k) none
  | .b (.one (.row o))=>match objs[o]? with
    | some (.row t B l false) => (srcA y objs).bind fun d => (ys_ d.t t d.l).bind fun m => cond (Nat.beq B E && Nat.blt 0 t.sz) ((rc_ P E t).bind fun _ => (push? l m).bind fun r =>
          cond (isUn objs fr) (k (yi_ fr) ((objs.set o .gone).set fr (.row t E r false))) none) none
    | _=>none
  | _=>none
def cutA (P:Program) [Tb P] (T:TypeId) (o:Nat) (a:Int) (objs:List AO) (fr:Nat) (k:AV→List AO→Option ρ):Option ρ:=(elemOf P T).bind λE=>match objs[o]? with
  | some (.row t B l false)=>cond (Nat.beq B E&&bc8 P E t&&isUn objs fr) ((sub? l a (l.length:Nat)).bind λm=>k (yi_ fr) ((objs.set o .gone).set fr (.row t E m false))) none
  | _=>none
def cr4 {α:Type}:Nat→α→List α→List α
  | 0,_,l=>l
  | j+1,z,l=>z::cr4 j z l
def cu2:List (Nat×Operand)→Nat
  | []=>0
  | p::_=>p.1
def isRB (o:Oper):Bool:=match o.op,o.dst with
  | .alloc T,some d=>Gb.fz (cdN T d 2047) o.pos
  | _,_=>false
def bn2 (P:Program) [Tb P] (o:Oper) (sl:Nat→AV) (objs:List AO) (fr:Nat) (k:AV→List AO→Option ρ):Option ρ:=match o.op with
  | .box T x=>(zv_ (evA sl x)).bind λl=>yd_ objs fr (.cells T l []) (ptrV fr 0) k
  | .alloc T=>cond (isRB o) ((bg3 P 20 T).bind λt=>(rc_ P T t).bind λz=>cond (Nat.blt 0 t.sz) (yd_ objs fr (.row t T [z] false) (.b (.one (.ptrE fr 0 0 t.sz []))) k) none) <| match und P T with
    | some (.array _ E)=>(bg3 P 20 E).bind λt=>(bg0 P T).bind λcs=>(lits t (cs.map λs=>.b (.one s))).bind λl=>cond (Nat.ble l.length 65536) (yd_ objs fr (.row t T l false) (.b (.one (.arr fr))) k) none
    | _=>(bg0 P T).bind λl=>yd_ objs fr (.cells T l []) (ptrV fr 0) k
  | .build T ⟨ps⟩=>cb3 P T (ps.map λp=>(p.1,evA sl p.2)) λa=>k a objs
  | .buildSlice T n ⟨ps⟩=>match o.dst with
    | some _=>(elemOf P T).bind λE=>(bg3 P 20 E).bind λt=>(rc_ P E t).bind λzd=>cond (xc_ (cu2 ps) ps&&Nat.beq (cu2 ps+ps.length) n&&Nat.ble n 65536&&Nat.ble (n * t.sz) 65536)
        ((lits t (ps.map λp=>evA sl p.2)).bind λl=>cond (Nat.beq (cu2 ps) 0) (yd_ objs fr (.row t E l false) (yi_ fr) k) (cond (Nat.beq (cu2 ps) 1) (yd_ objs fr (.row t E (zd::l) false) (yi_ fr) k) none)) none
    | none=>none
  | .makeSlice T x y=>match o.dst with
    | some _=>(elemOf P T).bind λE=>(bg3 P 20 E).bind λt=>(rc_ P E t).bind λzd=>(asD .int (evA sl x)).bind λc=>cond (ch4 x y) ((mk? c zd).bind λl=>yd_ objs fr (.row t E l false) (yi_ fr) k) none
    | none=>none
  | .store T p v=>match o.dst with
    | none=>bn0 P T (evA sl p) (evA sl v) objs λobjs'=>k (.b .dead) objs'
    | some _=>none
  | .slice T x lo hi none=>match evA sl x,lo,hi,o.dst with
    | .b (.one (.row p)),some y,none,some _=>(asD .int (evA sl y)).bind λa=>cutA P T p a objs fr k
    | _,_,_,_=>stepP P o sl objs λa=>k a objs
  | .call ⟨.builtin .append,⟨[x,y]⟩,⟨[T,T2]⟩⟩=>match o.dst with
    | some _=>cond (Nat.beq T T2) (appA P T (evA sl x) (evA sl y) objs fr k) none
    | none=>none
  | _=>none
end
section
variable {ρ:Type} {P:Program} [Tb P] {objs:List AO} {r:ρ} {sl:Nat→AV} {fr:Nat} {k:AV→List AO→Option ρ}
theorem ay7 {α:Type} [Enc α] {S:PH} {zc:List Value} {z:α} (hz:Enc.rep S zc z):∀ (j:Nat) {cs:List Value} {l:List α},RepL S cs l→RepL S ((List.replicate j zc).flatten++cs) (cr4 j z l)
  | 0,cs,l,h=>h
  | j+1,cs,l,h=>⟨zc,(List.replicate j zc).flatten++cs,by simp[m2_],hz,ay7 hz j h⟩
theorem ay8 {α:Type} {z:α}:∀ (j:Nat) {l:List α},(cr4 j z l).length=j+l.length
  | 0,l=>by simp[cr4]
  | j+1,l=>by simp[cr4,ay8 j];omega
theorem yn_ {α:Type} [Enc α] {n d:Nat} {f:Fr} {w:World} {K:Fr→World→Prop} {ro:Option Nat} {ty:TypeId} {pos:String} {af:Array Edge} {gd:Option (Nat×Bool)} {T E:TypeId} {S:PH} {O:List HP} {bytes:Nat} {zv:Value} {zd:α} {ps:List (Nat×Operand)} {vs:List Value} {ln j:Nat} {r:List α} (hd:Nat.blt d n=true) (hT:P.underlying T=some (.slice E)) (hE0:Elem P α E bytes zv zd)
    (hps:(ps.map λp=>(p.1,ev f p.2))=(vs.zipIdx j).map λp=>(p.2,p.1)) (hln:j+vs.length=ln) (hsm:ln * Enc.sz α≤65536) (hsl:ln≤65536) (hr:RVs S vs r) (hI:Inv w S O) (k:∀ u w',Inv w' S (Row E u (cr4 j zd r)::O)→K (upd f d u) w') :
    OP P n ro ⟨some d,.buildSlice T ln ps.toArray,ty,pos,af,gd⟩ f w K:=by
  obtain⟨ei,hE⟩:=hE0
  obtain⟨h1,h2⟩:=hr.repL
  have hmap:(ps.toArray.map λ(i,x)=>(i,ev f x))=(ps.map λp=>(p.1,ev f p.2)).toArray:=by simp
  have hzs:zv.cells.size=ei.size:=by rw[hE.hzs,hE.hs]
  have hsplit:(madeCells zv.cells (ln * ei.size)).toList=(List.replicate j zv.cells.toList).flatten++(List.replicate vs.length zv.cells.toList).flatten:=by
    rw[← hzs,oj_,← hln,← List.replicate_append_replicate,List.flatten_append]
  have hf:Instr.fill (λi=>some (i * ei.size,ei.size)) (madeCells zv.cells (ln * ei.size)) ((vs.zipIdx j).map λp=>(p.2,p.1))=some ((List.replicate j zv.cells.toList).flatten++vs.flatMap λv=>v.cells.toList).toArray:=by
    rw[ag3]
    have hl0:∀ q,((List.replicate q zv.cells.toList).flatten).length=q * ei.size:=λq=>by
      rw[List.length_flatten,List.map_replicate,List.sum_replicate_nat];simp[hzs]
    have:=xl_ (Enc.sz α) vs j (List.replicate j zv.cells.toList).flatten (List.replicate vs.length zv.cells.toList).flatten (by rw[hl0,hE.hs]) (by rw[hl0,hE.hs]) hr.size
    rw[← hsplit] at this
    rw[l8_] at this
    rw[hE.hs] at this ⊢
    rw[← this,List.map_map]
    rfl
  have hmade:((Array.range (ln * ei.size)).map ((if ln * ei.size=0 then #[] else zv.cells)[· % (if ln * ei.size=0 then #[] else zv.cells).size]!))=madeCells zv.cells (ln * ei.size):=by
    split
    · rename_i h0;rw[h0];simp[madeCells]
    · rfl
  have hbig:¬ (ln * ei.size > 2 ^ 24):=by rw[hE.hs];omega
  have hrun:(Instr.buildSlice T ln ((vs.zipIdx j).map λp=>(p.2,p.1)).toArray).run P w = .ok (.slice (some ⟨w.heap.size,0,none⟩) ln ln) (w.alloc (.cells ((List.replicate j zv.cells.toList).flatten++vs.flatMap λv=>v.cells.toList).toArray E)):=by
    unfold Instr.buildSlice
    have hsz:∀ w,(sizeOf E).run P w = .ok ei.size w:=λw=>by simp[sizeOf,typeInfo,hE.hi]
    simp only[Sem.run_bind,run_underlying hT,Result.andThen_ok,hsz]
    rw[if_neg hbig]
    have hzv:(zeroValue E).run P w = .ok zv w:=by simp[zeroValue,typeInfo,hE.hi,hE.hz]
    by_cases h0:ln * ei.size=0
    · rw[if_pos h0]
      rw[if_pos h0] at hmade
      simp only[Sem.run_bind,Sem.run_pure,Result.andThen_ok,hmade,hf]
      simp[newRow]
    · rw[if_neg h0]
      rw[if_neg h0] at hmade
      simp only[Sem.run_bind,Sem.run_pure,Result.andThen_ok,hzv,hmade,hf]
      simp[newRow]
  have hlen:(cr4 j zd r).length=ln:=by rw[ay8,← h2,hln]
  refine ek_ hd (v:=.slice (some ⟨w.heap.size,0,none⟩) ln ln) (w':=w.alloc (.cells ((List.replicate j zv.cells.toList).flatten++vs.flatMap λv=>v.cells.toList).toArray E)) ?_ (k _ _ ?_)
  · have e:(execOp (ev f) ⟨some d,.buildSlice T ln ps.toArray,ty,pos,af,gd⟩)=(do pure (.value (← Instr.buildSlice T ln ((vs.zipIdx j).map λp=>(p.2,p.1)).toArray))):=by
      simp only[execOp,hmap,hps]
    rw[e]
    simp only[Sem.run_bind,hrun,Result.andThen_ok,Sem.run_pure]
  · refine (hI.new _).shut (A:=Row E _ _) ?_
    refine .inr ⟨w.heap.size,ln,[],_,[],by simp[hlen],?_,ay7 (hE.rep S) j h1,by omega,?_,?_⟩
    · simp
    · simp only[maxLen]
      omega
    · rw[hlen];simp
theorem OpOk.new {o:Oper} {a:AO} {v:AV} (hu:isUn objs fr=true) (ha:a≠.unborn) (hlt:WfS sl objs→WfO objs→a.lt objs=true) (hv0:v.lt (objs.set fr a)=true)
    (hrun:∀ {S:PH} {hv:Nat→Value} {Fm:List HP} {f:Fr} {w:World} {n:Nat} {ro:Option Nat} {K:Fr→World→Prop},Sit S hv Fm sl objs f w→ew_ n o.dst=true →
      (∀ u w',u.oneCell'=true→Inv w' S (OH (ins hv fr u) u a::(OHs hv 0 objs++Fm))→RA (ins hv fr u) S v u→K (vu_ f o.dst u) w')→OP P n ro o f w K) :
    OpOk P o sl objs v (objs.set fr a) where
  ble:=bl_ ha
  keep:=cj_ (cn_ hu) trivial
  wfo hs hw:=ej_ ha hw (AO.lt_mono (bl_ ha) (hlt hs hw))
  lt _ _:=hv0
  run hs hd k:=hrun hs hd λu w' h1 hI hr=>k u _ _ _ (PH.Le.refl _) (np_ (cn_ hu)) hr (id_ hs.wfo (cn_ hu) hI)
theorem OpOk.new2 {o:Oper} {a:AO} {v:AV} (hu:isUn objs fr=true) (ha:a≠.unborn) (hlt:WfS sl objs→WfO objs→a.lt objs=true) (hv0:v.lt (objs.set fr a)=true)
    (hrun:∀ {S:PH} {hv:Nat→Value} {Fm:List HP} {f:Fr} {w:World} {n:Nat} {ro:Option Nat} {K:Fr→World→Prop},Sit S hv Fm sl objs f w→ew_ n o.dst=true →
      (∀ u z w',Inv w' S (OH (ins hv fr u) u a::(OHs hv 0 objs++Fm))→RA (ins hv fr u) S v z→K (vu_ f o.dst z) w')→OP P n ro o f w K) :
    OpOk P o sl objs v (objs.set fr a) where
  ble:=bl_ ha
  keep:=cj_ (cn_ hu) trivial
  wfo hs hw:=ej_ ha hw (AO.lt_mono (bl_ ha) (hlt hs hw))
  lt _ _:=hv0
  run hs hd k:=hrun hs hd λu z w' hI hr=>k z _ _ _ (PH.Le.refl _) (np_ (cn_ hu)) hr (id_ hs.wfo (cn_ hu) hI)
theorem bc3:∀ {vs:List Value},(∀ v ∈ vs,v.oneCell'=true)→(vs.flatMap λv=>v.cells.toList)=vs
  | [],_=>rfl
  | v::vs,h=>by
    rw[q3_,bc3 λu hu=>h u (by simp[hu])]
    have h1:=h v (by simp)
    have e:v.cells.toList=[v]:=by
      cases v<;>first | rfl | (simp[Value.oneCell'] at h1)
    rw[e]
    rfl
theorem fw_ {a:AO} {v:AV} (h:yd_ objs fr a v k=some r):isUn objs fr=true∧k v (objs.set fr a)=some r:=bv_ h
theorem ja_ {a:AO} (hu:isUn objs fr=true) (ha:a≠.unborn):born (objs.set fr a) fr=true:=by
  have h:=cn_ hu
  have hl:=(a3_.1 h).1
  exact ba_.2 ⟨a,by simp[hl],ha⟩
theorem ap0 {S:PH} {hv:Nat→Value} {Fm:List HP} {w:World} {g:Nat} {T:TypeId} {l:List SV} {cs:Array Value} (hu:isUn objs fr=true) (hlt:fd_ (SV.lt objs) l=true) (hf:Fa (RS hv S) l cs.toList)
    (hI:Inv w S (lf_ g T cs::(OHs hv 0 objs++Fm))):Inv w S (OH (ins hv fr (.pointer (some ⟨g,0,none⟩))) (.pointer (some ⟨g,0,none⟩)) (.cells T l [])::(OHs hv 0 objs++Fm)) :=
  Inv.shut (A:=ap9 _ _ _ _) hI ⟨g,cs.toList,rfl,fa_ag (np_ (cn_ hu)) hlt hf,by simp⟩
theorem bq6 {S:PH} {hv:Nat→Value} {g:Nat}:RA (ins hv fr (.pointer (some ⟨g,0,none⟩))) S (ptrV fr 0) (.pointer (some ⟨g,0,none⟩)) :=
  ⟨rfl,⟨_,rfl⟩,by rw[cx_];simp[be_,Addr.add]⟩
theorem ql_ {S:PH} {hv:Nat→Value} {O:List HP} {w:World} {t:Ty} {E:TypeId} {l:List t.den} {u:Value} (hI:Inv w S (@Row t.den t.enc E u l::O)):u.oneCell'=true∧RA (ins hv fr u) S (yi_ fr) u:=by
  obtain⟨a,cap,e,_⟩:=@Inv.rowForm t.den t.enc w S O E u l hI
  have h1:u.oneCell'=true:=by rw[e];rfl
  exact⟨h1,h1,(cx_ hv fr u).symm⟩
theorem au3 {hv:Nat→Value} {S:PH} {t:Ty}:∀ {as:List AV} {vs:List Value} {l:List t.den},lits t as=some l→Fa (RA hv S) as vs→@RVs t.den t.enc S vs l
  | [],[],l,h,_=>by cases h;trivial
  | a::as,v::vs,l,h,hf=>by
    obtain⟨x,h1,h⟩:=bnd h
    obtain⟨m,h2,h⟩:=bnd h
    cases h
    exact⟨gm_ hf.1 h1,au3 h2 hf.2⟩
theorem tb_ {f:Fr}:∀ {ps:List (Nat×Operand)} {i:Nat},xc_ i ps=true→(ps.map λp=>(p.1,ev f p.2))=((ps.map λp=>ev f p.2).zipIdx i).map λp=>(p.2,p.1)
  | [],_,_=>rfl
  | p::ps,i,h=>by
    simp only[xc_,a2_] at h
    simp only[j8_,List.zipIdx_cons]
    rw[tb_ h.2,← a6_ h.1]
theorem by4 {hv:Nat→Value} {S:PH} {Fm:List HP} {f:Fr} {w:World} (hs:Sit S hv Fm sl objs f w):∀ (ps:List (Nat×Operand)),Fa (RA hv S) (ps.map λp=>evA sl p.2) (ps.map λp=>ev f p.2)
  | []=>trivial
  | x::ps=>⟨hs.ev x.2,by4 hs ps⟩
theorem cu6 {hv:Nat→Value} {S:PH} {Fm:List HP} {f:Fr} {w:World} (hs:Sit S hv Fm sl objs f w):∀ (ps:List (Nat×Operand)),Fa (λp q=>p.1=q.1∧RA hv S p.2 q.2) (ps.map λp=>(p.1,evA sl p.2)) (ps.map λp=>(p.1,ev f p.2))
  | []=>trivial
  | x::ps=>⟨⟨rfl,hs.ev x.2⟩,cu6 hs ps⟩
theorem cf7 {o:Nat} {a b:AO} (ho:objs[o]?=some a) (hb:b≠.unborn) (hw:WfO objs) (hl:b.lt objs=true):WfO (objs.set o b):=ej_ hb hw (AO.lt_mono (bl_ hb) hl)
theorem bm9 {T:TypeId} {px vx:Operand} {ty:TypeId} {pos:String} {af:Array Edge} {gd:Option (Nat×Bool)} {k:List AO→Option ρ} (h:bn0 P T (evA sl px) (evA sl vx) objs k=some r) :
    ∃ objs',k objs'=some r∧OpOk P ⟨none,.store T px vx,ty,pos,af,gd⟩ sl objs (.b .dead) objs':=by
  unfold bn0 at h
  split at h
  · rename_i o e n z q hp
    split at h
    · rename_i t B l ho
      obtain⟨x,hx,h⟩:=bnd h
      obtain⟨x',hx',h⟩:=bnd h
      obtain⟨t',ht',h⟩:=bnd h
      obtain⟨hc,h⟩:=bv_ h
      simp only[a2_] at hc
      obtain⟨⟨c1,c2⟩,c3⟩:=hc
      have c1:=a6_ c1
      have c2:=a6_ c2
      refine⟨_,h,⟨bl_ (by simp),cj_ ho trivial,λhs hw=>cf7 ho (by simp) hw rfl,λ_ _=>rfl,λ{S hv Fm f w nn ro K} hs hd kk => ?_⟩⟩
      obtain⟨L,hI,h2⟩:=hs.at ho
      have hpv:=hs.ev px
      rw[hp] at hpv
      have hv1:ev f px=be_ (cq_ (hv o) e z) n:=hpv.2.2
      have hu:=hs.ev vx
      have hS:=jj_ c3
      refine @qc_ ro P nn f w K ty pos af gd px vx (hv o) (ev f vx) T B t.den t.enc S (L++Fm) l e _ n _ x x' [] [] [] hS hI (by rw[hv1,cg_,← c2]) rfl hx (λcs hcs => ?_) ?_ λw' hI' => ?_
      · obtain⟨A,B1,C,e1,e2,e3,e4⟩:=ay1 hu hx' hcs
        exact⟨A,B1,C,e1,by rw[e2,c1],e3,e4⟩
      · rw[cg_];exact bn9 hu hx' ht'
      · exact kk undef S hv w' (PH.Le.refl _) (λ_ _=>rfl) trivial (ac0 (a:=.row t B (l.set e.toNat x') false) h2 hI')
    · cases h
  · unfold cq2 at h
    split at h
    · rename_i o i hp
      split at h
      · rename_i B l ro1 ho
        obtain⟨m,hm,h⟩:=bnd h
        obtain⟨⟨ag,sz⟩,hsh,h⟩:=bnd h
        obtain⟨hc,h⟩:=bv_ h
        simp only[a2_] at hc
        have c1:=a6_ hc.1.1
        have c2:=c0_ hc.1.2
        refine⟨_,h,⟨bl_ (by simp),cj_ ho ⟨_,rfl,ac2,λj hj=>ac1 (bj_ hc.2 j hj)⟩,λhs hw=>cf7 ho (by simp) hw (bq3 (hw _ (b9_ ho)) (sg_ (ig_ hs vx) hm)),λ_ _=>rfl,λ{S hv Fm f w nn ro K} hs hd kk => ?_⟩⟩
        obtain⟨L,hI,h2⟩:=hs.at ho
        obtain⟨g,cs,e1,hf,hI⟩:=vk_ hI
        have hpv:=hs.ev px
        rw[hp] at hpv
        have hv1:ev f px=be_ (hv o) i:=hpv.2.2
        rw[e1] at hv1
        simp only[be_,gl_,b0_] at hv1
        have hmv:=sf_ (hs.ev vx) hm
        have hl:=hmv.len
        have hl2:=hf.len
        have hsz:(ev f vx).cells.size=sz:=by
          have:(ev f vx).cells.size=m.length:=by rw[hl];simp
          rw[this,← c1]
        refine cj7 (cs:=cs.toArray) (aj9 hsh) hI hv1 rfl hsz (by simp;omega) (e6_.2 λu hu=>fa_one hmv u hu) λw' hI' => ?_
        refine kk undef S hv w' (PH.Le.refl _) (λ_ _=>rfl) trivial (ac0 (a:=.cells B (putL l i m) ro1) h2 (Inv.shut (A:=ap9 _ _ _ _) hI' ⟨g,putL cs i (ev f vx).cells.toList,e1,hf.putL hmv,?_⟩))
        rw[← na_ _ _ _ (by simp;omega)]
        have e4:(cs.toArray.toList.take i++(ev f vx).cells.toList++cs.toArray.toList.drop (i+(ev f vx).cells.toList.length))=putL cs i (ev f vx).cells.toList:=by
          rw[ac3]
          · rw[← hl];omega
        rw[e4]
      · cases h
    · cases h
end
end
section
variable [Gb]
def capS:List AV→Option (List SV)
  | []=>some []
  | .b (.one s)::l=>(capS l).bind λr=>some (s::r)
  | _=>none
abbrev mapV (o:Nat):AV:=.b (.one (.map o))
section
variable {ρ:Type}
def updM (P:Program) [Tb P] (T:TypeId) (m x y:AV) (objs:List AO) (k:List AO→Option ρ):Option ρ:=(bi7 P T).bind λq=>match m with
  | .b (.one (.map o))=>match objs[o]? with
    | some (.map kt vt l false)=>cond (bv6 P q.1 kt) ((asD kt x).bind λa=>(asD vt y).bind λb=>k (objs.set o (.map kt vt (setD l a b) false))) none
    | _=>none
  | _=>none
def delM (P:Program) [Tb P] (T:TypeId) (m x:AV) (objs:List AO) (k:List AO→Option ρ):Option ρ:=(bi7 P T).bind λq=>match m with
  | .b (.one (.map o))=>match objs[o]? with
    | some (.map kt vt l false)=>cond (bv6 P q.1 kt) ((asD kt x).bind λa=>k (objs.set o (.map kt vt (delD l a) false))) none
    | _=>none
  | _=>none
def isX:Op→Bool
  | .makeFunc _ _ _ | .makeMap _ _ | .mapUpdate _ _ _ _ | .insert _ _ _ _=>true
  | .call ⟨.builtin .delete,_,_⟩=>true
  | _=>false
def cg6 (P:Program) [Tb P] (o:Oper) (sl:Nat→AV) (objs:List AO) (fr:Nat) (k:AV→List AO→Option ρ):Option ρ:=match o.op with
  | .makeFunc (.func f) ⟨[]⟩ ⟨ca⟩=>match capD (ca.map (evA sl)) with
    | some d=>k (.b (.one (.val (.clo f d.t) d.x))) objs
    | none=>(capS (ca.map (evA sl))).bind λl=>yd_ objs fr (.fn (.func f) [] l) (.b (.one (.fn fr))) k
  | .makeMap T none=>match o.dst with
    | some _=>(bi7 P T).bind λq=>(bg3 P 20 q.1).bind λkt=>(bg3 P 20 q.2).bind λvt=>yd_ objs fr (.map kt vt [] false) (mapV fr) k
    | none=>none
  | .mapUpdate T x y z=>match o.dst with
    | none=>updM P T (evA sl x) (evA sl y) (evA sl z) objs λob=>k (.b .dead) ob
    | some _=>none
  | .insert T x y z=>match o.dst with
    | none=>updM P T (evA sl x) (evA sl y) (evA sl z) objs λob=>k (.b .dead) ob
    | some _=>none
  | .call ⟨.builtin .delete,⟨[x,y]⟩,⟨[T,_]⟩⟩=>delM P T (evA sl x) (evA sl y) objs λob=>k (.b .dead) ob
  | _=>none
end
section
variable {ρ:Type} {P:Program} [Tb P] {objs:List AO} {r:ρ} {sl:Nat→AV} {fr:Nat} {k:AV→List AO→Option ρ}
theorem inv_add {w:World} {S:PH} {O:List HP} {A:HP} (h:Inv w S O) (hA:A.p S Hp.emp):Inv w S (A::O) :=
  ⟨h.os,h.out,Hp.emp,hA,λb=>.inl rfl,by
    have e:Hp.un Hp.emp S.m=S.m:=by funext b;simp[Hp.un,Hp.emp]
    rw[e]
    exact h.own⟩
theorem av7 {hv:Nat→Value} {S:PH}:∀ {l:List AV} {vs:List Value} {cs:List SV},capS l=some cs→Fa (RA hv S) l vs→Fa (RS hv S) cs vs∧∀ n,(∀ a ∈ l,a.lt n=true)→fd_ (SV.lt n) cs=true
  | [],[],cs,h,_=>by cases h;exact⟨trivial,λ_ _=>rfl⟩
  | a::l,v::vs,cs,h,hf=>by
    unfold capS at h
    split at h
    · rename_i e;cases e
    · rename_i s l' e
      cases e
      obtain⟨q,h1,h⟩:=bnd h
      cases h
      obtain⟨g1,g2⟩:=av7 h1 hf.2
      refine⟨⟨hf.1,g1⟩,λn hn => ?_⟩
      simp only[fd_,a2_]
      exact⟨hn (.b (.one s)) (by simp),g2 n λa ha=>hn a (by simp[ha])⟩
    · cases h
theorem bl9 {m x y:Operand} {T:TypeId} {kk:List AO→Option ρ} (h:updM P T (evA sl m) (evA sl x) (evA sl y) objs kk=some r):∃ ob,kk ob=some r∧BLe objs ob∧Keep objs ob∧(WfO objs→WfO ob) ∧
    ∀ {S:PH} {hv:Nat→Value} {Fm:List HP} {f:Fr} {w:World},Sit S hv Fm sl objs f w→∃ w',(Instr.mapUpdate T (ev f m) (ev f x) (ev f y)).run P w = .ok () w'∧Inv w' S (OHs hv 0 ob++Fm):=by
  obtain⟨⟨kT,vT⟩,hq,h⟩:=bnd h
  have hT:=ae0 hq
  split at h
  · rename_i o hm
    split at h
    · rename_i kt vt l ho
      obtain⟨hk,h⟩:=bv_ h
      obtain⟨a,ha,h⟩:=bnd h
      obtain⟨b,hb,h⟩:=bnd h
      refine⟨_,h,bl_ (by simp),cj_ ho trivial,λhw=>cf7 ho (by simp) hw rfl,λ{S hv Fm f w} hs => ?_⟩
      obtain⟨L,hI,h2⟩:=hs.at ho
      obtain⟨hh,⟨g,e1,e2⟩,hI2⟩:=hI.open_
      have hI3:Inv w S (bf7 g l::(L++Fm)):=hI2.shut e2
      have hxv:=hs.ev m
      rw[hm] at hxv
      have e3:ev f m = .map (some g):=hxv.2.trans e1
      obtain⟨w',g1,g2⟩:=@ab6 P w _ _ T kT vT kt.den vt.den kt.enc vt.enc kt.deq S _ l g a b hT (ae4 hk) hI3 (gm_ (hs.ev x) ha) (gm_ (hs.ev y) hb)
      refine⟨w',by rw[e3];exact g1,ac0 (a:=.map kt vt (setD l a b) false) h2 ?_⟩
      obtain⟨hh2,q1,q2⟩:=g2.open_
      exact q2.shut (A:=MapA _ _ _ _) ⟨g,e1,q1⟩
    · cases h
  · cases h
theorem cg5 {o:Oper} (h:cg6 P o sl objs fr k=some r):∃ av objs',k av objs'=some r∧OpOk P o sl objs av objs':=by
  obtain⟨dd,op,ty,pos,af,gd⟩:=o
  unfold cg6 at h
  simp only at h
  split at h
  · rename_i f0 ca
    split at h
    · rename_i d hd
      exact⟨_,_,h,.pure (λ_ _=>rfl) λ{S hv Fm f w} hs=>⟨.func (.func f0) #[] (ca.map (ev f)).toArray,by simp[execOp,Instr.makeFunc],rfl,rfl,[.func (.func f0) #[] (ca.map (ev f)).toArray],⟨_,rfl,ai0 hd (ag4 hs ca)⟩,rfl⟩⟩
    · obtain⟨l,hl,h⟩:=bnd h
      obtain⟨hu,h⟩:=fw_ h
      refine⟨_,_,h,OpOk.new hu (by simp) (λhs _ => ?_) (ja_ hu (by simp)) λ{S hv Fm f w n ro K} hs hd kk => ?_⟩
      · have e:fd_ (SV.lt objs) l=true:=by
          have hx:Fa (RA (λ_=>undef) ⟨Hp.emp,default,#[]⟩) (ca.map (evA sl)) (ca.map (evA sl) |>.map λ_=>undef)→True:=λ_=>trivial
          have gen:∀ {as:List AV} {cs:List SV},capS as=some cs→(∀ a ∈ as,a.lt objs=true)→fd_ (SV.lt objs) cs=true:=by
            intro as
            induction as with
            | nil=>intro cs h _;cases h;rfl
            | cons a as ih =>
              intro cs h hn
              unfold capS at h
              split at h
              · rename_i e;cases e
              · rename_i s l' e
                cases e
                obtain⟨q,h1,h⟩:=bnd h
                cases h
                simp only[fd_,a2_]
                exact⟨hn (.b (.one s)) (by simp),ih h1 λa ha=>hn a (by simp[ha])⟩
              · cases h
          exact gen hl λa ha=>by
            obtain⟨x,_,rfl⟩:=d8_.1 ha
            exact ig_ hs x
        simp only[AO.lt,fd_,e,Bool.and_self]
      · have hf:=(av7 hl (ag4 hs ca)).1
        refine kq_ hd (w':=w) (v:=.func (.func f0) #[] (ca.map (ev f)).toArray) (by simp[execOp,Instr.makeFunc]) (kk _ w rfl ?_ ⟨rfl,(cx_ hv fr _).symm⟩)
        refine inv_add hs.inv ⟨rfl,[],ca.map (ev f),rfl,trivial,?_⟩
        refine fa_ag (np_ (cn_ hu)) ?_ hf
        exact (av7 hl (ag4 hs ca)).2 objs λa ha=>by
          obtain⟨x,_,rfl⟩:=d8_.1 ha
          exact ig_ hs.wfs x
  · rename_i T
    split at h
    · rename_i d
      obtain⟨⟨kT,vT⟩,hq,h⟩:=bnd h
      obtain⟨kt,hkt,h⟩:=bnd h
      obtain⟨vt,hvt,h⟩:=bnd h
      obtain⟨hu,h⟩:=fw_ h
      refine⟨_,_,h,OpOk.new hu (by simp) (λ_ _=>rfl) (ja_ hu (by simp)) λ{S hv Fm f w n ro K} hs hd kk => ?_⟩
      refine @bi5 ro P n f w K d ty pos af gd T kt.den vt.den kt.enc vt.enc S _ hd hs.inv λg w' hI => ?_
      refine kk (.map (some g)) w' rfl ?_ ⟨rfl,(cx_ hv fr _).symm⟩
      obtain⟨hh2,q1,q2⟩:=hI.open_
      exact q2.shut (A:=MapA _ _ _ _) ⟨g,rfl,q1⟩
    · cases h
  · rename_i T x y z
    split at h
    · obtain⟨ob,h1,g1,g2,g3,g4⟩:=bl9 h
      refine⟨_,_,h1,⟨g1,g2,λ_ hw=>g3 hw,λ_ _=>rfl,λ{S hv Fm f w n ro K} hs hd kk => ?_⟩⟩
      obtain⟨w',q1,q2⟩:=g4 hs
      exact ad1 (by simp[execOp,q1]) (kk undef S hv w' (PH.Le.refl _) (λ_ _=>rfl) trivial q2)
    · cases h
  · rename_i T x y z
    split at h
    · obtain⟨ob,h1,g1,g2,g3,g4⟩:=bl9 h
      refine⟨_,_,h1,⟨g1,g2,λ_ hw=>g3 hw,λ_ _=>rfl,λ{S hv Fm f w n ro K} hs hd kk => ?_⟩⟩
      obtain⟨w',q1,q2⟩:=g4 hs
      exact ad1 (by simp[execOp,q1]) (kk undef S hv w' (PH.Le.refl _) (λ_ _=>rfl) trivial q2)
    · cases h
  · rename_i x y T T2
    obtain⟨⟨kT,vT⟩,hq,h⟩:=bnd h
    have hT:=ae0 hq
    split at h
    · rename_i o hm
      split at h
      · rename_i kt vt l ho
        obtain⟨hk,h⟩:=bv_ h
        obtain⟨a,ha,h⟩:=bnd h
        refine⟨_,_,h,⟨bl_ (by simp),cj_ ho trivial,λ_ hw=>cf7 ho (by simp) hw rfl,λ_ _=>rfl,λ{S hv Fm f w n ro K} hs hd kk => ?_⟩⟩
        obtain⟨L,hI,h2⟩:=hs.at ho
        obtain⟨hh,⟨g,e1,e2⟩,hI2⟩:=hI.open_
        have hI3:Inv w S (bf7 g l::(L++Fm)):=hI2.shut e2
        have hxv:=hs.ev x
        rw[hm] at hxv
        have e3:ev f x = .map (some g):=hxv.2.trans e1
        obtain⟨w',g1,g2⟩:=@bh0 P w _ T kT vT kt.den vt.den kt.enc vt.enc kt.deq S _ l g a T2 ty hT (ae4 hk) hI3 (gm_ (hs.ev y) ha)
        refine kq_ hd (w':=w') (v:=.tuple #[]) (by simp[execOp,e3,resolve,invoke,builtin,g1]) ?_
        refine kk (.tuple #[]) S hv w' (PH.Le.refl _) (λ_ _=>rfl) trivial (ac0 (a:=.map kt vt (delD l a) false) h2 ?_)
        obtain⟨hh2,q1,q2⟩:=g2.open_
        exact q2.shut (A:=MapA _ _ _ _) ⟨g,e1,q1⟩
      · cases h
    · cases h
  · cases h
end
end
section
variable [Gb]
def zNil (P:Program) [Tb P] (E:TypeId) (off:Nat):Bool:=match inf P E with
  | some i=>match i.zero with
    | some z=>match z.cells.toList[off]? with
      | some (.slice none 0 0)=>true
      | _=>false
    | none=>false
  | none=>false
def tidQ (P:Program) [Tb P]:TypeId→List Nat→Option TypeId
  | E,[]=>elemOf P E
  | E,k::q=>match und P E with
    | some (.struct fs)=>(fs[k]?).bind λf=>tidQ P f.type q
    | _=>none
def isE {α:Type}:Option (List α)→Bool
  | some []=>true
  | _=>false
def nilAt (off:Nat) (a:AV):Bool:=match zv_ a with
  | some l=>match l[off]? with
    | some .nils=>true
    | _=>false
  | none=>false
def unL:Ty→Option Ty
  | .list u=>some u
  | _=>none
def isGn (o:Oper):Option (List Nat):=match o.op,o.dst with
  | .makeSlice T _ _,some d=>Gb.gd (cdN T d 0)
  | .buildSlice T _ _,some d=>Gb.gd (cdN T d 0)
  | _,_=>none
def cm2 (o:Oper):Bool:=match o.op with
  | .load T (.tmp t)=>match o.dst with
    | some d=>Gb.gl (cdN T d t)
    | none=>false
  | .store T (.tmp p) (.tmp v)=>Gb.gl (cdN T p v)
  | _=>false
section
variable {ρ:Type}
def newG (P:Program) [Tb P] (q:List Nat) (o:Oper) (sl:Nat→AV) (objs:List AO) (fr:Nat) (k:AV→List AO→Option ρ):Option ρ:=match o.op with
  | .makeSlice T x y=>match o.dst with
    | some _=>(elemOf P T).bind λE=>(bg3 P 20 E).bind λt=>(rc_ P E t).bind λzd=>(asD .int (evA sl x)).bind λc=>((tyP t q).bind unL).bind λu=>(tidQ P E q).bind λTi =>
        cond (ch4 x y&&zNil P E (kr_ t q)&&Nat.blt (kr_ t q) t.sz&&isE (ye_ u t q zd)) ((mk? c zd).bind λl=>yd_ objs fr (.grid ⟨t,u,q,E,Ti⟩ l none false) (yi_ fr) k) none
    | none=>none
  | .buildSlice T n ⟨ps⟩=>match o.dst with
    | some _=>(elemOf P T).bind λE=>(bg3 P 20 E).bind λt=>(rc_ P E t).bind λzd=>((tyP t q).bind unL).bind λu=>(tidQ P E q).bind λTi =>
        cond (xc_ 0 ps&&Nat.beq ps.length n&&Nat.ble n 65536&&Nat.ble (n * t.sz) 65536&&t.agg&&Nat.blt (kr_ t q) t.sz&&fd_ (nilAt (kr_ t q)) (ps.map λp=>evA sl p.2))
        ((lits t (ps.map λp=>evA sl p.2)).bind λl=>cond (fd_ (λx=>isE (ye_ u t q x)) l) (yd_ objs fr (.grid ⟨t,u,q,E,Ti⟩ l none false) (yi_ fr) k) none) none
    | none=>none
  | _=>none
def takeG (P:Program) [Tb P] (T:TypeId) (p:AV) (objs:List AO) (fr:Nat) (k:AV→List AO→Option ρ) (els:Option ρ):Option ρ:=match p with
  | .b (.one (.ptrE o i n z q))=>match objs[o]? with
    | some (.grid G ls none false)=>cond (eqL q G.q&&Nat.beq n (kr_ G.t G.q)&&Nat.beq z G.t.sz&&bc8 P T (.list G.u)&&isUn objs fr) ((at? ls i).bind λx=>(ye_ G.u G.t G.q x).bind λl =>
        k (yi_ fr) (((objs.set o .gone).set fr (.row G.u G.Ti l false)).set o (.grid G ls (some (i,fr,x)) false))) none
    | _=>els
  | _=>els
def ct9 (G:GD) (h:G.Hole) (i:Int) (objs:List AO):Bool:=match h with
  | none=>true
  | some p=>(i==p.1)&&(match objs[p.2.1]? with
    | some .gone=>true
    | _=>false)
def putG (P:Program) [Tb P] (T:TypeId) (p v:AV) (objs:List AO) (k:AV→List AO→Option ρ) (els:Option ρ):Option ρ:=match p with
  | .b (.one (.ptrE o i n z q))=>match objs[o]? with
    | some (.grid G ls h false)=>match v with
      | .b (.one (.row o2))=>match objs[o2]? with
        | some (.row t2 T2 l2 false)=>cond (eqL q G.q&&Nat.beq n (kr_ G.t G.q)&&Nat.beq z G.t.sz&&bc8 P T (.list G.u)&&Nat.beq T2 G.Ti&&ct9 G h i objs) ((ah9 t2 G.u l2).bind λm=>(at? ls i).bind λx=>(tv_ G.u G.t G.q x m).bind λx' =>
            k (.b .dead) ((objs.set o2 .gone).set o (.grid G (ls.set i.toNat x') none false))) none
        | _=>none
      | _=>none
    | _=>els
  | _=>els
def ak5 (ob:List AO) (o:Nat):List AO:=match ob[o]? with
  | some (.grid G ls (some (i,o2,x)) false)=>match ob[o2]? with
    | some (.row t2 T2 l2 false)=>cond (Nat.beq T2 G.Ti) (match ah9 t2 G.u l2 with
      | some m=>match tv_ G.u G.t G.q x m with
        | some x'=>(ob.set o2 .gone).set o (.grid G (ls.set i.toNat x') none false)
        | none=>ob
      | none=>ob) ob
    | _=>ob
  | _=>ob
def we_ (ob:List AO):Nat→List AO
  | 0=>ob
  | k+1=>ak5 (we_ ob k) k
end
theorem rc_of {S:PH} {t:Ty} {cs:List Value} {x:t.den} (h:t.enc.rep S cs x):∃ e:RC t.sz,e.cs=cs:=⟨⟨cs,by rw[← cg_];exact Enc.len (α:=t.den) h,Enc.cell1 (α:=t.den) h⟩,rfl⟩
theorem cf4 {P:Program} [Tb P] {E:TypeId} {t:Ty} {zd:t.den} {off:Nat} (h:rc_ P E t=some zd) (hn:zNil P E off=true) :
    ∃ bytes z,∃ e:RC t.sz,Elem P (RC t.sz) E bytes z e∧bytes≤65536∧e.cs[off]?=some (.slice none 0 0)∧∀ S,t.enc.rep S e.cs zd:=by
  obtain⟨i,h1,h⟩:=bnd h
  obtain⟨z,h2,h⟩:=bnd h
  unfold zNil at hn
  rw[h1] at hn
  simp only[h2] at hn
  have h1:=xb_ h1
  cases hc:Nat.beq i.size t.sz&&Nat.ble i.bytes 65536 with
  | false=>rw[hc] at h;cases h
  | true =>
    rw[hc] at h
    simp only[a2_] at hc
    have hr:∀ S,RVt t S z zd:=λS=>gm_ (hv:=λ_=>undef) (ba1 z) h
    have hs:i.size=t.sz:=a6_ hc.1
    have hrep:∀ S,t.enc.rep S z.cells.toList zd:=λS=>(hr S).cells
    obtain⟨e,he⟩:=rc_of (hrep ⟨Hp.emp,default,#[]⟩)
    refine⟨i.bytes,z,e,⟨i,h1,h2,hs,rfl,?_,λS=>he.symm⟩,c0_ hc.2,?_,λS=>by rw[he];exact hrep S⟩
    · have:=e.len
      rw[he] at this
      show z.cells.size=t.sz
      simpa using this
    · rw[he]
      split at hn
      · rename_i e2;exact e2
      · cases hn
theorem au6 {G:GD} {x:G.t.den} (h:isE (ye_ G.u G.t G.q x)=true):ye_ G.u G.t G.q x=some (G.get x)∧G.get x=[]:=by
  unfold GD.get
  unfold isE at h
  split at h
  · rename_i e;rw[e];exact⟨rfl,rfl⟩
  · cases h
theorem cv2 {S:PH} {G:GD} {e:RC G.t.sz} {x:G.t.den} (hlt:kr_ G.t G.q<G.t.sz) (hr:G.t.enc.rep S e.cs x) (hg:ye_ G.u G.t G.q x=some (G.get x)):ElR S G e x :=
  ⟨elOk_of G.t G.q x _ hg e.cs hr,by rw[e.len];exact hlt,hg⟩
theorem be4 {G:GD} {e:RC G.t.sz} (h:e.cs[kr_ G.t G.q]?=some (.slice none 0 0)):G.cell e = .slice none 0 0:=by
  unfold GD.cell
  rw[n0_,h]
  rfl
theorem ar8 {α β:Type} {R:β→α→Prop} {y:β} {x:α} (h:R y x):∀ k,Rel R (List.replicate k y) (List.replicate k x)
  | 0=>trivial
  | k+1=>⟨h,ar8 h k⟩
section
variable {S:PH} {hv:Nat→Value} {off:Nat} {t:Ty}
theorem bu6 (hag:t.agg=true) {p:t.den→Bool}:∀ {as:List AV} {vs:List Value} {l:List t.den},lits t as=some l→Fa (RA hv S) as vs→fd_ (nilAt off) as=true →
    ∃ es:List (RC t.sz),RVs S vs es∧Rel (λe x=>t.enc.rep S e.cs x∧e.cs[off]?=some (.slice none 0 0)) es l
  | [],[],_,h,_,_=>by cases h;exact⟨[],trivial,trivial⟩
  | a::as,v::vs,l,h,hf,hn=>by
    obtain⟨x,hx,h⟩:=bnd h
    obtain⟨r,hr,h⟩:=bnd h
    cases h
    simp only[fd_,a2_] at hn
    obtain⟨es,g1,g2⟩:=bu6 hag (p:=p) hr hf.2 hn.2
    have hv1:=gm_ hf.1 hx
    obtain⟨e,he⟩:=rc_of hv1.cells
    have hnil:e.cs[off]?=some (.slice none 0 0):=by
      rw[he]
      have h2:=hn.1
      unfold nilAt at h2
      split at h2
      · rename_i l2 hl2
        have hf2:=sf_ hf.1 hl2
        split at h2
        · rename_i e3
          obtain⟨c,hc,hrs⟩:=hf2.get e3
          rw[hc]
          exact congrArg some hrs.2
        · cases h2
      · cases h2
    have hvm:v=mkV true e.cs:=by
      obtain⟨cs,hc1,hc2⟩:=hv1
      have e1:Enc.agg t.den=true:=by rw[kz_];exact hag
      rw[e1] at hc2
      rw[hc2]
      rw[hc2] at he
      have:(mkV true cs).cells.toList=cs:=by simp[mkV,Value.cells]
      rw[this] at he
      rw[he]
    exact⟨e::es,⟨⟨e.cs,rfl,hvm⟩,g1⟩,⟨by rw[he];exact hv1.cells,hnil⟩,g2⟩
end
theorem bp3 {α β:Type} {R R':β→α→Prop} {p:α→Bool} (h:∀ y x,R y x→p x=true→R' y x):∀ {m:List β} {l:List α},Rel R m l→fd_ p l=true→Rel R' m l
  | [],[],_,_=>trivial
  | _::_,_::_,hr,hp=>by
    simp only[fd_,a2_] at hp
    exact⟨h _ _ hr.1 hp.1,bp3 h hr.2 hp.2⟩
section
variable {ρ:Type} {P:Program} [Tb P] {objs:List AO} {r:ρ} {sl:Nat→AV} {fr:Nat} {k:AV→List AO→Option ρ}
theorem grid_new {S:PH} {hv:Nat→Value} {O:List HP} {w:World} {G:GD} {l:List G.t.den} {u:Value} (hI:Inv w S (ke_ hv u G l none::O)):u.oneCell'=true∧RA (ins hv fr u) S (yi_ fr) u∧Inv w S (OH (ins hv fr u) u (.grid G l none false)::O):=by
  obtain⟨a,cap,e,_⟩:=Inv.gridForm hI
  have h1:u.oneCell'=true:=by rw[e];rfl
  refine⟨h1,⟨h1,(cx_ hv fr u).symm⟩,?_⟩
  have:OH (ins hv fr u) u (.grid G l none false)=OH hv u (.grid G l none false):=OH.ag (n:=[]) (λi h=>by cases h) (λi h=>by cases h) rfl
  rw[this]
  exact hI
theorem newG_ok {q:List Nat} {o:Oper} (h:newG P q o sl objs fr k=some r):∃ av objs',k av objs'=some r∧OpOk P o sl objs av objs':=by
  obtain⟨dd,op,ty,pos,af,gd⟩:=o
  unfold newG at h
  simp only at h
  split at h
  · rename_i T x y
    split at h
    · rename_i d
      obtain⟨E,hE,h⟩:=bnd h
      obtain⟨t,ht,h⟩:=bnd h
      obtain⟨zd,hz,h⟩:=bnd h
      obtain⟨c,hc,h⟩:=bnd h
      obtain⟨u,hu0,h⟩:=bnd h
      obtain⟨Ti,hTi,h⟩:=bnd h
      obtain⟨hb,h⟩:=bv_ h
      simp only[a2_] at hb
      obtain⟨⟨⟨b1,b2⟩,b3⟩,b4⟩:=hb
      have exy:=ay3 b1
      have hlt:kr_ t q<t.sz:=c0_ b3
      obtain⟨l,hl,h⟩:=bnd h
      obtain⟨hu,h⟩:=fw_ h
      refine⟨_,_,h,OpOk.new hu (by simp) (λ_ _=>rfl) (ja_ hu (by simp)) λ{S hv Fm f w nn ro K} hs hd kk => ?_⟩
      obtain⟨bytes,zv,e,h1,h2,h3,h4⟩:=cf4 hz b2
      obtain⟨g1,g2,g3⟩:=ad8 hl
      refine @uc_ ro P nn f w K d ty pos af gd x y T E (RC t.sz) _ S _ bytes zv e c (List.replicate c.toNat e) hd (fs_ hE) h1 h2 (dt_ (hs.ev x) hc) (by rw[← exy];exact dt_ (hs.ev x) hc) hs.inv (by unfold mk?; rw[if_pos ⟨g1,g2⟩]) λv w' hI => ?_
      have hg:=au6 (G:=⟨t,u,q,E,Ti⟩) b4
      have hI2:Inv w' S (ke_ hv v ⟨t,u,q,E,Ti⟩ l none::(OHs hv 0 objs++Fm)):=by
        subst g3
        exact Inv.gridFresh (G:=⟨t,u,q,E,Ti⟩) (ar8 (cv2 (G:=⟨t,u,q,E,Ti⟩) hlt (h4 S) hg.1) _) (ar8 ⟨be4 (G:=⟨t,u,q,E,Ti⟩) h3,hg.2⟩ _) hI
      obtain⟨k1,k2,k3⟩:=grid_new (fr:=fr) hI2
      exact kk v w' k1 k3 k2
    · cases h
  · rename_i T n ps
    split at h
    · rename_i d
      obtain⟨E,hE,h⟩:=bnd h
      obtain⟨t,ht,h⟩:=bnd h
      obtain⟨zd,hz,h⟩:=bnd h
      obtain⟨u,hu0,h⟩:=bnd h
      obtain⟨Ti,hTi,h⟩:=bnd h
      obtain⟨hb,h⟩:=bv_ h
      simp only[a2_] at hb
      obtain⟨⟨⟨⟨⟨⟨b1,b2⟩,b3⟩,b4⟩,b5⟩,b6⟩,b7⟩:=hb
      have hlt:kr_ t q<t.sz:=c0_ b6
      obtain⟨l,hl,h⟩:=bnd h
      obtain⟨b8,h⟩:=bv_ h
      obtain⟨hu,h⟩:=fw_ h
      refine⟨_,_,h,OpOk.new hu (by simp) (λ_ _=>rfl) (ja_ hu (by simp)) λ{S hv Fm f w nn ro K} hs hd kk => ?_⟩
      obtain⟨i,i1,hz⟩:=bnd hz
      obtain⟨z,i2,hz⟩:=bnd hz
      cases hc:Nat.beq i.size t.sz&&Nat.ble i.bytes 65536 with
      | false=>rw[hc] at hz;cases hz
      | true =>
      rw[hc] at hz
      simp only[a2_] at hc
      have hzr:t.enc.rep S z.cells.toList zd:=(gm_ (hv:=λ_=>undef) (S:=S) (ba1 z) hz).cells
      obtain⟨ze,hze⟩:=rc_of hzr
      have hEl:Elem P (RC t.sz) E i.bytes z ze:=⟨i,xb_ i1,i2,a6_ hc.1,rfl,by have:=ze.len;rw[hze] at this;show z.cells.size=t.sz;simpa using this,λS=>hze.symm⟩
      obtain⟨es,e1,e2⟩:=bu6 (S:=S) (hv:=hv) (off:=kr_ t q) b5 (p:=λ_=>true) hl (by4 hs ps) b7
      have hlen:=a6_ b2
      refine @rs_ ro P nn f w K d ty pos af gd T E (RC t.sz) _ S _ i.bytes z ze ps (ps.map λp=>ev f p.2) n es hd (fs_ hE) hEl (by rw[tb_ b1]) (by simpa using hlen) (c0_ b4) (c0_ b3) e1 hs.inv λv w' hI => ?_
      have hI2:Inv w' S (ke_ hv v ⟨t,u,q,E,Ti⟩ l none::(OHs hv 0 objs++Fm)) :=
        Inv.gridFresh (G:=⟨t,u,q,E,Ti⟩) (bp3 (p:=λx=>isE (ye_ u t q x)) (λe x hR hp=>cv2 (G:=⟨t,u,q,E,Ti⟩) hlt hR.1 (au6 (G:=⟨t,u,q,E,Ti⟩) hp).1) e2 b8)
          (bp3 (p:=λx=>isE (ye_ u t q x)) (λe x hR hp=>⟨be4 (G:=⟨t,u,q,E,Ti⟩) hR.2,(au6 (G:=⟨t,u,q,E,Ti⟩) hp).2⟩) e2 b8) hI
      obtain⟨k1,k2,k3⟩:=grid_new (fr:=fr) hI2
      exact kk v w' k1 k3 k2
    · cases h
  · cases h
theorem vh_ {l:List AO} (hw:WfO l) {o:Nat} {a:AO} (ho:l[o]?=some a):WfO (l.set o .gone):=ej_ (by simp) hw rfl
theorem OHs.at2 {hv:Nat→Value} {S:PH} {w:World} {Fm:List HP} {ob:List AO} {o:Nat} {a b:AO} (ho:ob[o]?=some a) (h:Inv w S (OHs hv 0 ob++Fm)):∃ L,Inv w S (OH hv (hv o) a::(L++Fm))∧∀ b,(OHs hv 0 (ob.set o b)).Perm (OH hv (hv o) b::L):=by
  obtain⟨L,h1,h2⟩:=OHs.focus (hv:=hv) (i:=0) ho
  rw[b0_] at h1 h2
  exact⟨L,h.perm (h1.append_right Fm),h2⟩
theorem cg2 {T:TypeId} {x:Operand} {d:Option Nat} {ty:TypeId} {pos:String} {af:Array Edge} {gd:Option (Nat×Bool)} {els:Option ρ} (h:takeG P T (evA sl x) objs fr k els=some r) :
    els=some r∨∃ av objs',k av objs'=some r∧OpOk P ⟨d,.load T x,ty,pos,af,gd⟩ sl objs av objs':=by
  unfold takeG at h
  split at h
  · rename_i o i n z q hp
    split at h
    · rename_i G ls ho
      right
      obtain⟨hc,h⟩:=bv_ h
      simp only[a2_] at hc
      obtain⟨⟨⟨⟨c0,c1⟩,c2⟩,c3⟩,hu⟩:=hc
      have c1:=a6_ c1
      have c2:=a6_ c2
      obtain⟨y,hy,h⟩:=bnd h
      obtain⟨l,hl,h⟩:=bnd h
      have hun:=cn_ hu
      have hne:o≠fr:=by
        rintro rfl
        rw[hun] at ho
        cases ho
      have hlt:=(a3_.1 ho).1
      have hun2:(objs.set o .gone)[fr]?=some .unborn:=by rw[b6_ hne];exact hun
      have hog:((objs.set o AO.gone).set fr (.row G.u G.Ti l false))[o]?=some .gone:=by rw[b6_ (o6_ hne),e9_ hlt]
      have hbf:born (((objs.set o AO.gone).set fr (.row G.u G.Ti l false)).set o (.grid G ls (some (i,fr,y)) false)) fr=true:=by
        have hf:fr<(objs.set o AO.gone).length:=(a3_.1 hun2).1
        exact ba_.2 ⟨.row G.u G.Ti l false,by rw[b6_ hne,e9_ hf],by simp⟩
      refine⟨_,_,h,⟨(bl_ (by simp)).trans ((bl_ (by simp)).trans (bl_ (by simp))),(cj_ ho trivial).trans ((cj_ hun2 trivial).trans (cj_ hog trivial)),λ_ hw => ?_,λ_ _=>hbf,λ{S hv Fm f w nn ro K} hs hd kk => ?_⟩⟩
      · exact ej_ (by simp) (ej_ (by simp) (vh_ hw ho) rfl) hbf
      · obtain⟨L,hI,h2⟩:=hs.at ho
        have hI:Inv w S (ke_ hv (hv o) G ls none::(L++Fm)):=hI
        obtain⟨u,u1,u2,⟨b,cap,u3⟩,u4⟩:=Inv.gridTake (fr:=fr) hI hy
        have hpv:=hs.ev x
        rw[hp] at hpv
        have hv1:ev f x=be_ (cq_ (hv o) i z) n:=hpv.2.2
        rw[c1,c2] at hv1
        obtain⟨v0,e1,e2⟩:=pk_ (P:=P) (T:=T) (α:=Raw) (w:=w) (jj_ c3) u2
        have e3:v0=u:=rv_raw e2
        subst e3
        have hI2:=u4 (ins hv fr v0) (cx_ hv fr v0)
        have hg:G.get y=l:=by unfold GD.get;rw[hl];rfl
        rw[hg] at hI2
        refine kq_ hd (w':=w) (v:=v0) ?_ (kk v0 S (ins hv fr v0) w (PH.Le.refl _) (np_ hun) ⟨u1,(cx_ hv fr v0).symm⟩ ?_)
        · simp only[execOp]
          rw[hv1]
          simp only[Sem.run_bind,e1,Result.andThen_ok,Sem.run_pure]
        · have hE:=vf_ hI2
          have hJ:Inv w S (@Row G.u.den G.u.enc G.Ti v0 l::(OHs hv 0 (objs.set o .gone)++(ke_ (ins hv fr v0) (hv o) G ls (some (i,fr,y))::Fm))):=by
            refine hE.perm ?_
            refine (List.Perm.swap _ _ _).trans (List.Perm.cons _ ?_)
            refine List.Perm.trans ?_ ((h2 .gone).symm.append_right _)
            exact List.Perm.cons _ List.perm_middle.symm
          have hA:=id_ (a:=.row G.u G.Ti l false) (vh_ hs.wfo ho) hun2 (show Inv w S (OH (ins hv fr v0) v0 (.row G.u G.Ti l false)::(OHs hv 0 (objs.set o .gone)++(ke_ (ins hv fr v0) (hv o) G ls (some (i,fr,y))::Fm))) from hJ)
          obtain⟨L2,hL,h3⟩:=OHs.at2 (b:=.gone) hog hA
          have ho2:ins hv fr v0 o=hv o:=by
            show cond (Nat.beq o fr) v0 (hv o)=hv o
            rw[be9 hne]
            rfl
          have hL2:Inv w S (ke_ (ins hv fr v0) (hv o) G ls (some (i,fr,y))::(L2++Fm)):=(hL.drop).perm f0_
          refine Inv.perm ?_ ((h3 (.grid G ls (some (i,fr,y)) false)).symm.append_right Fm)
          rw[ho2]
          exact hL2
    · exact .inl h
  · exact .inl h
theorem putG_ok {T:TypeId} {px vx:Operand} {ty:TypeId} {pos:String} {af:Array Edge} {gd:Option (Nat×Bool)} {els:Option ρ} (h:putG P T (evA sl px) (evA sl vx) objs k els=some r) :
    els=some r∨∃ av objs',k av objs'=some r∧OpOk P ⟨none,.store T px vx,ty,pos,af,gd⟩ sl objs av objs':=by
  unfold putG at h
  split at h
  · rename_i o i n z q hp
    split at h
    · rename_i G ls hh ho
      right
      split at h
      · rename_i o2 hv2
        split at h
        · rename_i t2 T2 l2 ho2
          obtain⟨hc,hz⟩:=bv_ h
          clear h
          simp only[a2_] at hc
          obtain⟨⟨⟨⟨⟨c0,c1⟩,c2⟩,c3⟩,c4⟩,c5⟩:=hc
          have c1:=a6_ c1
          have c2:=a6_ c2
          have c4:=a6_ c4
          subst c4
          obtain⟨m,hm,h⟩:=bnd hz
          clear hz
          obtain⟨e,hm⟩:=tm_ hm
          subst e
          have hm:m=l2:=hm
          subst hm
          obtain⟨y,hy,h⟩:=bnd h
          obtain⟨x',hx',h⟩:=bnd h
          obtain⟨hi0,hyn⟩:=cc1 hy
          have hne:o≠o2:=by
            rintro rfl
            rw[ho] at ho2
            cases ho2
          have hog:(objs.set o2 AO.gone)[o]?=some (.grid G ls hh false):=by rw[b6_ (o6_ hne)];exact ho
          refine⟨_,_,h,⟨(bl_ (by simp)).trans (bl_ (by simp)),(cj_ ho2 trivial).trans (cj_ hog trivial),λ_ hw=>ej_ (by simp) (vh_ hw ho2) rfl,λ_ _=>rfl,λ{S hv Fm f w nn ro K} hs hd kk => ?_⟩⟩
          obtain⟨L1,hI1,p1⟩:=hs.at ho2
          have hE:Inv w S (OHs hv 0 (objs.set o2 .gone)++(@Row G.u.den G.u.enc G.Ti (hv o2) m::Fm)):=by
            refine (vf_ hI1).perm ?_
            refine List.Perm.trans ?_ ((p1 .gone).symm.append_right _)
            refine List.Perm.cons _ ?_
            exact List.perm_middle.symm
          obtain⟨L,hI,p2⟩:=OHs.at2 (b:=.gone) hog hE
          have hI:Inv w S (ke_ hv (hv o) G ls hh::(L++(@Row G.u.den G.u.enc G.Ti (hv o2) m::Fm))):=hI
          have hvx:=hs.ev vx
          rw[hv2] at hvx
          have hu1:(ev f vx).oneCell'=true:=hvx.1
          have hue:ev f vx=hv o2:=hvx.2
          have hI:Inv w S (ke_ hv (hv o) G ls hh::(L++(@Row G.u.den G.u.enc G.Ti (ev f vx) m::Fm))):=by rw[hue];exact hI
          obtain⟨es,r1,r2,r3⟩:=Inv.gridOpenA hI
          obtain⟨e,he,hR⟩:=Rel.get r1 hyn
          have hat:at? es i=some e:=by unfold at?; rw[if_pos hi0];exact he
          have hpv:=hs.ev px
          rw[hp] at hpv
          have hv1:ev f px=be_ (cq_ (hv o) i z) n:=hpv.2.2
          rw[c1,c2] at hv1
          obtain⟨b,cap,eform⟩:=@Inv.rowForm G.u.den G.u.enc _ _ _ _ _ _ hI1
          have hcs:(ev f vx).cells.toList=[ev f vx]:=by rw[hue,eform.1];rfl
          refine @qc_ ro P nn f w K ty pos af gd px vx (hv o) (ev f vx) T G.T (RC G.t.sz) _ S _ es i (Enc.sz (Ty.list G.u).den) (kr_ G.t G.q) _ e (e.put (kr_ G.t G.q) (ev f vx) hu1) [] [] [] (jj_ c3) r3 hv1 rfl hat (λcs hcs' => ?_) ?_ λw' hI' => ?_
          · have hcs':cs=e.cs:=hcs'
            subst hcs'
            refine⟨e.cs.take (kr_ G.t G.q),[G.cell e],e.cs.drop (kr_ G.t G.q+1),?_,?_,by rw[hcs];rfl,?_⟩
            · have hd:e.cs.drop (kr_ G.t G.q)=G.cell e::e.cs.drop (kr_ G.t G.q+1):=by
                rw[g8_ hR.lt]
                congr 1
                exact a5_ ((a7_ hR.lt).symm.trans (ah8 hR.lt))
              rw[q7_,← hd,h2_]
            · rw[c6_]
              exact q6_ (g4_ hR.lt)
            · rw[hcs]
              show e.cs.take _++([ev f vx]++e.cs.drop _)=e.cs.set _ _
              rw[List.set_eq_take_append_cons_drop,if_pos hR.lt]
              rfl
          · have:(ev f vx).cells.size=(ev f vx).cells.toList.length:=by simp
            rw[this,hcs]
            rfl
          · have hI2:Inv w' S (Row G.T (hv o) (es.set i.toNat (e.put (kr_ G.t G.q) (ev f vx) hu1))::(inn G hh 0 es ls++(@Row G.u.den G.u.enc G.Ti (ev f vx) m::(L++Fm)))):=by
              exact hI'.perm (List.Perm.cons _ (m7_ _ f0_))
            have hI3:=Inv.gridPut (hv:=hv) r1 he hyn (λkx hk=>by
              cases hh with
              | none=>rfl
              | some p =>
                simp only[ct9,a2_,f2_] at c5
                show Nat.beq kx p.1.toNat=false
                rw[← c5.1]
                exact be9 hk) hx' hI2
            refine kk undef S hv w' (PH.Le.refl _) (λ_ _=>rfl) trivial ?_
            exact Inv.perm hI3 ((p2 (.grid G (ls.set i.toNat x') none false)).symm.append_right Fm)
        · cases h
      · cases h
    · exact .inl h
  · exact .inl h
theorem ak4 {ob:List AO} {o:Nat}:ak5 ob o=ob∨∃ (G:GD) (ls:List G.t.den) (i:Int) (o2:Nat) (x x':G.t.den) (m:List G.u.den),ob[o]?=some (.grid G ls (some (i,o2,x)) false)∧ob[o2]?=some (.row G.u G.Ti m false)∧tv_ G.u G.t G.q x m=some x'∧ak5 ob o=(ob.set o2 .gone).set o (.grid G (ls.set i.toNat x') none false):=by
  unfold ak5
  split
  · rename_i G ls i o2 x ho
    split
    · rename_i t2 T2 l2 ho2
      cases hc:Nat.beq T2 G.Ti with
      | false=>exact .inl rfl
      | true =>
        have:=a6_ hc
        subst this
        cases hm:ah9 t2 G.u l2 with
        | none=>exact .inl rfl
        | some m =>
          obtain⟨e,hm⟩:=tm_ hm
          subst e
          have hm:m=l2:=hm
          subst hm
          cases hs:tv_ G.u G.t G.q x m with
          | none=>exact .inl (by simp only[a4_,hs])
          | some x'=>exact .inr ⟨G,ls,i,o2,x,x',m,ho,ho2,hs,by simp only[a4_,hs]⟩
    · exact .inl rfl
  · exact .inl rfl
theorem ci3 {S:PH} {hv:Nat→Value} {Fm:List HP} {w:World} {ob:List AO} {o:Nat} (hI:Inv w S (OHs hv 0 ob++Fm)):Inv w S (OHs hv 0 (ak5 ob o)++Fm):=by
  rcases ak4 (ob:=ob) (o:=o) with e | ⟨G,ls,i,o2,x,x',m,ho,ho2,hs,e⟩
  · rw[e];exact hI
  · rw[e]
    have hne:o≠o2:=by
      rintro rfl
      rw[ho] at ho2
      cases ho2
    have hog:(ob.set o2 AO.gone)[o]?=some (.grid G ls (some (i,o2,x)) false):=by rw[b6_ (o6_ hne)];exact ho
    obtain⟨L1,hI1,p1⟩:=OHs.at2 (b:=.gone) ho2 hI
    have hE:Inv w S (OHs hv 0 (ob.set o2 .gone)++(@Row G.u.den G.u.enc G.Ti (hv o2) m::Fm)):=by
      refine (vf_ hI1).perm ?_
      refine List.Perm.trans ?_ ((p1 .gone).symm.append_right _)
      refine List.Perm.cons _ ?_
      exact List.perm_middle.symm
    obtain⟨L,hI2,p2⟩:=OHs.at2 (b:=.gone) hog hE
    have hI3:Inv w S (@Row G.u.den G.u.enc G.Ti (hv o2) m::ke_ hv (hv o) G ls (some (i,o2,x))::(L++Fm)):=hI2.perm ((List.Perm.cons _ f0_).trans (List.Perm.swap _ _ _))
    exact Inv.perm (Inv.gridBack hI3 hs hv) ((p2 (.grid G (ls.set i.toNat x') none false)).symm.append_right Fm)
theorem bh2 {ob:List AO} {o:Nat}:BLe ob (ak5 ob o)∧Keep ob (ak5 ob o)∧(WfO ob→WfO (ak5 ob o)):=by
  rcases ak4 (ob:=ob) (o:=o) with e | ⟨G,ls,i,o2,x,x',m,ho,ho2,hs,e⟩
  · rw[e];exact⟨BLe.refl _,Keep.refl _,λh=>h⟩
  · rw[e]
    have hne:o≠o2:=by
      rintro rfl
      rw[ho] at ho2
      cases ho2
    have hog:(ob.set o2 AO.gone)[o]?=some (.grid G ls (some (i,o2,x)) false):=by rw[b6_ (o6_ hne)];exact ho
    exact⟨(bl_ (by simp)).trans (bl_ (by simp)),(cj_ ho2 trivial).trans (cj_ hog trivial),λhw=>ej_ (by simp) (vh_ hw ho2) rfl⟩
theorem ab7 {S:PH} {hv:Nat→Value} {Fm:List HP} {w:World} {ob:List AO} (hI:Inv w S (OHs hv 0 ob++Fm)):∀ n,Inv w S (OHs hv 0 (we_ ob n)++Fm)
  | 0=>hI
  | n+1=>ci3 (ab7 hI n)
theorem st_ {ob:List AO}:∀ n,BLe ob (we_ ob n)∧Keep ob (we_ ob n)∧(WfO ob→WfO (we_ ob n))
  | 0=>⟨BLe.refl _,Keep.refl _,λh=>h⟩
  | n+1=>by
    obtain⟨a,b,c⟩:=st_ (ob:=ob) n
    obtain⟨a',b',c'⟩:=bh2 (ob:=we_ ob n) (o:=n)
    exact⟨a.trans a',b.trans b',λh=>c' (c h)⟩
end
end
section
variable [Gb]
section
variable {ρ:Type} {P:Program} [Tb P] {objs:List AO} {r:ρ} {sl:Nat→AV} {fr:Nat} {k:AV→List AO→Option ρ} {ty:TypeId} {pos:String} {af:Array Edge} {gd:Option (Nat×Bool)}
theorem af6 {o:Nat} (hw:WfO objs) {a:AO} (ho:objs[o]?=some a):WfO (objs.set o .gone):=ej_ (by simp) hw rfl
theorem appA_ok {T:TypeId} {x y:Operand} {d:Nat} (h:appA P T (evA sl x) (evA sl y) objs fr k=some r) :
    ∃ av objs',k av objs'=some r∧OpOk P ⟨some d,.call ⟨.builtin .append,#[x,y],#[T,T]⟩,ty,pos,af,gd⟩ sl objs av objs':=by
  obtain⟨E,hE,h⟩:=bnd h
  have hE:=fs_ hE
  split at h
  · rename_i hx
    obtain⟨q,hq,h⟩:=bnd h
    obtain⟨c1,h⟩:=bv_ h
    obtain⟨zd,hz,h⟩:=bnd h
    obtain⟨m,hm,h⟩:=bnd h
    obtain⟨hu,h⟩:=fw_ h
    refine⟨_,_,h,OpOk.new hu (by simp) (λ_ _=>rfl) (ja_ hu (by simp)) λ{S hv Fm f w n ro K} hs hd kk => ?_⟩
    obtain⟨bytes,zv,h1,h2,_⟩:=lg_ hz
    have hxv:=hs.ev x
    rw[hx] at hxv
    have hxv:ev f x = .slice none 0 0:=hxv.2
    refine @ws_ ro P n f w K d ty pos af gd x y _ (ev f y) T E q.t.den q.t.enc S _ [] bytes zv zd q.l m #[T,T] hd rfl hE h1 h2 (by rw[cg_];exact c0_ c1) hxv rfl (hs.inv.rowNil) (bn5 hs hq (hs.ev y)) hm λu w' hI => ?_
    obtain⟨g1,g2⟩:=ql_ hI
    exact kk u w' g1 hI g2
  · rename_i o hx
    split at h
    · rename_i t B l ho
      obtain⟨q,hq,h⟩:=bnd h
      obtain⟨m,hm,h⟩:=bnd h
      obtain⟨c1,h⟩:=bv_ h
      simp only[a2_] at c1
      obtain rfl:=a6_ c1.1
      obtain⟨zd,hz,h⟩:=bnd h
      obtain⟨m2,hm2,h⟩:=bnd h
      obtain⟨hu,h⟩:=bv_ h
      have hne:o≠fr:=by rintro rfl;rw[cn_ hu] at ho;cases ho
      have hu2:isUn (objs.set o .gone) fr=true:=by
        unfold isUn
        rw[b6_ hne,cn_ hu]
      refine⟨_,_,h,⟨(bl_ (by simp)).trans (bl_ (by simp)),(cj_ ho trivial).trans (cj_ (cn_ hu2) trivial),λhs hw=>ej_ (by simp) (af6 hw ho) rfl,λ_ _=>ja_ hu2 (by simp),λ{S hv Fm f w n ro K} hs hd kk => ?_⟩⟩
      obtain⟨bytes,zv,h1,h2,_⟩:=lg_ hz
      obtain⟨L,hI,hp⟩:=hs.at ho
      have hxv:=hs.ev x
      rw[hx] at hxv
      have hxv:ev f x=hv o:=hxv.2
      have hsrc:=bn5 hs hq (hs.ev y)
      obtain⟨e1,e2⟩:=hp_ hm
      have hsrc2:@Src t.den t.enc w S (ev f y) m:=by
        obtain⟨qt,ql⟩:=q
        simp only at e1
        subst e1
        rw[e2]
        exact hsrc
      refine @ws_ ro P n f w K d ty pos af gd x y (hv o) (ev f y) T B t.den t.enc S (L++Fm) l bytes zv zd m m2 #[T,T] hd rfl hE h1 h2 (by rw[cg_];exact c0_ c1.2) hxv rfl hI hsrc2 hm2 λu w' hI' => ?_
      obtain⟨g1,g2⟩:=ql_ (hv:=hv) (fr:=fr) hI'
      refine kk u S (ins hv fr u) w' (PH.Le.refl _) (np_ (cn_ hu)) g2 ?_
      refine id_ (af6 hs.wfo ho) (cn_ hu2) ?_
      refine Inv.swap (B:=OH (ins hv fr u) u (.row t B m2 false)) (A:=HP.exact Hp.emp) (O:=L++Fm) ?_ |>.perm ?_
      · exact⟨hI'.os,hI'.out,Hp.emp,rfl,λb=>.inl rfl,by
          have e:Hp.un Hp.emp S.m=S.m:=by funext b;simp[Hp.un,Hp.emp]
          rw[e]
          exact hI'.own⟩
      · have:=(hp .gone).symm
        exact (this.append_right Fm).cons _
    · cases h
  · cases h
theorem cutA_ok {T:TypeId} {x y:Operand} {d o:Nat} {a:Int} (hx:evA sl x = .b (.one (.row o))) (hy:asD .int (evA sl y)=some a) (h:cutA P T o a objs fr k=some r) :
    ∃ av objs',k av objs'=some r∧OpOk P ⟨some d,.slice T x (some y) none none,ty,pos,af,gd⟩ sl objs av objs':=by
  obtain⟨E,hE,h⟩:=bnd h
  have hE:=fs_ hE
  split at h
  · rename_i t B l ho
    obtain⟨c1,h⟩:=bv_ h
    simp only[a2_] at c1
    obtain⟨⟨c1,c2⟩,hu⟩:=c1
    obtain rfl:=a6_ c1
    obtain⟨m,hm,h⟩:=bnd h
    have hne:o≠fr:=by rintro rfl;rw[cn_ hu] at ho;cases ho
    have hu2:isUn (objs.set o .gone) fr=true:=by
      unfold isUn
      rw[b6_ hne,cn_ hu]
    refine⟨_,_,h,⟨(bl_ (by simp)).trans (bl_ (by simp)),(cj_ ho trivial).trans (cj_ (cn_ hu2) trivial),λhs hw=>ej_ (by simp) (af6 hw ho) rfl,λ_ _=>ja_ hu2 (by simp),λ{S hv Fm f w n ro K} hs hd kk => ?_⟩⟩
    obtain⟨L,hI,hp⟩:=hs.at ho
    have hxv:=hs.ev x
    rw[hx] at hxv
    have hxv:ev f x=hv o:=hxv.2
    refine @ad2 ro P n f w K d ty pos af gd x y (hv o) T B t.den t.enc S (L++Fm) l m a hd hE (jj_ c2) hxv hI (dt_ (hs.ev y) hy) hm λu hI' => ?_
    obtain⟨g1,g2⟩:=ql_ (hv:=hv) (fr:=fr) hI'
    refine kk u S (ins hv fr u) w (PH.Le.refl _) (np_ (cn_ hu)) g2 ?_
    refine id_ (af6 hs.wfo ho) (cn_ hu2) ?_
    refine Inv.swap (B:=OH (ins hv fr u) u (.row t B m false)) (A:=HP.exact Hp.emp) (O:=L++Fm) ?_ |>.perm ?_
    · exact⟨hI'.os,hI'.out,Hp.emp,rfl,λb=>.inl rfl,by
        have e:Hp.un Hp.emp S.m=S.m:=by funext b;simp[Hp.un,Hp.emp]
        rw[e]
        exact hI'.own⟩
    · have:=(hp .gone).symm
      exact (this.append_right Fm).cons _
  · cases h
theorem cg8 {o:Oper} (h:bn2 P o sl objs fr k=some r):∃ av objs',k av objs'=some r∧OpOk P o sl objs av objs':=by
  obtain⟨dd,op,ty,pos,af,gd⟩:=o
  unfold bn2 at h
  simp only at h
  split at h
  · rename_i T x
    obtain⟨l,hl,h⟩:=bnd h
    obtain⟨hu,h⟩:=fw_ h
    refine⟨_,_,h,OpOk.new hu (by simp) (λhs _=>sg_ (ig_ hs x) hl) (ja_ hu (by simp)) λ{S hv Fm f w n ro K} hs hd kk => ?_⟩
    exact kq_ hd (w':=w.alloc (.cells (ev f x).cells T)) (by simp[execOp,Instr.box,newVar,newRow]) (kk _ _ rfl (ap0 hu (sg_ (ig_ hs.wfs x) hl) (sf_ (hs.ev x) hl) (hs.inv.alloc T _)) bq6)
  · rename_i T
    cases hrb:isRB ⟨dd,.alloc T,ty,pos,af,gd⟩ with
    | true =>
      rw[hrb] at h
      obtain⟨t,ht,h⟩:=bnd (show Option.bind _ _=some _ from h)
      obtain⟨zd,hz,h⟩:=bnd h
      obtain⟨hsz,h⟩:=bv_ h
      obtain⟨hu,h⟩:=fw_ h
      obtain⟨bytes,zv,⟨ei,hE⟩,_,_⟩:=lg_ hz
      refine⟨_,_,h,OpOk.new2 hu (by simp) (λ_ _=>rfl) (ja_ hu (by simp)) λ{S hv Fm f w n ro K} hs hd kk => ?_⟩
      have z1:∀ w,(zeroValue T).run P w = .ok zv w:=λw=>by simp[zeroValue,typeInfo,hE.hi,hE.hz]
      refine kq_ hd (w':=w.alloc (.cells zv.cells T)) (v:=.pointer (some ⟨w.heap.size,0,none⟩)) (by simp[execOp,Instr.alloc,z1 w,newVar,newRow]) (kk (.slice (some ⟨w.heap.size,0,none⟩) 1 1) _ _ ?_ ?_)
      · refine Inv.shut (A:=@Row t.den t.enc T _ [zd]) (hs.inv.alloc T _) (.inr ⟨w.heap.size,1,[],zv.cells.toList,[],rfl,by simp,⟨zv.cells.toList,[],by simp,hE.rep S,rfl⟩,c4_ _,by simp[maxLen],by simp⟩)
      · exact⟨rfl,⟨_,rfl⟩,by rw[cx_];simp[cq_,be_,Addr.add]⟩
    | false =>
    rw[hrb] at h
    replace h:=(show (match und P T with
      | some (.array _ E)=>(bg3 P 20 E).bind λt=>(bg0 P T).bind λcs=>(lits t (cs.map λs=>.b (.one s))).bind λl=>cond (Nat.ble l.length 65536) (yd_ objs fr (.row t T l false) (.b (.one (.arr fr))) k) none
      | _=>(bg0 P T).bind λl=>yd_ objs fr (.cells T l []) (ptrV fr 0) k)=some r from h)
    split at h
    case h_1 =>
      rename_i n0 E hT
      obtain⟨t,ht,h⟩:=bnd h
      obtain⟨cs,hcs,h⟩:=bnd h
      obtain⟨l,hl,h⟩:=bnd h
      obtain⟨hsz,h⟩:=bv_ h
      obtain⟨hu,h⟩:=fw_ h
      refine⟨_,_,h,OpOk.new2 hu (by simp) (λ_ _=>rfl) (ja_ hu (by simp)) λ{S hv Fm f w n ro K} hs hd kk => ?_⟩
      obtain⟨z,z1,z2,_⟩:=rd_ (hv:=hv) (S:=S) hcs
      have hra:∀ {m:List SV} {ys:List Value},Fa (RS hv S) m ys→Fa (RA hv S) (m.map λs=>AV.b (.one s)) ys:=by
        intro m
        induction m with
        | nil=>intro ys h;cases ys with
          | nil=>trivial
          | cons _ _=>exact h.elim
        | cons s m ih=>intro ys h;cases ys with
          | nil=>exact h.elim
          | cons y ys=>exact⟨h.1,ih h.2⟩
      have hone:∀ {m:List SV} {ys:List Value},Fa (RS hv S) m ys→∀ y ∈ ys,y.oneCell'=true:=by
        intro m
        induction m with
        | nil=>intro ys h;cases ys with
          | nil=>intro y hy;cases hy
          | cons _ _=>exact h.elim
        | cons s m ih=>intro ys h;cases ys with
          | nil=>exact h.elim
          | cons y ys=>intro x hx;rcases e1_.1 hx with rfl | hx;exact h.1.1;exact ih h.2 x hx
      obtain⟨hrep,hlen⟩:=@RVs.repL t.den t.enc S z.cells.toList l (au3 hl (hra z2))
      rw[bc3 (hone z2)] at hrep
      refine kq_ hd (w':=w.alloc (.cells z.cells T)) (v:=.pointer (some ⟨w.heap.size,0,none⟩)) (by simp[execOp,Instr.alloc,z1 w,newVar,newRow]) (kk (.slice (some ⟨w.heap.size,0,none⟩) l.length l.length) _ _ ?_ ?_)
      · refine Inv.shut (A:=@Row t.den t.enc T _ l) (hs.inv.alloc T _) (.inr ⟨w.heap.size,l.length,[],z.cells.toList,[],rfl,by simp,hrep,c4_ _,?_,by simp⟩)
        have:=c0_ hsz
        unfold maxLen
        omega
      · exact⟨rfl,⟨_,rfl⟩,by rw[cx_];simp[cq_,Addr.add]⟩
    obtain⟨l,hl,h⟩:=bnd h
    obtain⟨hu,h⟩:=fw_ h
    have hl3:∀ n,fd_ (SV.lt n) l=true:=by
      obtain⟨_,_,_,h3⟩:=rd_ (hv:=λ_=>undef) (S:=⟨Hp.emp,default,#[]⟩) hl
      exact h3
    refine⟨_,_,h,OpOk.new hu (by simp) (λhs _=>hl3 _) (ja_ hu (by simp)) λ{S hv Fm f w n ro K} hs hd kk => ?_⟩
    obtain⟨z,z1,z2,_⟩:=rd_ (hv:=hv) (S:=S) hl
    exact kq_ hd (w':=w.alloc (.cells z.cells T)) (by simp[execOp,Instr.alloc,z1 w,newVar,newRow]) (kk _ _ rfl (ap0 hu (hl3 _) z2 (hs.inv.alloc T _)) bq6)
  · rename_i T ps
    obtain⟨av,h1,h2,h3⟩:=cb2 h
    refine⟨_,_,h1,.pure (λhs _=>h2 _ λp hp => ?_) λ{S hv Fm f w} hs => ?_⟩
    · obtain⟨q,_,rfl⟩:=d8_.1 hp
      exact ig_ hs q.2
    · obtain⟨u,g1,g2⟩:=h3 (w:=w) (cu6 hs ps)
      refine⟨u,?_,g2⟩
      have e:(List.toArray ps).map (λ(x:Nat×Operand)=>(x.1,ev f x.2))=(ps.map λp=>(p.1,ev f p.2)).toArray:=by simp
      have g1':(Instr.build T ((List.toArray ps).map λ(i,x)=>(i,ev f x))).run P w = .ok u w:=by
        rw[← g1]
        exact congrArg (λz=>(Instr.build T z).run P w) e
      have e2:(execOp (ev f) ⟨dd,.build T ⟨ps⟩,ty,pos,af,gd⟩)=(do pure (.value (← Instr.build T ((List.toArray ps).map λ(i,x)=>(i,ev f x))))):=by
        simp only[execOp]
      rw[e2]
      simp only[Sem.run_bind,g1',Result.andThen_ok,Sem.run_pure]
  · rename_i T n ps
    split at h
    · rename_i d
      obtain⟨E,hE,h⟩:=bnd h
      obtain⟨t,ht,h⟩:=bnd h
      obtain⟨zd,hz,h⟩:=bnd h
      obtain⟨hc,h⟩:=bv_ h
      simp only[a2_] at hc
      obtain⟨l,hl,h⟩:=bnd h
      have main:yd_ objs fr (.row t E (cr4 (cu2 ps) zd l) false) (yi_ fr) k=some r→∃ av objs',k av objs'=some r∧OpOk P ⟨some d,.buildSlice T n ⟨ps⟩,ty,pos,af,gd⟩ sl objs av objs':=by
        intro h
        obtain⟨hu,h⟩:=fw_ h
        refine⟨_,_,h,OpOk.new hu (by simp) (λ_ _=>rfl) (ja_ hu (by simp)) λ{S hv Fm f w nn ro K} hs hd kk => ?_⟩
        obtain⟨bytes,zv,h1,h2,_⟩:=lg_ hz
        have hlen:=a6_ hc.1.1.2
        refine @yn_ _ P _ t.den t.enc nn d f w K ro ty pos af gd T E S _ bytes zv zd ps (ps.map λp=>ev f p.2) n (cu2 ps) l hd (fs_ hE) h1 (by rw[tb_ hc.1.1.1]) (by simpa using hlen) (by rw[cg_];exact c0_ hc.2) (c0_ hc.1.2) (au3 hl (by4 hs ps)) hs.inv λu w' hI => ?_
        obtain⟨g1,g2⟩:=ql_ hI
        exact kk u w' g1 hI g2
      cases h0:Nat.beq (cu2 ps) 0 with
      | true =>
        rw[h0] at h
        rw[a6_ h0] at main
        exact main h
      | false =>
        rw[h0] at h
        obtain⟨h1,h⟩:=bv_ (show cond (Nat.beq (cu2 ps) 1) (yd_ objs fr (.row t E (zd::l) false) (yi_ fr) k) none=some r from h)
        rw[a6_ h1] at main
        exact main h
    · cases h
  · rename_i T x y
    split at h
    · rename_i d
      obtain⟨E,hE,h⟩:=bnd h
      obtain⟨t,ht,h⟩:=bnd h
      obtain⟨zd,hz,h⟩:=bnd h
      obtain⟨c,hc,h⟩:=bnd h
      obtain⟨hxy,h⟩:=bv_ h
      have exy:=ay3 hxy
      obtain⟨l,hl,h⟩:=bnd h
      obtain⟨hu,h⟩:=fw_ h
      refine⟨_,_,h,OpOk.new hu (by simp) (λ_ _=>rfl) (ja_ hu (by simp)) λ{S hv Fm f w nn ro K} hs hd kk => ?_⟩
      obtain⟨bytes,zv,h1,h2,_⟩:=lg_ hz
      refine @uc_ ro P nn f w K d ty pos af gd x y T E t.den t.enc S _ bytes zv zd c l hd (fs_ hE) h1 h2 (dt_ (hs.ev x) hc) (by rw[← exy];exact dt_ (hs.ev x) hc) hs.inv hl λu w' hI => ?_
      obtain⟨g1,g2⟩:=ql_ hI
      exact kk u w' g1 hI g2
    · cases h
  · rename_i T p v
    split at h
    · obtain⟨objs',h1,h2⟩:=bm9 h
      exact⟨_,_,h1,h2⟩
    · cases h
  · rename_i T x lo hi
    split at h
    · rename_i p y d hx
      obtain⟨a,ha,h⟩:=bnd h
      exact cutA_ok hx ha h
    · obtain⟨av,h1,h2⟩:=aa5 h
      exact⟨_,_,h1,h2⟩
  · rename_i x y T T2
    split at h
    · rename_i d
      obtain⟨hc,h2⟩:=bv_ h
      obtain rfl:=a6_ hc
      exact appA_ok h2
    · cases h
  · cases h
def isM:Op→Bool
  | .box _ _ | .alloc _ | .build _ _ | .buildSlice _ _ _ | .makeSlice _ _ _ | .store _ _ _ | .slice _ _ _ _ _=>true
  | .call ⟨.builtin .append,_,_⟩=>true
  | _=>false
def isZ (o:Oper):Bool:=match o.op,o.dst with
  | .box T (.tmp t),some d=>Gb.fz (cdN T d t) o.pos
  | _,_=>false
def ftA (o:Oper):Option Ty:=match o.op,o.dst with
  | .box T (.tmp t),some d=>Gb.ft (cdN T d t)
  | _,_=>none
def stepZ (o:Oper) (sl:Nat→AV) (objs:List AO) (k:AV→List AO→Option ρ):Option ρ:=match o.op with
  | .box _ x=>match evA sl x with
    | .b (.one (.val t y))=>cond t.agg none (k (.b (.one (.val (.ref t) y))) objs)
    | .b (.val t y)=>k (.b (.one (.val (.ref t) y))) objs
    | .b (.agg l)=>(ftA o).bind λt=>(asD t (.b (.agg l))).bind λy=>k (.b (.one (.val (.ref t) y))) objs
    | _=>none
  | _=>none
theorem cg4 {o:Oper} (h:stepZ o sl objs k=some r):∃ av objs',k av objs'=some r∧OpOk P o sl objs av objs':=by
  obtain⟨dd,op,ty,pos,af,gd⟩:=o
  unfold stepZ at h
  simp only at h
  split at h
  · rename_i T x
    split at h
    · rename_i t y he
      cases ht:t.agg with
      | true=>rw[ht] at h;cases h
      | false =>
        rw[ht] at h
        refine⟨_,_,h,⟨BLe.refl _,Keep.refl _,λ_ hw=>hw,λ_ _=>rfl,λ{S hv Fm f w n ro K} hs hd kk => ?_⟩⟩
        have h1:=hs.ev x
        rw[he] at h1
        have h2:RVt t S (Go.Proofs.YtdibamopklkilaaGreatDoor.Pad.ev f x) y:=h1.2.2
        obtain⟨U,g1,g2,g3⟩:=@Inv.boxFreeze _ S _ T t.den t.enc _ (Go.Proofs.YtdibamopklkilaaGreatDoor.Pad.ev f x) y (hs.inv.alloc T _) h2
        have g4:RVt (.ref t) U _ y:=mj_ g3
        exact kq_ hd (w':=w.alloc (.cells (Go.Proofs.YtdibamopklkilaaGreatDoor.Pad.ev f x).cells T)) (by simp[execOp,Instr.box,newVar,newRow]) (kk _ U hv _ g1 (λ_ _=>rfl) ⟨rfl,rfl,g4⟩ g2)
    · rename_i t y he
      refine⟨_,_,h,⟨BLe.refl _,Keep.refl _,λ_ hw=>hw,λ_ _=>rfl,λ{S hv Fm f w n ro K} hs hd kk => ?_⟩⟩
      have h1:=hs.ev x
      rw[he] at h1
      have h2:RVt t S (Go.Proofs.YtdibamopklkilaaGreatDoor.Pad.ev f x) y:=h1.2
      obtain⟨U,g1,g2,g3⟩:=@Inv.boxFreeze _ S _ T t.den t.enc _ (Go.Proofs.YtdibamopklkilaaGreatDoor.Pad.ev f x) y (hs.inv.alloc T _) h2
      have g4:RVt (.ref t) U _ y:=mj_ g3
      exact kq_ hd (w':=w.alloc (.cells (Go.Proofs.YtdibamopklkilaaGreatDoor.Pad.ev f x).cells T)) (by simp[execOp,Instr.box,newVar,newRow]) (kk _ U hv _ g1 (λ_ _=>rfl) ⟨rfl,rfl,g4⟩ g2)
    · rename_i l he
      obtain⟨t,_,h⟩:=bnd h
      obtain⟨y,hy,h⟩:=bnd h
      refine⟨_,_,h,⟨BLe.refl _,Keep.refl _,λ_ hw=>hw,λ_ _=>rfl,λ{S hv Fm f w n ro K} hs hd kk => ?_⟩⟩
      have h1:=hs.ev x
      rw[he] at h1
      have h2:RVt t S (Go.Proofs.YtdibamopklkilaaGreatDoor.Pad.ev f x) y:=gm_ h1 hy
      obtain⟨U,g1,g2,g3⟩:=@Inv.boxFreeze _ S _ T t.den t.enc _ (Go.Proofs.YtdibamopklkilaaGreatDoor.Pad.ev f x) y (hs.inv.alloc T _) h2
      have g4:RVt (.ref t) U _ y:=mj_ g3
      exact kq_ hd (w':=w.alloc (.cells (Go.Proofs.YtdibamopklkilaaGreatDoor.Pad.ev f x).cells T)) (by simp[execOp,Instr.box,newVar,newRow]) (kk _ U hv _ g1 (λ_ _=>rfl) ⟨rfl,rfl,g4⟩ g2)
    · cases h
  · cases h
def bn4 (P:Program) [Tb P] (o:Oper) (sl:Nat→AV) (objs:List AO) (fr:Nat) (k:AV→List AO→Option ρ):Option ρ :=
  cond (isZ o) (stepZ o sl objs k) (cond (isX o.op) (cg6 P o sl objs fr k) (cond (isM o.op) (bn2 P o sl objs fr k) (stepP P o sl objs λa=>k a objs)))
theorem aa7 {o:Oper} (h:bn4 P o sl objs fr k=some r):∃ av objs',k av objs'=some r∧OpOk P o sl objs av objs':=by
  unfold bn4 at h
  cases hz:isZ o with
  | true=>rw[hz] at h;exact cg4 h
  | false =>
  rw[hz] at h
  have h:cond (isX o.op) (cg6 P o sl objs fr k) (cond (isM o.op) (bn2 P o sl objs fr k) (stepP P o sl objs λa=>k a objs))=some r:=h
  cases hx:isX o.op with
  | true=>rw[hx] at h;exact cg5 h
  | false =>
    rw[hx] at h
    have h:cond (isM o.op) (bn2 P o sl objs fr k) (stepP P o sl objs λa=>k a objs)=some r:=h
    cases hm:isM o.op with
    | true=>rw[hm] at h;exact cg8 h
    | false =>
      rw[hm] at h
      obtain⟨av,h1,h2⟩:=aa5 (show stepP P o sl objs (λa=>k a objs)=some r from h)
      exact⟨av,objs,h1,h2⟩
def stepG (P:Program) [Tb P] (o:Oper) (sl:Nat→AV) (objs:List AO) (fr:Nat) (k:AV→List AO→Option ρ):Option ρ:=match o.op with
  | .load T x=>takeG P T (evA sl x) objs fr k (bn4 P o sl objs fr k)
  | .store T p v=>match o.dst with
    | none=>putG P T (evA sl p) (evA sl v) objs k (bn4 P o sl objs fr k)
    | some _=>none
  | _=>none
def ch1 (P:Program) [Tb P] (o:Oper) (sl:Nat→AV) (objs:List AO) (fr:Nat) (k:AV→List AO→Option ρ):Option ρ:=match isGn o with
  | some q=>newG P q o sl objs fr k
  | none=>cond (cm2 o) (stepG P o sl objs fr k) (bn4 P o sl objs fr k)
theorem ch0 {o:Oper} (h:ch1 P o sl objs fr k=some r):∃ av objs',k av objs'=some r∧OpOk P o sl objs av objs':=by
  unfold ch1 at h
  split at h
  · exact newG_ok h
  · cases hg:cm2 o with
    | false=>rw[hg] at h;exact aa7 h
    | true =>
      rw[hg] at h
      have h:stepG P o sl objs fr k=some r:=h
      obtain⟨dd,op,ty,pos,af,gd⟩:=o
      unfold stepG at h
      simp only at h
      split at h
      · rcases cg2 h with h | h
        · exact aa7 h
        · exact h
      · split at h
        · rcases putG_ok h with h | h
          · exact aa7 h
          · exact h
        · cases h
      · cases h
end
end
section
variable [Gb]
def OpUn (P:Program) [Tb P] (o:Oper) (sl:Nat→AV) (objs:List AO) (av:AV) (objs':List AO):Prop :=
  ∀ {S:PH} {hv:Nat→Value} {Fm:List HP} {f:Fr} {w:World} {n:Nat} {ro:Option Nat} {K:Fr→World→Prop},Sit S hv Fm sl objs f w→ew_ n o.dst=true →
    (∀ v S' hv' w',BLe objs objs'→Keep objs objs'→WfO objs'→av.lt objs'=true→S.Le S'→Ag objs hv hv'→RA hv' S' av v→Inv w' S' (OHs hv' 0 objs'++Fm)→K (vu_ f o.dst v) w')→OP P n ro o f w K
theorem OpOk.un {P:Program} [Tb P] {o:Oper} {sl:Nat→AV} {objs:List AO} {av:AV} {objs':List AO} (h:OpOk P o sl objs av objs'):OpUn P o sl objs av objs' :=
  λhs hd kk=>h.run hs hd λv S' hv' w' a b c d=>kk v S' hv' w' h.ble h.keep (h.wfo hs.wfs hs.wfo) (h.lt hs.wfs hs.wfo) a b c d
theorem ne_ {w:World} {S:PH} {O:List HP} (h:Inv w S O):Inv w S (HP.exact Hp.emp::O) :=
  ⟨h.os,h.out,Hp.emp,rfl,λb=>.inl rfl,by
    have e:Hp.un Hp.emp S.m=S.m:=by funext b;simp[Hp.un,Hp.emp]
    rw[e]
    exact h.own⟩
def rsF (ob:List AO) (o:Nat) (s:SV):SV:=match ob[o]? with
  | some (.froz t x)=>.val t x
  | _=>s
def rsS (ob:List AO):SV→SV
  | .row o=>rsF ob o (.row o)
  | .ptr o 0=>rsF ob o (.ptr o 0)
  | s=>s
def rsB (ob:List AO):BV→BV
  | .one s=>.one (rsS ob s)
  | .agg l=>.agg (l.map (rsS ob))
  | x=>x
def rsA (ob:List AO):AV→AV
  | .b x=>.b (rsB ob x)
  | .tup l=>.tup (l.map (rsB ob))
def rsl (ob:List AO) (sl:Nat→AV) (d:Nat):AV:=rsA ob (sl d)
theorem Fa.map {α β γ:Type} {R:α→γ→Prop} {R':β→γ→Prop} {f:α→β} (h:∀ a c,R a c→R' (f a) c):∀ {l:List α} {m:List γ},Fa R l m→Fa R' (l.map f) m
  | [],[],_=>trivial
  | _::_,_::_,k=>⟨h _ _ k.1,Fa.map h k.2⟩
theorem sc_ {v:Value} {a:Addr} (h:v=be_ (.pointer (some a)) 0):v = .pointer (some a):=by
  rw[h]
  simp[be_,Addr.add]
section
variable {S:PH} {hv:Nat→Value} {Fm:List HP} {ob:List AO} {w:World}
theorem bx4 (hI:Inv w S (OHs hv 0 ob++Fm)) {o:Nat} {t:Ty} {x:t.den} (ho:ob[o]?=some (.froz t x)):t.agg=false∧(hv o).oneCell'=true∧RVt t S (hv o) x:=by
  obtain⟨L,h1,_⟩:=OHs.focus (hv:=hv) (i:=0) ho
  rw[b0_] at h1
  obtain⟨k,⟨_,h2,h3,h4⟩,_⟩:=(hI.perm (h1.append_right Fm)).open_
  exact⟨h2,h3,h4⟩
theorem cr0 (hI:Inv w S (OHs hv 0 ob++Fm)) {s:SV} {v:Value} (h:RS hv S s v):RS hv S (rsS ob s) v:=by
  have gen:∀ o s',v.oneCell'=true→(∀ t x,ob[o]?=some (AO.froz t x)→v=hv o)→RS hv S s' v→RS hv S (rsF ob o s') v:=λo s' h1 h2 h3=>by
    unfold rsF
    split
    · rename_i t x ho
      obtain⟨g1,g2,g3⟩:=bx4 hI ho
      exact⟨h1,g1,by rw[h2 t x ho];exact g3⟩
    · exact h3
  unfold rsS
  split
  · rename_i o
    exact gen o _ h.1 (λ_ _ _=>h.2) h
  · rename_i o
    refine gen o _ h.1 (λt x ho => ?_) h
    obtain⟨g1,g2,g3⟩:=bx4 hI ho
    have h2:(∃ a,v = .pointer (some a))∧v=be_ (hv o) 0:=h.2
    obtain⟨⟨a,rfl⟩,h3⟩:=h2
    cases hh:hv o with
    | pointer p =>
      cases p with
      | none=>rw[hh] at h3;simp[be_] at h3
      | some b =>
        rw[hh] at h3
        exact sc_ h3
    | _=>rw[hh] at h3;simp[be_] at h3
  · exact h
theorem cr2 (hI:Inv w S (OHs hv 0 ob++Fm)) {s:BV} {v:Value} (h:RB hv S s v):RB hv S (rsB ob s) v:=by
  cases s with
  | dead=>trivial
  | one s=>exact cr0 hI h
  | val t x=>exact h
  | agg l=>obtain⟨cs,e,h⟩:=h;exact⟨cs,e,Fa.map (f:=rsS ob) (λ_ _=>cr0 hI) h⟩
theorem ay4 (hI:Inv w S (OHs hv 0 ob++Fm)) {s:AV} {v:Value} (h:RA hv S s v):RA hv S (rsA ob s) v:=by
  cases s with
  | b x=>exact cr2 hI h
  | tup l=>obtain⟨cs,e,h⟩:=h;exact⟨cs,e,Fa.map (f:=rsB ob) (λ_ _=>cr2 hI) h⟩
theorem cr1 {n:List AO} {s:SV} (h:s.lt n=true):(rsS ob s).lt n=true:=by
  unfold rsS rsF
  split
  · split
    · rfl
    · exact h
  · split
    · rfl
    · exact h
  · exact h
theorem bf4 {α:Type} {p:α→Bool} {f:α→α} (hf:∀ a,p a=true→p (f a)=true) {l:List α} (h:fd_ p l=true):fd_ p (l.map f)=true:=by
  refine hf_ λa ha => ?_
  obtain⟨b,hb,rfl⟩:=d8_.1 ha
  exact hf b (bj_ h b hb)
theorem cr3 {n:List AO} {s:BV} (h:s.lt n=true):(rsB ob s).lt n=true:=by
  cases s with
  | dead=>rfl
  | one s=>exact cr1 h
  | val t x=>rfl
  | agg l=>exact bf4 (f:=rsS ob) (p:=SV.lt n) (λ_=>cr1) h
theorem rsA_lt {n:List AO} {s:AV} (h:s.lt n=true):(rsA ob s).lt n=true:=by
  cases s with
  | b x=>exact cr3 h
  | tup l=>exact bf4 (f:=rsB ob) (p:=BV.lt n) (λ_=>cr3) h
theorem Sit.rs {sl:Nat→AV} {f:Fr} (h:Sit S hv Fm sl ob f w):Sit S hv Fm (rsl ob sl) ob f w :=
  ⟨h.inv,λd=>ay4 h.inv (h.rel d),λd=>rsA_lt (h.wfs d),h.wfo,h.gl⟩
end
def aq2 (ob:List AO) (o:Nat):List AO:=match ob[o]? with
  | some (.row t _ l false)=>ob.set o (.froz (.list t) l)
  | some (.grid G l none false)=>ob.set o (.froz (.list G.t) l)
  | _=>ob
def vi_:List AO→List Nat→List AO
  | ob,[]=>ob
  | ob,o::os=>vi_ (aq2 ob o) os
section
variable {Fm:List HP} {ob:List AO} {w:World} {hv:Nat→Value}
theorem yx_ {t:Ty} {S:PH} {v:Value} {x:t.den} (h0:t.agg=false) (h:RVt t S v x):v.oneCell'=true:=md_ (nw_ h0 h)
theorem bx3 {S:PH} {o:Nat} (hI:Inv w S (OHs hv 0 ob++Fm)):∃ S',S.Le S'∧Inv w S' (OHs hv 0 (aq2 ob o)++Fm):=by
  unfold aq2
  split
  · rename_i t T l ho
    obtain⟨L,h1,h2⟩:=OHs.focus (hv:=hv) (i:=0) ho
    rw[b0_] at h1 h2
    obtain⟨U,g1,g2,g3⟩:=Inv.rowFreeze (hI.perm (h1.append_right Fm))
    refine⟨U,g1,?_⟩
    have h3:RVt (.list t) U (hv o) l:=g3
    have h4:=ne_ g2
    refine Inv.perm (O:=OH hv (hv o) (.froz (.list t) l)::(L++Fm)) ?_ ((h2 (.froz (.list t) l)).symm.append_right Fm)
    obtain⟨k,hk,hI'⟩:=h4.open_
    refine Inv.shut hI' ?_
    exact⟨hk,rfl,yx_ rfl h3,h3⟩
  · rename_i G l ho
    obtain⟨L,h1,h2⟩:=OHs.focus (hv:=hv) (i:=0) ho
    rw[b0_] at h1 h2
    obtain⟨U,g1,g2,h3⟩:=Inv.gridDone (show Inv w S (ke_ hv (hv o) G l none::(L++Fm)) from hI.perm (h1.append_right Fm))
    refine⟨U,g1,?_⟩
    have h4:=ne_ g2
    refine Inv.perm (O:=OH hv (hv o) (.froz (.list G.t) l)::(L++Fm)) ?_ ((h2 (.froz (.list G.t) l)).symm.append_right Fm)
    obtain⟨k,hk,hI'⟩:=h4.open_
    refine Inv.shut hI' ?_
    exact⟨hk,rfl,yx_ rfl h3,h3⟩
  · exact⟨S,PH.Le.refl S,hI⟩
theorem frz1_ble {o:Nat}:BLe ob (aq2 ob o):=by
  unfold aq2
  split
  · exact bl_ (by simp)
  · exact bl_ (by simp)
  · exact BLe.refl _
theorem frz1_keep {o:Nat}:Keep ob (aq2 ob o):=by
  unfold aq2
  split
  · rename_i t T l ho
    exact cj_ ho trivial
  · rename_i G l ho
    exact cj_ ho trivial
  · exact Keep.refl _
theorem bc0 {o:Nat} (h:WfO ob):WfO (aq2 ob o):=by
  unfold aq2
  split
  · exact ej_ (by simp) h rfl
  · exact ej_ (by simp) h rfl
  · exact h
theorem cm7 {o:Nat}:(aq2 ob o).length=ob.length:=by
  unfold aq2
  split
  · simp
  · simp
  · rfl
end
section
variable {Fm:List HP} {w:World} {hv:Nat→Value}
theorem xi_:∀ {os:List Nat} {ob:List AO} {S:PH},Inv w S (OHs hv 0 ob++Fm)→∃ S',S.Le S'∧Inv w S' (OHs hv 0 (vi_ ob os)++Fm)
  | [],ob,S,h=>⟨S,PH.Le.refl S,h⟩
  | o::os,ob,S,h=>by
    obtain⟨S1,a,b⟩:=bx3 (o:=o) h
    obtain⟨S2,c,d⟩:=xi_ (os:=os) b
    exact⟨S2,a.trans c,d⟩
theorem frzL_ble:∀ {os:List Nat} {ob:List AO},BLe ob (vi_ ob os)
  | [],ob=>BLe.refl _
  | o::os,ob=>frz1_ble.trans (frzL_ble (os:=os))
theorem frzL_keep:∀ {os:List Nat} {ob:List AO},Keep ob (vi_ ob os)
  | [],ob=>Keep.refl _
  | o::os,ob=>frz1_keep.trans (frzL_keep (os:=os))
theorem sa_:∀ {os:List Nat} {ob:List AO},WfO ob→WfO (vi_ ob os)
  | [],ob,h=>h
  | o::os,ob,h=>sa_ (os:=os) (bc0 h)
theorem bb9:∀ {os:List Nat} {ob:List AO},(vi_ ob os).length=ob.length
  | [],ob=>rfl
  | o::os,ob=>(bb9 (os:=os)).trans cm7
theorem Sit.frz {S:PH} {sl:Nat→AV} {ob:List AO} {f:Fr} (h:Sit S hv Fm sl ob f w) (os:List Nat):∃ S',S.Le S'∧Sit S' hv Fm (rsl (vi_ ob os) sl) (vi_ ob os) f w:=by
  obtain⟨S',h1,h2⟩:=xi_ (os:=os) h.inv
  exact⟨S',h1,Sit.rs ⟨h2,λd=>RA.mono h1 (h.rel d),λd=>AV.lt_mono frzL_ble (h.wfs d),sa_ h.wfo,h.gl.mono h1⟩⟩
end
theorem OpUn.frz {P:Program} [Tb P] {o:Oper} {sl:Nat→AV} {ob ob':List AO} {av:AV} {os:List Nat} (h:OpUn P o (rsl (vi_ ob os) sl) (vi_ ob os) av ob'):OpUn P o sl ob av ob':=by
  intro S hv Fm f w n ro K hs hd kk
  obtain⟨S1,h1,hs1⟩:=hs.frz os
  exact h hs1 hd λv S' hv' w' a b c d e g i j=>kk v S' hv' w' (frzL_ble.trans a) (frzL_keep.trans b) c d (h1.trans e) (λo ho=>g o (frzL_ble o ho)) i j
theorem OpUn.rest {P:Program} [Tb P] {o:Oper} {sl:Nat→AV} {ob ob':List AO} {av:AV} {m:Nat} (h:OpUn P o sl (we_ ob m) av ob'):OpUn P o sl ob av ob':=by
  intro S hv Fm f w n ro K hs hd kk
  obtain⟨b1,b2,b3⟩:=st_ (ob:=ob) m
  have hs1:Sit S hv Fm sl (we_ ob m) f w:=⟨ab7 hs.inv m,hs.rel,λd=>AV.lt_mono b1 (hs.wfs d),b3 hs.wfo,hs.gl⟩
  exact h hs1 hd λv S' hv' w' a b c d e g i j=>kk v S' hv' w' (b1.trans a) (b2.trans b) c d e (λo ho=>g o (b1 o ho)) i j
theorem OpUn.rs {P:Program} [Tb P] {o:Oper} {sl:Nat→AV} {ob ob':List AO} {av:AV} (h:OpUn P o (rsl ob sl) ob av ob'):OpUn P o sl ob av ob':=OpUn.frz (os:=[]) h
def idsS:SV→List Nat
  | .row o | .ptr o _ | .ptrE o _ _ _ _ | .map o | .fn o | .arr o=>[o]
  | _=>[]
def idsL:List SV→List Nat
  | []=>[]
  | s::l=>idsS s++idsL l
def idsB:BV→List Nat
  | .one s=>idsS s
  | .agg l=>idsL l
  | _=>[]
def ct7:AV→List Nat
  | .b x=>idsB x
  | .tup l=>go l
 where go:List BV→List Nat
  | []=>[]
  | x::l=>idsB x++go l
def idsX (env:Nat→AV):List Operand→List Nat
  | []=>[]
  | x::l=>ct7 (evA env x)++idsX env l
def fzIds (o:Oper) (sl:Nat→AV):List Nat:=cond (cm2 o) [] (match o.op with
  | .buildSlice _ _ ps=>idsX sl (ps.toList.map (·.2))
  | .store _ p v=>match evA sl p with
    | .b (.one (.ptrE _ _ _ _ _))=>ct7 (evA sl v)
    | _=>[]
  | _=>[])
end
section
variable [Gb]
def cw2 (P:Program) [Tb P] (g:AV) (args:List AV) (objs:List AO) (av:AV) (objs':List AO):Prop :=
  ∀ {S:PH} {hv:Nat→Value} {Fm:List HP} {w:World} {gv:Value} {vs:List Value},GlS S→Inv w S (OHs hv 0 objs++Fm)→WfO objs→RA hv S g gv→Fa (RA hv S) args vs→(∀ a ∈ args,a.lt objs=true) →
    ∃ (kf:FuncId) (cap:List Value),gv = .func (.func kf) #[] cap.toArray∧eu_ P kf ∧
      Calls P kf (vs++cap).toArray w λe w'=>∃ v S' hv',e = .returned v∧BLe objs objs'∧Keep objs objs'∧WfO objs'∧av.lt objs'=true∧S.Le S'∧Ag objs hv hv'∧RA hv' S' av v∧Inv w' S' (OHs hv' 0 objs'++Fm)
structure Cx (P:Program) [Tb P] where
  need:Oper→Nat
  call:(ρ:Type)→Oper→(Nat→AV)→List AO→Nat→(AV→List AO→Option ρ)→Option ρ
  ok:∀ {ρ:Type} {o:Oper} {sl:Nat→AV} {objs:List AO} {fr:Nat} {k:AV→List AO→Option ρ} {r:ρ},call ρ o sl objs fr k=some r→∃ av objs',k av objs'=some r∧OpUn P o sl objs av objs'
  callV:(ρ:Type)→AV→List AV→List AO→(AV→List AO→Option ρ)→Option ρ
  okV:∀ {ρ:Type} {g:AV} {args:List AV} {objs:List AO} {k:AV→List AO→Option ρ} {r:ρ},callV ρ g args objs k=some r→∃ av objs',k av objs'=some r∧cw2 P g args objs av objs'
def isNew:Op→Bool
  | .box _ _ | .alloc _ | .buildSlice _ _ _ | .makeSlice _ _ _ | .makeFunc _ _ _ | .makeMap _ _ | .slice _ _ _ _ _=>true
  | .call ⟨.builtin .append,_,_⟩=>true
  | _=>false
def bb1:Op→Bool
  | .call ⟨.builtin _,_,_⟩=>false
  | .call _=>true
  | _=>false
def updA (sl:Nat→AV) (d:Nat) (v:AV):Nat→AV:=λi=>cond (Nat.beq i d) v (sl i)
def stA (s:A) (d:Option Nat) (av:AV) (ob:List AO):A:=⟨match d with
  | some d=>updA s.slot d av
  | none=>s.slot,ob⟩
def unA:AV→Bool
  | .tup []=>true
  | _=>false
theorem bm3 {hv:Nat→Value} {S:PH} {a:AV} {v:Value} (h:unA a=true) (hr:RA hv S a v):v=undef:=by
  unfold unA at h
  split at h
  · obtain⟨vs,e,hf⟩:=hr
    cases vs with
    | nil=>exact e
    | cons _ _=>exact hf.elim
  · cases h
theorem un_ra {hv:Nat→Value} {S:PH}:RA hv S (.tup []) undef:=⟨[],rfl,trivial⟩
section
variable {ρ:Type} {P:Program} [Tb P]
def frcS (s:SV) (k:SV→Option ρ):Option ρ:=match s with
  | .dead=>k .dead
  | .val t x=>k (.val t x)
  | .nils=>k .nils
  | .nilp=>k .nilp
  | .nilm=>k .nilm
  | .row o=>k (.row o)
  | .ptr o i=>k (.ptr o i)
  | .ptrE o i j z p=>k (.ptrE o i j z p)
  | .map o=>k (.map o)
  | .fn o=>k (.fn o)
  | .arr o=>k (.arr o)
def frcA (a:AV) (k:AV→Option ρ):Option ρ:=match a with
  | .b .dead=>k (.b .dead)
  | .b (.one s)=>frcS s λs=>k (.b (.one s))
  | .b (.val t x)=>k (.b (.val t x))
  | .b (.agg l)=>k (.b (.agg l))
  | .tup l=>k (.tup l)
def frcO (a:AO) (k:AO→Option ρ):Option ρ:=match a with
  | .unborn=>k .unborn
  | .gone=>k .gone
  | .row t T l r=>k (.row t T l r)
  | .cells T l r=>k (.cells T l r)
  | .map a b m r=>k (.map a b m r)
  | .fn f a b=>k (.fn f a b)
  | .froz t x=>k (.froz t x)
  | .grid G l h r=>k (.grid G l h r)
  | .yld Y st r=>k (.yld Y st r)
def cu3:List AO→(List AO→Option ρ)→Option ρ
  | [],k=>k []
  | a::l,k=>frcO a λa=>cu3 l λl=>k (a::l)
theorem frcS_eq (s:SV) (k:SV→Option ρ):frcS s k=k s:=by cases s<;>rfl
theorem af8 (a:AV) (k:AV→Option ρ):frcA a k=k a:=by
  cases a with
  | b x =>
    cases x with
    | one s=>exact frcS_eq s λs=>k (.b (.one s))
    | _=>rfl
  | tup l=>rfl
theorem frcO_eq (a:AO) (k:AO→Option ρ):frcO a k=k a:=by cases a<;>rfl
theorem af7:∀ (l:List AO) (k:List AO→Option ρ),cu3 l k=k l
  | [],_=>rfl
  | a::l,k=>by unfold cu3;rw[frcO_eq,af7]
def yv_ (cx:Cx P) (o:Oper) (sl:Nat→AV) (objs:List AO) (fr:Nat) (k:AV→List AO→Option ρ):Option ρ :=
  cond (bb1 o.op) (cx.call ρ o (rsl objs sl) objs fr k) (ch1 P o (rsl objs sl) objs fr k)
def bn3 (cx:Cx P) (o:Oper) (sl:Nat→AV) (objs:List AO) (fr:Nat) (k:AV→List AO→Option ρ):Option ρ :=
  cond (cm2 o) (yv_ cx o sl (we_ objs objs.length) fr k) (yv_ cx o sl (vi_ objs (fzIds o sl)) fr k)
def ndO (cx:Cx P) (o:Oper):Nat:=cond (isNew o.op||cm2 o) 1 (cx.need o)
def run1 (cx:Cx P) (n:Nat) (o:Oper) (s:A) (k:A→Option ρ):Option ρ :=
  cond (ew_ n o.dst) (bn3 cx o s.slot (s.objs++List.replicate (ndO cx o) .unborn) s.objs.length λav ob=>frcA av λav=>cu3 ob λob=>k (stA s o.dst av ob)) none
def tg_ (cx:Cx P) (n:Nat) (all:List Oper):List Oper→A→(A→Option ρ)→Option ρ
  | [],s,k=>k s
  | o::os,s,k=>match o.guard with
    | none=>run1 cx n o s λs=>tg_ cx n all os s k
    | some (j,b)=>(all[j]?).bind λoj=>oj.dst.bind λd=>cond (Nat.blt d n) (cond (unA (s.slot d)) (cond (ew_ n o.dst) (tg_ cx n all os (stA s o.dst (.tup []) s.objs) k) none) ((asD .bool (s.slot d)).bind λc =>
        cond c (cond b (run1 cx n o (stA s (some d) (bV true) s.objs) λs=>tg_ cx n all os s k) (cond (ew_ n o.dst) (tg_ cx n all os (stA (stA s (some d) (bV true) s.objs) o.dst (.tup []) s.objs) k) none))
          (cond b (cond (ew_ n o.dst) (tg_ cx n all os (stA (stA s (some d) (bV false) s.objs) o.dst (.tup []) s.objs) k) none) (run1 cx n o (stA s (some d) (bV false) s.objs) λs=>tg_ cx n all os s k)))) none
end
def Rl (S0:PH) (hv0:Nat→Value) (ob0:List AO) (Fm:List HP) (s:A) (f:Fr) (w:World):Prop :=
  ∃ S hv Ds,S0.Le S∧Ag ob0 hv0 hv∧BLe ob0 s.objs∧Sit S hv (ai8 Ds::Fm) s.slot s.objs f w∧f.ds=ck7 Ds
theorem Ag.trans {l:List AO} {a b c:Nat→Value} (h:Ag l a b) (k:Ag l b c):Ag l a c:=λi hi=>(h i hi).trans (k i hi)
theorem Ag.sub {l m:List AO} {a b:Nat→Value} (h:Ag m a b) (hl:BLe l m):Ag l a b:=λi hi=>h i (hl i hi)
theorem bm0 {hv:Nat→Value} {S:PH} {sl:Nat→AV} {f:Fr} {d:Nat} {av:AV} {v:Value} (h:∀ i,RA hv S (sl i) (f i)) (hr:RA hv S av v):∀ i,RA hv S (updA sl d av i) (upd f d v i):=by
  intro i
  show RA hv S (cond (Nat.beq i d) av (sl i)) (cond (Nat.beq i d) v (f i))
  cases Nat.beq i d with
  | true=>exact hr
  | false=>exact h i
theorem Sit.put {S:PH} {hv:Nat→Value} {Fm:List HP} {s:A} {f:Fr} {w:World} (h:Sit S hv Fm s.slot s.objs f w) {d:Option Nat} {av:AV} {v:Value} (hr:RA hv S av v) (hl:av.lt s.objs=true) :
    Sit S hv Fm (stA s d av s.objs).slot s.objs (vu_ f d v) w:=by
  cases d with
  | none=>exact h
  | some d=>exact⟨h.inv,bm0 h.rel hr,λi=>by
      show (cond (Nat.beq i d) av (s.slot i)).lt s.objs=true
      cases Nat.beq i d with
      | true=>exact hl
      | false=>exact h.wfs i,h.wfo,h.gl⟩
theorem so_ {f:Fr} {d:Option Nat} {v:Value}:(vu_ f d v).ds=f.ds:=by cases d<;>rfl
theorem zi_ (hv:Nat→Value):∀ (k i:Nat),OHs hv i (List.replicate k .unborn)=List.replicate k (HP.exact Hp.emp)
  | 0,_=>rfl
  | k+1,i=>by
    rw[m2_,m2_]
    simp only[OHs]
    rw[zi_ hv k (i+1)]
    rfl
theorem bb2 {w:World} {S:PH} {O:List HP} (h:Inv w S O):∀ k,Inv w S (List.replicate k (HP.exact Hp.emp)++O)
  | 0=>h
  | k+1=>by rw[m2_];exact ne_ (bb2 h k)
theorem vm_ {l:List AO} {k o:Nat}:born l o=true→born (l++List.replicate k .unborn) o=true:=by
  intro h
  obtain⟨a,h1,h2⟩:=ba_.1 h
  refine ba_.2 ⟨a,?_,h2⟩
  rw[b2_ (a3_.1 h1).1]
  exact h1
theorem Sit.ext {S:PH} {hv:Nat→Value} {Fm:List HP} {sl:Nat→AV} {objs:List AO} {f:Fr} {w:World} (h:Sit S hv Fm sl objs f w) (k:Nat):Sit S hv Fm sl (objs++List.replicate k .unborn) f w where
  inv:=by
    rw[OHs.app,zi_]
    have:=bb2 h.inv k
    refine this.perm ?_
    rw[← b5_]
    exact List.perm_append_comm.append_right Fm
  rel:=h.rel
  wfs d:=AV.lt_mono (λ_=>vm_) (h.wfs d)
  wfo a ha:=by
    rcases b8_.1 ha with h1 | h1
    · exact AO.lt_mono (λ_=>vm_) (h.wfo a h1)
    · obtain rfl:=List.eq_of_mem_replicate h1;rfl
  gl:=h.gl
theorem rh_ {s:A} {dd:Option Nat} {av:AV} {ob:List AO} {d:Nat} (h:dd≠some d):(stA s dd av ob).slot d=s.slot d:=by
  cases dd with
  | none=>rfl
  | some e =>
    have hb:Nat.beq d e=false:=by
      cases hb:Nat.beq d e with
      | false=>rfl
      | true=>rw[a6_ hb] at h;exact absurd rfl h
    show cond (Nat.beq d e) _ _=_
    rw[hb]
    rfl
section
variable {ρ:Type} {P:Program} [Tb P] {cx:Cx P} {n:Nat} {r:ρ} {ro:Option Nat} {S0:PH} {hv0:Nat→Value} {ob0:List AO} {Fm:List HP}
theorem aa6 {o:Oper} {sl:Nat→AV} {objs:List AO} {fr:Nat} {k:AV→List AO→Option ρ} (h:bn3 cx o sl objs fr k=some r):∃ av objs',k av objs'=some r∧OpUn P o sl objs av objs':=by
  unfold bn3 at h
  have go:∀ ob,yv_ cx o sl ob fr k=some r→∃ av objs',k av objs'=some r∧OpUn P o (rsl ob sl) ob av objs':=by
    intro ob h
    unfold yv_ at h
    cases hc:bb1 o.op with
    | true =>
      rw[hc] at h
      obtain⟨av,objs',h1,h2⟩:=cx.ok (show cx.call ρ o _ _ fr k=some r from h)
      exact⟨av,objs',h1,h2⟩
    | false =>
      rw[hc] at h
      obtain⟨av,objs',h1,h2⟩:=ch0 (show ch1 P o _ _ fr k=some r from h)
      exact⟨av,objs',h1,h2.un⟩
  cases hg:cm2 o with
  | true =>
    rw[hg] at h
    obtain⟨av,objs',h1,h2⟩:=go _ (show yv_ cx o sl (we_ objs objs.length) fr k=some r from h)
    exact⟨av,objs',h1,OpUn.rest (OpUn.rs h2)⟩
  | false =>
    rw[hg] at h
    obtain⟨av,objs',h1,h2⟩:=go _ (show yv_ cx o sl (vi_ objs (fzIds o sl)) fr k=some r from h)
    exact⟨av,objs',h1,OpUn.frz h2⟩
def OpTo (P:Program) [Tb P] (n:Nat) (o:Oper) (s s':A):Prop:=(∀ d,o.dst≠some d→s'.slot d=s.slot d) ∧
  ∀ {ro:Option Nat} {S0:PH} {hv0:Nat→Value} {ob0:List AO} {Fm:List HP} {f:Fr} {w:World} {K:Fr→World→Prop},Rl S0 hv0 ob0 Fm s f w→(∀ f' w',Rl S0 hv0 ob0 Fm s' f' w'→Keep s.objs s'.objs→K f' w')→OP P n ro o f w K
theorem bp0 {o:Oper} {s:A} {k:A→Option ρ} (h:run1 cx n o s k=some r):∃ s',k s'=some r∧OpTo P n o s s':=by
  unfold run1 at h
  simp only[af8,af7] at h
  obtain⟨hd,h⟩:=bv_ h
  obtain⟨av,objs',h1,h2⟩:=aa6 h
  refine⟨_,h1,λd hne=>rh_ hne,λ{ro S0 hv0 ob0 Fm f w K} hr hk => ?_⟩
  obtain⟨S,hv,Ds,hle,hag,hbl,hs,hds⟩:=hr
  have hs2:=hs.ext (ndO cx o)
  refine h2 hs2 hd λv S' hv' w' x1 x2 x3 x4 a b c e => ?_
  have hb1:BLe s.objs (s.objs++List.replicate (ndO cx o) .unborn):=λ_=>vm_
  refine hk _ _ ⟨S',hv',Ds,hle.trans a,hag.trans (b.sub (hbl.trans hb1)),(hbl.trans hb1).trans x1,?_,by rw[so_];exact hds⟩ ?_
  · have hs3:Sit S' hv' (ai8 Ds::Fm) s.slot objs' f w':=⟨e,λi=>RA.mono a (RA.ag b (hs2.wfs i) (hs2.rel i)),λi=>AV.lt_mono x1 (hs2.wfs i),x3,hs2.gl.mono a⟩
    have:=Sit.put (s:=⟨s.slot,objs'⟩) hs3 (d:=o.dst) c x4
    cases hd2:o.dst <;> (rw[hd2] at this;exact this)
  · refine Keep.trans (b:=s.objs++List.replicate (ndO cx o) .unborn) (λp c hp=>⟨c,?_,K1.refl c⟩) ?_
    · rw[b2_ (a3_.1 hp).1];exact hp
    · have:(stA s o.dst av objs').objs=objs':=rfl
      rw[this]
      exact x2
theorem Rl.setB {s:A} {f:Fr} {w:World} {d:Nat} {c:Bool} (hr:Rl S0 hv0 ob0 Fm s f w) (hc:f d = .bool c):Rl S0 hv0 ob0 Fm (stA s (some d) (bV c) s.objs) f w:=by
  obtain⟨S,hv,Ds,hle,hag,hbl,hs,hds⟩:=hr
  refine⟨S,hv,Ds,hle,hag,hbl,⟨hs.inv,λi => ?_,λi => ?_,hs.wfo,hs.gl⟩,hds⟩
  · show RA hv S (cond (Nat.beq i d) (bV c) (s.slot i)) (f i)
    cases hb:Nat.beq i d with
    | true =>
      rw[a6_ hb,hc]
      exact tr_ c
    | false=>exact hs.rel i
  · show (cond (Nat.beq i d) (bV c) (s.slot i)).lt s.objs=true
    cases Nat.beq i d with
    | true=>rfl
    | false=>exact hs.wfs i
theorem Rl.bool {s:A} {f:Fr} {w:World} {d:Nat} {c:Bool} (hr:Rl S0 hv0 ob0 Fm s f w) (h:asD .bool (s.slot d)=some c):f d = .bool c:=by
  obtain⟨S,hv,Ds,hle,hag,hbl,hs,hds⟩:=hr
  exact en_ (hs.rel d) h
theorem Rl.un {s:A} {f:Fr} {w:World} {d:Option Nat} (hr:Rl S0 hv0 ob0 Fm s f w):Rl S0 hv0 ob0 Fm (stA s d (.tup []) s.objs) (vu_ f d undef) w:=by
  obtain⟨S,hv,Ds,hle,hag,hbl,hs,hds⟩:=hr
  exact⟨S,hv,Ds,hle,hag,hbl,hs.put un_ra rfl,by rw[so_];exact hds⟩
theorem Rl.isUn {s:A} {f:Fr} {w:World} {d:Nat} (hr:Rl S0 hv0 ob0 Fm s f w) (h:unA (s.slot d)=true):f d=undef:=by
  obtain⟨S,hv,Ds,hle,hag,hbl,hs,hds⟩:=hr
  exact bm3 h (hs.rel d)
structure LTo (P:Program) [Tb P] (n:Nat) (all os:List Oper) (s s':A):Prop where
  slot:∀ d,(∀ o ∈ all,o.dst≠some d)→s'.slot d=s.slot d
  run:∀ {ro:Option Nat} {S0:PH} {hv0:Nat→Value} {ob0:List AO} {Fm:List HP} {f:Fr} {w:World} {N:Fr→World→Prop},Rl S0 hv0 ob0 Fm s f w→(∀ f' w',Rl S0 hv0 ob0 Fm s' f' w'→Keep s.objs s'.objs→N f' w')→WL P n ro all.toArray N os f w
theorem pu_ {all:List Oper}:∀ {os:List Oper} {s:A} {k:A→Option ρ},(∀ o ∈ os,o ∈ all)→tg_ cx n all os s k=some r→∃ s',k s'=some r∧LTo P n all os s s'
  | [],s,k,_,h=>⟨s,h,λ_ _=>rfl,λhr hk=>ec_ (hk _ _ hr (Keep.refl _))⟩
  | o::os,s,k,hall,h=>by
    have hos:∀ q ∈ os,q ∈ all:=λq hq=>hall q (by simp[hq])
    have hoo:o ∈ all:=hall o (by simp)
    unfold tg_ at h
    split at h
    · rename_i hg
      obtain⟨s1,h1,t1,t3⟩:=bp0 h
      obtain⟨s2,h2,L⟩:=pu_ hos h1
      exact⟨s2,h2,λd hd=>(L.slot d hd).trans (t1 d (hd o hoo)),λhr hk=>uk_ hg (t3 hr λf1 w1 hr1 k1=>L.run hr1 λf2 w2 hr2 k2=>hk f2 w2 hr2 (k1.trans k2))⟩
    · rename_i j b hg
      obtain⟨oj,hj,h⟩:=bnd h
      obtain⟨d,hd,h⟩:=bnd h
      obtain⟨hdn,h⟩:=bv_ h
      have hjd0:(all.toArray[j]?).bind (·.dst)=some d:=by simp[hj,hd]
      cases hun:unA (s.slot d) with
      | true =>
        rw[hun] at h
        obtain⟨h0,h⟩:=bv_ (show cond (ew_ n o.dst) _ none=some r from h)
        obtain⟨s2,h2,L⟩:=pu_ hos h
        exact⟨s2,h2,λd' hd'=>(L.slot d' hd').trans (rh_ (hd' o hoo)),λ{ro S0 hv0 ob0 Fm f w N} hr hk =>
          bl0 hg hjd0 hdn (hr.isUn hun) h0 (L.run (Rl.un hr) hk)⟩
      | false =>
      rw[hun] at h
      obtain⟨c,hc,h⟩:=bnd (show Option.bind _ _=some r from h)
      have hjd:(all.toArray[j]?).bind (·.dst)=some d:=by simp[hj,hd]
      have hjn:∀ d',(∀ q ∈ all,q.dst≠some d')→(some d:Option Nat)≠some d':=λd' hd' e=>hd' oj (b9_ hj) (hd.trans e)
      have go:∀ c',c'=c→c'=b→run1 cx n o (stA s (some d) (bV c') s.objs) (λs=>tg_ cx n all os s k)=some r→∃ s',k s'=some r∧LTo P n all (o::os) s s':=λc' e e2 h=>by
        obtain⟨s1,h1,t1,t3⟩:=bp0 h
        obtain⟨s2,h2,L⟩:=pu_ hos h1
        exact⟨s2,h2,λd' hd'=>(L.slot d' hd').trans ((t1 d' (hd' o hoo)).trans (rh_ (hjn d' hd'))),λhr hk =>
          aw9 hg hjd hdn (hr.bool hc) (e ▸ e2) (t3 (by rw[e];exact hr.setB (hr.bool hc)) λf1 w1 hr1 k1=>L.run hr1 λf2 w2 hr2 k2=>hk f2 w2 hr2 (k1.trans k2))⟩
      have no:∀ c',c'=c→c' = !b→cond (ew_ n o.dst) (tg_ cx n all os (stA (stA s (some d) (bV c') s.objs) o.dst (.tup []) s.objs) k) none=some r→∃ s',k s'=some r∧LTo P n all (o::os) s s':=λc' e e2 h=>by
        obtain⟨h0,h⟩:=bv_ h
        obtain⟨s2,h2,L⟩:=pu_ hos h
        exact⟨s2,h2,λd' hd'=>(L.slot d' hd').trans ((rh_ (hd' o hoo)).trans (rh_ (hjn d' hd'))),λ{ro S0 hv0 ob0 Fm f w N} hr hk =>
          wl_skip hg hjd hdn (hr.bool hc) (e ▸ e2) h0 (L.run (Rl.un (s:=stA s (some d) (bV c') s.objs) (by rw[e];exact hr.setB (hr.bool hc))) hk)⟩
      cases c with
      | true=>cases b with
        | true=>exact go true rfl rfl h
        | false=>exact no true rfl rfl h
      | false=>cases b with
        | true=>exact no false rfl rfl h
        | false=>exact go false rfl rfl h
end
end
section
variable [Gb]
abbrev GD.at_ (G:GD) (t:Ty):GD:=⟨t,G.u,G.q,G.T,G.Ti⟩
inductive Sp1 where
  | v (d:Nat) (t:Ty)
  | r (d:Nat) (t:Ty) (T:TypeId)
  | a (d:Nat) (t:Ty) (T:TypeId)
  | o (o:Nat) (t:Ty)
  | b (o:Nat) (ks:List CK)
  | m (o:Nat) (k v:Ty)
  | g (o:Nat) (t:Ty)
  | x (o:Nat)
  | y (o:Nat)
def nm_:List CK→Type
  | []=>Unit
  | .keep::ks=>nm_ ks
  | .val t::ks=>t.den×nm_ ks
  | .row t _::ks=>List t.den×nm_ ks
def Sp1.den:Sp1→Type
  | .v _ t=>t.den
  | .r _ t _=>List t.den
  | .a _ t _=>t.den
  | .o _ t=>List t.den
  | .b _ ks=>nm_ ks
  | .m _ kt vt=>List (kt.den×vt.den)
  | .g _ t=>List t.den
  | .x _=>Unit
  | .y _=>Unit
def ev_:List Sp1→Type
  | []=>Unit
  | e::es=>e.den×ev_ es
def aj5 (t:Ty) (T:TypeId) (c:SV) (rem:List AO):Option (List t.den×List AO):=match c with
  | .nils=>some ([],rem)
  | .row o=>match rem[o]? with
    | some (.row t' T' l false)=>cond (Nat.beq T' T) ((ys_ t' t l).bind λm=>some (m,rem.set o .gone)) none
    | _=>none
  | _=>none
def oneR (t:Ty) (o:Nat) (l:List t.den) (rem:List AO):Option (t.den×List AO):=match l with
  | [x]=>some (x,rem.set o .gone)
  | _=>none
def ieq0:Int→Bool
  | .ofNat 0=>true
  | _=>false
def isEL {α:Type}:List α→Bool
  | []=>true
  | _=>false
def bm8 (t:Ty) (T:TypeId) (c:SV) (rem:List AO):Option (t.den×List AO):=match c with
  | .ptrE o i k z p=>match rem[o]? with
    | some (.row t' T' l false)=>cond (Nat.beq T' T&&Nat.beq z t.sz&&Nat.beq k 0&&ieq0 i&&isEL p) ((ys_ t' t l).bind λm=>oneR t o m rem) none
    | _=>none
  | _=>none
def ce7:(ks:List CK)→(cur:List SV)→(rem:List AO)→Option (nm_ ks×List AO)
  | [],[],rem=>some ((),rem)
  | .keep::ks,_::cs,rem=>ce7 ks cs rem
  | .val t::ks,c::cs,rem=>cond t.agg none ((asC t c).bind λx=>(ce7 ks cs rem).bind λq=>some ((x,q.1),q.2))
  | .row t T::ks,c::cs,rem=>(aj5 t T c rem).bind λp=>(ce7 ks cs p.2).bind λq=>some ((p.1,q.1),q.2)
  | _,_,_=>none
def getR (sl:Nat→AV) (d:Nat) (t:Ty) (T:TypeId) (rem:List AO):Option (List t.den×List AO):=match sl d with
  | .b (.one c)=>aj5 t T c rem
  | _=>none
def getA (sl:Nat→AV) (d:Nat) (t:Ty) (T:TypeId) (rem:List AO):Option (t.den×List AO):=match sl d with
  | .b (.one c)=>bm8 t T c rem
  | _=>none
def getO (ob:List AO) (o:Nat) (t:Ty) (rem:List AO):Option (List t.den×List AO):=match ob[o]? with
  | some (.row _ T _ _)=>match rem[o]? with
    | some (.row t' T' l false)=>cond (Nat.beq T' T) ((ys_ t' t l).bind λm=>some (m,rem.set o .gone)) none
    | _=>none
  | _=>none
def getB (ob:List AO) (o:Nat) (ks:List CK) (rem:List AO):Option (nm_ ks×List AO):=match ob[o]? with
  | some (.cells _ _ _)=>match rem[o]? with
    | some (.cells _ c _)=>ce7 ks c (rem.set o .gone)
    | _=>none
  | _=>none
theorem ca6 {k v k' v':Ty} (h:cond (k.eqb k') (v.eqb v') false=true):k=k':=by
  cases h1:k.eqb k' with
  | true=>exact Ty.eqb_eq h1
  | false=>rw[h1] at h;cases h
theorem be5 {k v k' v':Ty} (h:cond (k.eqb k') (v.eqb v') false=true):v=v':=by
  cases h1:k.eqb k' with
  | true=>rw[h1] at h;exact Ty.eqb_eq h
  | false=>rw[h1] at h;cases h
def castM (k v k' v':Ty) (m:List (k.den×v.den)):Option (List (k'.den×v'.den)):=if h:cond (k.eqb k') (v.eqb v') false=true then some (ca6 h ▸ be5 h ▸ m) else none
theorem bj9 {k v k' v':Ty} {m:List (k.den×v.den)} {y:List (k'.den×v'.den)} (h:castM k v k' v' m=some y):∃ (e1:k=k') (e2:v=v'),y=e1 ▸ e2 ▸ m:=by
  unfold castM at h
  split at h
  · rename_i hc;exact⟨ca6 hc,be5 hc,(a5_ h).symm⟩
  · cases h
def getM (ob:List AO) (o:Nat) (k v:Ty) (rem:List AO):Option (List (k.den×v.den)×List AO):=match ob[o]? with
  | some (.map _ _ _ _)=>match rem[o]? with
    | some (.map k' v' l false)=>(castM k' v' k v l).bind λm=>some (m,rem.set o .gone)
    | _=>none
  | _=>none
def bw9 (ob:List AO) (o:Nat) (t:Ty) (rem:List AO):Option (List t.den×List AO):=match ob[o]? with
  | some (.grid G0 _ _ _)=>match rem[o]? with
    | some (.grid G l none false)=>cond (G.t.eqb G0.t&&G.u.eqb G0.u&&eqL G.q G0.q&&Nat.beq G.T G0.T&&Nat.beq G.Ti G0.Ti) ((ys_ G.t t l).bind λm=>some (m,rem.set o .gone)) none
    | _=>none
  | _=>none
def getY (ob:List AO) (o:Nat) (rem:List AO):Option (Unit×List AO):=match ob[o]? with
  | some (.yld _ _ _)=>match rem[o]? with
    | some (.yld _ .rdy false)=>some ((),rem.set o .gone)
    | _=>none
  | _=>none
def get1 (ob:List AO) (sl:Nat→AV):(e:Sp1)→(rem:List AO)→Option (e.den×List AO)
  | .v d t,rem=>(asD t (sl d)).bind λx=>some (x,rem)
  | .r d t T,rem=>getR sl d t T rem
  | .a d t T,rem=>getA sl d t T rem
  | .o o t,rem=>getO ob o t rem
  | .b o ks,rem=>getB ob o ks rem
  | .m o k v,rem=>getM ob o k v rem
  | .g o t,rem=>bw9 ob o t rem
  | .x _,rem=>some ((),rem)
  | .y o,rem=>getY ob o rem
def getS (ob:List AO) (sl:Nat→AV):(es:List Sp1)→(rem:List AO)→Option (ev_ es)
  | [],_=>some ()
  | e::es,rem=>(get1 ob sl e rem).bind λp=>(getS ob sl es p.2).bind λy=>some (p.1,y)
def oh_:AO→AO
  | .cells T c _=>.cells T c (List.range c.length)
  | .row t T l _=>.row t T l true
  | .map k v m _=>.map k v m true
  | .grid G l h _=>.grid G l h true
  | .yld Y st _=>.yld Y st true
  | a=>a
def listed:List Sp1→Nat→Bool
  | [],_=>false
  | .o o _::es,i=>Nat.beq o i||listed es i
  | .b o _::es,i=>Nat.beq o i||listed es i
  | .m o _ _::es,i=>Nat.beq o i||listed es i
  | .g o _::es,i=>Nat.beq o i||listed es i
  | .x o::es,i=>Nat.beq o i||listed es i
  | .y o::es,i=>Nat.beq o i||listed es i
  | _::es,i=>listed es i
def inL:Nat→List Nat→Bool
  | _,[]=>false
  | i,a::l=>Nat.beq i a||inL i l
def mvS (sl:Nat→AV) (ob:List AO):List Sp1→List Nat
  | []=>[]
  | .r d _ _::es=>match sl d with
    | .b (.one (.row o))=>o::mvS sl ob es
    | _=>mvS sl ob es
  | .a d _ _::es=>match sl d with
    | .b (.one (.ptrE o _ _ _ _))=>o::mvS sl ob es
    | _=>mvS sl ob es
  | .b o ks::es=>(match ob[o]? with
    | some (.cells _ c _)=>mvC ks c
    | _=>[])++mvS sl ob es
  | _::es=>mvS sl ob es
 where mvC:List CK→List SV→List Nat
  | .row _ _::ks,.row o::cs=>o::mvC ks cs
  | _::ks,_::cs=>mvC ks cs
  | _,_=>[]
def gn_ (mk:Bool) (es:List Sp1) (mv:List Nat):Nat→List AO→List AO
  | _,[]=>[]
  | i,a::l=>(match a with
    | .unborn=>.unborn
    | .gone=>.gone
    | a=>cond (listed es i||inL i mv) .gone (cond mk (oh_ a) a))::gn_ mk es mv (i+1) l
def no_:(ks:List CK)→(base:List SV)→nm_ ks→Nat→List SV×List AO
  | .keep::ks,b::bs,x,k=>let q:=no_ ks bs x k; (b::q.1,q.2)
  | .val t::ks,_::bs,x,k=>let q:=no_ ks bs x.2 k; (.val t x.1::q.1,q.2)
  | .row t T::ks,_::bs,x,k=>let q:=no_ ks bs x.2 (k+1); (.row k::q.1,.row t T x.1 false::q.2)
  | _,_,_,_=>([],[])
def roC:List CK→Nat→List Nat
  | [],_=>[]
  | .keep::ks,i=>i::roC ks (i+1)
  | _::ks,i=>roC ks (i+1)
def kg_ (mk:Bool) (ob:List AO):(e:Sp1)→e.den→A→A
  | .v d t,x,s=>⟨updA s.slot d (ofD t x),s.objs⟩
  | .r d t T,x,s=>⟨updA s.slot d (yi_ s.objs.length),s.objs++[.row t T x false]⟩
  | .a d t T,x,s=>⟨updA s.slot d (.b (.one (.ptrE s.objs.length 0 0 t.sz []))),s.objs++[.row t T [x] false]⟩
  | .o o t,x,s=>match ob[o]? with
    | some (.row _ T _ _)=>⟨s.slot,s.objs.set o (.row t T x false)⟩
    | _=>s
  | .b o ks,x,s=>match ob[o]? with
    | some (.cells T c ro)=>⟨s.slot,s.objs.set o (.cells T (no_ ks c x s.objs.length).1 (cond mk (roC ks 0) ro))++(no_ ks c x s.objs.length).2⟩
    | _=>s
  | .m o k v,x,s=>match ob[o]? with
    | some (.map _ _ _ _)=>⟨s.slot,s.objs.set o (.map k v x false)⟩
    | _=>s
  | .g o t,x,s=>match ob[o]? with
    | some (.grid G _ _ _)=>⟨s.slot,s.objs.set o (.grid (G.at_ t) x none false)⟩
    | _=>s
  | .x _,_,s=>s
  | .y o,_,s=>match ob[o]? with
    | some (.yld Y _ _)=>⟨s.slot,s.objs.set o (.yld Y .rdy false)⟩
    | _=>s
def up_ (mk:Bool) (ob:List AO):(es:List Sp1)→ev_ es→A→A
  | [],_,s=>s
  | e::es,x,s=>up_ mk ob es x.2 (kg_ mk ob e x.1 s)
def mc_ (mk:Bool) (asg:List Nat) (es:List Sp1) (mv:List Nat) (s:A) (x:ev_ es):A :=
  up_ mk s.objs es x ⟨λd=>cond (inL d asg) (.b .dead) (s.slot d),gn_ mk es mv 0 s.objs⟩
def okS (ob:List AO):List Sp1→Bool
  | []=>true
  | .o o _::es=>(match ob[o]? with
    | some (.row _ _ _ false)=>true
    | _=>false)&&!listed es o&&okS ob es
  | .b o ks::es=>(match ob[o]? with
    | some (.cells _ c ro)=>Nat.beq ks.length c.length&&fd_ (λj=>inL j (roC ks 0)) ro
    | _=>false)&&!listed es o&&okS ob es
  | .m o _ _::es=>(match ob[o]? with
    | some (.map _ _ _ false)=>true
    | _=>false)&&!listed es o&&okS ob es
  | .g o _::es=>(match ob[o]? with
    | some (.grid _ _ _ false)=>true
    | _=>false)&&!listed es o&&okS ob es
  | .x o::es=>(match ob[o]? with
    | some (.row _ _ _ false)=>true
    | _=>false)&&!listed es o&&okS ob es
  | .y o::es=>(match ob[o]? with
    | some (.yld _ _ false)=>true
    | _=>false)&&!listed es o&&okS ob es
  | _::es=>okS ob es
end
section
variable [Gb]
def OHeq (a b:AO):Prop:=∀ hv v,OH hv v a=OH hv v b
theorem OHeq.refl (a:AO):OHeq a a:=λ_ _=>rfl
theorem ba4 (a:AO):OHeq (oh_ a) a:=λhv v=>by cases a<;>rfl
def ar7 (es:List Sp1) (mv:List Nat):Nat→List AO→List AO→List AO
  | _,[],l=>l
  | _,_::_,[]=>[]
  | i,a::ob,b::l=>(match a with
    | .unborn=>b
    | .gone=>b
    | _=>cond (listed es i||inL i mv) b .gone)::ar7 es mv (i+1) ob l
theorem perm_a {α:Type} {b e:α} {A B X:List α}:(e::(A++(B++(b::X)))).Perm ((b::A)++((e::B)++X)):=by
  have h1:(A++(B++(b::X))).Perm (b::(A++(B++X))):=by
    rw[← b5_,← b5_]
    exact f0_
  have h2:((b::A)++((e::B)++X)).Perm (b::e::(A++(B++X))):=by
    simp only[l1_]
    exact List.Perm.cons b f0_
  exact (h1.cons e).trans ((List.Perm.swap b e _).trans h2.symm)
theorem br2 {α:Type} {b e:α} {A B X:List α}:(e::(A++(B++(b::X)))).Perm ((e::A)++((b::B)++X)):=by
  have h1:(A++(B++(b::X))).Perm (A++((b::B)++X)):=m7_ A f0_
  simpa using h1.cons e
section
variable {w:World} {S:PH} {hv hvT:Nat→Value}
theorem aj7 {mk:Bool} {es:List Sp1} {mv:List Nat}:∀ {ob l:List AO} {i:Nat} {X:List HP},ob.length≤l.length →
    (∀ (j:Nat) (a b:AO),ob[j]?=some a→l[j]?=some b→(listed es (i+j)||inL (i+j) mv)=false→a≠.unborn→a≠.gone→OHeq a b) →
    Inv w S (OHs hv i l++X)→Inv w S (OHs hv i (gn_ mk es mv i ob)++(OHs hv i (ar7 es mv i ob l)++X))
  | [],l,i,X,_,_,h=>h
  | a::ob,[],i,X,hl,_,_=>by simp at hl
  | a::ob,b::l,i,X,hl,hf,h=>by
    simp only[c5_] at hl
    have h1:Inv w S (OHs hv (i+1) l++(OH hv (hv i) b::X)):=h.perm List.perm_middle.symm
    have h2:=ne_ (aj7 (mk:=mk) (es:=es) (mv:=mv) (ob:=ob) (l:=l) (i:=i+1) (by omega) (λj a' b' ha hb hc hn hn2=>hf (j+1) a' b' (by simpa using ha) (by simpa using hb) (by rw[show i+(j+1)=i+1+j by omega];exact hc) hn hn2) h1)
    by_cases hu:a = .unborn
    · subst hu
      exact h2.perm br2
    by_cases hg:a = .gone
    · subst hg
      exact h2.perm br2
    · cases hc:(listed es i||inL i mv) with
      | true =>
        have e1:gn_ mk es mv i (a::ob) = .gone::gn_ mk es mv (i+1) ob:=by
          cases a<;>first | exact absurd rfl hu | exact absurd rfl hg | simp[gn_,hc]
        have e2:ar7 es mv i (a::ob) (b::l)=b::ar7 es mv (i+1) ob l:=by
          cases a<;>first | exact absurd rfl hu | exact absurd rfl hg | simp[ar7,hc]
        rw[e1,e2]
        exact h2.perm br2
      | false =>
        have e1:gn_ mk es mv i (a::ob)=(cond mk (oh_ a) a)::gn_ mk es mv (i+1) ob:=by
          cases a<;>first | exact absurd rfl hu | exact absurd rfl hg | simp[gn_,hc]
        have e2:ar7 es mv i (a::ob) (b::l) = .gone::ar7 es mv (i+1) ob l:=by
          cases a<;>first | exact absurd rfl hu | exact absurd rfl hg | simp[ar7,hc]
        rw[e1,e2]
        have e3:OH hv (hv i) (cond mk (oh_ a) a)=OH hv (hv i) b:=by
          have:=hf 0 a b rfl rfl hc hu hg hv (hv i)
          cases mk with
          | true=>rw[← this];exact ba4 a hv (hv i)
          | false=>exact this
        show Inv w S ((OH hv (hv i) (cond mk (oh_ a) a)::OHs hv (i+1) (gn_ mk es mv (i+1) ob))++((HP.exact Hp.emp::OHs hv (i+1) (ar7 es mv (i+1) ob l))++X))
        rw[e3]
        exact h2.perm perm_a
theorem mz_ {rem:List AO} {o:Nat} {a:AO} {X Fm:List HP} (ho:rem[o]?=some a) (h:Inv w S (X++(OHs hv 0 rem++Fm))):Inv w S (OH hv (hv o) a::(X++(OHs hv 0 (rem.set o .gone)++Fm))):=by
  obtain⟨L,h1,h2⟩:=OHs.focus (hv:=hv) (i:=0) ho
  rw[b0_] at h1 h2
  have h3:Inv w S (OH hv (hv o) a::(X++(L++Fm))):=by
    refine h.perm ?_
    have:(X++(OHs hv 0 rem++Fm)).Perm (X++((OH hv (hv o) a::L)++Fm)):=m7_ X (h1.append_right Fm)
    exact this.trans (f0_ (l₁:=X) (a:=OH hv (hv o) a) (l₂:=L++Fm))
  have h4:=ne_ h3
  refine h4.perm ?_
  have h5:(OHs hv 0 (rem.set o .gone)).Perm (HP.exact Hp.emp::L):=h2 .gone
  have h6:(X++(OHs hv 0 (rem.set o .gone)++Fm)).Perm (HP.exact Hp.emp::(X++(L++Fm))) :=
    (m7_ X (h5.append_right Fm)).trans (f0_ (l₁:=X) (a:=HP.exact Hp.emp) (l₂:=L++Fm))
  exact (List.Perm.swap _ _ _).trans (h6.symm.cons _)
theorem ax8 {t:Ty} {T:TypeId} {c:SV} {rem rem':List AO} {l:List t.den} {v:Value} {X Fm:List HP} (h:aj5 t T c rem=some (l,rem')) (hr:RS hv S c v) (hI:Inv w S (X++(OHs hv 0 rem++Fm))) :
    Inv w S (@Row t.den t.enc T v l::(X++(OHs hv 0 rem'++Fm))):=by
  unfold aj5 at h
  split at h
  · cases h
    have e:v = .slice none 0 0:=hr.2
    rw[e]
    exact hI.rowNil
  · rename_i o
    split at h
    · rename_i t' T' l' ho
      obtain⟨hT,h⟩:=bv_ h
      obtain⟨m,hm,h⟩:=bnd h
      cases h
      obtain⟨e1,e2⟩:=hp_ hm
      subst e1
      have hT:=a6_ hT
      subst hT
      have e:v=hv o:=hr.2
      have:=mz_ ho hI
      rw[e]
      have e3:l=l':=e2
      rw[e3]
      exact this
    · cases h
  · cases h
theorem cg3 {t:Ty} {T:TypeId} {c:SV} {rem rem':List AO} {x:t.den} {v:Value} {X Fm:List HP} (h:bm8 t T c rem=some (x,rem')) (hr:RS hv S c v) (hI:Inv w S (X++(OHs hv 0 rem++Fm))) :
    ∃ u,Inv w S (@Row t.den t.enc T u [x]::(X++(OHs hv 0 rem'++Fm)))∧(∃ a,v = .pointer (some a))∧v=be_ (cq_ u 0 t.sz) 0:=by
  unfold bm8 at h
  split at h
  · rename_i o i k z p
    split at h
    · rename_i t' T' l' ho
      obtain⟨hT,h⟩:=bv_ h
      obtain⟨m,hm,h⟩:=bnd h
      simp only[a2_] at hT
      obtain⟨⟨⟨⟨c1,c2⟩,c3⟩,c4⟩,c5⟩:=hT
      unfold oneR at h
      split at h
      · cases h
        obtain⟨e1,e2⟩:=hp_ hm
        subst e1
        have hT:=a6_ c1
        subst hT
        have hz:=a6_ c2
        have hk:=a6_ c3
        have hi:i=0:=by
          unfold ieq0 at c4
          split at c4
          · rfl
          · cases c4
        subst hz hk hi
        have:=mz_ ho hI
        have e3:[x]=l':=e2
        rw[e3]
        exact⟨hv o,this,hr.2.1,hr.2.2⟩
      · cases h
    · cases h
  · cases h
def AgN (k:Nat) (a b:Nat→Value):Prop:=∀ i,i<k→a i=b i
theorem ae6 {k:Nat} {v:Value} {h:Nat→Value}:AgN k h (ins h k v):=λi hi=>by
  have hb:Nat.beq i k=false:=by
    cases hb:Nat.beq i k with
    | false=>rfl
    | true=>have:=a6_ hb;omega
  simp[ins,hb]
theorem AgN.trans {k:Nat} {a b c:Nat→Value} (h:AgN k a b) (g:AgN k b c):AgN k a c:=λi hi=>(h i hi).trans (g i hi)
theorem AgN.le {k m:Nat} {a b:Nat→Value} (h:AgN m a b) (hk:k≤m):AgN k a b:=λi hi=>h i (by omega)
theorem born_lt {l:List AO} {o:Nat} (h:born l o=true):o<l.length:=by
  obtain⟨a,h1,_⟩:=ba_.1 h
  exact (a3_.1 h1).1
theorem AgN.ag {l:List AO} {k:Nat} {a b:Nat→Value} (h:AgN k a b) (hl:l.length≤k):Ag l a b:=λi hi=>h i (g0_ (born_lt hi) hl)
def ue_:List CK→List SV→List SV→Prop
  | [],[],[]=>True
  | .keep::ks,b::bs,c::cs=>c=b∧ue_ ks bs cs
  | .val _::ks,_::bs,_::cs=>ue_ ks bs cs
  | .row _ _::ks,_::bs,_::cs=>ue_ ks bs cs
  | _,_,_=>False
theorem getC_ok {ob:List AO} {Fm:List HP}:∀ (ks:List CK) (bs cs:List SV) (us:List Value) (rem rem':List AO) (x:nm_ ks) (k:Nat) (hvT:Nat→Value) (X:List HP),ce7 ks cs rem=some (x,rem') →
    ue_ ks bs cs→fd_ (SV.lt ob) bs=true→ob.length≤k→Ag ob hv hvT→Fa (RS hv S) cs us→Inv w S (X++(OHs hv 0 rem++Fm)) →
    ∃ hvT',AgN k hvT hvT'∧Fa (RS hvT' S) (no_ ks bs x k).1 us∧Inv w S (OHs hvT' k (no_ ks bs x k).2++(X++(OHs hv 0 rem'++Fm))):=by
  intro ks
  induction ks with
  | nil =>
    intro bs cs us rem rem' x k hvT X h hk hb hl ha hf hI
    cases cs with
    | cons c cs=>cases h
    | nil =>
      cases us with
      | cons u us=>exact hf.elim
      | nil =>
        cases h
        exact⟨hvT,λ_ _=>rfl,trivial,hI⟩
  | cons ck ks ih =>
    intro bs cs us rem rem' x k hvT X h hk hb hl ha hf hI
    cases cs with
    | nil=>cases ck<;>cases h
    | cons c cs =>
      cases us with
      | nil=>exact hf.elim
      | cons u us =>
        cases bs with
        | nil=>cases ck<;>exact hk.elim
        | cons b bs =>
          simp only[fd_,a2_] at hb
          cases ck with
          | keep =>
            obtain⟨hvT',g1,g2,g3⟩:=ih bs cs us rem rem' x k hvT X h hk.2 hb.2 hl ha hf.2 hI
            refine⟨hvT',g1,⟨?_,g2⟩,g3⟩
            have e:=hf.1
            rw[hk.1] at e
            exact RS.ag (ha.trans (g1.ag hl)) hb.1 e
          | val t =>
            have h:(cond t.agg none ((asC t c).bind λx=>(ce7 ks cs rem).bind λq=>some ((x,q.1),q.2)):Option (nm_ (.val t::ks)×List AO))=some (x,rem'):=h
            cases h0:t.agg with
            | true=>rw[h0] at h;cases h
            | false =>
              rw[h0] at h
              obtain⟨y,h1,h⟩:=bnd (show Option.bind _ _=some _ from h)
              obtain⟨q,h2,h⟩:=bnd h
              have h':=a5_ h
              obtain rfl:(y,q.1)=x:=congrArg Prod.fst h'
              obtain rfl:q.2=rem':=congrArg Prod.snd h'
              obtain⟨hvT',g1,g2,g3⟩:=ih bs cs us rem q.2 q.1 k hvT X h2 hk hb.2 hl ha hf.2 hI
              exact⟨hvT',g1,⟨⟨hf.1.1,h0,qg_ h0 hf.1 h1⟩,g2⟩,g3⟩
          | row t T =>
            have h:((aj5 t T c rem).bind λp=>(ce7 ks cs p.2).bind λq=>some ((p.1,q.1),q.2):Option (nm_ (.row t T::ks)×List AO))=some (x,rem'):=h
            obtain⟨p,h1,h⟩:=bnd h
            obtain⟨q,h2,h⟩:=bnd h
            have h':=a5_ h
            obtain rfl:(p.1,q.1)=x:=congrArg Prod.fst h'
            obtain rfl:q.2=rem':=congrArg Prod.snd h'
            have hI1:=ax8 h1 hf.1 hI
            have e0:AgN k hvT (ins hvT k u):=ae6
            obtain⟨hvT',g1,g2,g3⟩:=ih bs cs us p.2 q.2 q.1 (k+1) (ins hvT k u) (@Row t.den t.enc T u p.1::X) h2 hk hb.2 (by omega) (ha.trans (e0.ag hl)) hf.2 hI1
            have e1:hvT' k=u:=by rw[← g1 k (by omega),cx_]
            refine⟨hvT',e0.trans (g1.le (by omega)),⟨⟨hf.1.1,e1.symm⟩,g2⟩,?_⟩
            have e2:OHs hvT' k (no_ (.row t T::ks) (b::bs) (p.1,q.1) k).2=@Row t.den t.enc T u p.1::OHs hvT' (k+1) (no_ ks bs q.1 (k+1)).2:=by
              show OH hvT' (hvT' k) _::_=_
              rw[e1]
              rfl
            show Inv w S (OHs hvT' k (no_ (.row t T::ks) (b::bs) (p.1,q.1) k).2++_)
            rw[e2]
            exact g3.perm f0_
end
end
section
variable [Gb]
structure Jn (w:World) (S:PH) (hvT hv:Nat→Value) (ob:List AO) (Fm:List HP) (t:A) (rem:List AO) (f:Fr):Prop where
  inv:Inv w S (OHs hvT 0 t.objs++(OHs hv 0 rem++Fm))
  rel:∀ d,RA hvT S (t.slot d) (f d)
  wfs:WfS t.slot t.objs
  wfo:WfO t.objs
  ble:BLe ob t.objs
  len:ob.length≤t.objs.length
  ag:Ag ob hv hvT
section
variable {w:World} {S:PH} {hv hvT:Nat→Value} {ob:List AO} {Fm:List HP} {t:A} {rem:List AO} {f:Fr}
theorem bf5 {k:Nat} {a b:Nat→Value} (h:AgN k a b) {l:List AO} (hk:l.length≤k) (hw:WfO l):OHs a 0 l=OHs b 0 l:=OHs.agS (h.ag hk) hw
theorem vz_ {o:Nat} {a:AO} {l:List AO} {X:List HP} (ho:o<l.length) (h:Inv w S (OH hvT (hvT o) a::(OHs hvT 0 l++X))):Inv w S (OHs hvT 0 (l.set o a)++X):=by
  obtain⟨L,h1,h2⟩:=OHs.focus (hv:=hvT) (i:=0) (a7_ ho)
  rw[b0_] at h1 h2
  have h3:=(h.perm ((h1.append_right X).cons _)).swap.drop
  exact h3.perm ((h2 a).symm.append_right X)
theorem putC_lt {n:List AO}:∀ (ks:List CK) (bs:List SV) (x:nm_ ks) (k:Nat),fd_ (SV.lt n) bs=true→(∀ i,k≤i→i<k+(no_ ks bs x k).2.length→born n i=true)→fd_ (SV.lt n) (no_ ks bs x k).1=true:=by
  intro ks
  induction ks with
  | nil=>intro bs x k _ _;rfl
  | cons ck ks ih =>
    intro bs x k hb hn
    cases bs with
    | nil=>cases ck<;>rfl
    | cons b bs =>
      simp only[fd_,a2_] at hb
      cases ck with
      | keep =>
        show (SV.lt n b&&fd_ (SV.lt n) (no_ ks bs x k).1)=true
        rw[hb.1,ih bs x k hb.2 hn]
        rfl
      | val t =>
        show (true&&fd_ (SV.lt n) (no_ ks bs x.2 k).1)=true
        rw[ih bs x.2 k hb.2 hn]
        rfl
      | row t T =>
        have hn':∀ i,k≤i→i<k+((no_ ks bs x.2 (k+1)).2.length+1)→born n i=true:=hn
        show (born n k&&fd_ (SV.lt n) (no_ ks bs x.2 (k+1)).1)=true
        rw[hn' k (by omega) (by omega),ih bs x.2 (k+1) hb.2 λi h1 h2=>hn' i (by omega) (by omega)]
        rfl
theorem bq4 {n:List AO}:∀ (ks:List CK) (bs:List SV) (x:nm_ ks) (k:Nat),∀ a ∈ (no_ ks bs x k).2,a≠.unborn∧a.lt n=true:=by
  intro ks
  induction ks with
  | nil=>intro bs x k a ha;cases ha
  | cons ck ks ih =>
    intro bs x k a ha
    cases bs with
    | nil=>cases ck<;>cases ha
    | cons b bs =>
      cases ck with
      | keep=>exact ih bs x k a ha
      | val t=>exact ih bs x.2 k a ha
      | row t T =>
        rcases e1_.1 (show a ∈ .row t T x.1 false::(no_ ks bs x.2 (k+1)).2 from ha) with rfl | h
        · exact⟨by simp,rfl⟩
        · exact ih bs x.2 (k+1) a h
theorem jf_ {l m:List AO} {o:Nat} (h:born l o=true):born (l++m) o=true:=by
  obtain⟨a,h1,h2⟩:=ba_.1 h
  refine ba_.2 ⟨a,?_,h2⟩
  rw[b2_ (a3_.1 h1).1]
  exact h1
def Ky (ob rem:List AO):Prop:=∀ (o:Nat) (Y:Yld) (st:YS) (ro:Bool) (Y':Yld) (st':YS) (ro':Bool),ob[o]?=some (AO.yld Y st ro)→rem[o]?=some (AO.yld Y' st' ro')→Y'=Y
theorem put1_ok {mk:Bool} {sl:Nat→AV} {e:Sp1} {x:e.den} {rem1:List AO} (hsl:∀ d,RA hv S (sl d) (f d)) (hwo:WfO ob) (hJ:Jn w S hvT hv ob Fm t rem f)
    (hb:∀ o ks T c ro T' c' ro',e = .b o ks→ob[o]?=some (AO.cells T c ro)→rem[o]?=some (AO.cells T' c' ro')→T'=T∧ue_ ks c c') (hy:Ky ob rem) (h:get1 ob sl e rem=some (x,rem1)) :
    ∃ hvT',AgN t.objs.length hvT hvT'∧Jn w S hvT' hv ob Fm (kg_ mk ob e x t) rem1 f:=by
  cases e with
  | v d ty =>
    obtain⟨y,h1,h⟩:=bnd h
    cases h
    exact⟨hvT,λ_ _=>rfl,hJ.inv,λi=>by
      show RA hvT S (cond (Nat.beq i d) (ofD ty x) (t.slot i)) (f i)
      cases hi:Nat.beq i d with
      | true=>rw[a6_ hi];exact rt_ (gm_ (hsl d) h1)
      | false=>exact hJ.rel i,λi=>by
      show (cond (Nat.beq i d) (ofD ty x) (t.slot i)).lt t.objs=true
      cases Nat.beq i d with
      | true=>exact ba2
      | false=>exact hJ.wfs i,hJ.wfo,hJ.ble,hJ.len,hJ.ag⟩
  | r d ty T =>
    have h:getR sl d ty T rem=some (x,rem1):=h
    unfold getR at h
    split at h
    · rename_i c hc
      have hr:=hsl d
      rw[hc] at hr
      have hI:=ax8 h hr hJ.inv
      have e0:AgN t.objs.length hvT (ins hvT t.objs.length (f d)):=ae6
      have hb1:BLe t.objs (t.objs++[AO.row ty T x false]):=λ_=>jf_
      have hnew:born (t.objs++[AO.row ty T x false]) t.objs.length=true:=ba_.2 ⟨.row ty T x false,by simp,by simp⟩
      refine⟨_,e0,⟨?_,λi => ?_,λi => ?_,λa ha => ?_,hJ.ble.trans hb1,by show _≤(t.objs++_).length;rw[a8_];have:=hJ.len;omega,hJ.ag.trans (e0.ag hJ.len)⟩⟩
      · show Inv w S (OHs _ 0 (t.objs++[.row ty T x false])++_)
        rw[OHs.app,← bf5 e0 (c4_ _) hJ.wfo]
        show Inv w S ((OHs hvT 0 t.objs++[OH _ (ins hvT t.objs.length (f d) (0+t.objs.length)) _])++_)
        rw[b0_,cx_]
        refine hI.perm ?_
        simp only[b5_,q7_]
        exact List.perm_middle.symm
      · show RA _ S (cond (Nat.beq i d) (yi_ t.objs.length) (t.slot i)) (f i)
        cases hi:Nat.beq i d with
        | true =>
          rw[a6_ hi]
          exact⟨hr.1,(cx_ hvT t.objs.length (f d)).symm⟩
        | false=>exact RA.ag (e0.ag (c4_ _)) (hJ.wfs i) (hJ.rel i)
      · show (cond (Nat.beq i d) (yi_ t.objs.length) (t.slot i)).lt (t.objs++[AO.row ty T x false])=true
        cases Nat.beq i d with
        | true=>exact hnew
        | false=>exact AV.lt_mono hb1 (hJ.wfs i)
      · rcases b8_.1 ha with h1 | h1
        · exact AO.lt_mono hb1 (hJ.wfo a h1)
        · simp at h1;subst h1;rfl
    · cases h
  | a d ty T =>
    have h:getA sl d ty T rem=some (x,rem1):=h
    unfold getA at h
    split at h
    · rename_i c hc
      have hr:=hsl d
      rw[hc] at hr
      obtain⟨u,hI,hp1,hp2⟩:=cg3 h hr hJ.inv
      have e0:AgN t.objs.length hvT (ins hvT t.objs.length u):=ae6
      have hb1:BLe t.objs (t.objs++[AO.row ty T [x] false]):=λ_=>jf_
      have hnew:born (t.objs++[AO.row ty T [x] false]) t.objs.length=true:=ba_.2 ⟨.row ty T [x] false,by simp,by simp⟩
      refine⟨_,e0,⟨?_,λi => ?_,λi => ?_,λa ha => ?_,hJ.ble.trans hb1,by show _≤(t.objs++_).length;rw[a8_];have:=hJ.len;omega,hJ.ag.trans (e0.ag hJ.len)⟩⟩
      · show Inv w S (OHs _ 0 (t.objs++[.row ty T [x] false])++_)
        rw[OHs.app,← bf5 e0 (c4_ _) hJ.wfo]
        show Inv w S ((OHs hvT 0 t.objs++[OH _ (ins hvT t.objs.length u (0+t.objs.length)) _])++_)
        rw[b0_,cx_]
        refine hI.perm ?_
        simp only[b5_,q7_]
        exact List.perm_middle.symm
      · show RA _ S (cond (Nat.beq i d) (.b (.one (.ptrE t.objs.length 0 0 ty.sz []))) (t.slot i)) (f i)
        cases hi:Nat.beq i d with
        | true =>
          rw[a6_ hi]
          exact⟨hr.1,hp1,by rw[cx_];exact hp2⟩
        | false=>exact RA.ag (e0.ag (c4_ _)) (hJ.wfs i) (hJ.rel i)
      · show (cond (Nat.beq i d) (.b (.one (.ptrE t.objs.length 0 0 ty.sz []))) (t.slot i)).lt (t.objs++[AO.row ty T [x] false])=true
        cases Nat.beq i d with
        | true=>exact hnew
        | false=>exact AV.lt_mono hb1 (hJ.wfs i)
      · rcases b8_.1 ha with h1 | h1
        · exact AO.lt_mono hb1 (hJ.wfo a h1)
        · simp at h1;subst h1;rfl
    · cases h
  | o o ty =>
    have h:getO ob o ty rem=some (x,rem1):=h
    unfold getO at h
    split at h
    · rename_i t0 T l0 r0 ho
      split at h
      · rename_i t' T' l hr
        obtain⟨hT,h⟩:=bv_ h
        obtain⟨m,hm,h⟩:=bnd h
        cases h
        obtain⟨e1,e2⟩:=hp_ hm
        subst e1
        have hT:=a6_ hT
        subst hT
        have e3:x=l:=e2
        subst e3
        have hlt:o<ob.length:=(a3_.1 ho).1
        have hbo:born ob o=true:=ba_.2 ⟨_,ho,by simp⟩
        have hI:=mz_ hr hJ.inv
        have e4:OH hv (hv o) (.row t' T' x false)=OH hvT (hvT o) (.row t' T' x false):=by
          show @Row t'.den t'.enc T' (hv o) x=@Row t'.den t'.enc T' (hvT o) x
          rw[hJ.ag o hbo]
        rw[e4] at hI
        have hn:AO.row t' T' x false≠.unborn:=by simp
        have e5:kg_ mk ob (.o o t') x t=⟨t.slot,t.objs.set o (.row t' T' x false)⟩:=by simp[kg_,ho]
        rw[e5]
        exact⟨hvT,λ_ _=>rfl,vz_ (g0_ hlt hJ.len) hI,hJ.rel,λi=>AV.lt_mono (bl_ hn) (hJ.wfs i),ej_ hn hJ.wfo rfl,hJ.ble.trans (bl_ hn),by simpa using hJ.len,hJ.ag⟩
      · cases h
    · cases h
  | m o k v =>
    have h:getM ob o k v rem=some (x,rem1):=h
    unfold getM at h
    split at h
    · rename_i k0 v0 l0 r0 ho
      split at h
      · rename_i k' v' l hr
        obtain⟨m,hm,h⟩:=bnd h
        cases h
        obtain⟨e1,e2,e3⟩:=bj9 hm
        subst e1
        subst e2
        have e3:x=l:=e3
        subst e3
        have hlt:o<ob.length:=(a3_.1 ho).1
        have hbo:born ob o=true:=ba_.2 ⟨_,ho,by simp⟩
        have hI:=mz_ hr hJ.inv
        have e4:OH hv (hv o) (.map k' v' x false)=OH hvT (hvT o) (.map k' v' x false):=by
          show MapA (hv o) k' v' x=MapA (hvT o) k' v' x
          rw[hJ.ag o hbo]
        rw[e4] at hI
        have hn:AO.map k' v' x false≠.unborn:=by simp
        have e5:kg_ mk ob (.m o k' v') x t=⟨t.slot,t.objs.set o (.map k' v' x false)⟩:=by simp[kg_,ho]
        rw[e5]
        exact⟨hvT,λ_ _=>rfl,vz_ (g0_ hlt hJ.len) hI,hJ.rel,λi=>AV.lt_mono (bl_ hn) (hJ.wfs i),ej_ hn hJ.wfo rfl,hJ.ble.trans (bl_ hn),by simpa using hJ.len,hJ.ag⟩
      · cases h
    · cases h
  | x o =>
    have h:some ((),rem)=some (x,rem1):=h
    cases h
    exact⟨hvT,λ_ _=>rfl,hJ⟩
  | y o =>
    have h:getY ob o rem=some (x,rem1):=h
    unfold getY at h
    split at h
    · rename_i Y0 st0 r0 ho
      split at h
      · rename_i Y hr
        cases h
        obtain rfl:=hy o Y0 st0 r0 Y .rdy false ho hr
        have hlt:o<ob.length:=(a3_.1 ho).1
        have hbo:born ob o=true:=ba_.2 ⟨_,ho,by simp⟩
        have hI:=mz_ hr hJ.inv
        have hlt2:(AO.yld Y .rdy false).lt ob=true:=(show (AO.yld Y st0 r0).lt ob=true from hwo _ (b9_ ho))
        have e4:OH hv (hv o) (.yld Y .rdy false)=OH hvT (hvT o) (.yld Y .rdy false):=by
          rw[hJ.ag o hbo]
          exact OH.ag hJ.ag (λi hi=>(hJ.ag i hi).symm) hlt2
        rw[e4] at hI
        have hn:AO.yld Y .rdy false≠.unborn:=by simp
        have e5:kg_ mk ob (.y o) () t=⟨t.slot,t.objs.set o (.yld Y .rdy false)⟩:=by simp[kg_,ho]
        rw[e5]
        exact⟨hvT,λ_ _=>rfl,vz_ (g0_ hlt hJ.len) hI,hJ.rel,λi=>AV.lt_mono (bl_ hn) (hJ.wfs i),ej_ hn hJ.wfo (AO.lt_mono (hJ.ble.trans (bl_ hn)) hlt2),hJ.ble.trans (bl_ hn),by simpa using hJ.len,hJ.ag⟩
      · cases h
    · cases h
  | g o t0 =>
    have h:bw9 ob o t0 rem=some (x,rem1):=h
    unfold bw9 at h
    split at h
    · rename_i G0 l0 h0 r0 ho
      split at h
      · rename_i G l hr
        obtain⟨hc,h⟩:=bv_ h
        simp only[a2_] at hc
        obtain⟨m,hm,h⟩:=bnd h
        cases h
        obtain⟨e2,e3⟩:=hp_ hm
        have eG:G=G0.at_ t0:=by
          obtain⟨t1,u1,q1,T1,i1⟩:=G
          obtain⟨t2,u2,q2,T2,i2⟩:=G0
          have:=Ty.eqb_eq hc.1.1.1.2
          have:=cv0 hc.1.1.2
          have:=a6_ hc.1.2
          have:=a6_ hc.2
          simp only at *
          subst_vars
          rfl
        subst eG
        have e3:x=l:=e3
        subst e3
        have hlt:o<ob.length:=(a3_.1 ho).1
        have hbo:born ob o=true:=ba_.2 ⟨_,ho,by simp⟩
        have hI:=mz_ hr hJ.inv
        have e4:OH hv (hv o) (.grid (G0.at_ t0) x none false)=OH hvT (hvT o) (.grid (G0.at_ t0) x none false):=by
          rw[hJ.ag o hbo]
          exact OH.ag (n:=[]) (λi h=>by cases h) (λi h=>by cases h) rfl
        rw[e4] at hI
        have hn:AO.grid (G0.at_ t0) x none false≠.unborn:=by simp
        have e5:kg_ mk ob (.g o t0) x t=⟨t.slot,t.objs.set o (.grid (G0.at_ t0) x none false)⟩:=by simp[kg_,ho]
        rw[e5]
        exact⟨hvT,λ_ _=>rfl,vz_ (g0_ hlt hJ.len) hI,hJ.rel,λi=>AV.lt_mono (bl_ hn) (hJ.wfs i),ej_ hn hJ.wfo rfl,hJ.ble.trans (bl_ hn),by simpa using hJ.len,hJ.ag⟩
      · cases h
    · cases h
  | b o ks =>
    have h:getB ob o ks rem=some (x,rem1):=h
    unfold getB at h
    split at h
    · rename_i T c ro ho
      split at h
      · rename_i T' c' ro' hr
        obtain⟨rfl,hk⟩:=hb o ks T c ro T' c' ro' rfl ho hr
        have hlt:o<ob.length:=(a3_.1 ho).1
        have hbo:born ob o=true:=ba_.2 ⟨_,ho,by simp⟩
        obtain⟨g,cs,e1,hf,hI⟩:=vk_ (mz_ hr hJ.inv)
        obtain⟨hvT',g1,g2,g3⟩:=getC_ok (ob:=ob) ks c c' cs (rem.set o .gone) rem1 x t.objs.length hvT (lf_ g T' cs.toArray::OHs hvT 0 t.objs) h hk (hwo _ (b9_ ho)) hJ.len hJ.ag hf hI
        have e5:kg_ mk ob (.b o ks) x t=⟨t.slot,t.objs.set o (.cells T' (no_ ks c x t.objs.length).1 (cond mk (roC ks 0) ro))++(no_ ks c x t.objs.length).2⟩:=by simp[kg_,ho]
        rw[e5]
        generalize hrows:(no_ ks c x t.objs.length).2=rows at *
        have hn:AO.cells T' (no_ ks c x t.objs.length).1 (cond mk (roC ks 0) ro)≠.unborn:=by simp
        have hb1:BLe t.objs (t.objs.set o (.cells T' (no_ ks c x t.objs.length).1 (cond mk (roC ks 0) ro))++rows):=λi hi=>jf_ (bl_ hn i hi)
        have hrow:=bq4 (n:=t.objs.set o (.cells T' (no_ ks c x t.objs.length).1 (cond mk (roC ks 0) ro))++rows) ks c x t.objs.length
        rw[hrows] at hrow
        have hcell:fd_ (SV.lt (t.objs.set o (.cells T' (no_ ks c x t.objs.length).1 (cond mk (roC ks 0) ro))++rows)) (no_ ks c x t.objs.length).1=true:=by
          refine putC_lt ks c x t.objs.length (hf_ λs hs=>SV.lt_mono (hJ.ble.trans hb1) (bj_ (hwo _ (b9_ ho)) s hs)) λi h1 h2 => ?_
          rw[hrows] at h2
          have h3:i - t.objs.length<rows.length:=by omega
          refine ba_.2 ⟨rows[i - t.objs.length],?_,(hrow _ (List.getElem_mem h3)).1⟩
          rw[d0_ (by simpa using h1)]
          simp only[g2_]
          exact a7_ h3
        refine⟨hvT',g1,⟨?_,λi=>RA.ag (g1.ag (c4_ _)) (hJ.wfs i) (hJ.rel i),λi=>AV.lt_mono hb1 (hJ.wfs i),λa ha => ?_,hJ.ble.trans hb1,by simp;have:=hJ.len;omega,hJ.ag.trans (g1.ag hJ.len)⟩⟩
        · show Inv w S (OHs hvT' 0 (t.objs.set o _++rows)++_)
          rw[OHs.app]
          simp only[g2_,b0_]
          have e6:hvT' o = .pointer (some ⟨g,0,none⟩):=by
            rw[← g1 o (g0_ hlt hJ.len),← hJ.ag o hbo,e1]
          rw[bf5 g1 (c4_ _) hJ.wfo] at g3
          have g4:Inv w S (lf_ g T' cs.toArray::(OHs hvT' 0 t.objs++(OHs hvT' t.objs.length rows++(OHs hv 0 rem1++Fm)))):=by
            refine g3.perm ?_
            simp only[l1_]
            refine List.perm_middle.trans (List.Perm.cons _ ?_)
            rw[← b5_,← b5_ (as:=OHs hvT' 0 t.objs)]
            exact List.perm_append_comm.append_right _
          have g5:Inv w S (OH hvT' (hvT' o) (.cells T' (no_ ks c x t.objs.length).1 (cond mk (roC ks 0) ro))::(OHs hvT' 0 t.objs++(OHs hvT' t.objs.length rows++(OHs hv 0 rem1++Fm)))) :=
            Inv.shut (A:=ap9 _ _ _ _) g4 ⟨g,cs,e6,g2,rfl⟩
          have g6:=vz_ (g0_ hlt hJ.len) g5
          rw[b5_]
          exact g6
        · rcases b8_.1 ha with h1 | h1
          · rcases p5_ h1 with h2 | rfl
            · exact AO.lt_mono hb1 (hJ.wfo a h2)
            · exact hcell
          · exact (hrow a h1).2
      · cases h
    · cases h
end
end
section
variable [Gb]
def Sub (l m:List AO):Prop:=∀ (o:Nat) (a:AO),l[o]?=some a→a = .gone∨m[o]?=some a
theorem Sub.refl (l:List AO):Sub l l:=λ_ _ h=>.inr h
theorem Sub.trans {a b c:List AO} (h:Sub a b) (k:Sub b c):Sub a c:=λo x e=>by
  rcases h o x e with h | h
  · exact .inl h
  · exact k o x h
theorem qi_ {l:List AO} {o:Nat}:Sub (l.set o .gone) l:=λp a h=>by
  by_cases e:o=p
  · subst e
    by_cases hl:o<l.length
    · simp[hl] at h;exact .inl h.symm
    · simp[hl] at h
  · rw[b6_ e] at h;exact .inr h
theorem aj4 {t:Ty} {T:TypeId} {c:SV} {rem rem':List AO} {l:List t.den} (h:aj5 t T c rem=some (l,rem')):Sub rem' rem:=by
  unfold aj5 at h
  split at h
  · cases h;exact Sub.refl _
  · split at h
    · obtain⟨_,h⟩:=bv_ h
      obtain⟨m,_,h⟩:=bnd h
      cases h
      exact qi_
    · cases h
  · cases h
theorem bm7 {t:Ty} {T:TypeId} {c:SV} {rem rem':List AO} {x:t.den} (h:bm8 t T c rem=some (x,rem')):Sub rem' rem:=by
  unfold bm8 at h
  split at h
  · split at h
    · obtain⟨_,h⟩:=bv_ h
      obtain⟨m,_,h⟩:=bnd h
      unfold oneR at h
      split at h
      · cases h;exact qi_
      · cases h
    · cases h
  · cases h
theorem cm5:∀ (ks:List CK) (cs:List SV) (rem rem':List AO) (x:nm_ ks),ce7 ks cs rem=some (x,rem')→Sub rem' rem:=by
  intro ks
  induction ks with
  | nil =>
    intro cs rem rem' x h
    cases cs with
    | nil=>cases h;exact Sub.refl _
    | cons c cs=>cases h
  | cons ck ks ih =>
    intro cs rem rem' x h
    cases cs with
    | nil=>cases ck<;>cases h
    | cons c cs =>
      cases ck with
      | keep=>exact ih cs rem rem' x h
      | val t =>
        have h:(cond t.agg none ((asC t c).bind λx=>(ce7 ks cs rem).bind λq=>some ((x,q.1),q.2)):Option (nm_ (.val t::ks)×List AO))=some (x,rem'):=h
        cases h0:t.agg with
        | true=>rw[h0] at h;cases h
        | false =>
          rw[h0] at h
          obtain⟨y,h1,h⟩:=bnd (show Option.bind _ _=some _ from h)
          obtain⟨q,h2,h⟩:=bnd h
          obtain rfl:q.2=rem':=congrArg Prod.snd (a5_ h)
          exact ih cs rem q.2 q.1 h2
      | row t T =>
        have h:((aj5 t T c rem).bind λp=>(ce7 ks cs p.2).bind λq=>some ((p.1,q.1),q.2):Option (nm_ (.row t T::ks)×List AO))=some (x,rem'):=h
        obtain⟨p,h1,h⟩:=bnd h
        obtain⟨q,h2,h⟩:=bnd h
        obtain rfl:q.2=rem':=congrArg Prod.snd (a5_ h)
        exact (ih cs p.2 q.2 q.1 h2).trans (aj4 h1)
theorem cm6 {ob:List AO} {sl:Nat→AV} {e:Sp1} {rem rem':List AO} {x:e.den} (h:get1 ob sl e rem=some (x,rem')):Sub rem' rem:=by
  cases e with
  | v d t=>obtain⟨y,_,h⟩:=bnd h;cases h;exact Sub.refl _
  | r d t T =>
    have h:getR sl d t T rem=some (x,rem'):=h
    unfold getR at h
    split at h
    · exact aj4 h
    · cases h
  | a d t T =>
    have h:getA sl d t T rem=some (x,rem'):=h
    unfold getA at h
    split at h
    · exact bm7 h
    · cases h
  | o o t =>
    have h:getO ob o t rem=some (x,rem'):=h
    unfold getO at h
    split at h
    · split at h
      · obtain⟨_,h⟩:=bv_ h
        obtain⟨m,_,h⟩:=bnd h
        cases h
        exact qi_
      · cases h
    · cases h
  | m o k v =>
    have h:getM ob o k v rem=some (x,rem'):=h
    unfold getM at h
    split at h
    · split at h
      · obtain⟨m,_,h⟩:=bnd h
        cases h
        exact qi_
      · cases h
    · cases h
  | x o =>
    have h:some ((),rem)=some (x,rem'):=h
    cases h
    exact Sub.refl _
  | y o =>
    have h:getY ob o rem=some (x,rem'):=h
    unfold getY at h
    split at h
    · split at h
      · cases h
        exact qi_
      · cases h
    · cases h
  | g o t0 =>
    have h:bw9 ob o t0 rem=some (x,rem'):=h
    unfold bw9 at h
    split at h
    · split at h
      · obtain⟨_,h⟩:=bv_ h
        obtain⟨m,_,h⟩:=bnd h
        cases h
        exact qi_
      · cases h
    · cases h
  | b o ks =>
    have h:getB ob o ks rem=some (x,rem'):=h
    unfold getB at h
    split at h
    · split at h
      · exact (cm5 _ _ _ _ _ h).trans qi_
      · cases h
    · cases h
def Kp (es:List Sp1) (ob rem:List AO):Prop:=(∀ (o:Nat) (ks:List CK) (T:TypeId) (c:List SV) (ro:List Nat) (T':TypeId) (c':List SV) (ro':List Nat),.b o ks ∈ es→ob[o]?=some (AO.cells T c ro)→rem[o]?=some (AO.cells T' c' ro')→T'=T∧ue_ ks c c')∧Ky ob rem
section
variable {w:World} {S:PH} {hv:Nat→Value} {ob:List AO} {Fm:List HP} {f:Fr}
theorem ci8 {mk:Bool} {sl:Nat→AV} (hsl:∀ d,RA hv S (sl d) (f d)) (hwo:WfO ob):∀ (es:List Sp1) (x:ev_ es) (t:A) (rem:List AO) (hvT:Nat→Value),Jn w S hvT hv ob Fm t rem f→Kp es ob rem →
    getS ob sl es rem=some x→∃ hvT' rem',AgN t.objs.length hvT hvT'∧Jn w S hvT' hv ob Fm (up_ mk ob es x t) rem' f:=by
  intro es
  induction es with
  | nil=>intro x t rem hvT hJ _ h;exact⟨hvT,rem,λ_ _=>rfl,hJ⟩
  | cons e es ih =>
    intro x t rem hvT hJ hk h
    obtain⟨p,h1,h⟩:=bnd h
    obtain⟨y,h2,h⟩:=bnd h
    obtain rfl:(p.1,y)=x:=a5_ h
    obtain⟨hv1,a1,J1⟩:=put1_ok (mk:=mk) hsl hwo hJ (λo ks T c ro T' c' ro' he=>hk.1 o ks T c ro T' c' ro' (by rw[he];simp)) hk.2 h1
    have hs:=cm6 h1
    obtain⟨hv2,rem2,a2,J2⟩:=ih y (kg_ mk ob e p.1 t) p.2 hv1 J1 ⟨λo ks T c ro T' c' ro' hm ho hr=>by
      rcases hs o _ hr with h | h
      · cases h
      · exact hk.1 o ks T c ro T' c' ro' (by simp[hm]) ho h,λo Y st ro Y' st' ro' ho hr=>by
      rcases hs o _ hr with h | h
      · cases h
      · exact hk.2 o Y st ro Y' st' ro' ho h⟩ h2
    have hle:t.objs.length≤(kg_ mk ob e p.1 t).objs.length:=by
      cases e with
      | v d t=>exact c4_ _
      | r d t T=>simp[kg_]
      | a d t T=>simp[kg_]
      | o o t=>simp only[kg_];split<;>simp
      | b o ks=>simp only[kg_];split<;>simp
      | m o k v=>simp only[kg_];split<;>simp
      | g o t=>simp only[kg_];split<;>simp
      | x o=>exact c4_ _
      | y o=>simp only[kg_];split<;>simp
    exact⟨hv2,rem2,a1.trans (a2.le hle),J2⟩
theorem ks_ {mk:Bool} {es:List Sp1} {mv:List Nat}:∀ {l:List AO} {i j:Nat},(gn_ mk es mv i l)[j]?=(l[j]?).map λa=>match a with
    | .unborn=>.unborn
    | .gone=>.gone
    | a=>cond (listed es (i+j)||inL (i+j) mv) .gone (cond mk (oh_ a) a)
  | [],i,j=>rfl
  | a::l,i,0=>by cases a<;>simp[gn_]
  | a::l,i,j+1=>by
    simp only[gn_,i5_]
    rw[ks_ (l:=l) (i:=i+1) (j:=j),show i+1+j=i+(j+1) by omega]
theorem oi_ {mk:Bool} {es:List Sp1} {mv:List Nat}:∀ {l:List AO} {i:Nat},(gn_ mk es mv i l).length=l.length
  | [],i=>rfl
  | a::l,i=>by simp[gn_,oi_ (l:=l)]
theorem wx_ {mk:Bool} {es:List Sp1} {mv:List Nat} {l:List AO} {i:Nat}:BLe l (gn_ mk es mv i l):=by
  intro o ho
  obtain⟨a,h1,h2⟩:=ba_.1 ho
  rw[ba_,ks_,h1]
  refine⟨_,rfl,?_⟩
  cases a<;>first | exact absurd rfl h2 | (simp;done) | (cases (listed es (i+o)||inL (i+o) mv)<;>cases mk<;>simp[oh_])
theorem bu2 {mk:Bool} {es:List Sp1} {mv:List Nat} {l:List AO} {i:Nat} (h:WfO l):WfO (gn_ mk es mv i l):=by
  intro a ha
  obtain⟨j,hj⟩:=e7_ ha
  rw[ks_] at hj
  obtain⟨b,hb,rfl⟩:=f7_.1 hj
  have hw:=AO.lt_mono (wx_ (mk:=mk) (es:=es) (mv:=mv) (i:=i)) (h b (b9_ hb))
  cases b<;>first | rfl | (cases (listed es (i+j)||inL (i+j) mv)<;>cases mk<;>first | rfl | exact hw | (rename_i G l q r;cases q<;>first | rfl | exact hw))
theorem cn5 {A B:List HP} (h:Inv w S (A++(B++Fm))):Inv w S (A++Fm):=by
  have h1:Inv w S (B++(A++Fm)):=h.perm (by rw[← b5_,← b5_];exact List.perm_append_comm.append_right _)
  exact h1.drops
theorem put_ok {mk:Bool} {asg:List Nat} {es:List Sp1} {mv:List Nat} {s:A} {x:ev_ es} {sl sl2:Nat→AV} {objs:List AO} (hs:Sit S hv Fm sl objs f w) (hs2:∀ d,RA hv S (sl2 d) (f d)) (hws:WfS s.slot s.objs) (hwo:WfO s.objs)
    (h4:∀ d,inL d asg=false→sl d=s.slot d)
    (h5:∀ (j:Nat) (a b:AO),s.objs[j]?=some a→objs[j]?=some b→(listed es j||inL j mv)=false→a≠.unborn→a≠.gone→OHeq a b)
    (hl:s.objs.length≤objs.length) (h6:Kp es s.objs objs) (hg:getS s.objs sl2 es (ar7 es mv 0 s.objs objs)=some x) :
    ∃ hv',Ag s.objs hv hv'∧Sit S hv' Fm (mc_ mk asg es mv s x).slot (mc_ mk asg es mv s x).objs f w∧BLe s.objs (mc_ mk asg es mv s x).objs:=by
  have hI:=aj7 (mk:=mk) (es:=es) (mv:=mv) (ob:=s.objs) (l:=objs) (i:=0) hl (λj a b ha hb hc=>h5 j a b ha hb (by rw[b0_] at hc;exact hc)) hs.inv
  have hsub:∀ (i:Nat) (ob l:List AO),Sub (ar7 es mv i ob l) l:=by
    intro i ob
    induction ob generalizing i with
    | nil=>intro l;exact Sub.refl _
    | cons a ob ih =>
      intro l
      cases l with
      | nil=>exact Sub.refl _
      | cons b l =>
        intro o c hc
        cases o with
        | zero =>
          simp only[ar7,m4_,p9_] at hc
          cases a<;>first | exact .inr (by simpa using hc) | (cases hq:(listed es i||inL i mv)<;>rw[hq] at hc<;>first | exact .inr (by simpa using hc) | exact .inl hc.symm)
        | succ o =>
          simp only[ar7,i5_] at hc ⊢
          exact ih (i+1) l o c hc
  have hJ:Jn w S hv hv s.objs Fm ⟨λd=>cond (inL d asg) (.b .dead) (s.slot d),gn_ mk es mv 0 s.objs⟩ (ar7 es mv 0 s.objs objs) f :=
    ⟨hI,λd=>by
      show RA hv S (cond (inL d asg) (.b .dead) (s.slot d)) (f d)
      cases hd:inL d asg with
      | true=>trivial
      | false=>show RA hv S (s.slot d) (f d);rw[← h4 d hd];exact hs.rel d,λd=>by
      show (cond (inL d asg) (.b .dead) (s.slot d)).lt (gn_ mk es mv 0 s.objs)=true
      cases inL d asg with
      | true=>rfl
      | false=>exact AV.lt_mono wx_ (hws d),bu2 hwo,wx_,by simp[oi_],λ_ _=>rfl⟩
  obtain⟨hvT',rem',a1,J⟩:=ci8 (mk:=mk) hs2 hwo es x _ _ hv hJ ⟨λo ks T c ro T' c' ro' hm ho hr=>by
    rcases hsub 0 s.objs objs o _ hr with h | h
    · cases h
    · exact h6.1 o ks T c ro T' c' ro' hm ho h,λo Y st ro Y' st' ro' ho hr=>by
    rcases hsub 0 s.objs objs o _ hr with h | h
    · cases h
    · exact h6.2 o Y st ro Y' st' ro' ho h⟩ hg
  exact⟨hvT',J.ag,⟨cn5 J.inv,J.rel,J.wfs,J.wfo,hs.gl⟩,J.ble⟩
end
end
section
variable [Gb]
theorem cd6 {a b:AO} (h:K1 (oh_ a) b) (h1:a≠.unborn) (h2:a≠.gone):OHeq a b:=by
  intro hv v
  cases a with
  | unborn=>exact absurd rfl h1
  | gone=>exact absurd rfl h2
  | row t T l ro=>have h:b = .row t T l true:=h;subst h;rfl
  | map k w m ro=>have h:b = .map k w m true:=h;subst h;rfl
  | fn f x y=>have h:b = .fn f x y:=h;subst h;rfl
  | froz t x=>have h:b = .froz t x:=h;subst h;rfl
  | grid G ls p ro=>have h:b = .grid G ls p true:=h;subst h;rfl
  | yld Y st ro =>
    obtain⟨st',hb,e⟩:=(show ∃ st',b = .yld Y st' true∧(true=true→st'=st) from h)
    obtain rfl:=e rfl
    subst hb
    rfl
  | cells T c ro =>
    obtain⟨c',rfl,hl,hc⟩:=(show ∃ c':List SV,b = .cells T c' (List.range c.length)∧c'.length=c.length∧∀ j ∈ List.range c.length,c'[j]?=c[j]? from h)
    have e:c'=c:=by
      apply f1_
      intro j
      by_cases hj:j<c.length
      · exact hc j (by simpa using hj)
      · rw[b3_ (by omega),b3_ (by omega)]
    subst e
    rfl
theorem ac4:∀ (ks:List CK) (bs:List SV) (x:nm_ ks) (k:Nat),ks.length=bs.length→(no_ ks bs x k).1.length=bs.length:=by
  intro ks
  induction ks with
  | nil=>intro bs x k h;cases bs with
    | nil=>rfl
    | cons b bs=>simp at h
  | cons ck ks ih =>
    intro bs x k h
    cases bs with
    | nil=>simp at h
    | cons b bs =>
      simp only[c5_,n7_] at h
      cases ck with
      | keep=>show (no_ ks bs x k).1.length+1=_;rw[ih bs x k h];rfl
      | val t=>show (no_ ks bs x.2 k).1.length+1=_;rw[ih bs x.2 k h];rfl
      | row t T=>show (no_ ks bs x.2 (k+1)).1.length+1=_;rw[ih bs x.2 (k+1) h];rfl
theorem bv9:∀ (ks:List CK) (bs cs:List SV) (x:nm_ ks) (k i:Nat),ks.length=bs.length→cs.length=bs.length→(∀ j ∈ roC ks i,i≤j→cs[j - i]?=(no_ ks bs x k).1[j - i]?)→ue_ ks bs cs:=by
  intro ks
  induction ks with
  | nil=>intro bs cs x k i h1 h2 _;cases bs with
    | nil=>cases cs with
      | nil=>trivial
      | cons c cs=>simp at h2
    | cons b bs=>simp at h1
  | cons ck ks ih =>
    intro bs cs x k i h1 h2 h
    cases bs with
    | nil=>simp at h1
    | cons b bs =>
      cases cs with
      | nil=>simp at h2
      | cons c cs =>
        simp only[c5_,n7_] at h1 h2
        have e:∀ j,i+1≤j→j - i=(j - (i+1))+1:=λj hj=>by omega
        cases ck with
        | keep =>
          refine⟨?_,ih bs cs x k (i+1) h1 h2 λj hj hij => ?_⟩
          · have:=h i (by simp[roC]) (c4_ _)
            rw[k2_] at this
            exact a5_ this
          · have:=h j (by simp[roC,hj]) (by omega)
            rw[e j hij] at this
            exact this
        | val t =>
          refine ih bs cs x.2 k (i+1) h1 h2 λj hj hij => ?_
          have:=h j hj (by omega)
          rw[e j hij] at this
          exact this
        | row t T =>
          refine ih bs cs x.2 (k+1) (i+1) h1 h2 λj hj hij => ?_
          have:=h j hj (by omega)
          rw[e j hij] at this
          exact this
section
variable {mk:Bool} {ob:List AO}
theorem pn_ {e:Sp1} {x:e.den} {t:A}:t.objs.length≤(kg_ mk ob e x t).objs.length:=by
  cases e with
  | v d t=>exact c4_ _
  | r d t T=>simp[kg_]
  | a d t T=>simp[kg_]
  | o o t=>simp only[kg_];split<;>simp
  | b o ks=>simp only[kg_];split<;>simp
  | m o k v=>simp only[kg_];split<;>simp
  | g o t=>simp only[kg_];split<;>simp
  | x o=>exact c4_ _
  | y o=>simp only[kg_];split<;>simp
theorem ci9 {e:Sp1} {x:e.den} {t:A} {j:Nat} (h:listed [e] j=false) (hj:j<t.objs.length):(kg_ mk ob e x t).objs[j]?=t.objs[j]?:=by
  cases e with
  | v d t=>rfl
  | r d t T=>simp only[kg_];rw[b2_ hj]
  | a d t T=>simp only[kg_];rw[b2_ hj]
  | o o t =>
    simp only[listed,i7_] at h
    have hne:o≠j:=by rintro rfl;simp at h
    simp only[kg_]
    split
    · exact b6_ hne
    · rfl
  | m o k v =>
    simp only[listed,i7_] at h
    have hne:o≠j:=by rintro rfl;simp at h
    simp only[kg_]
    split
    · exact b6_ hne
    · rfl
  | x o=>rfl
  | y o =>
    simp only[listed,i7_] at h
    have hne:o≠j:=by rintro rfl;simp at h
    simp only[kg_]
    split
    · exact b6_ hne
    · rfl
  | g o t =>
    simp only[listed,i7_] at h
    have hne:o≠j:=by rintro rfl;simp at h
    simp only[kg_]
    split
    · exact b6_ hne
    · rfl
  | b o ks =>
    simp only[listed,i7_] at h
    have hne:o≠j:=by rintro rfl;simp at h
    simp only[kg_]
    split
    · rw[b2_ (by simpa using hj)]
      exact b6_ hne
    · rfl
theorem ku_ {e:Sp1} {es:List Sp1} {j:Nat}:listed (e::es) j=(listed [e] j||listed es j):=by
  cases e<;>simp[listed]
theorem ml_:∀ (es:List Sp1) (x:ev_ es) (t:A) (j:Nat),listed es j=false→j<t.objs.length→(up_ mk ob es x t).objs[j]?=t.objs[j]?:=by
  intro es
  induction es with
  | nil=>intro x t j _ _;rfl
  | cons e es ih =>
    intro x t j h hj
    rw[ku_,c2_] at h
    show (up_ mk ob es x.2 (kg_ mk ob e x.1 t)).objs[j]?=_
    rw[ih x.2 _ j h.2 (g0_ hj pn_),ci9 h.1 hj]
theorem al4:∀ (es:List Sp1) (x:ev_ es) (t:A),t.objs.length≤(up_ mk ob es x t).objs.length:=by
  intro es
  induction es with
  | nil=>intro x t;exact c4_ _
  | cons e es ih=>intro x t;exact c7_ pn_ (ih x.2 _)
theorem wi_:∀ (es:List Sp1) (x:ev_ es) (t:A) (o:Nat) (ks:List CK) (T:TypeId) (c:List SV) (ro:List Nat),okS ob es=true→.b o ks ∈ es→ob[o]?=some (AO.cells T c ro)→o<t.objs.length →
    ks.length=c.length∧∃ (y:nm_ ks) (k:Nat),(up_ mk ob es x t).objs[o]?=some (.cells T (no_ ks c y k).1 (cond mk (roC ks 0) ro)):=by
  intro es
  induction es with
  | nil=>intro x t o ks T c ro _ h;cases h
  | cons e es ih =>
    intro x t o ks T c ro hok hm ho hlt
    have hok2:okS ob es=true:=by
      cases e<;>simp only[okS,a2_] at hok<;>first | exact hok | exact hok.2
    rcases e1_.1 hm with rfl | hm
    · simp only[okS,ho,a2_,k6_] at hok
      obtain⟨⟨⟨h1,h2⟩,h3⟩,h4⟩:=hok
      refine⟨a6_ h1,x.1,t.objs.length,?_⟩
      show (up_ mk ob es x.2 (kg_ mk ob (.b o ks) x.1 t)).objs[o]?=_
      rw[ml_ es x.2 _ o h3 (g0_ hlt pn_)]
      simp only[kg_,ho]
      rw[b2_ (by simpa using hlt)]
      simp[hlt]
    · exact ih x.2 _ o ks T c ro hok2 hm ho (g0_ hlt pn_)
theorem as7 {o:Nat} {Y:Yld} {st:YS} {ro:Bool} (ho:ob[o]?=some (AO.yld Y st ro)):∀ (es:List Sp1) (x:ev_ es) (t:A),okS ob es=true→listed es o=true→o<t.objs.length→(up_ mk ob es x t).objs[o]?=some (.yld Y .rdy false):=by
  intro es
  induction es with
  | nil=>intro x t _ h;cases h
  | cons e es ih =>
    intro x t hok hl hlt
    have hok2:okS ob es=true:=by
      cases e<;>simp only[okS,a2_] at hok<;>first | exact hok | exact hok.2
    rw[ku_,c9_] at hl
    have key:listed [e] o=true→listed es o=false∧e = .y o:=by
      intro h1
      cases e with
      | v d t=>cases h1
      | r d t T=>cases h1
      | a d t T=>cases h1
      | _ =>
        simp only[listed,i7_] at h1
        obtain rfl:=a6_ h1
        simp only[okS,ho,a2_,k6_,Bool.false_eq_true,false_and] at hok
        try exact⟨hok.1.2,rfl⟩
    rcases hl with h1 | h1
    · obtain⟨h2,rfl⟩:=key h1
      show (up_ mk ob es x.2 (kg_ mk ob (.y o) x.1 t)).objs[o]?=_
      rw[ml_ es x.2 _ o h2 (g0_ hlt pn_)]
      simp[kg_,ho,hlt]
    · exact ih x.2 _ hok2 h1 (g0_ hlt pn_)
end
theorem cm0 {asg:List Nat} {es:List Sp1} {mv:List Nat} {s:A} {x:ev_ es} {objs:List AO} (hok:okS s.objs es=true) (hmv:∀ (j:Nat) (Y:Yld) (st:YS) (ro:Bool),inL j mv=true→s.objs[j]?≠some (.yld Y st ro)) (hk:Keep (mc_ true asg es mv s x).objs objs) :
    (∀ (j:Nat) (a b:AO),s.objs[j]?=some a→objs[j]?=some b→(listed es j||inL j mv)=false→a≠.unborn→a≠.gone→OHeq a b)∧s.objs.length≤objs.length∧Kp es s.objs objs:=by
  have hlen:(⟨λd=>cond (inL d asg) (.b .dead) (s.slot d),gn_ true es mv 0 s.objs⟩:A).objs.length=s.objs.length:=oi_
  refine⟨λj a b ha hb hc h1 h2 => ?_,?_,λo ks T c ro T' c' ro' hm ho hr => ?_,λo Y st ro Y' st' ro' ho hr => ?_⟩
  · rw[c2_] at hc
    have hj:=(a3_.1 ha).1
    have e:(mc_ true asg es mv s x).objs[j]?=some (oh_ a):=by
      unfold mc_
      rw[ml_ es x _ j hc.1 (by rw[hlen];exact hj)]
      show (gn_ true es mv 0 s.objs)[j]?=_
      rw[ks_,ha,b0_,hc.1,hc.2]
      cases a<;>first | exact absurd rfl h1 | exact absurd rfl h2 | rfl
    obtain⟨b',e2,hK⟩:=hk j _ e
    rw[hb] at e2
    cases e2
    exact cd6 hK h1 h2
  · have h1:s.objs.length≤(mc_ true asg es mv s x).objs.length:=by
      have:=al4 (mk:=true) (ob:=s.objs) es x ⟨λd=>cond (inL d asg) (.b .dead) (s.slot d),gn_ true es mv 0 s.objs⟩
      rw[hlen] at this
      exact this
    by_cases h0:s.objs.length=0
    · omega
    · have hj:s.objs.length - 1<(mc_ true asg es mv s x).objs.length:=by omega
      obtain⟨b,e2,_⟩:=hk _ _ (a7_ hj)
      have:=(a3_.1 e2).1
      omega
  · have hlt:=(a3_.1 ho).1
    obtain⟨hl,y,k,e⟩:=wi_ (mk:=true) es x ⟨λd=>cond (inL d asg) (.b .dead) (s.slot d),gn_ true es mv 0 s.objs⟩ o ks T c ro hok hm ho (by rw[hlen];exact hlt)
    obtain⟨b',e2,hK⟩:=hk o _ e
    rw[hr] at e2
    cases e2
    obtain⟨c2,e3,h3,h4⟩:=(show ∃ c2:List SV,AO.cells T' c' ro' = .cells T c2 (roC ks 0)∧c2.length=(no_ ks c y k).1.length∧∀ j ∈ roC ks 0,c2[j]?=(no_ ks c y k).1[j]? from hK)
    cases e3
    exact⟨rfl,bv9 ks c c' y k 0 hl (by rw[h3,ac4 _ _ _ _ hl]) λj hj _=>by simpa using h4 j hj⟩
  · have hlt:=(a3_.1 ho).1
    have e:∃ st1 r1,(mc_ true asg es mv s x).objs[o]?=some (.yld Y st1 r1):=by
      cases hls:listed es o with
      | true=>exact⟨_,_,as7 ho es x _ hok hls (by rw[hlen];exact hlt)⟩
      | false =>
        have hm:inL o mv=false:=by
          cases hm:inL o mv with
          | false=>rfl
          | true=>exact absurd ho (hmv o Y st ro hm)
        refine⟨st,true,?_⟩
        unfold mc_
        rw[ml_ es x _ o hls (by rw[hlen];exact hlt)]
        show (gn_ true es mv 0 s.objs)[o]?=_
        rw[ks_,ho,b0_,hls,hm]
        rfl
    obtain⟨st1,r1,e⟩:=e
    obtain⟨b',e2,hK⟩:=hk o _ e
    rw[hr] at e2
    cases e2
    obtain⟨st2,e3,_⟩:=(show ∃ st2,AO.yld Y' st' ro' = .yld Y st2 r1∧(r1=true→st2=st1) from hK)
    cases e3
    rfl
end
section
variable [Gb]
def inL0:Nat→List Nat→Bool
  | _,[]=>false
  | i,a::l=>Nat.beq i a||inL0 i l
def bm2 {α:Type}:List Nat→List Nat→(List Nat→α)→α
  | [],m,k=>k m
  | a::l,m,k=>cond (inL0 a m) (bm2 l m k) (bm2 l (a::m) k)
def yq_ {α:Type} (acc:List (List Nat)):List Nat→List Nat→(List Nat→α)→α
  | [],m,k=>k m
  | p::ps,m,k=>bm2 (p::(acc[p]?).getD []) m λm=>yq_ acc ps m k
def ao1 (acc:List (List Nat)) (ps:List Nat):List Nat:=yq_ acc ps [] id
theorem vv_ {α:Type}:∀ (l m:List Nat) (k:List Nat→α),bm2 l m k=k (bm2 l m id)
  | [],m,k=>rfl
  | a::l,m,k=>by
    unfold bm2
    cases inL0 a m with
    | true=>exact vv_ l m k
    | false=>exact vv_ l (a::m) k
theorem bb5 {i:Nat}:∀ {l:List Nat},inL0 i l=true↔i ∈ l
  | []=>by simp[inL0]
  | a::l=>by
    simp only[inL0,c9_,e1_,bb5 (l:=l)]
    exact⟨λh=>h.imp (λh=>a6_ h) id,λh=>h.imp (λh=>by rw[h];exact i1_ a) id⟩
theorem ad9 {x:Nat}:∀ (l m:List Nat),x ∈ bm2 l m id↔x ∈ l∨x ∈ m
  | [],m=>by simp[bm2]
  | a::l,m=>by
    unfold bm2
    cases h:inL0 a m with
    | true =>
      show x ∈ bm2 l m id↔_
      rw[ad9 l m]
      have:=bb5.1 h
      constructor
      · rintro (h | h)
        · exact .inl (by simp[h])
        · exact .inr h
      · rintro (h | h)
        · rcases e1_.1 h with rfl | h
          · exact .inr this
          · exact .inl h
        · exact .inr h
    | false =>
      show x ∈ bm2 l (a::m) id↔_
      rw[ad9 l (a::m)]
      simp only[e1_]
      constructor
      · rintro (h | h | h)
        · exact .inl (.inr h)
        · exact .inl (.inl h)
        · exact .inr h
      · rintro ((h | h) | h)
        · exact .inr (.inl h)
        · exact .inl h
        · exact .inr (.inr h)
theorem bc6 {α:Type} (acc:List (List Nat)):∀ (ps m:List Nat) (k:List Nat→α),yq_ acc ps m k=k (yq_ acc ps m id)
  | [],m,k=>rfl
  | p::ps,m,k=>by
    unfold yq_
    rw[vv_,vv_ (k:=λm=>yq_ acc ps m id),bc6 acc ps _ k]
theorem ww_ {x:Nat} (acc:List (List Nat)):∀ (ps m:List Nat),x ∈ yq_ acc ps m id↔x ∈ m∨∃ p ∈ ps,x=p∨x ∈ (acc[p]?).getD []
  | [],m=>by simp[yq_]
  | p::ps,m=>by
    unfold yq_
    rw[vv_,ww_ acc ps,ad9]
    constructor
    · rintro ((h | h) | ⟨q,h1,h2⟩)
      · rcases e1_.1 h with h | h
        · exact .inr ⟨p,by simp,.inl h⟩
        · exact .inr ⟨p,by simp,.inr h⟩
      · exact .inl h
      · exact .inr ⟨q,by simp[h1],h2⟩
    · rintro (h | ⟨q,h1,h2⟩)
      · exact .inl (.inr h)
      · rcases e1_.1 h1 with rfl | h1
        · exact .inl (.inl (by rcases h2 with rfl | h2<;>simp[*]))
        · exact .inr ⟨q,h1,h2⟩
def le_:List Oper→List (List Nat)→List (List Nat)
  | [],acc=>acc
  | o::os,acc=>le_ os (acc++[ao1 acc (ck_ o)])
def snoF {α:Type}:List (List Nat)→List Nat→(List (List Nat)→α)→α
  | [],x,k=>k [x]
  | a::l,x,k=>snoF l x λl=>k (a::l)
theorem bn6 {α:Type}:∀ (l:List (List Nat)) (x:List Nat) (k:List (List Nat)→α),snoF l x k=k (l++[x])
  | [],_,_=>rfl
  | a::l,x,k=>bn6 l x λl=>k (a::l)
def ancF {α:Type}:List Oper→List (List Nat)→(List (List Nat)→α)→α
  | [],acc,k=>k acc
  | o::os,acc,k=>yq_ acc (ck_ o) [] λx=>snoF acc x λacc=>ancF os acc k
theorem ai6 {α:Type}:∀ (os:List Oper) (acc:List (List Nat)) (k:List (List Nat)→α),ancF os acc k=k (le_ os acc)
  | [],_,_=>rfl
  | o::os,acc,k=>by
    unfold ancF
    rw[bc6,bn6,ai6 os]
    rfl
def go_ (d:Nat):List (Option Nat)→Nat→Option Nat
  | [],_=>none
  | some e::l,i=>cond (Nat.beq d e) (some i) (go_ d l (i+1))
  | none::l,i=>go_ d l (i+1)
def ce9 (sl:Nat→AV) (dsts:List (Option Nat)) (tab:List (List Nat)) (anc:List Nat) (vals:List AV) (d:Nat):AV:=match go_ d dsts 0 with
  | none=>sl d
  | some j=>cond (inL j anc) ((vals[j]?).getD (.b .dead)) (cond (inL vals.length ((tab[j]?).getD [])) (sl d) (.b .dead))
def pb_ (fr0:Nat) (anc F:List Nat):Nat→List AO→List AO
  | _,[]=>[]
  | i,a::l=>cond (inL i F) a (cond (Nat.blt i fr0) (match a with
    | .unborn=>.unborn
    | _=>.gone) (cond (inL (i - fr0) anc) .gone .unborn))::pb_ fr0 anc F (i+1) l
def jo_ (F:List Nat):Nat→List AO→List AO→List AO
  | _,[],_=>[]
  | _,l,[]=>l
  | i,a::l,b::m=>cond (inL i F) b a::jo_ F (i+1) l m
def idsY:List (Nat×AV)→List Nat
  | []=>[]
  | p::l=>ct7 p.2++idsY l
def idsO:AO→List Nat
  | .cells _ l _=>idsL l
  | .fn _ a b=>idsL a++idsL b
  | .grid _ _ (some p) _=>[p.2.1]
  | .yld Y _ _=>idsY Y.sl
  | _=>[]
def addN:List Nat→List Nat→List Nat
  | [],F=>F
  | i::l,F=>cond (inL i F) (addN l F) (addN l (i::F))
def deep (objs:List AO):Nat→List Nat→List Nat→List Nat
  | 0,_,F=>F
  | _,[],F=>F
  | n+1,i::l,F=>cond (inL i F) (deep objs n l F) (deep objs n (idsO ((objs[i]?).getD .gone)++l) (i::F))
def isLight:Op→Bool
  | .move _ | .assign _ | .pick _ _ _ | .binOp _ _ _ _ _ | .unOp _ _ _ | .extract _ _ | .nilCheck _ | .fieldAddr _ _ _ | .build _ _ | .makeFunc _ _ _=>true
  | _=>false
def foot (o:Oper) (env:Nat→AV) (objs:List AO):List Nat :=
  cond (isLight o.op) [] (cond (bb1 o.op||cm2 o) (deep objs 200 (idsX env o.op.operands.toList) []) (addN (idsX env o.op.operands.toList) []))
def isWr (o:Oper):Bool:=isX o.op||(isM o.op||(bb1 o.op||cm2 o))
def ck8:List Nat→List Nat→Bool
  | [],_=>false
  | i::l,F=>inL i F||ck8 l F
structure DR where
  F:List Nat
  wr:Bool
def okC (anc:List Nat) (F:List Nat) (wr:Bool):Nat→List DR→Bool
  | _,[]=>true
  | j,r::rs=>(!(r.wr||wr)||!ck8 r.F F||inL j anc)&&okC anc F wr (j+1) rs
def okW (F:List Nat) (all:List AO):Nat→List AO→Bool
  | _,[]=>true
  | i,a::l=>(!inL i F||a.lt all)&&okW F all (i+1) l
def okF (fr0:Nat) (anc:List Nat) (C:List AO):List Nat→Bool
  | []=>true
  | i::F=>(Nat.blt i fr0||inL (i - fr0) anc)&&born C i&&okF fr0 anc C F
def okU (anc:List Nat) (vis:List AO):Nat→List AV→Bool
  | _,[]=>true
  | j,a::l=>(!inL j anc||a.lt vis)&&okU anc vis (j+1) l
def okS2 (fr0:Nat) (anc:List Nat) (vals:List AV) (F:List Nat) (C:List AO) (vis:List AO):Bool:=okF fr0 anc C F&&fd_ (AO.lt vis) vis&&okU anc vis 0 vals
def dstG (n:Nat) (dsts:List (Option Nat)) (j:Nat):Bool:=match dsts[j]? with
  | some (some d)=>Nat.blt d n
  | _=>false
def sw_:List Oper→Nat→Bool
  | [],_=>true
  | o::os,i=>fd_ (λp=>Nat.blt p i) (ck_ o)&&sw_ os (i+1)
def ft_ (fr:Nat) (C:List AO):List AO:=match C[fr]? with
  | some .unborn=>C.set fr .gone
  | _=>C
section
variable {ρ:Type} {P:Program} [Tb P]
def stepW (cx:Cx P) (env:Nat→AV) (fr0 fr:Nat) (o:Oper) (anc:List Nat) (vals:List AV) (recs:List DR) (F:List Nat) (C vis:List AO) (k:AV→DR→List AO→Option ρ):Option ρ :=
  cond (okC anc F true 0 recs&&okS2 fr0 anc vals F C vis) (bn3 cx o env vis fr λav ob =>
    cond (av.lt (vis.set fr .gone)&&okW (fr::F) (vis.set fr .gone) 0 (ft_ fr (jo_ (fr::F) 0 C ob))&&fd_ (born (ft_ fr (jo_ (fr::F) 0 C ob))) F&&Nat.ble C.length ob.length)
      (frcA av λav=>cu3 (ft_ fr (jo_ (fr::F) 0 C ob)) λob'=>k av ⟨F,true⟩ ob') none) none
def stepN (P:Program) [Tb P] (env:Nat→AV) (fr0 fr:Nat) (o:Oper) (anc:List Nat) (vals:List AV) (recs:List DR) (F:List Nat) (C vis:List AO) (k:AV→DR→List AO→Option ρ):Option ρ :=
  cond (okC anc F false 0 recs&&okS2 fr0 anc vals F C vis) (stepP P o (rsl vis env) vis λav =>
    cond (av.lt (vis.set fr .gone)) (frcA av λav=>cu3 (ft_ fr C) λob'=>k av ⟨F,false⟩ ob') none) none
def stepF (cx:Cx P) (env:Nat→AV) (fr0 fr:Nat) (o:Oper) (anc:List Nat) (vals:List AV) (recs:List DR) (C:List AO) (F:List Nat) (k:AV→DR→List AO→Option ρ):Option ρ :=
  cond (isWr o) (stepW cx env fr0 fr o anc vals recs F C (pb_ fr0 anc F 0 C) k) (stepN P env fr0 fr o anc vals recs F C (pb_ fr0 anc F 0 C) k)
def aq9 (cx:Cx P) (n:Nat) (sl:Nat→AV) (dsts:List (Option Nat)) (tab:List (List Nat)) (fr0 fr:Nat) (o:Oper) (anc:List Nat) (vals:List AV) (recs:List DR) (C:List AO) (k:AV→DR→List AO→Option ρ):Option ρ :=
  cond (ew_ n o.dst) (stepF cx (ce9 sl dsts tab anc vals) fr0 fr o anc vals recs C (foot o (ce9 sl dsts tab anc vals) C) k) none
def th_ (cx:Cx P) (n:Nat) (sl:Nat→AV) (dsts:List (Option Nat)) (tab:List (List Nat)) (fr0:Nat):List Oper→List (List Nat)→List AV→List DR→List AO→(List AV→List AO→Option ρ)→Option ρ
  | [],_,vals,_,objs,k=>k vals objs
  | o::os,anc::ancs,vals,recs,objs,k=>match o.guard with
    | none=>aq9 cx n sl dsts tab fr0 (fr0+vals.length) o anc vals recs objs λav r ob=>th_ cx n sl dsts tab fr0 os ancs (vals++[av]) (recs++[r]) ob k
    | some (j,b)=>cond (inL j anc&&dstG n dsts j) ((vals[j]?).bind λvj=>cond (unA vj) (cond (ew_ n o.dst) (th_ cx n sl dsts tab fr0 os ancs (vals++[.tup []]) (recs++[⟨[],false⟩]) (ft_ (fr0+vals.length) objs) k) none) ((asD .bool vj).bind λc =>
        cond c (cond b (aq9 cx n sl dsts tab fr0 (fr0+vals.length) o anc (vals.set j (bV true)) recs objs λav r ob=>th_ cx n sl dsts tab fr0 os ancs (vals.set j (bV true)++[av]) (recs++[r]) ob k)
            (cond (ew_ n o.dst) (th_ cx n sl dsts tab fr0 os ancs (vals.set j (bV true)++[.tup []]) (recs++[⟨[],false⟩]) (ft_ (fr0+vals.length) objs) k) none))
          (cond b (cond (ew_ n o.dst) (th_ cx n sl dsts tab fr0 os ancs (vals.set j (bV false)++[.tup []]) (recs++[⟨[],false⟩]) (ft_ (fr0+vals.length) objs) k) none)
            (aq9 cx n sl dsts tab fr0 (fr0+vals.length) o anc (vals.set j (bV false)) recs objs λav r ob=>th_ cx n sl dsts tab fr0 os ancs (vals.set j (bV false)++[av]) (recs++[r]) ob k)))) none
  | _::_,[],_,_,_,_=>none
def sy_:List (Option Nat)→Bool
  | []=>true
  | some d::l=>!(l.contains (some d))&&sy_ l
  | none::l=>sy_ l
def regD (cx:Cx P) (n:Nat) (ops:List Oper) (s:A) (k:A→Option ρ):Option ρ :=
  cond (P.follows .mixedOrders&&sy_ (ops.map (·.dst))&&sw_ ops 0) (ancF ops [] λancs=>th_ cx n s.slot (ops.map (·.dst)) ancs s.objs.length ops ancs [] [] (s.objs++List.replicate ops.length .unborn) λvals ob =>
    k ⟨λd=>match go_ d (ops.map (·.dst)) 0 with
      | none=>s.slot d
      | some j=>(vals[j]?).getD (.b .dead),ob⟩) none
end
end
section
variable [Gb]
def mskA (a:AV):AV:=cond (a.lt []) a (.b .dead)
def envQ (sl:Nat→AV) (dsts:List (Option Nat)) (tab:List (List Nat)) (anc:List Nat) (vals:List AV) (d:Nat):AV:=mskA (ce9 sl dsts tab anc vals d)
section
variable {ρ:Type} {P:Program} [Tb P]
def aq8 (cx:Cx P) (n:Nat) (sl:Nat→AV) (dsts:List (Option Nat)) (tab:List (List Nat)) (o:Oper) (anc:List Nat) (vals:List AV) (k:AV→Option ρ):Option ρ :=
  cond (ew_ n o.dst) (bn3 cx o (envQ sl dsts tab anc vals) [] 0 λav _=>cond (av.lt []) (frcA av k) none) none
def tf_ (cx:Cx P) (n:Nat) (sl:Nat→AV) (dsts:List (Option Nat)) (tab:List (List Nat)):List Oper→List (List Nat)→List AV→(List AV→Option ρ)→Option ρ
  | [],_,vals,k=>k vals
  | o::os,anc::ancs,vals,k=>match o.guard with
    | none=>aq8 cx n sl dsts tab o anc vals λav=>tf_ cx n sl dsts tab os ancs (vals++[av]) k
    | some (j,b)=>cond (inL j anc&&dstG n dsts j) ((vals[j]?).bind λvj=>cond (unA vj) (cond (ew_ n o.dst) (tf_ cx n sl dsts tab os ancs (vals++[.tup []]) k) none) ((asD .bool vj).bind λc =>
        cond c (cond b (aq8 cx n sl dsts tab o anc (vals.set j (bV true)) λav=>tf_ cx n sl dsts tab os ancs (vals.set j (bV true)++[av]) k)
            (cond (ew_ n o.dst) (tf_ cx n sl dsts tab os ancs (vals.set j (bV true)++[.tup []]) k) none))
          (cond b (cond (ew_ n o.dst) (tf_ cx n sl dsts tab os ancs (vals.set j (bV false)++[.tup []]) k) none)
            (aq8 cx n sl dsts tab o anc (vals.set j (bV false)) λav=>tf_ cx n sl dsts tab os ancs (vals.set j (bV false)++[av]) k)))) none
  | _::_,[],_,_=>none
def regQ (cx:Cx P) (n:Nat) (ops:List Oper) (s:A) (k:A→Option ρ):Option ρ :=
  cond (P.follows .mixedOrders&&sy_ (ops.map (·.dst))&&sw_ ops 0) (ancF ops [] λancs=>tf_ cx n s.slot (ops.map (·.dst)) ancs ops ancs [] λvals =>
    k ⟨λd=>match go_ d (ops.map (·.dst)) 0 with
      | none=>s.slot d
      | some j=>(vals[j]?).getD (.b .dead),s.objs⟩) none
end
end
section
variable [Gb]
def VOk (V avs:List AV):Prop:=V.length=avs.length∧∀ (j:Nat) (a:AV),V[j]?=some a→∃ a0,avs[j]?=some a0∧(a=a0∨∃ c,asD .bool a0=some c∧a=bV c)
theorem VOk.app {V avs:List AV} (h:VOk V avs) (a:AV):VOk (V++[a]) (avs++[a]):=by
  refine⟨by simp[h.1],λj b hb => ?_⟩
  by_cases hj:j<V.length
  · rw[b2_ hj] at hb
    obtain⟨a0,h1,h2⟩:=h.2 j b hb
    exact⟨a0,by rw[b2_ (by rw[← h.1];exact hj)];exact h1,h2⟩
  · rw[d0_ (by omega)] at hb
    have h0:j - V.length=0:=by
      have:=(a3_.1 hb).1
      simp at this
      omega
    rw[h0] at hb
    have e:a=b:=by simpa using hb
    refine⟨a,?_,.inl e.symm⟩
    rw[d0_ (by rw[← h.1];omega),← h.1,h0]
    rfl
theorem VOk.set {V avs:List AV} (h:VOk V avs) {j:Nat} {vj:AV} {c:Bool} (hj:V[j]?=some vj) (hc:asD .bool vj=some c):VOk (V.set j (bV c)) avs:=by
  refine⟨by simp[h.1],λi b hb => ?_⟩
  by_cases e:j=i
  · subst e
    have hl:=(a3_.1 hj).1
    obtain⟨a0,h1,h2⟩:=h.2 j vj hj
    have hb':bV c=b:=by simpa [hl] using hb
    subst hb'
    rcases h2 with rfl | ⟨c',h3,rfl⟩
    · exact⟨vj,h1,.inr ⟨c,hc,rfl⟩⟩
    · have:c'=c:=by
        have h4:asD .bool (bV c')=some c':=rfl
        rw[h4] at hc
        exact a5_ hc
      subst this
      exact⟨a0,h1,.inr ⟨c',h3,rfl⟩⟩
  · rw[b6_ e] at hb
    exact h.2 i b hb
structure Ran (P:Program) [Tb P] (n:Nat) (sl:Nat→AV) (dsts:List (Option Nat)) (tab:List (List Nat)) (fr0 fr:Nat) (o:Oper) (anc:List Nat) (V:List AV) (recs:List DR) (C:List AO) (av:AV) (r:DR) (C':List AO):Prop where
  dst:ew_ n o.dst=true
  okc:okC anc r.F r.wr 0 recs=true
  oks:okS2 fr0 anc V r.F C (pb_ fr0 anc r.F 0 C)=true
  lt:av.lt ((pb_ fr0 anc r.F 0 C).set fr .gone)=true
  run:(r.wr=true∧∃ ob,OpUn P o (ce9 sl dsts tab anc V) (pb_ fr0 anc r.F 0 C) av ob∧C'=ft_ fr (jo_ (fr::r.F) 0 C ob)∧okW (fr::r.F) ((pb_ fr0 anc r.F 0 C).set fr .gone) 0 C'=true∧fd_ (born C') r.F=true∧C.length≤ob.length) ∨
     (r.wr=false∧OpUn P o (ce9 sl dsts tab anc V) (pb_ fr0 anc r.F 0 C) av (pb_ fr0 anc r.F 0 C)∧C'=ft_ fr C)
structure Good (P:Program) [Tb P] (n:Nat) (sl:Nat→AV) (dsts:List (Option Nat)) (tab:List (List Nat)) (fr0 fr:Nat) (o:Oper) (anc:List Nat) (avs:List AV) (recs:List DR) (C:List AO) (av:AV) (r:DR) (C':List AO):Prop where
  go:∃ V,VOk V avs∧match o.guard with
    | none=>Ran P n sl dsts tab fr0 fr o anc V recs C av r C'
    | some (j,b)=>inL j anc=true∧dstG n dsts j=true∧∃ a0,avs[j]?=some a0∧((asD .bool a0=some b∧Ran P n sl dsts tab fr0 fr o anc V recs C av r C')∨((asD .bool a0=some (!b)∨unA a0=true)∧ew_ n o.dst=true∧av = .tup []∧r=⟨[],false⟩∧C'=ft_ fr C))
def sl_ (P:Program) [Tb P] (n:Nat) (sl:Nat→AV) (dsts:List (Option Nat)) (tab:List (List Nat)) (fr0:Nat):List Oper→List (List Nat)→List AV→List DR→List AO→List (AV×DR×List AO)→Prop
  | [],_,_,_,_,[]=>True
  | o::os,anc::ancs,avs,recs,C,q::tr=>Good P n sl dsts tab fr0 (fr0+avs.length) o anc avs recs C q.1 q.2.1 q.2.2∧sl_ P n sl dsts tab fr0 os ancs (avs++[q.1]) (recs++[q.2.1]) q.2.2 tr
  | _,_,_,_,_,_=>False
def sz_ (C:List AO):List (AV×DR×List AO)→List AO
  | []=>C
  | q::tr=>sz_ q.2.2 tr
section
variable {ρ:Type} {P:Program} [Tb P] {cx:Cx P} {n:Nat} {sl:Nat→AV} {dsts:List (Option Nat)} {tab:List (List Nat)} {r:ρ}
theorem cg9 {fr0 fr:Nat} {o:Oper} {anc:List Nat} {vals:List AV} {recs:List DR} {C:List AO} {k:AV→DR→List AO→Option ρ} (h:aq9 cx n sl dsts tab fr0 fr o anc vals recs C k=some r) :
    ∃ av rc C',k av rc C'=some r∧Ran P n sl dsts tab fr0 fr o anc vals recs C av rc C':=by
  unfold aq9 at h
  obtain⟨hd,h⟩:=bv_ h
  unfold stepF stepW stepN at h
  simp only[af8,af7] at h
  cases hw:isWr o with
  | true =>
    rw[hw] at h
    obtain⟨hc,h⟩:=bv_ (show cond _ _ none=some r from h)
    obtain⟨av,ob,h1,h2⟩:=aa6 h
    obtain⟨hk,h1⟩:=bv_ h1
    simp only[a2_] at hk hc
    exact⟨av,_,_,h1,hd,hc.1,hc.2,hk.1.1.1,.inl ⟨rfl,ob,h2,rfl,hk.1.1.2,hk.1.2,c0_ hk.2⟩⟩
  | false =>
    rw[hw] at h
    obtain⟨hc,h⟩:=bv_ (show cond _ _ none=some r from h)
    obtain⟨av,h1,h2⟩:=aa5 h
    obtain⟨hk,h1⟩:=bv_ h1
    simp only[a2_] at hc
    exact⟨av,_,_,h1,hd,hc.1,hc.2,hk,.inr ⟨rfl,OpUn.rs h2.un,rfl⟩⟩
theorem ag9 {fr0:Nat}:∀ {os:List Oper} {ancs:List (List Nat)} {vals avs:List AV} {recs:List DR} {C:List AO} {k:List AV→List AO→Option ρ},th_ cx n sl dsts tab fr0 os ancs vals recs C k=some r→VOk vals avs →
    ∃ tr V,sl_ P n sl dsts tab fr0 os ancs avs recs C tr∧VOk V (avs++tr.map (·.1))∧k V (sz_ C tr)=some r
  | [],ancs,vals,avs,recs,C,k,h,hv=>⟨[],vals,trivial,by simpa using hv,h⟩
  | o::os,[],vals,avs,recs,C,k,h,hv=>by cases h
  | o::os,anc::ancs,vals,avs,recs,C,k,h,hv=>by
    unfold th_ at h
    have run:∀ (V:List AV),VOk V avs→aq9 cx n sl dsts tab fr0 (fr0+vals.length) o anc V recs C (λav r ob=>th_ cx n sl dsts tab fr0 os ancs (V++[av]) (recs++[r]) ob k)=some r →
        (∀ av rc C',Ran P n sl dsts tab fr0 (fr0+avs.length) o anc V recs C av rc C'→Good P n sl dsts tab fr0 (fr0+avs.length) o anc avs recs C av rc C') →
        ∃ tr V,sl_ P n sl dsts tab fr0 (o::os) (anc::ancs) avs recs C tr∧VOk V (avs++tr.map (·.1))∧k V (sz_ C tr)=some r:=λV hV h hg=>by
      obtain⟨av,rc,C',h1,h2⟩:=cg9 h
      obtain⟨tr,W,g1,g2,g3⟩:=ag9 h1 (hV.app av)
      rw[hv.1] at h2
      refine⟨(av,rc,C')::tr,W,⟨hg av rc C' h2,g1⟩,by simpa using g2,g3⟩
    have skip:∀ (V:List AV),VOk V avs→cond (ew_ n o.dst) (th_ cx n sl dsts tab fr0 os ancs (V++[.tup []]) (recs++[⟨[],false⟩]) (ft_ (fr0+vals.length) C) k) none=some r →
        (ew_ n o.dst=true→Good P n sl dsts tab fr0 (fr0+avs.length) o anc avs recs C (.tup []) ⟨[],false⟩ (ft_ (fr0+avs.length) C)) →
        ∃ tr V,sl_ P n sl dsts tab fr0 (o::os) (anc::ancs) avs recs C tr∧VOk V (avs++tr.map (·.1))∧k V (sz_ C tr)=some r:=λV hV h hg=>by
      obtain⟨hd,h⟩:=bv_ h
      obtain⟨tr,W,g1,g2,g3⟩:=ag9 h (hV.app (.tup []))
      rw[hv.1] at g1 g3
      exact⟨(.tup [],⟨[],false⟩,ft_ (fr0+avs.length) C)::tr,W,⟨hg hd,g1⟩,by simpa using g2,g3⟩
    split at h
    · rename_i hg
      exact run vals hv h λav rc C' hR=>⟨vals,hv,by rw[hg];exact hR⟩
    · rename_i j b hg
      obtain⟨hj,h⟩:=bv_ h
      rw[a2_] at hj
      obtain⟨hj,hjd⟩:=hj
      obtain⟨vj,hvj,h⟩:=bnd h
      obtain⟨a0,ha0,hrel⟩:=hv.2 j vj hvj
      cases hun:unA vj with
      | true =>
        rw[hun] at h
        have hun0:unA a0=true:=by
          rcases hrel with rfl | ⟨c',h3,rfl⟩
          · exact hun
          · cases hun
        exact skip vals hv (show cond (ew_ n o.dst) _ none=some r from h) λhd=>⟨vals,hv,by rw[hg];exact⟨hj,hjd,a0,ha0,.inr ⟨.inr hun0,hd,rfl,rfl,rfl⟩⟩⟩
      | false =>
      rw[hun] at h
      obtain⟨c,hc,h⟩:=bnd (show Option.bind _ _=some r from h)
      have hc0:asD .bool a0=some c:=by
        rcases hrel with rfl | ⟨c',h3,rfl⟩
        · exact hc
        · have h4:asD .bool (bV c')=some c':=rfl
          rw[h4] at hc
          cases hc
          exact h3
      have hV:=hv.set hvj hc
      have go:∀ c',c'=c→c'=b→aq9 cx n sl dsts tab fr0 (fr0+vals.length) o anc (vals.set j (bV c')) recs C (λav r ob=>th_ cx n sl dsts tab fr0 os ancs (vals.set j (bV c')++[av]) (recs++[r]) ob k)=some r→_:=λc' e e2 h =>
        run (vals.set j (bV c')) (by rw[e];exact hV) h λav rc C' hR=>⟨vals.set j (bV c'),by rw[e];exact hV,by rw[hg];exact⟨hj,hjd,a0,ha0,.inl ⟨hc0.trans (congrArg some (e.symm.trans e2)),hR⟩⟩⟩
      have no:∀ c',c'=c→c' = !b→cond (ew_ n o.dst) (th_ cx n sl dsts tab fr0 os ancs (vals.set j (bV c')++[.tup []]) (recs++[⟨[],false⟩]) (ft_ (fr0+vals.length) C) k) none=some r→_:=λc' e e2 h =>
        skip (vals.set j (bV c')) (by rw[e];exact hV) h λhd=>⟨vals.set j (bV c'),by rw[e];exact hV,by rw[hg];exact⟨hj,hjd,a0,ha0,.inr ⟨.inl (hc0.trans (congrArg some (e.symm.trans e2))),hd,rfl,rfl,rfl⟩⟩⟩
      cases c with
      | true=>cases b with
        | true=>exact go true rfl rfl h
        | false=>exact no true rfl rfl h
      | false=>cases b with
        | true=>exact no false rfl rfl h
        | false=>exact go false rfl rfl h
end
end
section
variable [Gb]
theorem pp_ {F:List Nat}:∀ {l m:List AO} {i j:Nat},l.length≤m.length→(jo_ F i l m)[j]?=cond (inL (i+j) F&&Nat.blt j l.length) (m[j]?) (l[j]?)
  | [],m,i,j,_=>by
    have h0:Nat.blt j ([]:List AO).length=false:=rfl
    rw[h0,f9_]
    simp[jo_]
  | a::l,[],i,j,h=>by simp at h
  | a::l,b::m,i,0,h=>by
    simp only[jo_,m4_,n6_,c5_]
    have:Nat.blt 0 (l.length+1)=true:=rfl
    rw[this,h4_]
    cases inL i F<;>rfl
  | a::l,b::m,i,j+1,h=>by
    simp only[jo_,i5_,c5_]
    rw[pp_ (l:=l) (m:=m) (i:=i+1) (j:=j) (by simpa using h),show i+1+j=i+(j+1) by omega]
    have:Nat.blt (j+1) (l.length+1)=Nat.blt j l.length:=rfl
    rw[this]
theorem mn_ {F:List Nat}:∀ {l m:List AO} {i:Nat},(jo_ F i l m).length=l.length
  | [],m,i=>by simp[jo_]
  | a::l,[],i=>by simp[jo_]
  | a::l,b::m,i=>by simp[jo_,mn_ (l:=l)]
theorem py_ {fr:Nat} {C:List AO}:(ft_ fr C).length=C.length:=by
  unfold ft_
  split<;>simp
theorem sj_ {fr o:Nat} {C:List AO} (h:o≠fr):(ft_ fr C)[o]?=C[o]?:=by
  unfold ft_
  split
  · exact b6_ (o6_ h)
  · rfl
theorem qx_ {fr:Nat} {C:List AO} (h:fr<C.length):born (ft_ fr C) fr=true:=by
  unfold ft_
  split
  · exact ba_.2 ⟨.gone,by simp[h],by simp⟩
  · rename_i hne
    exact ba_.2 ⟨C[fr],a7_ h,λe=>hne (by rw[a7_ h,e])⟩
def tch (fr0 o t:Nat) (q:AV×DR×List AO):Bool:=Nat.beq o (fr0+t)||(q.2.1.wr&&inL o q.2.1.F)
def cAt (done:Nat→Bool) (fr0 o:Nat):Nat→List (AV×DR×List AO)→Option AO→Option AO
  | _,[],a=>a
  | t,q::tr,a=>cAt done fr0 o (t+1) tr (cond (done t&&tch fr0 o t q) (q.2.2[o]?) a)
theorem ov_ {done done':Nat→Bool} {fr0 o:Nat}:∀ {tr:List (AV×DR×List AO)} {t:Nat} {a:Option AO},(∀ i q,tr[i]?=some q→tch fr0 o (t+i) q=true→done (t+i)=done' (t+i))→cAt done fr0 o t tr a=cAt done' fr0 o t tr a
  | [],t,a,_=>rfl
  | q::tr,t,a,h=>by
    unfold cAt
    have e:(done t&&tch fr0 o t q)=(done' t&&tch fr0 o t q):=by
      cases ht:tch fr0 o t q with
      | false=>simp
      | true=>have:=h 0 q rfl (by simpa using ht);simpa using this
    rw[e]
    exact ov_ λi q' hq ht=>by
      have:=h (i+1) q' (by simpa using hq) (by rw[show t+(i+1)=t+1+i by omega];exact ht)
      rw[show t+1+i=t+(i+1) by omega]
      exact this
theorem vl_ {done:Nat→Bool} {fr0 o:Nat}:∀ {tr:List (AV×DR×List AO)} {t:Nat} {a:Option AO},(∀ i q,tr[i]?=some q→tch fr0 o (t+i) q=true→done (t+i)=false)→cAt done fr0 o t tr a=a
  | [],t,a,_=>rfl
  | q::tr,t,a,h=>by
    unfold cAt
    have e:(done t&&tch fr0 o t q)=false:=by
      cases ht:tch fr0 o t q with
      | false=>simp
      | true=>have:=h 0 q rfl (by simpa using ht);simpa using this
    rw[e]
    exact vl_ λi q' hq ht=>by
      have:=h (i+1) q' (by simpa using hq) (by rw[show t+(i+1)=t+1+i by omega];exact ht)
      rw[show t+1+i=t+(i+1) by omega]
      exact this
section
variable {P:Program} [Tb P] {n:Nat} {sl:Nat→AV} {dsts:List (Option Nat)} {tab:List (List Nat)} {fr0:Nat}
theorem Good.out {fr:Nat} {o:Oper} {anc:List Nat} {avs:List AV} {recs:List DR} {C C':List AO} {av:AV} {r:DR} (h:Good P n sl dsts tab fr0 fr o anc avs recs C av r C') :
    C'.length=C.length∧∀ p,p≠fr→(r.wr&&inL p r.F)=false→C'[p]?=C[p]?:=by
  have ran:∀ V,Ran P n sl dsts tab fr0 fr o anc V recs C av r C'→C'.length=C.length∧∀ p,p≠fr→(r.wr&&inL p r.F)=false→C'[p]?=C[p]?:=by
    rintro V ⟨_,_,_,_,⟨hw,ob,_,rfl,_,_,hl⟩ | ⟨hw,_,rfl⟩⟩
    · refine⟨by rw[py_,mn_],λp hp hn => ?_⟩
      rw[sj_ hp,pp_ hl,b0_]
      have hb:Nat.beq p fr=false:=by
        cases hb:Nat.beq p fr with
        | false=>rfl
        | true=>exact absurd (a6_ hb) hp
      rw[hw,b7_] at hn
      simp[inL,hb,hn]
    · exact⟨py_,λp hp _=>sj_ hp⟩
  obtain⟨V,_,hg⟩:=h.go
  split at hg
  · exact ran V hg
  · obtain⟨_,_,a0,_,⟨_,hR⟩ | ⟨_,_,_,_,rfl⟩⟩:=hg
    · exact ran V hR
    · exact⟨py_,λp hp _=>sj_ hp⟩
def Cat (C:List AO) (tr:List (AV×DR×List AO)) (t:Nat):List AO:=sz_ C (tr.take t)
theorem nf_:∀ {os:List Oper} {ancs:List (List Nat)} {avs:List AV} {recs:List DR} {C:List AO} {tr:List (AV×DR×List AO)},sl_ P n sl dsts tab fr0 os ancs avs recs C tr →
    tr.length=os.length∧∀ (t:Nat) (o:Oper),os[t]?=some o→∃ anc q,ancs[t]?=some anc∧tr[t]?=some q∧Good P n sl dsts tab fr0 (fr0+(avs.length+t)) o anc (avs++(tr.take t).map (·.1)) (recs++(tr.take t).map (·.2.1)) (Cat C tr t) q.1 q.2.1 q.2.2
  | [],ancs,avs,recs,C,[],h=>⟨rfl,λt o ho=>by simp at ho⟩
  | [],ancs,avs,recs,C,_::_,h=>h.elim
  | o::os,[],avs,recs,C,tr,h=>by cases tr<;>exact h.elim
  | o::os,anc::ancs,avs,recs,C,[],h=>h.elim
  | o::os,anc::ancs,avs,recs,C,q::tr,h=>by
    obtain⟨h1,h2⟩:=h
    obtain⟨g1,g2⟩:=nf_ h2
    refine⟨by simp[g1],λt p hp => ?_⟩
    cases t with
    | zero =>
      simp at hp
      subst hp
      exact⟨anc,q,rfl,rfl,by simpa [Cat,sz_] using h1⟩
    | succ t =>
      obtain⟨anc',q',e1,e2,e3⟩:=g2 t p (by simpa using hp)
      refine⟨anc',q',by simpa using e1,by simpa using e2,?_⟩
      have e4:(avs++[q.1]).length+t=avs.length+(t+1):=by simp;omega
      rw[e4] at e3
      simpa [Cat,sz_] using e3
theorem bv4 {C:List AO}:∀ {a b:List (AV×DR×List AO)},sz_ C (a++b)=sz_ (sz_ C a) b:=by
  intro a
  induction a generalizing C with
  | nil=>intro b;rfl
  | cons q a ih=>intro b;exact ih (C:=q.2.2)
theorem vo_ {C:List AO} {tr:List (AV×DR×List AO)} {t:Nat} {q:AV×DR×List AO} (h:tr[t]?=some q):Cat C tr (t+1)=q.2.2:=by
  unfold Cat
  obtain⟨hl,e⟩:=a3_.1 h
  rw[List.take_succ_eq_append_getElem hl,bv4,e]
  rfl
end
end
section
variable [Gb]
theorem xd_ {i:Nat}:∀ {l:List Nat},inL i l=true↔i ∈ l
  | []=>by simp[inL]
  | a::l=>by
    simp only[inL,c9_,e1_,xd_ (l:=l)]
    exact⟨λh=>h.imp (λh=>a6_ h) id,λh=>h.imp (λh=>by rw[h];exact i1_ a) id⟩
theorem bj4 {acc:List (List Nat)} {p:Nat} {ps:List Nat} (h:p ∈ ps):inL p (ao1 acc ps)=true:=by
  rw[xd_]
  exact (ww_ acc ps []).2 (.inr ⟨p,h,.inl rfl⟩)
theorem bj5 {acc:List (List Nat)} {j:Nat} {ps:List Nat} (h:inL j (ao1 acc ps)=true):∃ p ∈ ps,j=p∨inL j ((acc[p]?).getD [])=true:=by
  rcases (ww_ acc ps []).1 (xd_.1 h) with h | ⟨p,h1,h2⟩
  · cases h
  · exact⟨p,h1,h2.imp id xd_.2⟩
theorem bf2 {j:Nat} (os:List Oper):∀ (acc:List (List Nat)),j<acc.length→(le_ os acc)[j]?=acc[j]?:=by
  induction os with
  | nil=>intro acc h;rfl
  | cons o os ih =>
    intro acc h
    show (le_ os (acc++[ao1 acc (ck_ o)]))[j]?=_
    rw[ih _ (by simp;omega),b2_ h]
theorem ancL_at (os:List Oper):∀ (acc:List (List Nat)) (t:Nat) (o:Oper),os[t]?=some o→∃ a2:List (List Nat),(∀ (p:Nat) (x:List Nat),a2[p]?=some x→(le_ os acc)[p]?=some x)∧(le_ os acc)[acc.length+t]?=some (ao1 a2 (ck_ o)):=by
  induction os with
  | nil=>intro acc t o h;simp at h
  | cons o' os ih =>
    intro acc t o h
    cases t with
    | zero =>
      have e:o'=o:=by simpa using h
      subst e
      refine⟨acc,λq x hq => ?_,?_⟩
      · rw[bf2 _ _ (a3_.1 hq).1];exact hq
      · show (le_ os (acc++[ao1 acc (ck_ o')]))[acc.length+0]?=_
        rw[bf2 _ _ (by simp)]
        simp
    | succ t =>
      obtain⟨a2,h1,h2⟩:=ih (acc++[ao1 acc (ck_ o')]) t o (by simpa using h)
      refine⟨a2,λq x hq=>h1 q x hq,?_⟩
      rw[show acc.length+(t+1)=(acc++[ao1 acc (ck_ o')]).length+t by simp;omega]
      exact h2
theorem bf1 {os:List Oper} {i:Nat} {o:Oper} {anc:List Nat} (ho:os[i]?=some o) (ha:(le_ os [])[i]?=some anc) :
    (∀ p ∈ ck_ o,inL p anc=true)∧∀ j,inL j anc=true→∃ p ∈ ck_ o,j=p∨∃ ap,(le_ os [])[p]?=some ap∧inL j ap=true:=by
  obtain⟨a2,h1,h2⟩:=ancL_at os [] i o ho
  simp only[j1_,b0_] at h2
  rw[ha] at h2
  cases h2
  refine⟨λp hp=>bj4 hp,λj hj => ?_⟩
  obtain⟨p,hp,hpj⟩:=bj5 hj
  refine⟨p,hp,hpj.imp id λh => ?_⟩
  cases hq:a2[p]? with
  | none=>rw[hq] at h;simp[inL] at h
  | some x=>rw[hq] at h;exact⟨x,h1 p x hq,h⟩
theorem cb1 {done:Nat→Bool} {fr0 o:Nat}:∀ {a b:List (AV×DR×List AO)} {t:Nat} {x:Option AO},cAt done fr0 o t (a++b) x=cAt done fr0 o (t+a.length) b (cAt done fr0 o t a x)
  | [],b,t,x=>rfl
  | q::a,b,t,x=>by
    simp only[l1_,cAt,c5_]
    rw[cb1 (a:=a) (b:=b) (t:=t+1),show t+1+a.length=t+(a.length+1) by omega]
section
variable {P:Program} [Tb P] {n:Nat} {sl:Nat→AV} {dsts:List (Option Nat)} {tab:List (List Nat)} {fr0:Nat} {os:List Oper} {ancs:List (List Nat)} {C0:List AO} {tr:List (AV×DR×List AO)}
theorem qv_ (h:sl_ P n sl dsts tab fr0 os ancs [] [] C0 tr):∀ {t:Nat},t≤os.length→(Cat C0 tr t).length=C0.length:=by
  obtain⟨hl,hg⟩:=nf_ h
  intro t
  induction t with
  | zero=>intro _;rfl
  | succ t ih =>
    intro ht
    obtain⟨anc,q,_,h2,h3⟩:=hg t (os[t]'(by omega)) (a7_ _)
    rw[vo_ h2,h3.out.1,ih (by omega)]
theorem ca4 (h:sl_ P n sl dsts tab fr0 os ancs [] [] C0 tr) {o:Nat}:∀ {t:Nat},t≤os.length→(Cat C0 tr t)[o]?=cAt (λi=>Nat.blt i t) fr0 o 0 tr (C0[o]?):=by
  obtain⟨hl,hg⟩:=nf_ h
  have blt:∀ {a b:Nat},Nat.blt a b=true↔a<b:=λ{a b}=>⟨λh=>c0_ h,λh=>i0_ h⟩
  have nblt:∀ {a b:Nat},Nat.blt a b=false↔¬ a<b:=λ{a b}=>by
    cases hb:Nat.blt a b with
    | true=>simp[blt.1 hb]
    | false=>simp; (have:¬ a<b:=λh=>by rw[blt.2 h] at hb;cases hb);omega
  intro t
  induction t with
  | zero =>
    intro _
    rw[vl_ λi q _ _=>by rw[nblt];omega]
    rfl
  | succ t ih =>
    intro ht
    have ih:=ih (by omega)
    obtain⟨anc,q,_,h2,h3⟩:=hg t (os[t]'(by omega)) (a7_ _)
    rw[vo_ h2]
    obtain⟨htl,he⟩:=a3_.1 h2
    have e:tr=tr.take t++q::tr.drop (t+1):=by
      rw[← he,List.getElem_cons_drop htl,h2_]
    have el:(tr.take t).length=t:=by simp;omega
    rw[e,cb1,el,b0_] at ih ⊢
    simp only[cAt] at ih ⊢
    rw[vl_ (λi q' _ _=>by rw[nblt];omega)] at ih ⊢
    have b1:Nat.blt t t=false:=nblt.2 (by omega)
    have b2:Nat.blt t (t+1)=true:=blt.2 (by omega)
    rw[b1,e0_,a1_] at ih
    rw[b2,b7_]
    have e2:cAt (λi=>Nat.blt i (t+1)) fr0 o 0 (tr.take t) C0[o]?=cAt (λi=>Nat.blt i t) fr0 o 0 (tr.take t) C0[o]?:=ov_ λi q' hq _=>by
      have:=(a3_.1 hq).1
      rw[el] at this
      rw[b0_,blt.2 (show i<t+1 by omega),blt.2 this]
    rw[e2,← ih]
    cases htc:tch fr0 o t q with
    | true=>rfl
    | false =>
      simp only[a1_]
      unfold tch at htc
      rw[c2_] at htc
      have hne:o≠fr0+t:=by rintro rfl;simp at htc
      have:=h3.out.2 o (by simpa using hne) htc.2
      rw[this]
      have e3:Cat C0 tr t=Cat C0 (tr.take t++q::tr.drop (t+1)) t:=by rw[← e]
      rw[e3]
end
end
section
variable [Gb]
theorem mf_ {a b:Nat}:Nat.blt a b=true↔a<b:=⟨λh=>c0_ h,λh=>i0_ h⟩
theorem ai2 {a b:Nat}:Nat.blt a b=false↔¬ a<b:=by
  rw[← mf_,Bool.not_eq_true]
theorem xy_ {a b:Nat} (h:a≠b):Nat.beq a b=false:=by
  cases hb:Nat.beq a b with
  | false=>rfl
  | true=>exact absurd (a6_ hb) h
theorem rp_:∀ {os:List Oper} {i t:Nat} {o:Oper},sw_ os i=true→os[t]?=some o→∀ p ∈ ck_ o,p<i+t:=by
  intro os
  induction os with
  | nil=>intro i t o _ h;simp at h
  | cons o' os ih =>
    intro i t o h ht p hp
    unfold sw_ at h
    rw[a2_] at h
    cases t with
    | zero =>
      have e:o'=o:=by simpa using ht
      subst e
      exact mf_.1 (bj_ h.1 p hp)
    | succ t =>
      have:=ih h.2 (show os[t]?=some o by simpa using ht) p hp
      omega
theorem ap7 {os:List Oper} (hp:sw_ os 0=true):∀ {i:Nat} {o:Oper} {anc:List Nat},os[i]?=some o→(le_ os [])[i]?=some anc→∀ {j:Nat},inL j anc=true→j<i:=by
  intro i
  induction i using Nat.strongRecOn with
  | _ i ih =>
    intro o anc ho ha j hj
    obtain⟨p,hpm,h⟩:=(bf1 ho ha).2 j hj
    have hpi:=rp_ hp ho p hpm
    rw[b0_] at hpi
    rcases h with rfl | ⟨ap,h1,h2⟩
    · exact hpi
    · have hl:p<os.length:=by have:=(a3_.1 ho).1;omega
      have:=ih p hpi (a7_ hl) h1 h2
      omega
def Cl (os:List Oper) (d:Nat→Bool):Prop:=∀ (i:Nat) (anc:List Nat),(le_ os [])[i]?=some anc→d i=true→∀ j,inL j anc=true→d j=true
theorem Cl.step {os:List Oper} {d:Nat→Bool} (h:Cl os d) {i:Nat} {o:Oper} (ho:os[i]?=some o) (hpre:∀ p ∈ ck_ o,d p=true) :
    (∀ anc,(le_ os [])[i]?=some anc→∀ j,inL j anc=true→d j=true)∧Cl os (λj=>Nat.beq j i||d j):=by
  have h1:∀ anc,(le_ os [])[i]?=some anc→∀ j,inL j anc=true→d j=true:=by
    intro anc ha j hj
    obtain⟨p,hp,he⟩:=(bf1 ho ha).2 j hj
    rcases he with rfl | ⟨ap,h1,h2⟩
    · exact hpre _ hp
    · exact h p ap h1 (hpre p hp) j h2
  refine⟨h1,λk anc ha hk j hj => ?_⟩
  rw[c9_]
  rw[c9_] at hk
  rcases hk with hk | hk
  · rw[a6_ hk] at ha
    exact .inr (h1 anc ha j hj)
  · exact .inr (h k anc ha hk j hj)
theorem am5 {o:Nat}:∀ {A B:List Nat},inL o A=true→inL o B=true→ck8 A B=true
  | a::A,B,h,k=>by
    unfold ck8
    rw[c9_]
    unfold inL at h
    rw[c9_] at h
    rcases h with h | h
    · rw[a6_ h] at k;exact .inl k
    · exact .inr (am5 h k)
theorem okC_at {anc F:List Nat} {wr:Bool}:∀ {recs:List DR} {j t:Nat} {r:DR},okC anc F wr j recs=true→recs[t]?=some r→(r.wr||wr)=true→∀ {o:Nat},inL o r.F=true→inL o F=true→inL (j+t) anc=true:=by
  intro recs
  induction recs with
  | nil=>intro j t r _ h;simp at h
  | cons r' recs ih =>
    intro j t r h ht hw o h1 h2
    unfold okC at h
    rw[a2_] at h
    cases t with
    | zero =>
      have e:r'=r:=by simpa using ht
      subst e
      have h3:=h.1
      rw[hw,am5 h1 h2] at h3
      exact h3
    | succ t =>
      have:=ih h.2 (show recs[t]?=some r by simpa using ht) hw h1 h2
      rwa [show j+1+t=j+(t+1) by omega] at this
theorem okF_at {fr0:Nat} {anc:List Nat} {C:List AO} {o:Nat}:∀ {F:List Nat},okF fr0 anc C F=true→inL o F=true→(o<fr0∨inL (o - fr0) anc=true)∧born C o=true:=by
  intro F
  induction F with
  | nil=>intro _ h;simp[inL] at h
  | cons i F ih =>
    intro h k
    simp only[okF,a2_] at h
    simp only[inL,c9_] at k
    rcases k with k | k
    · rw[a6_ k]
      refine⟨?_,h.1.2⟩
      have h3:=h.1.1
      rw[c9_] at h3
      exact h3.imp mf_.1 id
    · exact ih h.2 k
theorem tp_ {l:List AO} {o:Nat} {a:AO} (h:l[o]?=some a):born l o=true↔a≠.unborn:=by
  rw[ba_,h]
  exact⟨λ⟨b,e,hb⟩=>by cases e;exact hb,λhb=>⟨a,rfl,hb⟩⟩
theorem ai1 {l m:List AO} {o:Nat} (h:l[o]?=m[o]?):born l o=born m o:=by
  rw[k7_,ba_,ba_,h]
section
variable {P:Program} [Tb P] {n:Nat} {sl:Nat→AV} {dsts:List (Option Nat)} {tab:List (List Nat)} {fr0:Nat} {os:List Oper} {C0:List AO} {tr:List (AV×DR×List AO)}
theorem Good.foot {fr:Nat} {o:Oper} {anc:List Nat} {avs:List AV} {recs:List DR} {C C':List AO} {av:AV} {r:DR} (h:Good P n sl dsts tab fr0 fr o anc avs recs C av r C') :
    (∀ (t:Nat) (q:DR),recs[t]?=some q→(q.wr||r.wr)=true→∀ {p:Nat},inL p q.F=true→inL p r.F=true→inL t anc=true) ∧
    (∀ {p:Nat},inL p r.F=true→(p<fr0∨inL (p - fr0) anc=true)∧born C p=true) ∧
    (fr<C.length→∀ {p:Nat},(Nat.beq p fr||(r.wr&&inL p r.F))=true→born C' p=true):=by
  have ran:∀ V,Ran P n sl dsts tab fr0 fr o anc V recs C av r C'→_:=λV hR=>by
    refine (⟨λt q hq hw p h1 h2 => ?_,λ{p} hp => ?_,λhfr p hp => ?_⟩ :
      (∀ (t:Nat) (q:DR),recs[t]?=some q→(q.wr||r.wr)=true→∀ {p:Nat},inL p q.F=true→inL p r.F=true→inL t anc=true) ∧
      (∀ {p:Nat},inL p r.F=true→(p<fr0∨inL (p - fr0) anc=true)∧born C p=true) ∧
      (fr<C.length→∀ {p:Nat},(Nat.beq p fr||(r.wr&&inL p r.F))=true→born C' p=true))
    · have:=okC_at hR.okc hq hw h1 h2
      rwa [b0_] at this
    · have hs:=hR.oks
      unfold okS2 at hs
      rw[a2_,a2_] at hs
      exact okF_at hs.1.1 hp
    · rcases hR.run with ⟨hw,ob,_,rfl,_,hb,_⟩ | ⟨hw,_,rfl⟩
      · rw[c9_] at hp
        rcases hp with hp | hp
        · rw[a6_ hp]
          exact qx_ (by rw[mn_];exact hfr)
        · rw[hw,b7_] at hp
          exact bj_ hb p (xd_.1 hp)
      · rw[hw,e0_,i7_] at hp
        rw[a6_ hp]
        exact qx_ hfr
  obtain⟨V,_,hg⟩:=h.go
  split at hg
  · exact ran V hg
  · obtain⟨_,_,a0,_,⟨_,hR⟩ | ⟨_,_,_,rfl,rfl⟩⟩:=hg
    · exact ran V hR
    · refine⟨λt q _ _ p _ h=>by simp[inL] at h,λ{p} h=>by simp[inL] at h,λhfr p hp => ?_⟩
      simp only[e0_,i7_] at hp
      rw[a6_ hp]
      exact qx_ hfr
structure At (P:Program) [Tb P] (n:Nat) (sl:Nat→AV) (dsts:List (Option Nat)) (fr0:Nat) (os:List Oper) (C0:List AO) (tr:List (AV×DR×List AO)) (i:Nat) (o:Oper) (anc:List Nat) (q:AV×DR×List AO):Prop where
  ho:os[i]?=some o
  ha:(le_ os [])[i]?=some anc
  hq:tr[i]?=some q
  good:Good P n sl dsts (le_ os []) fr0 (fr0+i) o anc ((tr.take i).map (·.1)) ((tr.take i).map (·.2.1)) (Cat C0 tr i) q.1 q.2.1 q.2.2
theorem cp2 (h:sl_ P n sl dsts (le_ os []) fr0 os (le_ os []) [] [] C0 tr) {i:Nat} {o:Oper} (ho:os[i]?=some o):∃ anc q,At P n sl dsts fr0 os C0 tr i o anc q:=by
  obtain⟨anc,q,h1,h2,h3⟩:=(nf_ h).2 i o ho
  simp only[j1_,b0_,g7_] at h3
  exact⟨anc,q,ho,h1,h2,h3⟩
theorem cb8 (h:sl_ P n sl dsts (le_ os []) fr0 os (le_ os []) [] [] C0 tr) {i:Nat} {q:AV×DR×List AO} (hq:tr[i]?=some q):∃ o anc,At P n sl dsts fr0 os C0 tr i o anc q:=by
  have hl:=(a3_.1 hq).1
  have e:=(nf_ h).1
  obtain⟨anc,q',A⟩:=cp2 h (a7_ (by omega:i<os.length))
  have:=A.hq
  rw[hq] at this
  cases this
  exact⟨_,anc,A⟩
theorem si_ {d:Nat→Bool} {o:Nat}:∀ {tr:List (AV×DR×List AO)} {t:Nat} {a:Option AO},
    (cAt d fr0 o t tr a=a∧∀ i q,tr[i]?=some q→(d (t+i)&&tch fr0 o (t+i) q)=false) ∨
    ∃ i q,tr[i]?=some q∧d (t+i)=true∧tch fr0 o (t+i) q=true∧cAt d fr0 o t tr a=q.2.2[o]?∧∀ j q',i<j→tr[j]?=some q'→(d (t+j)&&tch fr0 o (t+j) q')=false:=by
  intro tr
  induction tr with
  | nil=>intro t a;exact .inl ⟨rfl,λi q h=>by simp at h⟩
  | cons p tr ih =>
    intro t a
    unfold cAt
    rcases ih (t:=t+1) (a:=cond (d t&&tch fr0 o t p) (p.2.2[o]?) a) with ⟨h1,h2⟩ | ⟨i,q,h1,h2,h3,h4,h5⟩
    · cases hp:d t&&tch fr0 o t p with
      | false =>
        rw[hp] at h1
        refine .inl ⟨h1,λi q hq => ?_⟩
        cases i with
        | zero =>
          have e:p=q:=by simpa using hq
          subst e
          exact hp
        | succ i =>
          have:=h2 i q (by simpa using hq)
          rwa [show t+1+i=t+(i+1) by omega] at this
      | true =>
        rw[hp] at h1
        rw[a2_] at hp
        refine .inr ⟨0,p,rfl,hp.1,hp.2,h1,λj q hj hq => ?_⟩
        cases j with
        | zero=>omega
        | succ j =>
          have:=h2 j q (by simpa using hq)
          rwa [show t+1+j=t+(j+1) by omega] at this
    · refine .inr ⟨i+1,q,by simpa using h1,?_,?_,h4,λj q' hj hq => ?_⟩
      · rwa [show t+(i+1)=t+1+i by omega]
      · rwa [show t+(i+1)=t+1+i by omega]
      · cases j with
        | zero=>omega
        | succ j =>
          have:=h5 j q' (by omega) (by simpa using hq)
          rwa [show t+1+j=t+(j+1) by omega] at this
def cur (fr0:Nat) (C0:List AO) (tr:List (AV×DR×List AO)) (d:Nat→Bool):List AO:=(List.range C0.length).map λo=>(cAt d fr0 o 0 tr C0[o]?).getD .unborn
theorem jn_ {d:Nat→Bool}:(cur fr0 C0 tr d).length=C0.length:=by simp[cur]
variable (h:sl_ P n sl dsts (le_ os []) fr0 os (le_ os []) [] [] C0 tr)
include h
theorem cv8 {i:Nat} {o:Oper} {anc:List Nat} {q:AV×DR×List AO} (A:At P n sl dsts fr0 os C0 tr i o anc q):q.2.2.length=C0.length:=by
  rw[A.good.out.1,qv_ h (by have:=(a3_.1 A.ho).1;omega)]
theorem oq_ {d:Nat→Bool} {o:Nat} (ho:o<C0.length):(cur fr0 C0 tr d)[o]?=cAt d fr0 o 0 tr C0[o]?:=by
  unfold cur
  rw[d6_,m3_ ho]
  show some _=_
  have:∃ a,cAt d fr0 o 0 tr C0[o]?=some a:=by
    rcases si_ (fr0:=fr0) (d:=d) (o:=o) (tr:=tr) (t:=0) (a:=C0[o]?) with ⟨e,_⟩ | ⟨i,q,hq,_,_,e,_⟩
    · rw[e];exact⟨_,a7_ ho⟩
    · obtain⟨p,anc,A⟩:=cb8 h hq
      rw[e]
      exact⟨_,a7_ (by rw[cv8 h A];exact ho)⟩
  obtain⟨a,e⟩:=this
  show some ((cAt d fr0 o 0 tr C0[o]?).getD AO.unborn)=_
  rw[e]
  rfl
end
end
section
variable [Gb]
structure Base (fr0:Nat) (os:List Oper) (C0:List AO):Prop where
  len:C0.length=fr0+os.length
  un:∀ o,fr0≤o→o<C0.length→C0[o]?=some .unborn
theorem jg_ {fr0 o t:Nat} {q:AV×DR×List AO}:tch fr0 o t q=true↔o=fr0+t∨(q.2.1.wr=true∧inL o q.2.1.F=true):=by
  unfold tch
  rw[c9_,a2_]
  exact⟨λh=>h.imp a6_ id,λh=>h.imp (λh=>by rw[h];exact i1_ _) id⟩
section
variable {P:Program} [Tb P] {n:Nat} {sl:Nat→AV} {dsts:List (Option Nat)} {fr0:Nat} {os:List Oper} {C0:List AO} {tr:List (AV×DR×List AO)}
variable (h:sl_ P n sl dsts (le_ os []) fr0 os (le_ os []) [] [] C0 tr) (hb:Base fr0 os C0) (hp:sw_ os 0=true)
include h hb hp
theorem zw_ {i o:Nat} {p:Oper} {anc:List Nat} {q:AV×DR×List AO} (A:At P n sl dsts fr0 os C0 tr i p anc q) (ht:tch fr0 o i q=true):born q.2.2 o=true:=by
  have hi:=(a3_.1 A.ho).1
  refine A.good.foot.2.2 ?_ (by unfold tch at ht;exact ht)
  rw[qv_ h (by omega),hb.len]
  omega
theorem ow_ {o:Nat} (ho:o<fr0):∀ {t:Nat},t≤os.length→born (Cat C0 tr t) o=born C0 o:=by
  intro t
  induction t with
  | zero=>intro _;rfl
  | succ t ih =>
    intro ht
    obtain⟨anc,q,A⟩:=cp2 h (a7_ (by omega:t<os.length))
    rw[vo_ A.hq]
    have ih:=ih (by omega)
    cases htc:tch fr0 o t q with
    | true =>
      rw[zw_ h hb hp A htc]
      rcases jg_.1 htc with e | ⟨_,e⟩
      · omega
      · rw[← ih]
        exact (A.good.foot.2.1 e).2.symm
    | false =>
      rw[← ih]
      refine ai1 (A.good.out.2 o (by omega) ?_)
      unfold tch at htc
      rw[c2_] at htc
      exact htc.2
theorem sd_ {d:Nat→Bool} {o:Nat} (ho:o<fr0):born (cur fr0 C0 tr d) o=born C0 o:=by
  have hl:o<C0.length:=by rw[hb.len];omega
  rcases si_ (fr0:=fr0) (d:=d) (o:=o) (tr:=tr) (t:=0) (a:=C0[o]?) with ⟨e,_⟩ | ⟨i,q,hq,_,ht,e,_⟩
  · exact ai1 (by rw[oq_ h hl,e])
  · obtain⟨p,anc,A⟩:=cb8 h hq
    have hi:=(a3_.1 A.ho).1
    rw[← ow_ h hb hp ho (show i+1≤os.length by omega),vo_ hq]
    exact ai1 (by rw[oq_ h hl,e])
theorem br4 {d:Nat→Bool} (hd:Cl os d) {j i:Nat} {p:Oper} {anc:List Nat} {q:AV×DR×List AO} (A:At P n sl dsts fr0 os C0 tr i p anc q) (hi:d i=true) (ht:tch fr0 (fr0+j) i q=true):d j=true:=by
  rcases jg_.1 ht with e | ⟨_,e⟩
  · have:i=j:=by omega
    rw[← this];exact hi
  · rcases (A.good.foot.2.1 e).1 with h1 | h1
    · omega
    · rw[show fr0+j - fr0=j by omega] at h1
      exact hd i anc A.ha hi j h1
theorem xv_ {d:Nat→Bool} (hd:Cl os d) {j:Nat} (hj:j<os.length):born (cur fr0 C0 tr d) (fr0+j)=d j:=by
  have hl:fr0+j<C0.length:=by rw[hb.len];omega
  rcases si_ (fr0:=fr0) (d:=d) (o:=fr0+j) (tr:=tr) (t:=0) (a:=C0[fr0+j]?) with ⟨e,hn⟩ | ⟨i,q,hq,h1,ht,e,_⟩
  · have hdj:d j=false:=by
      obtain⟨anc,q,A⟩:=cp2 h (a7_ hj)
      have:=hn j q A.hq
      rw[b0_,jg_.2 (.inl rfl),h4_] at this
      exact this
    rw[hdj]
    have:¬ born (cur fr0 C0 tr d) (fr0+j)=true:=by
      rw[ba_]
      rintro⟨a,h1,h2⟩
      rw[oq_ h hl,e,hb.un _ (by omega) hl] at h1
      cases h1
      exact h2 rfl
    simpa using this
  · obtain⟨p,anc,A⟩:=cb8 h hq
    rw[b0_] at h1 ht
    rw[br4 h hb hp hd A h1 ht]
    have:=zw_ h hb hp A ht
    rw[← this]
    exact ai1 (by rw[oq_ h hl,e])
theorem cl_text {t:Nat}:Cl os (λi=>Nat.blt i t):=by
  intro i anc ha hi j hj
  have hl:i<os.length:=by
    have:=(a3_.1 ha).1
    cases ho:os[i]? with
    | some o=>exact (a3_.1 ho).1
    | none =>
      exfalso
      have:∀ (os:List Oper) (acc:List (List Nat)),(le_ os acc).length=acc.length+os.length:=by
        intro os
        induction os with
        | nil=>intro acc;rfl
        | cons o os ih=>intro acc;unfold le_;rw[ih];simp;omega
      have h2:=this os []
      have h3:=p6_.1 ho
      simp at h2
      omega
  have:=ap7 hp (a7_ hl) ha hj
  rw[mf_] at hi ⊢
  omega
theorem ca3 {t:Nat} (ht:t≤os.length):Cat C0 tr t=cur fr0 C0 tr (λi=>Nat.blt i t):=by
  refine f1_ λo => ?_
  by_cases ho:o<C0.length
  · rw[oq_ h ho,ca4 h ht]
  · rw[b3_ (by rw[qv_ h ht];omega),b3_ (by rw[jn_];omega)]
theorem ca2 {i:Nat} (hi:i<os.length):(Cat C0 tr i)[fr0+i]?=some .unborn:=by
  have hl:fr0+i<(Cat C0 tr i).length:=by rw[qv_ h (by omega),hb.len];omega
  have:=xv_ h hb hp (cl_text h hb hp (t:=i)) hi
  rw[← ca3 h hb hp (by omega),show Nat.blt i i=false from ai2.2 (by omega)] at this
  rw[a7_ hl]
  congr 1
  by_cases e:(Cat C0 tr i)[fr0+i] = .unborn
  · exact e
  · rw[(tp_ (a7_ hl)).2 e] at this
    cases this
theorem as6 {i j:Nat} {q:AV×DR×List AO} (hj:j<i) (hq:tr[j]?=some q):((tr.take i).map (·.2.1))[j]?=some q.2.1:=by
  rw[d6_,q2_ hj,hq]
  rfl
theorem ready {d:Nat→Bool} (hd:Cl os d) {i o:Nat} {p:Oper} {anc:List Nat} {q:AV×DR×List AO} (A:At P n sl dsts fr0 os C0 tr i p anc q) (hi:d i=false) (hanc:∀ j,inL j anc=true→d j=true)
    (hF:inL o q.2.1.F=true) (ho:o<C0.length):(cur fr0 C0 tr d)[o]?=(Cat C0 tr i)[o]?:=by
  have hil:=(a3_.1 A.ho).1
  rw[oq_ h ho,ca4 h (by omega)]
  refine ov_ λj q' hq' ht => ?_
  rw[b0_] at ht ⊢
  obtain⟨p',anc',B⟩:=cb8 h hq'
  rcases jg_.1 ht with e | ⟨hw,e⟩
  · rcases (A.good.foot.2.1 hF).1 with h1 | h1
    · omega
    · rw[e,show fr0+j - fr0=j by omega] at h1
      rw[hanc j h1,mf_.2 (ap7 hp A.ho A.ha h1)]
  · rcases o7_ j i with hji | rfl | hji
    · have:=A.good.foot.1 j q'.2.1 (as6 h hb hp hji hq') (by rw[hw];rfl) e hF
      rw[hanc j this,mf_.2 hji]
    · rw[hi,ai2.2 (by omega)]
    · have:=B.good.foot.1 i q.2.1 (as6 h hb hp hji A.hq) (by rw[hw,p0_]) hF e
      rw[ai2.2 (by omega)]
      cases hdj:d j with
      | false=>rfl
      | true=>have:=hd j anc' B.ha hdj i this;rw[hi] at this;cases this
theorem after {d:Nat→Bool} (hd:Cl os d) {i o:Nat} {p:Oper} {anc:List Nat} {q:AV×DR×List AO} (A:At P n sl dsts fr0 os C0 tr i p anc q) (hi:d i=false) (hanc:∀ j,inL j anc=true→d j=true) (ho:o<C0.length) :
    (cur fr0 C0 tr (λj=>Nat.beq j i||d j))[o]?=cond (tch fr0 o i q) (q.2.2[o]?) ((cur fr0 C0 tr d)[o]?):=by
  rw[oq_ h ho,oq_ h ho]
  cases htc:tch fr0 o i q with
  | true =>
    rcases si_ (fr0:=fr0) (d:=λj=>Nat.beq j i||d j) (o:=o) (tr:=tr) (t:=0) (a:=C0[o]?) with ⟨_,hn⟩ | ⟨k,qk,hq,h1,ht,e,hlast⟩
    · have:=hn i q A.hq
      rw[b0_,htc] at this
      simp at this
    · rw[b0_] at h1 ht
      rcases o7_ k i with hki | rfl | hki
      · have:=hlast i q hki A.hq
        rw[b0_,htc] at this
        simp at this
      · rw[e]
        have:=A.hq
        rw[hq] at this
        cases this
        rfl
      · exfalso
        obtain⟨p',anc',B⟩:=cb8 h hq
        have hdk:d k=true:=by
          rw[xy_ (show k≠i by omega),k0_] at h1
          exact h1
        have bad:inL i anc'=true→False:=λhh=>by have:=hd k anc' B.ha hdk i hh;rw[hi] at this;cases this
        rcases jg_.1 ht with e1 | ⟨hw,e1⟩
        · rcases jg_.1 htc with e2 | ⟨_,e2⟩
          · omega
          · rcases (A.good.foot.2.1 e2).1 with h3 | h3
            · omega
            · rw[e1,show fr0+k - fr0=k by omega] at h3
              have:=ap7 hp A.ho A.ha h3
              omega
        · rcases jg_.1 htc with e2 | ⟨_,e2⟩
          · rcases (B.good.foot.2.1 e1).1 with h3 | h3
            · omega
            · rw[e2,show fr0+i - fr0=i by omega] at h3
              exact bad h3
          · exact bad (B.good.foot.1 i q.2.1 (as6 h hb hp hki A.hq) (by rw[hw,p0_]) e2 e1)
  | false =>
    refine ov_ λj q' hq' ht => ?_
    rw[b0_] at ht ⊢
    have hne:j≠i:=by
      rintro rfl
      have:=A.hq
      rw[hq'] at this
      cases this
      rw[htc] at ht
      cases ht
    rw[xy_ hne,k0_]
end
end
section
def WA (P:Program) (n:Nat) (ro:Option Nat) (l:List Oper) (N:Fr→World→Prop) (f:Fr) (w:World):Prop :=
  ∀ (Q:Exit→Act→World→Prop) (a:Act),Fits n a f→∃ I:Array Bool→Act→World→Prop,I (Array.replicate l.length false) a { w with drawn:=w.drawn+1 } ∧
    (∀ listed a w i,listed.size=l.length→I listed a w→i ∈ Region.ready .any l.toArray listed→wpOpIn (FW ro) 0 P l.toArray Q i (I (listed.setIfInBounds i true)) a w) ∧
    (∀ listed a w,listed.size=l.length→I listed a w→Region.ready .any l.toArray listed=[]→∃ f',Fits n a f'∧N f' w)
theorem bl4 {P:Program} {n:Nat} {ro:Option Nat} {l:List Oper} {N R:Fr→World→Prop} {X:Nat→Fr→World→Prop} {f:Fr} {w:World} {id:Nat} (hm:P.follows .mixedOrders=true) (h:WA P n ro l N f w):WP P n ro (.region id l.toArray true) N R X f w:=by
  intro a ha
  obtain⟨I,h0,h1,h2⟩:=h (Pad.Ends n N R X) a ha
  refine wpIn_region_any hm ?_
  have e:l.toArray.size=l.length:=by simp
  rw[e]
  refine nt_ I (λlisted a w i hs=>h1 listed a w i (by rw[hs,e])) (λlisted a w hs hI hr => ?_) _ _ _ _ (by simp) ?_ h0
  · obtain⟨f',hf,hN⟩:=h2 listed a w (by rw[hs,e]) hI hr
    exact⟨f',hf,hN⟩
  · rw[e]
    exact c7_ l5_ (by simp)
theorem ro_ {ops:List Oper} {listed:Array Bool} {i:Nat}:i ∈ Region.ready .any ops.toArray listed↔∃ o,ops[i]?=some o∧listed.getD i true=false∧∀ p ∈ ck_ o,listed.getD p false=true:=by
  unfold Region.ready
  rw[d1_,k5_,a2_]
  constructor
  · rintro⟨h1,h2,h3⟩
    have hi:i<ops.length:=by simpa using h1
    have ho:ops[i]?=some ops[i]:=a7_ hi
    refine⟨ops[i],ho,by simpa using h2,λp hp => ?_⟩
    simp only[e2_,ho,g6_,e5_] at h3
    unfold ck_ at hp
    obtain⟨e,he,rfl⟩:=d8_.1 hp
    obtain⟨he1,he2⟩:=d1_.1 he
    rw[j3_] at h3
    have:=h3 e (by simpa using he1)
    rw[he2] at this
    simpa using this
  · rintro⟨o,ho,h2,h3⟩
    have hi:=(a3_.1 ho).1
    refine⟨by simpa using hi,by rw[h2];rfl,?_⟩
    simp only[e2_,ho,g6_,e5_]
    rw[j3_]
    intro e he
    cases hb:Region.binds .any e with
    | false=>simp
    | true =>
      have:=h3 e.on (d8_.2 ⟨e,d1_.2 ⟨by simpa using he,hb⟩,rfl⟩)
      simp[this]
def sufB (anc:List (List Nat)) (k:Nat):Nat→Bool
  | 0=>true
  | i+1=>sufB anc k i&&(Nat.blt i k||match anc[i]? with
    | some a=>fd_ (λj=>inL j a) (List.range i)
    | none=>false)
def gdB (k:Nat):List Oper→Bool
  | []=>true
  | o::os=>(match o.guard with
    | some (j,_)=>Nat.blt j k
    | none=>true)&&gdB k os
theorem aq7 {anc:List (List Nat)} {k:Nat}:∀ {n:Nat},sufB anc k n=true→∀ {i:Nat},i<n→k≤i→∃ a,anc[i]?=some a∧∀ j,j<i→inL j a=true
  | n+1,h,i,hi,hk=>by
    unfold sufB at h
    rw[a2_,c9_] at h
    by_cases e:i=n
    · subst e
      rcases h.2 with h2 | h2
      · have:=c0_ h2
        omega
      · cases ha:anc[i]? with
        | none=>rw[ha] at h2;cases h2
        | some a =>
          rw[ha] at h2
          exact⟨a,rfl,λj hj=>bj_ h2 j (k5_.2 hj)⟩
    · exact aq7 h.1 (by omega) hk
theorem gdB_at {k:Nat} {l:List Oper}:∀ {i:Nat} {o:Oper},gdB k l=true→l[i]?=some o→∀ j b,o.guard=some (j,b)→j<k:=by
  induction l with
  | nil=>intro i o _ ho;cases ho
  | cons x l ih =>
    intro i o h ho j b hg
    have h2:((match x.guard with
      | some (j,_)=>Nat.blt j k
      | none=>true)&&gdB k l)=true:=h
    rw[a2_] at h2
    cases i with
    | zero =>
      obtain rfl:x=o:=a5_ ho
      have h3:=h2.1
      rw[hg] at h3
      exact c0_ h3
    | succ i=>exact ih h2.2 ho j b hg
theorem bg2 {l1 l2:List Oper} {k:Nat} (hk:l1.length=k) (hg:gdB k l1=true) {i:Nat} {o:Oper} (ho:l1[i]?=some o) (tm:Array Value):Region.wanted o (yielded (l1++l2).toArray tm)=Region.wanted o (yielded l1.toArray tm):=by
  unfold Region.wanted
  split
  · rfl
  · rename_i j b hgo
    have hj:=gdB_at hg ho j b hgo
    have e:(l1++l2).toArray[j]?=l1.toArray[j]?:=by
      simp only[e2_]
      exact b2_ (by omega)
    unfold yielded
    rw[e]
theorem cf9 [Gb] {P:Program} {n:Nat} {ro:Option Nat} {l1 l2:List Oper} {N R:Fr→World→Prop} {X:Nat→Fr→World→Prop} {f:Fr} {w:World} {id:Nat} (hm:P.follows .mixedOrders=true)
    (hsuf:sufB (le_ (l1++l2) []) l1.length (l1++l2).length=true) (hpre:sw_ (l1++l2) 0=true) (hg:gdB l1.length l1=true)
    (h:WA P n ro l1 (λf w=>WL P n ro (l1++l2).toArray N l2 f w) f w):WP P n ro (.region id (l1++l2).toArray true) N R X f w:=by
  intro a ha
  obtain⟨I,i0,i1,i2⟩:=h (Pad.Ends n N R X) a ha
  refine wpIn_region_any hm ?_
  generalize hops:l1++l2=ops at *
  generalize hk:l1.length=k at *
  have hlen:ops.length=k+l2.length:=by rw[← hops,a8_,hk]
  have hsz:ops.toArray.size=ops.length:=by simp
  rw[hsz]
  have h1:∀ i,i<k→ops[i]?=l1[i]?:=λi hi=>by rw[← hops];exact b2_ (by omega)
  let J:Array Bool→Act→World→Prop:=λlisted a w=>Cl ops (λi=>listed.getD i false) ∧
    ((∃ lp:Array Bool,lp.size=k∧(∀ i b,i<k→listed.getD i b=lp.getD i b)∧(∀ i,k≤i→i<ops.length→listed.getD i false=false)∧(∃ i,i<k∧lp.getD i true=false)∧I lp a w) ∨
      ∃ t,k≤t∧t≤ops.length∧(∀ i,i<ops.length→listed.getD i false=decide (i<t))∧wpListIn (FW ro) 0 P ops.toArray (Pad.Ends n N R X) (ops.drop t) a w)
  have whole:∀ (listed lp:Array Bool) (a:Act) (w:World),lp.size=k→(∀ i b,i<k→listed.getD i b=lp.getD i b)→(∀ i,k≤i→i<ops.length→listed.getD i false=false)→(∀ i,i<k→lp.getD i true=true)→I lp a w →
      ∃ t,k≤t∧t≤ops.length∧(∀ i,i<ops.length→listed.getD i false=decide (i<t))∧wpListIn (FW ro) 0 P ops.toArray (Pad.Ends n N R X) (ops.drop t) a w:=by
    intro listed lp a w s1 s2 s3 s4 s5
    have hr:Region.ready .any l1.toArray lp=[]:=by
      rw[List.eq_nil_iff_forall_not_mem]
      intro i hi
      obtain⟨o,ho,hf,_⟩:=ro_.1 hi
      have hi:=(a3_.1 ho).1
      rw[s4 i (by omega)] at hf
      cases hf
    obtain⟨f',hf,hN⟩:=i2 lp a w s1 s5 hr
    refine⟨k,c4_ _,by omega,λi hi => ?_,?_⟩
    · by_cases hik:i<k
      · rw[s2 i false hik,b4_ hik]
        have:=s4 i hik
        simpa [a9_,d4_ (show i<lp.size by omega)] using this
      · rw[s3 i (by omega) hi,b1_ hik]
    · have:ops.drop k=l2:=by rw[← hops,← hk];simp
      rw[this]
      exact hN R X a hf
  have gset:∀ (l:Array Bool) (i j:Nat) (b:Bool),i<l.size→(l.setIfInBounds i true).getD j b=(Nat.beq j i||l.getD j b):=by
    intro l i j b hi
    by_cases hj:j=i
    · subst hj
      rw[i1_]
      simp[a9_,k1_,hi]
    · have:Nat.beq j i=false:=by
        cases hb:Nat.beq j i with
        | false=>rfl
        | true=>exact absurd (a6_ hb) hj
      rw[this]
      simp[a9_,h5_ (o6_ hj)]
  have dflt:∀ (l:Array Bool) (i:Nat) (b c:Bool),i<l.size→l.getD i b=l.getD i c:=by
    intro l i b c hi
    simp[a9_,d4_ hi]
  refine nt_ J ?_ ?_ _ _ _ _ (by simp) (c7_ l5_ (by simp)) ?_
  · rintro listed a w i hs ⟨hcl,hJ⟩ hi
    rw[hsz] at hs
    obtain⟨o,ho,hun,hpr⟩:=ro_.1 hi
    have hil:=(a3_.1 ho).1
    have hst:=hcl.step ho hpr
    have hcl':Cl ops (λj=>(listed.setIfInBounds i true).getD j false):=by
      have e:(λj=>(listed.setIfInBounds i true).getD j false)=λj=>Nat.beq j i||listed.getD j false:=funext λj=>gset listed i j false (by omega)
      rw[e]
      exact hst.2
    rcases hJ with ⟨lp,s1,s2,s3,⟨q,hq,hqf⟩,hI⟩ | ⟨t,t1,t2,t3,hW⟩
    · have hik:i<k:=by
        refine l6_ λhn => ?_
        obtain⟨an,e1,e2⟩:=aq7 hsuf hil (by omega)
        have:=hst.1 an e1 q (e2 q (by omega))
        rw[s2 q false hq,dflt lp q false true (by omega),hqf] at this
        cases this
      have ho1:l1[i]?=some o:=by rw[← h1 i hik];exact ho
      have hrd:i ∈ Region.ready .any l1.toArray lp:=ro_.2 ⟨o,ho1,by rw[← s2 i true hik];exact hun,λp hp=>by
        have:=rp_ hpre ho p hp
        rw[← s2 p false (by omega)]
        exact hpr p hp⟩
      have h3:=i1 lp a w i s1 hI hrd
      have h4:wpOpIn (FW ro) 0 P ops.toArray (Pad.Ends n N R X) i (I (lp.setIfInBounds i true)) a w:=by
        unfold wpOpIn at h3 ⊢
        simp only[e2_,ho1] at h3
        simp only[e2_,ho]
        have:=bg2 (l1:=l1) (l2:=l2) rfl (by rw[hk];exact hg) ho1 a.tmps
        rw[hops] at this
        rw[this]
        exact h3
      refine wpOpIn_mono (λa' w' hI'=>⟨hcl',?_⟩) h4
      have s2':∀ j b,j<k→(listed.setIfInBounds i true).getD j b=(lp.setIfInBounds i true).getD j b:=λj b hj=>by
        rw[gset listed i j b (by omega),gset lp i j b (by omega),s2 j b hj]
      have s3':∀ j,k≤j→j<ops.length→(listed.setIfInBounds i true).getD j false=false:=λj hj hjl=>by
        rw[gset listed i j false (by omega),s3 j hj hjl]
        cases hb:Nat.beq j i with
        | false=>rfl
        | true=>have:=a6_ hb;omega
      by_cases hall:∀ j,j<k→(lp.setIfInBounds i true).getD j true=true
      · exact .inr (whole _ _ a' w' (by simpa using s1) s2' s3' hall hI')
      · refine .inl ⟨_,by simpa using s1,s2',s3',?_,hI'⟩
        refine l6_ λhn=>hall λj hj => ?_
        cases hb:(lp.setIfInBounds i true).getD j true with
        | true=>rfl
        | false=>exact absurd ⟨j,hj,hb⟩ hn
    · have hit:i=t:=by
        have hit1:t≤i:=by
          refine l6_ λhn => ?_
          have:=t3 i hil
          rw[b4_ (by omega),dflt listed i false true (by omega),hun] at this
          cases this
        refine l6_ λhn => ?_
        obtain⟨an,e1,e2⟩:=aq7 hsuf hil (by omega)
        have:=hst.1 an e1 t (e2 t (by omega))
        rw[t3 t (by omega),b1_ (by omega)] at this
        cases this
      subst hit
      have hd:ops.drop i=o::ops.drop (i+1):=by
        rw[g8_ hil]
        congr 1
        rw[a7_ hil] at ho
        exact a5_ ho
      rw[hd] at hW
      have h4:wpOpIn (FW ro) 0 P ops.toArray (Pad.Ends n N R X) i (wpListIn (FW ro) 0 P ops.toArray (Pad.Ends n N R X) (ops.drop (i+1))) a w:=by
        unfold wpOpIn
        simp only[e2_,ho]
        exact hW
      refine wpOpIn_mono (λa' w' hW'=>⟨hcl',.inr ⟨i+1,by omega,by omega,λj hj => ?_,hW'⟩⟩) h4
      rw[gset listed i j false (by omega),t3 j hj]
      cases hb:Nat.beq j i with
      | true =>
        have hji:=a6_ hb
        rw[Bool.true_or,b4_ (show j<i+1 by omega)]
      | false =>
        have hne:j≠i:=by rintro rfl;rw[i1_] at hb;cases hb
        by_cases hji:j<i
        · rw[k0_,b4_ hji,b4_ (show j<i+1 by omega)]
        · rw[k0_,b1_ hji,b1_ (show ¬ j<i+1 by omega)]
  · rintro listed a w hs ⟨hcl,hJ⟩ hr
    rw[hsz] at hs
    have hall:∀ i,i<ops.length→listed.getD i false=true:=by
      intro i
      induction i using Nat.strongRecOn with
      | _ i ih =>
        intro hil
        cases hd:listed.getD i false with
        | true=>rfl
        | false =>
          exfalso
          have ho:ops[i]?=some (ops[i]'hil):=a7_ hil
          have:i ∈ Region.ready .any ops.toArray listed:=ro_.2 ⟨_,ho,by rw[dflt listed i true false (by omega)];exact hd,λp hp=>by
            have:=rp_ hpre ho p hp
            exact ih p (by omega) (by omega)⟩
          rw[hr] at this
          cases this
    rcases hJ with ⟨lp,s1,s2,s3,⟨q,hq,hqf⟩,hI⟩ | ⟨t,t1,t2,t3,hW⟩
    · have:=hall q (by omega)
      rw[s2 q false hq,dflt lp q false true (by omega),hqf] at this
      cases this
    · have ht:t=ops.length:=by
        refine l6_ λhn => ?_
        have:=hall t (by omega)
        rw[t3 t (by omega),b1_ (by omega)] at this
        cases this
      subst ht
      rw[l0_] at hW
      exact hW
  · have hz:∀ m i b,i<m→(Array.replicate m false).getD i b=false:=λm i b hi=>by simp[a9_,hi]
    have e:(λi=>(Array.replicate ops.length false).getD i false)=λ_=>false:=funext λi=>by
      simp only[a9_,h1_]
      split<;>rfl
    refine⟨by rw[e];exact λi anc _ h=>(by cases h),?_⟩
    have s2:∀ i b,i<k→(Array.replicate ops.length false).getD i b=(Array.replicate k false).getD i b:=λi b hi=>by rw[hz _ i b (by omega),hz _ i b hi]
    by_cases h0:k=0
    · exact .inr (whole _ (Array.replicate k false) _ _ (by simp) s2 (λi _ hi=>hz _ i false hi) (λi hi=>by omega) i0)
    · exact .inl ⟨Array.replicate k false,by simp,s2,λi _ hi=>hz _ i false hi,⟨0,by omega,hz _ 0 true (by omega)⟩,i0⟩
end
section
variable [Gb]
def idS:SV→Option Nat
  | .row o | .ptr o _ | .map o | .fn o | .arr o | .ptrE o _ _ _ _=>some o
  | _=>none
def bk6 (s:A):Nm→Option Nat
  | .s d=>match s.slot d with
    | .b (.one x)=>idS x
    | _=>none
  | .c p k=>(bk6 s p).bind λo=>match s.objs[o]? with
    | some (.cells _ l _)=>(l[k]?).bind idS
    | _=>none
  | .y p d=>(bk6 s p).bind λo=>match s.objs[o]? with
    | some (.yld Y _ _)=>match slY Y.sl d with
      | .b (.one x)=>idS x
      | _=>none
    | _=>none
def rsv1 (s:A):Sp0→Option Sp1
  | .v d t=>some (.v d t)
  | .r d t T=>some (.r d t T)
  | .a d t T=>some (.a d t T)
  | .o p t=>(bk6 s p).bind λo=>some (.o o t)
  | .b p ks=>(bk6 s p).bind λo=>some (.b o ks)
  | .m p k v=>(bk6 s p).bind λo=>some (.m o k v)
  | .g p t=>(bk6 s p).bind λo=>some (.g o t)
  | .x p=>(bk6 s p).bind λo=>some (.x o)
  | .y p=>(bk6 s p).bind λo=>some (.y o)
def rsv (s:A):List Sp0→Option (List Sp1)
  | []=>some []
  | e::es=>(rsv1 s e).bind λx=>(rsv s es).bind λl=>some (x::l)
def frzN (s:A):List Nm→A
  | []=>s
  | p::ps=>frzN (match bk6 s p with
    | some o=>⟨s.slot,aq2 s.objs o⟩
    | none=>s) ps
def la_:List Oper→List Nat
  | []=>[]
  | o::os=>match o.dst with
    | some d=>d::la_ os
    | none=>la_ os
def gk_:Code→List Nat
  | .region _ ops _=>la_ ops.toList
  | .seq a b=>gk_ a++gk_ b
  | .cond _ a b=>gk_ a++gk_ b
  | .block _ c=>gk_ c
  | .loop c=>gk_ c
  | .scope c=>gk_ c
  | _=>[]
def okV (asg:List Nat):List Sp1→Bool
  | []=>true
  | .v d _::es=>inL d asg&&okV asg es
  | .r d _ _::es=>inL d asg&&okV asg es
  | .a d _ _::es=>inL d asg&&okV asg es
  | _::es=>okV asg es
def aj0:List Sp1→Nat→Option (List CK)
  | [],_=>none
  | .b o ks::es,i=>cond (Nat.beq o i) (some ks) (aj0 es i)
  | _::es,i=>aj0 es i
def mJ (a:AO) (q:Option (List CK)):AO:=match a,q with
  | .cells T c _,some ks=>.cells T c (roC ks 0)
  | a,_=>a
def maskJ (es:List Sp1) (mv:List Nat):Nat→List AO→List AO
  | _,[]=>[]
  | i,a::l=>cond (listed es i||inL i mv) (mJ a (aj0 es i)) (oh_ a)::maskJ es mv (i+1) l
def noO:List Sp1→Bool
  | []=>true
  | .v _ _::es=>noO es
  | .r _ _ _::es=>noO es
  | .a _ _ _::es=>noO es
  | _=>false
def okM (ob:List AO) (mv:List Nat):Bool:=fd_ (λi=>match ob[i]? with
  | some (.row _ _ _ false)=>true
  | _=>false) mv
def okA (s:A) (asg:List Nat) (σ:List Sp1):Bool:=okS s.objs σ&&okV asg σ&&okM s.objs (mvS s.slot s.objs σ)
def ce2:AO→AO→AO
  | .cells _ _ ro,.cells T c _=>.cells T c ro
  | .row _ _ _ r,.row t T l _=>.row t T l r
  | .map _ _ _ r,.map k v m _=>.map k v m r
  | .grid _ _ _ r,.grid G l h _=>.grid G l h r
  | .yld _ _ r,.yld Y st _=>.yld Y st r
  | _,b=>b
def cq1:List AO→List AO→List AO
  | a::l,b::m=>ce2 a b::cq1 l m
  | _,m=>m
def unm (s s':A):A:=⟨s'.slot,cq1 s.objs s'.objs⟩
section
variable {ρ:Type}
def geN (n:Nat):List Nat→List Nat
  | []=>[]
  | i::l=>cond (Nat.ble n i) (i::geN n l) (geN n l)
def vIds (n:Nat) (sl:Nat→AV):List Sp1→List Nat
  | []=>[]
  | .v d _::es=>geN n (ct7 (sl d))++vIds n sl es
  | _::es=>vIds n sl es
def getG (σ:List Sp1) (s:A) (mv:List Nat) (sl:Nat→AV) (ob:List AO):Option (ev_ σ):=getS s.objs (rsl ob sl) σ (ar7 σ mv 0 s.objs ob)
def td_ (σ:List Sp1) (s:A) (mv:List Nat) (s':A):Option (ev_ σ):=getG σ s mv s'.slot (vi_ s'.objs (vIds s.objs.length s'.slot σ))
end
def anyGl:List Oper→Bool
  | []=>false
  | o::os=>cm2 o||anyGl os
def ai9:Code→Bool
  | .seq a b=>ai9 a&&ai9 b
  | .cond _ a b=>ai9 a&&ai9 b
  | .block _ c=>ai9 c
  | .loop c=>ai9 c
  | .scope c=>ai9 c
  | .rangeFunc _ _ _ _=>false
  | _=>true
def slF {ρ:Type} (sl:Nat→AV):List Nat→(List (Nat×AV)→Option ρ)→Option ρ
  | [],k=>k []
  | d::ds,k=>frcA (sl d) λa=>slF sl ds λl=>k ((d,a)::l)
theorem cq4 {ρ:Type} {sl:Nat→AV}:∀ {ds:List Nat} {k:List (Nat×AV)→Option ρ},slF sl ds k=k (ds.map λd=>(d,sl d))
  | [],_=>rfl
  | d::ds,k=>by
    show (frcA (sl d) λa=>slF sl ds λl=>k ((d,a)::l))=_
    rw[af8,cq4]
    rfl
def rfEnd {ρ:Type} (s:A) (ob:List AO) (kN kR:A→Option ρ) (kX:Nat→A→Option ρ):Option ρ:=match ob[s.objs.length]? with
  | some (.yld _ .rdy _)=>kN ⟨s.slot,ob.set s.objs.length .gone⟩
  | some (.yld _ .ret _)=>kR ⟨s.slot,ob.set s.objs.length .gone⟩
  | some (.yld _ (.ex i) _)=>kX i ⟨s.slot,ob.set s.objs.length .gone⟩
  | _=>none
def restA (s:A):A:=⟨s.slot,we_ s.objs s.objs.length⟩
def qf_ {ρ:Type} (ops:List Oper) (k:A→Option ρ):A→Option ρ:=cond (anyGl ops) (λs=>k (restA s)) k
def regS {ρ:Type} {P:Program} [Tb P] (cx:Cx P) (n:Nat) (k m:Nat) (ops:List Oper) (s:A) (kN:A→Option ρ):Option ρ :=
  ancF ops [] λanc=>cond (Nat.beq (ops.take k).length k&&Nat.beq ops.length m&&sufB anc k m&&sw_ ops 0&&gdB k (ops.take k)) (regD cx n (ops.take k) s λs=>tg_ cx n ops (ops.drop k) s kN) none
def regX {ρ:Type} {P:Program} [Tb P] (cx:Cx P) (n:Nat) (an:An) (ops:List Oper) (s:A) (kN:A→Option ρ):Option ρ:=match an with
  | .q _ _ _=>regQ cx n ops s kN
  | .sp k m=>regS cx n k m ops s (qf_ ops kN)
  | _=>regD cx n ops s (qf_ ops kN)
noncomputable def ie_ {P:Program} [Tb P] (cx:Cx P) (n:Nat):Code→An→(ρ:Type)→A→(A→Option ρ)→(A→Option ρ)→(Nat→A→Option ρ)→Option ρ
  | .skip,_,_,s,kN,_,_=>kN s
  | .ret,_,_,s,_,kR,_=>kR s
  | .exit i,_,_,s,_,_,kX=>kX i s
  | .block i c,an,ρ,s,kN,kR,kX=>ie_ cx n c an ρ s kN kR λj s=>cond (Nat.beq j i) (kN s) (kX j s)
  | .cond c a b,an,ρ,s,kN,kR,kX=>(asD .bool (evA s.slot c)).bind λq=>cond q (ie_ cx n a an.l ρ s kN kR kX) (ie_ cx n b an.r ρ s kN kR kX)
  | .region _ ops dr,an,_,s,kN,_,_=>cond dr (regX cx n an ops.toList s kN) (tg_ cx n ops.toList ops.toList s (qf_ ops.toList kN))
  | .seq a b,an,ρ,s,kN,kR,kX=>match an with
    | .q ns x y=>ie_ cx n a x ρ (frzN s ns) (λs=>ie_ cx n b y ρ s kN kR kX) kR kX
    | .j0 σ0 x y=>(rsv s σ0).bind λσ=>cond (okA s (gk_ a) σ) ((ie_ cx n a x (ev_ σ) ⟨s.slot,maskJ σ (mvS s.slot s.objs σ) 0 s.objs⟩ (td_ σ s (mvS s.slot s.objs σ)) (λ_=>none) (λ_ _=>none)).bind λd =>
        ie_ cx n b y ρ (mc_ false (gk_ a) σ (mvS s.slot s.objs σ) s d) kN kR kX) none
    | .js σ0 x y=>(rsv s σ0).bind λσ=>cond (okA s (gk_ a) σ) ((ie_ cx n a x (ev_ σ⊕ρ) ⟨s.slot,maskJ σ (mvS s.slot s.objs σ) 0 s.objs⟩ (λs'=>(td_ σ s (mvS s.slot s.objs σ) s').map .inl) (λs'=>(kR (unm s s')).map .inr)
        (λi s'=>(kX i (unm s s')).map .inr)).bind fun
        | .inl d=>ie_ cx n b y ρ (mc_ false (gk_ a) σ (mvS s.slot s.objs σ) s d) kN kR kX
        | .inr r=>some r) none
    | an=>ie_ cx n a an.l ρ s (λs=>ie_ cx n b an.r ρ s kN kR kX) kR kX
  | .loop c,an,ρ,s,kN,kR,kX=>match an with
    | .lp vs0 ws0 os0 b x=>(rsv s vs0).bind λvs=>(rsv s ws0).bind λws=>(rsv s os0).bind λos=>cond (okA s (gk_ c) (vs++os)&&okS s.objs (ws++os)&&okV (gk_ c) (ws++os)&&noO vs&&noO ws)
        ((td_ (vs++os) s (mvS s.slot s.objs (vs++os)) s).bind λd0 =>
          (ag_ (λd=>ie_ cx n c x (ev_ (vs++os)⊕ev_ (ws++os)) (mc_ true (gk_ c) (vs++os) (mvS s.slot s.objs (vs++os)) s d)
            (λs'=>(td_ (vs++os) s (mvS s.slot s.objs (vs++os)) s').map .inl) (λ_=>none)
            (λi s'=>cond (Nat.beq i b) ((td_ (ws++os) s (mvS s.slot s.objs (vs++os)) s').map .inr) none)) d0).bind λd =>
          kX b (mc_ false (gk_ c) (ws++os) (mvS s.slot s.objs (vs++os)) s d)) none
    | .ls vs0 ws0 os0 b x=>(rsv s vs0).bind λvs=>(rsv s ws0).bind λws=>(rsv s os0).bind λos=>cond (okA s (gk_ c) (vs++os)&&okS s.objs (ws++os)&&okV (gk_ c) (ws++os)&&noO vs&&noO ws)
        ((td_ (vs++os) s (mvS s.slot s.objs (vs++os)) s).bind λd0 =>
          (ag_ (λd=>ie_ cx n c x (ev_ (vs++os)⊕(ev_ (ws++os)⊕ρ)) (mc_ true (gk_ c) (vs++os) (mvS s.slot s.objs (vs++os)) s d)
            (λs'=>(td_ (vs++os) s (mvS s.slot s.objs (vs++os)) s').map .inl) (λs'=>(kR (unm s s')).map λr=>.inr (.inr r))
            (λi s'=>cond (Nat.beq i b) ((td_ (ws++os) s (mvS s.slot s.objs (vs++os)) s').map λy=>.inr (.inl y)) ((kX i (unm s s')).map λr=>.inr (.inr r)))) d0).bind fun
          | .inl d=>kX b (mc_ false (gk_ c) (ws++os) (mvS s.slot s.objs (vs++os)) s d)
          | .inr r=>some r) none
    | _=>none
  | .rangeFunc g ps assign body,an,ρ,s,kN,kR,kX=>match an with
    | .rf ds x y=>cond (fd_ (λp=>Nat.blt p n) ps.toList&&ai9 assign&&ai9 body) (slF s.slot ds λsl =>
        cx.callV ρ (evA s.slot g) [.b (.one (.fn s.objs.length))] (s.objs++[.yld ⟨n,ps.toList,assign,body,.p x y,sl⟩ .rdy false]) λ_ ob=>cu3 ob λob=>rfEnd s ob kN kR kX) none
    | _=>none
  | _,_,_,_,_,_,_=>none
end
section
variable [Gb]
theorem xe_ {i:Nat}:∀ {a b:List Nat},inL i (a++b)=(inL i a||inL i b)
  | [],b=>rfl
  | x::a,b=>by simp[inL,xe_ (a:=a),Bool.or_assoc]
theorem tc_ {i:Nat}:∀ {a:List Nat},inL i a=true→i ∈ a
  | [],h=>by cases h
  | x::a,h=>by
    simp only[inL,c9_] at h
    rcases h with h | h
    · rw[a6_ h];simp
    · simp[tc_ h]
section
variable {P:Program} [Tb P] {cx:Cx P} {n:Nat} {ro:Option Nat} {S0:PH} {hv0:Nat→Value} {ob0:List AO} {Fm:List HP}
structure Po (S0:PH) (hv0:Nat→Value) (ob0:List AO) (Fm:List HP) (asg:List Nat) (s s':A) (f:Fr) (w:World):Prop where
  rl:Rl S0 hv0 ob0 Fm s' f w
  keep:Keep s.objs s'.objs
  slot:∀ d,inL d asg=false→s'.slot d=s.slot d
theorem Po.trans {a b:List Nat} {s s1 s2:A} {f f1:Fr} {w w1:World} (h:Po S0 hv0 ob0 Fm a s s1 f1 w1) (k:Po S0 hv0 ob0 Fm b s1 s2 f w):Po S0 hv0 ob0 Fm (a++b) s s2 f w :=
  ⟨k.rl,h.keep.trans k.keep,λd hd=>by
    rw[xe_,c2_] at hd
    exact (k.slot d hd.2).trans (h.slot d hd.1)⟩
theorem Po.sub {a b:List Nat} {s s1:A} {f:Fr} {w:World} (h:Po S0 hv0 ob0 Fm a s s1 f w) (hab:∀ d,inL d b=false→inL d a=false):Po S0 hv0 ob0 Fm b s s1 f w :=
  ⟨h.rl,h.keep,λd hd=>h.slot d (hab d hd)⟩
theorem frz1_ne {l:List AO} {o j:Nat} (h:o≠j):(aq2 l o)[j]?=l[j]?:=by
  unfold aq2
  split
  · exact b6_ h
  · exact b6_ h
  · rfl
theorem bx2 {k:Nat}:∀ {os:List Nat} {l:List AO},(∀ o ∈ os,k≤o)→∀ {j:Nat},j<k→(vi_ l os)[j]?=l[j]?
  | [],l,_,j,_=>rfl
  | o::os,l,h,j,hj=>by
    have ho:=h o (by simp)
    exact (bx2 (os:=os) (l:=aq2 l o) (λp hp=>h p (by simp[hp])) hj).trans (frz1_ne (by omega))
theorem bx1 {k:Nat}:∀ {l:List Nat},∀ o ∈ geN k l,k≤o
  | [],o,h=>by cases h
  | i::l,o,h=>by
    unfold geN at h
    cases hi:Nat.ble k i with
    | true =>
      rw[hi] at h
      rcases e1_.1 h with rfl | h
      · exact c0_ hi
      · exact bx1 o h
    | false=>rw[hi] at h;exact bx1 o h
theorem vIds_ge {k:Nat} {sl:Nat→AV}:∀ (es:List Sp1),∀ o ∈ vIds k sl es,k≤o:=by
  intro es
  induction es with
  | nil=>intro o h;cases h
  | cons e es ih =>
    intro o h
    cases e with
    | v d t =>
      rcases b8_.1 (show o ∈ geN k (ct7 (sl d))++vIds k sl es from h) with h | h
      · exact bx1 o h
      · exact ih o h
    | r d t T=>exact ih o h
    | a d t T=>exact ih o h
    | o p t=>exact ih o h
    | b p ks=>exact ih o h
    | m p k v=>exact ih o h
    | g p t=>exact ih o h
    | x p=>exact ih o h
    | y p=>exact ih o h
theorem bq2 {mk:Bool} {asg:List Nat} {es:List Sp1} {mv:List Nat} {s s':A} {x:ev_ es} {f:Fr} {w:World} (hb:BLe ob0 s.objs) (hws:WfS s.slot s.objs) (hwo:WfO s.objs) (hr:Rl S0 hv0 ob0 Fm s' f w)
    (h4:∀ d,inL d asg=false→s'.slot d=s.slot d)
    (h5:∀ (j:Nat) (a b:AO),s.objs[j]?=some a→s'.objs[j]?=some b→(listed es j||inL j mv)=false→a≠.unborn→a≠.gone→OHeq a b)
    (hl:s.objs.length≤s'.objs.length) (h6:Kp es s.objs s'.objs) (hg:td_ es s mv s'=some x):Rl S0 hv0 ob0 Fm (mc_ mk asg es mv s x) f w:=by
  obtain⟨S,hv,Ds,hle,hag,hbl,hs,hds⟩:=hr
  obtain⟨S1,hle1,hs1⟩:=hs.frz (vIds s.objs.length s'.slot es)
  have hold:∀ j,j<s.objs.length→(vi_ s'.objs (vIds s.objs.length s'.slot es))[j]?=s'.objs[j]?:=λj hj=>bx2 (vIds_ge es) hj
  obtain⟨hv',g1,g2,g3⟩:=put_ok (mk:=mk) (asg:=asg) (sl:=s'.slot) ⟨hs1.inv,λd=>RA.mono hle1 (hs.rel d),λd=>AV.lt_mono frzL_ble (hs.wfs d),hs1.wfo,hs1.gl⟩ hs1.rel hws hwo h4
    (λj a b ha hb=>h5 j a b ha (by rw[hold j (a3_.1 ha).1] at hb;exact hb)) (by rw[bb9];exact hl)
    ⟨λo ks T c ro T' c' ro' hm ho hr=>h6.1 o ks T c ro T' c' ro' hm ho (by rw[hold o (a3_.1 ho).1] at hr;exact hr),λo Y st ro Y' st' ro' ho hr=>h6.2 o Y st ro Y' st' ro' ho (by rw[hold o (a3_.1 ho).1] at hr;exact hr)⟩ hg
  exact⟨S1,hv',Ds,hle.trans hle1,hag.trans (g1.sub hb),hb.trans g3,g2,hds⟩
theorem bq5 {mk:Bool} {ob:List AO} {asg:List Nat} {e:Sp1} {x:e.den} {t:A} {d:Nat} (h:okV asg [e]=true) (hd:inL d asg=false):(kg_ mk ob e x t).slot d=t.slot d:=by
  have key:∀ {d':Nat} {v:AV},inL d' asg=true→(updA t.slot d' v) d=t.slot d:=λ{d' v} h'=>by
    have hb:Nat.beq d d'=false:=by
      cases hb:Nat.beq d d' with
      | false=>rfl
      | true=>rw[a6_ hb] at hd;rw[h'] at hd;cases hd
    show cond (Nat.beq d d') _ _=_
    rw[hb]
    rfl
  cases e with
  | v d' t=>exact key (by simpa [okV] using h)
  | r d' t T=>exact key (by simpa [okV] using h)
  | a d' t T=>exact key (by simpa [okV] using h)
  | o o t=>simp only[kg_];split<;>rfl
  | b o ks=>simp only[kg_];split<;>rfl
  | m o k v=>simp only[kg_];split<;>rfl
  | g o t=>simp only[kg_];split<;>rfl
  | x o=>rfl
  | y o=>simp only[kg_];split<;>rfl
theorem ck1 {asg:List Nat} {e:Sp1} {es:List Sp1}:okV asg (e::es)=(okV asg [e]&&okV asg es):=by
  cases e<;>simp[okV]
theorem bh9 {mk:Bool} {ob:List AO} {asg:List Nat} {d:Nat} (hd:inL d asg=false):∀ (es:List Sp1) (x:ev_ es) (t:A),okV asg es=true→(up_ mk ob es x t).slot d=t.slot d:=by
  intro es
  induction es with
  | nil=>intro x t _;rfl
  | cons e es ih =>
    intro x t h
    rw[ck1,a2_] at h
    exact (ih x.2 _ h.2).trans (bq5 h.1 hd)
theorem wh_ {mk:Bool} {asg:List Nat} {es:List Sp1} {mv:List Nat} {s:A} {x:ev_ es} (h:okV asg es=true) {d:Nat} (hd:inL d asg=false):(mc_ mk asg es mv s x).slot d=s.slot d:=by
  unfold mc_
  rw[bh9 hd es x _ h]
  show cond (inL d asg) _ _=_
  rw[hd]
  rfl
theorem al6:∀ (ks:List CK) (bs:List SV) (x:nm_ ks) (k i j:Nat),ks.length=bs.length→j ∈ roC ks i→i≤j∧(no_ ks bs x k).1[j - i]?=bs[j - i]?:=by
  intro ks
  induction ks with
  | nil=>intro bs x k i j _ h;cases h
  | cons ck ks ih =>
    intro bs x k i j hl h
    cases bs with
    | nil=>simp at hl
    | cons b bs =>
      simp only[c5_,n7_] at hl
      have e:i+1≤j→j - i=(j - (i+1))+1:=λhj=>by omega
      cases ck with
      | keep =>
        rcases e1_.1 (show j ∈ i::roC ks (i+1) from h) with rfl | h
        · exact⟨c4_ _,by rw[k2_];rfl⟩
        · obtain⟨h1,h2⟩:=ih bs x k (i+1) j hl h
          exact⟨by omega,by rw[e h1];exact h2⟩
      | val t =>
        obtain⟨h1,h2⟩:=ih bs x.2 k (i+1) j hl h
        exact⟨by omega,by rw[e h1];exact h2⟩
      | row t T =>
        obtain⟨h1,h2⟩:=ih bs x.2 (k+1) (i+1) j hl h
        exact⟨by omega,by rw[e h1];exact h2⟩
def cm8:AO→Bool
  | .row _ _ _ false=>true
  | .map _ _ _ false=>true
  | .grid _ _ _ false=>true
  | _=>false
theorem av1 {a b:AO} (h:cm8 a=true):K1 a b:=by
  unfold cm8 at h
  split at h
  · trivial
  · trivial
  · trivial
  · cases h
theorem wt_:∀ {es:List Sp1} {ob:List AO} {j:Nat},okS ob es=true→listed es j=true→(∃ a,ob[j]?=some a∧cm8 a=true)∨(∃ ks T c ro,.b j ks ∈ es∧ob[j]?=some (.cells T c ro)∧ks.length=c.length∧∀ i ∈ ro,i ∈ roC ks 0)∨∃ Y st,ob[j]?=some (.yld Y st false):=by
  intro es
  induction es with
  | nil=>intro ob j _ h;cases h
  | cons e es ih =>
    intro ob j h hl
    have tl:okS ob es=true→listed es j=true→(∃ a,ob[j]?=some a∧cm8 a=true)∨(∃ ks T c ro,.b j ks ∈ e::es∧ob[j]?=some (.cells T c ro)∧ks.length=c.length∧∀ i ∈ ro,i ∈ roC ks 0)∨∃ Y st,ob[j]?=some (.yld Y st false):=λh hl=>by
      rcases ih h hl with h | ⟨ks,T,c,ro,h1,h2⟩ | h
      · exact .inl h
      · exact .inr (.inl ⟨ks,T,c,ro,by simp[h1],h2⟩)
      · exact .inr (.inr h)
    cases e with
    | v d t=>exact tl h hl
    | r d t T=>exact tl h hl
    | a d t T=>exact tl h hl
    | o o t =>
      simp only[okS,a2_] at h
      simp only[listed,c9_] at hl
      rcases hl with hl | hl
      · have:=a6_ hl
        subst this
        have h1:=h.1.1
        split at h1
        · rename_i e1;exact .inl ⟨_,e1,rfl⟩
        · cases h1
      · exact tl h.2 hl
    | x o =>
      simp only[okS,a2_] at h
      simp only[listed,c9_] at hl
      rcases hl with hl | hl
      · have:=a6_ hl
        subst this
        have h1:=h.1.1
        split at h1
        · rename_i e1;exact .inl ⟨_,e1,rfl⟩
        · cases h1
      · exact tl h.2 hl
    | y o =>
      simp only[okS,a2_] at h
      simp only[listed,c9_] at hl
      rcases hl with hl | hl
      · have:=a6_ hl
        subst this
        have h1:=h.1.1
        split at h1
        · rename_i e1;exact .inr (.inr ⟨_,_,e1⟩)
        · cases h1
      · exact tl h.2 hl
    | m o k v =>
      simp only[okS,a2_] at h
      simp only[listed,c9_] at hl
      rcases hl with hl | hl
      · have:=a6_ hl
        subst this
        have h1:=h.1.1
        split at h1
        · rename_i e1;exact .inl ⟨_,e1,rfl⟩
        · cases h1
      · exact tl h.2 hl
    | g o t0 =>
      simp only[okS,a2_] at h
      simp only[listed,c9_] at hl
      rcases hl with hl | hl
      · have:=a6_ hl
        subst this
        have h1:=h.1.1
        split at h1
        · rename_i e1;exact .inl ⟨_,e1,rfl⟩
        · cases h1
      · exact tl h.2 hl
    | b o ks =>
      simp only[okS,a2_] at h
      simp only[listed,c9_] at hl
      rcases hl with hl | hl
      · have:=a6_ hl
        subst this
        have h1:=h.1.1
        split at h1
        · rename_i T c ro e1
          simp only[a2_] at h1
          exact .inr (.inl ⟨ks,T,c,ro,by simp,e1,a6_ h1.1,λi hi=>tc_ (bj_ h1.2 i hi)⟩)
        · cases h1
      · exact tl h.2 hl
theorem al3 {mk:Bool} {ob:List AO}:∀ (es:List Sp1) (x:ev_ es) (t:A) (j:Nat),j<t.objs.length→∃ b,(up_ mk ob es x t).objs[j]?=some b:=by
  intro es x t j hj
  have:=al4 (mk:=mk) (ob:=ob) es x t
  exact⟨_,a7_ (by omega)⟩
theorem bj2 {asg:List Nat} {es:List Sp1} {mv:List Nat} {s:A} {x:ev_ es} (hok:okS s.objs es=true) (hm:okM s.objs mv=true):Keep s.objs (mc_ false asg es mv s x).objs:=by
  intro j a ha
  have hj:=(a3_.1 ha).1
  have hlen:(⟨λd=>cond (inL d asg) (.b .dead) (s.slot d),gn_ false es mv 0 s.objs⟩:A).objs.length=s.objs.length:=oi_
  unfold mc_
  cases hls:listed es j with
  | true =>
    rcases wt_ hok hls with ⟨af,e,hfr⟩ | ⟨ks,T,c,ro,h1,h2,h3,h4⟩ | ⟨Y,st,e⟩
    · rw[ha] at e
      cases e
      obtain⟨b,hb⟩:=al3 (mk:=false) (ob:=s.objs) es x ⟨λd=>cond (inL d asg) (.b .dead) (s.slot d),gn_ false es mv 0 s.objs⟩ j (by rw[hlen];exact hj)
      exact⟨b,hb,av1 hfr⟩
    · rw[ha] at h2
      cases h2
      obtain⟨_,y,k,e⟩:=wi_ (mk:=false) es x ⟨λd=>cond (inL d asg) (.b .dead) (s.slot d),gn_ false es mv 0 s.objs⟩ j ks T c ro hok h1 ha (by rw[hlen];exact hj)
      exact⟨_,e,_,rfl,ac4 _ _ _ _ h3,λi hi=>by simpa using (al6 ks c y k 0 i h3 (h4 i hi)).2⟩
    · rw[ha] at e
      cases e
      exact⟨_,as7 ha es x _ hok hls (by rw[hlen];exact hj),.rdy,rfl,λe=>by cases e⟩
  | false =>
    rw[ml_ es x _ j hls (by rw[hlen];exact hj)]
    show ∃ b,(gn_ false es mv 0 s.objs)[j]?=some b∧_
    rw[ks_,ha,b0_,hls]
    cases hmv:inL j mv with
    | false=>exact⟨_,rfl,by cases a<;>exact K1.refl _⟩
    | true =>
      have:=bj_ hm j (tc_ hmv)
      simp only[ha] at this
      refine⟨_,rfl,?_⟩
      split at this
      · rename_i e;cases e;trivial
      · cases this
theorem ah1 {d:Nat} {os:List Oper} (h:inL d (la_ os)=false):∀ o ∈ os,o.dst≠some d:=by
  induction os with
  | nil=>intro o ho;cases ho
  | cons x os ih =>
    intro q hq e
    cases ho:x.dst with
    | none =>
      have h':inL d (la_ os)=false:=by simpa [la_,ho] using h
      rcases e1_.1 hq with rfl | hq
      · rw[ho] at e;cases e
      · exact ih h' q hq e
    | some y =>
      have h':(Nat.beq d y||inL d (la_ os))=false:=by simpa [la_,ho,inL] using h
      rw[c2_] at h'
      rcases e1_.1 hq with rfl | hq
      · rw[ho] at e
        cases e
        rw[i1_] at h'
        cases h'.1
      · exact ih h'.2 q hq e
end
end
section
variable [Gb]
theorem cs6 {hv:Nat→Value}:∀ {l m:List AO} {i:Nat},m.length=l.length→(∀ (j:Nat) (a:AO),l[j]?=some a→∃ b,m[j]?=some b∧OHeq b a)→OHs hv i m=OHs hv i l
  | [],[],_,_,_=>rfl
  | a::l,b::m,i,hl,h=>by
    obtain⟨b',h1,h2⟩:=h 0 a rfl
    simp at h1
    subst h1
    simp only[OHs]
    rw[h2 hv (hv i),cs6 (l:=l) (m:=m) (by simpa using hl) λj a ha=>h (j+1) a (by simpa using ha)]
  | [],_::_,_,hl,_=>by simp at hl
  | _::_,[],_,hl,_=>by simp at hl
section
variable {S0:PH} {hv0:Nat→Value} {ob0:List AO} {Fm:List HP}
theorem Rl.alike {s:A} {f:Fr} {w:World} {m:List AO} (h:Rl S0 hv0 ob0 Fm s f w) (hl:m.length=s.objs.length)
    (hm:∀ (j:Nat) (a:AO),s.objs[j]?=some a→∃ b,m[j]?=some b∧OHeq b a∧(b = .unborn→a = .unborn)∧∀ n,a.lt n=true→b.lt n=true):Rl S0 hv0 ob0 Fm ⟨s.slot,m⟩ f w:=by
  obtain⟨S,hv,Ds,hle,hag,hbl,hs,hds⟩:=h
  have hb:BLe s.objs m:=λo ho=>by
    obtain⟨a,h1,h2⟩:=ba_.1 ho
    obtain⟨b,e1,_,e2,_⟩:=hm o a h1
    exact ba_.2 ⟨b,e1,λe=>h2 (e2 e)⟩
  refine⟨S,hv,Ds,hle,hag,hbl.trans hb,⟨?_,hs.rel,λd=>AV.lt_mono hb (hs.wfs d),λb hbm => ?_,hs.gl⟩,hds⟩
  · rw[cs6 hl λj a ha=>by obtain⟨b,e1,e2,_⟩:=hm j a ha;exact⟨b,e1,e2⟩]
    exact hs.inv
  · obtain⟨j,hj⟩:=e7_ hbm
    have hjl:j<m.length:=(a3_.1 hj).1
    have ha:s.objs[j]?=some (s.objs[j]'(by omega)):=a7_ _
    obtain⟨b',e1,_,_,e4⟩:=hm j _ ha
    rw[hj] at e1
    cases e1
    exact AO.lt_mono hb (e4 _ (hs.wfo _ (b9_ ha)))
theorem rv_ {es:List Sp1} {mv:List Nat}:∀ {l:List AO} {i j:Nat},(maskJ es mv i l)[j]?=(l[j]?).map λa=>cond (listed es (i+j)||inL (i+j) mv) (mJ a (aj0 es (i+j))) (oh_ a)
  | [],i,j=>rfl
  | a::l,i,0=>rfl
  | a::l,i,j+1=>by
    simp only[maskJ,i5_]
    rw[rv_ (l:=l) (i:=i+1) (j:=j),show i+1+j=i+(j+1) by omega]
theorem am6 {es:List Sp1} {mv:List Nat}:∀ {l:List AO} {i:Nat},(maskJ es mv i l).length=l.length
  | [],i=>rfl
  | a::l,i=>by simp[maskJ,am6 (l:=l)]
theorem Rl.maskJ {s:A} {f:Fr} {w:World} {es:List Sp1} {mv:List Nat} (h:Rl S0 hv0 ob0 Fm s f w):Rl S0 hv0 ob0 Fm ⟨s.slot,maskJ es mv 0 s.objs⟩ f w:=by
  refine h.alike am6 λj a ha => ?_
  rw[rv_,ha]
  refine⟨_,rfl,?_⟩
  show OHeq (cond (listed es (0+j)||inL (0+j) mv) (mJ a (aj0 es (0+j))) (oh_ a)) a∧_∧_
  cases (listed es (0+j)||inL (0+j) mv) with
  | false =>
    refine⟨ba4 a,?_,?_⟩
    · show oh_ a = .unborn→a = .unborn
      cases a<;>intro h<;>first | rfl | cases h
    · show ∀ n,a.lt n=true→(oh_ a).lt n=true
      intro n hn
      cases a<;>first | exact hn | (rename_i G l q r;cases q<;>first | rfl | exact hn)
  | true =>
    have key:OHeq (mJ a (aj0 es (0+j))) a∧(mJ a (aj0 es (0+j)) = .unborn→a = .unborn)∧∀ n,a.lt n=true→(mJ a (aj0 es (0+j))).lt n=true:=by
      unfold mJ
      split
      · exact⟨λ_ _=>rfl,λh=>(by cases h),λn hn=>hn⟩
      · exact⟨λ_ _=>rfl,λh=>h,λn hn=>hn⟩
    exact key
theorem mp_ {o:Nat} {ks:List CK}:∀ {es:List Sp1},.b o ks ∈ es→listed es o=true
  | e::es,h=>by
    rw[ku_,c9_]
    rcases e1_.1 h with rfl | h
    · exact .inl (by simp[listed])
    · exact .inr (mp_ h)
theorem pr_ {ob:List AO} {o:Nat} {ks:List CK}:∀ {es:List Sp1},okS ob es=true→.b o ks ∈ es→aj0 es o=some ks:=by
  intro es
  induction es with
  | nil=>intro _ h;cases h
  | cons e es ih =>
    intro h hm
    rcases e1_.1 hm with rfl | hm2
    · simp[aj0]
    · cases e with
      | v d t=>exact ih h hm2
      | r d t T=>exact ih h hm2
      | a d t T=>exact ih h hm2
      | o o' t=>simp only[okS,a2_] at h;exact ih h.2 hm2
      | m o' k v=>simp only[okS,a2_] at h;exact ih h.2 hm2
      | g o' t=>simp only[okS,a2_] at h;exact ih h.2 hm2
      | x o'=>simp only[okS,a2_] at h;exact ih h.2 hm2
      | y o'=>simp only[okS,a2_] at h;exact ih h.2 hm2
      | b o' ks' =>
        simp only[okS,a2_,k6_] at h
        have hne:Nat.beq o' o=false:=by
          cases hb:Nat.beq o' o with
          | false=>rfl
          | true =>
            have:=a6_ hb
            subst this
            rw[mp_ hm2] at h
            cases h.1.2
        simp only[aj0,hne,a1_]
        exact ih h.2 hm2
theorem wz_:∀ (ks:List CK) (bs cs:List SV) (i:Nat),ks.length=bs.length→cs.length=bs.length→(∀ j ∈ roC ks i,i≤j→cs[j - i]?=bs[j - i]?)→ue_ ks bs cs:=by
  intro ks
  induction ks with
  | nil=>intro bs cs i h1 h2 _;cases bs with
    | nil=>cases cs with
      | nil=>trivial
      | cons c cs=>simp at h2
    | cons b bs=>simp at h1
  | cons ck ks ih =>
    intro bs cs i h1 h2 h
    cases bs with
    | nil=>simp at h1
    | cons b bs =>
      cases cs with
      | nil=>simp at h2
      | cons c cs =>
        simp only[c5_,n7_] at h1 h2
        have e:∀ j,i+1≤j→j - i=(j - (i+1))+1:=λj hj=>by omega
        have tl:∀ j ∈ roC ks (i+1),i+1≤j→(∀ j ∈ roC (ck::ks) i,i≤j→(c::cs)[j - i]?=(b::bs)[j - i]?)→j ∈ roC (ck::ks) i→cs[j - (i+1)]?=bs[j - (i+1)]?:=λj hj hij h hm=>by
          have:=h j hm (by omega)
          rw[e j hij] at this
          exact this
        cases ck with
        | keep =>
          refine⟨?_,ih bs cs (i+1) h1 h2 λj hj hij=>tl j hj hij h (by simp[roC,hj])⟩
          have:=h i (by simp[roC]) (c4_ _)
          rw[k2_] at this
          exact a5_ this
        | val t=>exact ih bs cs (i+1) h1 h2 λj hj hij=>tl j hj hij h hj
        | row t T=>exact ih bs cs (i+1) h1 h2 λj hj hij=>tl j hj hij h hj
theorem ct5 {es:List Sp1} {mv:List Nat} {s:A} {objs:List AO} (hok:okS s.objs es=true) (hk:Keep (maskJ es mv 0 s.objs) objs) :
    (∀ (j:Nat) (a b:AO),s.objs[j]?=some a→objs[j]?=some b→(listed es j||inL j mv)=false→a≠.unborn→a≠.gone→OHeq a b)∧s.objs.length≤objs.length∧Kp es s.objs objs:=by
  have hg:∀ (j:Nat) (a:AO),s.objs[j]?=some a→∃ b,objs[j]?=some b∧K1 (cond (listed es j||inL j mv) (mJ a (aj0 es j)) (oh_ a)) b:=λj a ha=>hk j _ (by rw[rv_,ha,b0_];rfl)
  refine⟨λj a b ha hb hc h1 h2 => ?_,?_,λo ks T c ro T' c' ro' hm ho hr => ?_,λo Y st ro Y' st' ro' ho hr => ?_⟩
  · obtain⟨b',e1,e2⟩:=hg j a ha
    rw[hb] at e1
    cases e1
    rw[hc] at e2
    exact cd6 e2 h1 h2
  · by_cases h0:s.objs.length=0
    · omega
    · obtain⟨b,e2,_⟩:=hg _ _ (a7_ (show s.objs.length - 1<s.objs.length by omega))
      have:=(a3_.1 e2).1
      omega
  · obtain⟨b',e1,e2⟩:=hg o _ ho
    rw[hr] at e1
    cases e1
    rw[mp_ hm,pr_ hok hm] at e2
    obtain⟨c2,e3,h3,h4⟩:=(show ∃ c2:List SV,AO.cells T' c' ro' = .cells T c2 (roC ks 0)∧c2.length=c.length∧∀ j ∈ roC ks 0,c2[j]?=c[j]? from e2)
    cases e3
    have hl:ks.length=c.length:=by
      rcases wt_ hok (mp_ hm) with ⟨af,e,hfr⟩ | ⟨ks',T,c,ro,h1,h2,h3,h4⟩ | ⟨Y,st,e⟩
      · rw[ho] at e;cases e;cases hfr
      · rw[ho] at h2
        cases h2
        have:=pr_ hok h1
        rw[pr_ hok hm] at this
        cases this
        exact h3
      · rw[ho] at e;cases e
    exact⟨rfl,wz_ ks c c' 0 hl h3 λj hj _=>by simpa using h4 j hj⟩
  · obtain⟨b',e1,e2⟩:=hg o _ ho
    rw[hr] at e1
    cases e1
    cases hc:(listed es o||inL o mv) with
    | true =>
      rw[hc] at e2
      have e2:K1 (mJ (.yld Y st ro) (aj0 es o)) (.yld Y' st' ro'):=e2
      have e3:mJ (.yld Y st ro) (aj0 es o) = .yld Y st ro:=by cases aj0 es o<;>rfl
      rw[e3] at e2
      obtain⟨st2,e4,_⟩:=(show ∃ st2,AO.yld Y' st' ro' = .yld Y st2 ro∧(ro=true→st2=st) from e2)
      cases e4
      rfl
    | false =>
      rw[hc] at e2
      obtain⟨st2,e4,_⟩:=(show ∃ st2,AO.yld Y' st' ro' = .yld Y st2 true∧(true=true→st2=st) from e2)
      cases e4
      rfl
theorem unm1_eq (a b:AO):OHeq (ce2 a b) b:=by
  unfold ce2
  split<;>exact λ_ _=>rfl
theorem uy_:∀ {l m:List AO} {j:Nat} {b:AO},m[j]?=some b→(cq1 l m)[j]?=some (match l[j]? with
    | some a=>ce2 a b
    | none=>b)
  | [],m,j,b,h=>by simpa [cq1] using h
  | a::l,[],j,b,h=>by simp at h
  | a::l,c::m,0,b,h=>by simp at h;subst h;rfl
  | a::l,c::m,j+1,b,h=>by
    simp only[cq1,i5_]
    exact uy_ (by simpa using h)
theorem ax5:∀ {l m:List AO},(cq1 l m).length=m.length
  | [],m=>by simp[cq1]
  | a::l,[]=>rfl
  | a::l,c::m=>by simp[cq1,ax5 (l:=l)]
theorem bm1 (a b:AO):ce2 a b = .unborn→b = .unborn:=by
  unfold ce2
  split<;>intro h<;>first | exact h | cases h
theorem unm1_lt (a b:AO) {n:List AO} (h:b.lt n=true):(ce2 a b).lt n=true:=by
  unfold ce2
  split<;>first | exact h | (rename_i G l q r;cases q<;>first | rfl | exact h)
theorem Rl.unm {s s':A} {f:Fr} {w:World} (h:Rl S0 hv0 ob0 Fm s' f w):Rl S0 hv0 ob0 Fm (Rex.unm s s') f w:=by
  refine h.alike ax5 λj b hb => ?_
  refine⟨_,uy_ hb,?_⟩
  cases s.objs[j]? with
  | none=>exact⟨OHeq.refl _,λh=>h,λn hn=>hn⟩
  | some a=>exact⟨unm1_eq a b,bm1 a b,λn hn=>unm1_lt a b hn⟩
theorem cl9 {asg:List Nat} {es:List Sp1} {mv:List Nat} {s s':A} {x:ev_ es} (hok:okS s.objs es=true) (hm:okM s.objs mv=true) (hk:Keep (mc_ true asg es mv s x).objs s'.objs):Keep s.objs (Rex.unm s s').objs:=by
  intro j a ha
  have hj:=(a3_.1 ha).1
  have hlen:(⟨λd=>cond (inL d asg) (.b .dead) (s.slot d),gn_ true es mv 0 s.objs⟩:A).objs.length=s.objs.length:=oi_
  have fin:∀ b,s'.objs[j]?=some b→K1 a (ce2 a b)→∃ b,(Rex.unm s s').objs[j]?=some b∧K1 a b:=λb hb h=>by
    have:=uy_ (l:=s.objs) hb
    rw[ha] at this
    exact⟨_,this,h⟩
  have any:∃ b,s'.objs[j]?=some b:=by
    obtain⟨b,hb⟩:=al3 (mk:=true) (ob:=s.objs) es x ⟨λd=>cond (inL d asg) (.b .dead) (s.slot d),gn_ true es mv 0 s.objs⟩ j (by rw[hlen];exact hj)
    obtain⟨b',h1,_⟩:=hk j b hb
    exact⟨b',h1⟩
  cases hls:listed es j with
  | true =>
    rcases wt_ hok hls with ⟨af,e,hfr⟩ | ⟨ks,T,c,ro,h1,h2,h3,h4⟩ | ⟨Y,st,e⟩
    · rw[ha] at e
      cases e
      obtain⟨b,hb⟩:=any
      exact fin b hb (av1 hfr)
    · rw[ha] at h2
      cases h2
      obtain⟨_,y,k,e⟩:=wi_ (mk:=true) es x ⟨λd=>cond (inL d asg) (.b .dead) (s.slot d),gn_ true es mv 0 s.objs⟩ j ks T c ro hok h1 ha (by rw[hlen];exact hj)
      obtain⟨b,e2,hK⟩:=hk j _ e
      obtain⟨c2,rfl,g1,g2⟩:=(show ∃ c2:List SV,b = .cells T c2 (roC ks 0)∧c2.length=(no_ ks c y k).1.length∧∀ j ∈ roC ks 0,c2[j]?=(no_ ks c y k).1[j]? from hK)
      refine fin _ e2 ⟨c2,rfl,by rw[g1,ac4 _ _ _ _ h3],λi hi => ?_⟩
      rw[g2 i (h4 i hi)]
      simpa using (al6 ks c y k 0 i h3 (h4 i hi)).2
    · rw[ha] at e
      cases e
      have e:=as7 (mk:=true) ha es x ⟨λd=>cond (inL d asg) (.b .dead) (s.slot d),gn_ true es mv 0 s.objs⟩ hok hls (by rw[hlen];exact hj)
      obtain⟨b,e2,hK⟩:=hk j _ e
      obtain⟨st2,rfl,_⟩:=(show ∃ st2,b=AO.yld Y st2 false∧(false=true→st2 = .rdy) from hK)
      exact fin _ e2 ⟨st2,rfl,λe=>by cases e⟩
  | false =>
    cases hmv:inL j mv with
    | true =>
      obtain⟨b,hb⟩:=any
      have:=bj_ hm j (tc_ hmv)
      simp only[ha] at this
      split at this
      · rename_i e;cases e;exact fin b hb trivial
      · cases this
    | false =>
      have e:(mc_ true asg es mv s x).objs[j]?=some (oh_ a):=by
        unfold mc_
        rw[ml_ es x _ j hls (by rw[hlen];exact hj)]
        show (gn_ true es mv 0 s.objs)[j]?=_
        rw[ks_,ha,b0_,hls,hmv]
        cases a<;>rfl
      obtain⟨b,e2,hK⟩:=hk j _ e
      refine fin b e2 ?_
      cases a with
      | unborn=>trivial
      | gone=>trivial
      | row t T l ro =>
        have h:b = .row t T l true:=hK
        subst h
        exact K1.refl _
      | map k v m ro =>
        have h:b = .map k v m true:=hK
        subst h
        exact K1.refl _
      | grid G l q ro =>
        have h:b = .grid G l q true:=hK
        subst h
        exact K1.refl _
      | fn f0 x0 y0=>exact hK
      | froz t x=>exact hK
      | yld Y st ro =>
        obtain⟨st2,rfl,h2⟩:=(show ∃ st2,b=AO.yld Y st2 true∧(true=true→st2=st) from hK)
        exact⟨st2,rfl,λ_=>h2 rfl⟩
      | cells T c ro =>
        obtain⟨c',rfl,hl,hc⟩:=(show ∃ c':List SV,b = .cells T c' (List.range c.length)∧c'.length=c.length∧∀ j ∈ List.range c.length,c'[j]?=c[j]? from hK)
        refine⟨c',rfl,hl,λi hi => ?_⟩
        by_cases hil:i<c.length
        · exact hc i (by simpa using hil)
        · rw[b3_ (by omega),b3_ (by omega)]
theorem zk_ {a b:List Sp1} {j:Nat}:listed (a++b) j=(listed a j||listed b j):=by
  induction a with
  | nil=>rfl
  | cons e a ih=>rw[l1_,ku_,ih,ku_ (es:=a),Bool.or_assoc]
theorem mm_:∀ {a:List Sp1} {j:Nat},noO a=true→listed a j=false
  | [],_,_=>rfl
  | .v _ _::a,j,h=>mm_ (a:=a) h
  | .r _ _ _::a,j,h=>mm_ (a:=a) h
  | .a _ _ _::a,j,h=>mm_ (a:=a) h
theorem ad4:∀ {a:List Sp1} {o:Nat} {ks:List CK},noO a=true→.b o ks ∉ a
  | .v _ _::a,o,ks,h,hm=>by
    rcases e1_.1 hm with h1 | h1
    · cases h1
    · exact ad4 (a:=a) h h1
  | .r _ _ _::a,o,ks,h,hm=>by
    rcases e1_.1 hm with h1 | h1
    · cases h1
    · exact ad4 (a:=a) h h1
  | .a _ _ _::a,o,ks,h,hm=>by
    rcases e1_.1 hm with h1 | h1
    · cases h1
    · exact ad4 (a:=a) h h1
end
end
section
section
variable {P:Program} {n:Nat} {N R:Fr→World→Prop} {X:Nat→Fr→World→Prop} {f:Fr} {w:World} {S:PH} {O:List HP} {ro:Option Nat}
def cw1 (N R:Fr→World→Prop) (X:Nat→Fr→World→Prop) (l:Nat) (f':Fr) (e:Ending) (w:World):Prop :=
  ∃ u rc,e = .returned u∧w.heap[l]?=some (.loop rc)∧rc.state≠.busy∧Jumps N R X f' { w with heap:=w.heap.setIfInBounds l (.loop { rc with state:=.exhausted }) } rc.pending
theorem bq0 {b:Frame} {a:Act} {k:List Item} {cs:List Frame} {g:Operand} {ps:List Nat} {assign body:Code} {kf:FuncId} {fst cap:List Value}
    {l:Nat} {mk:List Deferred} {w₁:World} {f':Fr} (ha:Fits n a f) (hg:ev f g = .func (.func kf) fst.toArray cap.toArray) (hk:eu_ P kf) (hb:b.roundOf=ro)
    (he:(Instr.enterLoop b.fn a.tmps ps.toArray assign body ro).run P w = .ok (l,mk) w₁)
    (hcall:Calls P kf (fst++.func (.yield l) #[] #[]::cap).toArray w₁ (cw1 N R X l f'))
    (hf':Fits n { a with defers:=mk++a.defers } f') :
    ∃ e a' w',Pad.Ends n N R X e a' w'∧ArrivesIn (Machine.fenced P (FW ro)) P (lone (b.atR a (.code (.rangeFunc g ps.toArray assign body)::k)) cs w) b k cs e a' w':=by
  obtain⟨fn,h1,h2,h3⟩:=id hk
  have h3':fn.name ≠ "runtime.NumGoroutine" := by simpa using h3
  have h2':fn.body≠none:=by intro e;rw[e] at h2;cases h2
  have hroom:∀ k,(FW ro).room k:=cd9
  have hfen:∀ m:Machine,m.fenced P (FW ro):=λm=>fenced_wide P m
  have hinv:(invoke (.fn (.func kf) cap.toArray) (fst.toArray ++ #[.func (.yield l) #[] #[]])).run P w₁ = .ok (.enter kf (fst++.func (.yield l) #[] #[]::cap).toArray) w₁:=by
    simp[invoke,callFunc,h1]
    rw[if_neg h3',if_neg h2']
  have hres:(resolve a.eval (rcall g l) 0).run P w₁ = .ok { target:=.fn (.func kf) cap.toArray,args:=fst.toArray ++ #[.func (.yield l) #[] #[]] } w₁:=by
    rw[ha.eval]
    have e0:ev f (.const (.func (.yield l) #[] #[])) = .func (.yield l) #[] #[]:=rfl
    simp[resolve,rcall,hg,Deferred.ofValue,e0]
  have henter:=bg5 (P:=P) (b:=b) (a:=a) (k:=k) (cs:=cs) (w:=w) (g:=g) (by rw[hb];exact he) hres hinv
  obtain⟨e,w₂,fr,hR,hsteps,_,hleave⟩:=hcall (b.atR { a with defers:=mk++a.defers } (.inRangeFunc l::k)::cs)
  obtain⟨v,rc,rfl,hl,hst,hJ⟩:=hR
  have hs0:Steps P (lone (b.atR a (.code (.rangeFunc g ps.toArray assign body)::k)) cs w) (lone (b.atR { a with defers:=mk++a.defers } (.endRangeFunc l::k)) cs w₂):=by
    refine Steps.trans (.one henter) (Steps.trans hsteps (.one ?_))
    have:=step_leave_returned (P:=P) (c:=b.atR { a with defers:=mk++a.defers } (.inRangeFunc l::k)) (cs:=cs) hleave
    rw[this]
    simp[Frame.finish,Frame.atR]
  have hsIn:StepsIn (Machine.fenced P (FW ro)) P (lone (b.atR a (.code (.rangeFunc g ps.toArray assign body)::k)) cs w) (lone (b.atR { a with defers:=mk++a.defers } (.endRangeFunc l::k)) cs w₂) :=
    (stepsIn_wide (P:=P)).2 hs0
  have hov:=ch8 (P:=P) hl hst
  have hst2:=hsIn.trans (.one (hfen _) (bn1 (b:=b) (a:={ a with defers:=mk++a.defers }) (k:=k) (cs:=cs) hov))
  cases hp:rc.pending with
  | none =>
    rw[hp] at hJ hst2
    exact⟨.normal,_,_,⟨f',hf',hJ⟩,hst2⟩
  | some c =>
    rw[hp] at hJ hst2
    cases c with
    | ret =>
      obtain⟨e',a'',w₅,hq,harr⟩:=Go.wpIn_ret (F:=FW ro) (n:=0) (P:=P) (Q:=Pad.Ends n N R X) (⟨f',hf',hJ⟩:Pad.Ends n N R X .ret { a with defers:=mk++a.defers } _) b k cs hb trivial (hroom _)
      exact⟨e',a'',w₅,hq,.of_steps hst2 harr⟩
    | exit i =>
      obtain⟨e',a'',w₅,hq,harr⟩:=Go.wpIn_exit (F:=FW ro) (n:=0) (P:=P) (Q:=Pad.Ends n N R X) (⟨f',hf',hJ⟩:Pad.Ends n N R X (.exit i) { a with defers:=mk++a.defers } _) b k cs hb trivial (hroom _)
      exact⟨e',a'',w₅,hq,.of_steps hst2 harr⟩
    | _=>exact hJ.elim
theorem bk8 {g:Operand} {ps:List Nat} {assign body:Code} (hI:Inv w S O)
    (h:∀ (l D:Nat) (fn:FuncId) (tm:Array Value) (w₁:World),tm.size=n→(∀ i,tm.getD i undef=f i)→Inv w₁ S (ai7 l (rn_ fn tm ps.toArray assign body D .ready none)::Dfr D::O) →
      ∃ (kf:FuncId) (fst cap:List Value),ev f g = .func (.func kf) fst.toArray cap.toArray∧eu_ P kf∧Calls P kf (fst++.func (.yield l) #[] #[]::cap).toArray w₁ (cw1 N R X l (Pad.mark f D))) :
    WP P n none (.rangeFunc g ps.toArray assign body) N R X f w:=by
  intro a ha b k cs hb _ _
  have h1:=hI.new (.deferred (some []))
  have h2:=h1.new (.loop (rn_ b.fn a.tmps ps.toArray assign body w.heap.size .ready none))
  have hsz:(w.alloc (.deferred (some []))).heap.size=w.heap.size+1:=by simp
  rw[hsz] at h2
  obtain⟨kf,fst,cap,hg,hk,hc⟩:=h (w.heap.size+1) w.heap.size b.fn a.tmps _ ha.size ha.at_ h2
  refine bq0 (ro:=none) (l:=w.heap.size+1) (mk:=[{ target:=.collected w.heap.size,args := #[] }]) (w₁:=(w.alloc (.deferred (some []))).alloc (.loop (rn_ b.fn a.tmps ps.toArray assign body w.heap.size .ready none))) (f':=Pad.mark f w.heap.size) ha hg hk hb ?_ hc ⟨ha.size,congrArg _ ha.defers,ha.at_⟩
  unfold Instr.enterLoop
  simp only[Sem.run_bind,ch9,Result.andThen,Sem.run_pure,World.size_alloc]
  rfl
end
end
end Go.Proofs.YtdibamopklkilaaGreatDoor.Rex
