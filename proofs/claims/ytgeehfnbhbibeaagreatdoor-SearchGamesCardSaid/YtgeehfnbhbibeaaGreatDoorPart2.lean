/- A part of the proof: what the functions of the program compute, shown over the model. -/
import Derived.Test.YtgeehfnbhbibeaaGreatDoorPart1
set_option linter.unusedSectionVars false
set_option linter.unusedVariables false
set_option linter.unusedSimpArgs false
namespace Go.Proofs.YtgeehfnbhbibeaaGreatDoor.Rex
open Go Pad
section
variable [Gb]
def bx4 (P:Program) [Tb P] (T:TypeId):Ty→Bool
 | .int=>match und P T with
  | some (.int .i64)=>true
  | _=>false
 | .str=>match und P T with
  | some .string=>true
  | _=>false
 | _=>false
theorem xe_ {S:PH} {v:Value} {s:Str} (h:RVt .str S v s):v = .string ⟨s.toArray⟩:=by
 obtain⟨cs,hr,rfl⟩:=h
 have hr:cs=[.string ⟨s.toArray⟩]:=hr
 subst hr
 rfl
theorem cd7 (x y:Str):(x==y)=@decide (x=y) (Ty.deq .str x y):=by
 rw[j8_]
 exact beq_iff_eq.trans (@decide_eq_true_iff _ (Ty.deq .str x y)).symm
theorem cw4 (a b:ByteArray):(a==b)=(a.toList==b.toList):=by
 rw[ByteArray.toList_eq,ByteArray.toList_eq]
 obtain⟨⟨x⟩⟩:=a
 obtain⟨⟨y⟩⟩:=b
 show ((⟨x⟩:Array UInt8)==⟨y⟩)=(x==y)
 simp
theorem keyStr {P:Program} [Tb P] {T:TypeId} (hT:P.underlying T=some .string):@KeyT P (Ty.den .str) (Ty.enc .str) (Ty.deq .str) T where
 eq w S v u a b hv hu:=by
  rw[xe_ hv,xe_ hu]
  show (Op.equalIn (9999+1) T _ _).run P w=_
  rw[run_equalIn_string w 9999 T _ _ hT]
  have e1:=qe_ a
  have e2:=qe_ b
  exact congrArg (λz=>Result.ok z w) (((congrArg (λz=>z==_) e1).trans (congrArg (λz=>_==z) e2)).trans (cd7 a b))
 now:=⟨_,hT,.inr λS v u a b hv hu=>by
  rw[xe_ hv,xe_ hu]
  show some (_==_)=_
  rw[cw4]
  have e1:=qe_ a
  have e2:=qe_ b
  exact congrArg some (((congrArg (λz=>z==_) e1).trans (congrArg (λz=>_==z) e2)).trans (cd7 a b))⟩
 check w e S v a hv:=by
  rw[xe_ hv]
  show (Instr.checkKey e (9999+1) T _).run P w=_
  unfold Instr.checkKey
  rw[Sem.run_bind,run_underlying hT]
  rfl
 bits S v u a hv hu:=by
  rw[xe_ hv,xe_ hu]
  show Instr.sameBits (9999+1) _ _=true
  have:∀ b:ByteArray,(b==b)=true:=λb=>by rw[cw4];exact d4_ _
  simp[Instr.sameBits,this]
theorem ah4 {P:Program} [Tb P] {T:TypeId} {t:Ty} (h:bx4 P T t=true):@KeyT P t.den t.enc t.deq T:=by
 unfold bx4 at h
 split at h
 ·split at h
  ·rename_i e;exact keyInt (cs_ e)
  ·cases h
 ·split at h
  ·rename_i e;exact keyStr (cs_ e)
  ·cases h
 ·cases h
def bk3 (P:Program) [Tb P] (T:TypeId):Option (TypeId×TypeId):=match und P T with
 | some (.map k v)=>some (k,v)
 | _=>none
theorem ah0 {P:Program} [Tb P] {T k v:TypeId} (h:bk3 P T=some (k,v)):P.underlying T=some (.map k v):=by
 unfold bk3 at h
 split at h
 ·rename_i e;cases h;exact cs_ e
 ·cases h
abbrev cn3 {k v:Ty} (z:v.den) (m:List (k.den×v.den)) (x:k.den):v.den:=@de_ k.den v.den k.deq z m x
abbrev hasD {k v:Ty} (m:List (k.den×v.den)) (x:k.den):Bool:=@ag8 k.den v.den k.deq m x
abbrev setD {k v:Ty} (m:List (k.den×v.den)) (x:k.den) (y:v.den):List (k.den×v.den):=@iq_ k.den v.den k.deq m x y
abbrev delD {k v:Ty} (m:List (k.den×v.den)) (x:k.den):List (k.den×v.den):=@aa7 k.den v.den k.deq m x
def ofB (t:Ty) (x:t.den):BV:=cond t.agg (.val t x) (.one (.val t x))
theorem ofB_eq {t:Ty} {x:t.den}:ofD t x = .b (ofB t x):=by unfold ofD ofB;cases t.agg<;>rfl
theorem ao2 {hv:Nat→Value} {S:PH} {t:Ty} {x:t.den} {v:Value} (h:RVt t S v x):RB hv S (ofB t x) v:=by
 have:=sr_ (hv:=hv) h
 rw[ofB_eq] at this
 exact this
theorem ao3 {n:List AO} {t:Ty} {x:t.den}:(ofB t x).lt n=true:=by unfold ofB;cases t.agg<;>rfl
section
variable {P:Program} [Tb P] {w:World} {T E:TypeId} {a:Option Addr} {len cap:Nat} {lo hi:Int} {ag:Bool} {sz:Nat}
theorem ct5 (hT:P.underlying T=some (.slice E)) (hE:Shape P E ag sz) (h0:0≤lo) (h1:lo≤len) :
  (Instr.sliceAt T (.slice a len cap) (some (.int .i64 lo)) none none).run P w = .ok (sliced a lo.toNat len cap sz) w:=by
 have hel:P.elem T=E:=by simp[Program.elem,hT]
 have hT':P.underlying T=some (.slice (P.elem T)):=by rw[hel];exact hT
 have:=run_slice_l (P:=P) w T a len cap hT' .i64 lo h0 h1
 rw[hel] at this
 simp[run_sliceAt_slice w T _ _ _ _ hT',this,hE.size w,Result.andThen]
theorem ct6 (hT:P.underlying T=some (.slice E)) (hE:Shape P E ag sz) (h0:0≤hi) (h1:hi≤cap) :
  (Instr.sliceAt T (.slice a len cap) none (some (.int .i64 hi)) none).run P w = .ok (sliced a 0 hi.toNat cap sz) w:=by
 have hel:P.elem T=E:=by simp[Program.elem,hT]
 have hT':P.underlying T=some (.slice (P.elem T)):=by rw[hel];exact hT
 have:=run_slice_h (P:=P) w T a len cap hT' .i64 hi h0 h1
 rw[hel] at this
 simp[run_sliceAt_slice w T _ _ _ _ hT',this,hE.size w,Result.andThen]
theorem part_lh (hT:P.underlying T=some (.slice E)) (hE:Shape P E ag sz) (h0:0≤lo) (h1:lo≤hi) (h2:hi≤cap) :
  (Instr.sliceAt T (.slice a len cap) (some (.int .i64 lo)) (some (.int .i64 hi)) none).run P w = .ok (sliced a lo.toNat hi.toNat cap sz) w:=by
 have hel:P.elem T=E:=by simp[Program.elem,hT]
 have hT':P.underlying T=some (.slice (P.elem T)):=by rw[hel];exact hT
 have:=run_slice_lh (P:=P) w T a len cap hT' .i64 .i64 lo hi h0 h1 h2
 rw[hel] at this
 simp[run_sliceAt_slice w T _ _ _ _ hT',this,hE.size w,Result.andThen]
end
end
section
variable [Gb]
def ac3:AV→Option (List SV)
 | .b (.one s)=>some [s]
 | .b (.val t x)=>some (exp t x)
 | .b (.agg l)=>some l
 | _=>none
def bs3:AV→Option (List SV)
 | .b (.val t x)=>some (exp t x)
 | .b (.agg l)=>some l
 | _=>none
theorem cl0 {hv:Nat→Value} {S:PH} {a:AV} {v:Value} {l:List SV} (h:RA hv S a v) (hl:bs3 a=some l):∃ cs:List Value,v = .agg cs.toArray∧Fa (RS hv S) l cs:=by
 unfold bs3 at hl
 split at hl
 ·rename_i t x
  cases hl
  obtain⟨h1,cs,h2,h3⟩:=h
  refine⟨cs,?_,yp_ h2⟩
  rw[h3]
  have:Enc.agg t.den=true:=by rw[jt_];exact h1
  rw[this]
  rfl
 ·cases hl
  exact h
 ·cases hl
theorem cl1 {n:List AO} {a:AV} {l:List SV} (h:a.lt n=true) (hl:bs3 a=some l):fb_ (SV.lt n) l=true:=by
 unfold bs3 at hl
 split at hl
 ·cases hl;exact aq3
 ·cases hl;exact h
 ·cases hl
def capD:List AV→Option DV
 | []=>some ⟨.unit,()⟩
 | .b (.one (.val t x))::l=>(capD l).bind λd=>some ⟨.pair t d.t,(x,d.x)⟩
 | _=>none
def cl2 {α ρ:Type} (sl:Nat→AV) (lo hi:Option Operand) (l:List α) (k:List α→Option ρ):Option ρ:=match lo,hi with
 | some y,none=>(asD .int (evA sl y)).bind λ(a:Int)=>(sub? l a (l.length:Nat)).bind k
 | none,some z=>(asD .int (evA sl z)).bind λ(b:Int)=>(sub? l 0 b).bind k
 | some y,some z=>(asD .int (evA sl y)).bind λ(a:Int)=>(asD .int (evA sl z)).bind λ(b:Int)=>(sub? l a b).bind k
 | none,none=>none
def idxS {ρ:Type} (s:Str) (i:Int) (k:AV→Option ρ):Option ρ:=(at? s i).bind λc=>k (uV (c.toNat:Int))
def stepP {ρ:Type} (P:Program) [Tb P] (o:Oper) (sl:Nat→AV) (objs:List AO) (k:AV→Option ρ):Option ρ:=match o.op with
 | .move x=>k (evA sl x)
 | .assign x=>k (evA sl x)
 | .pick c a b=>(asD .bool (evA sl c)).bind λq=>cond q (k (evA sl a)) (k (evA sl b))
 | .binOp op T x y _=>binA P op T (evA sl x) (evA sl y) objs k
 | .unOp .not _ x=>(asD .bool (evA sl x)).bind λb=>k (bV (!b))
 | .unOp .neg _ x=>(asD .int (evA sl x)).bind λ(b:Int)=>k (iV (w64 (0 - b)))
 | .extract x i=>match evA sl x with
  | .tup l=>(l[i]?).bind λb=>k (.b b)
  | _=>none
 | .nilCheck x=>match evA sl x with
  | .b (.one (.ptr p i))=>k (.b (.one (.ptr p i)))
  | .b (.one (.val (.ref t) y))=>k (.b (.one (.val (.ref t) y)))
  | .b (.one (.ptrE p i n z q))=>k (.b (.one (.ptrE p i n z q)))
  | _=>none
 | .fieldAddr T x i=>(offOf P T i).bind λoff=>fldA off i (evA sl x) k
 | .field T x i=>(bz8 P T i).bind λoff=>(bs3 (evA sl x)).bind λl=>(l[off]?).bind λs=>k (.b (.one s))
 | .indexAddr T x y=>match und P T with
  | some (.array n E)=>(asD .int (evA sl y)).bind λi=>arrX P E n i (evA sl x) objs k
  | _=>(elemOf P T).bind λE=>(asD .int (evA sl y)).bind λi=>idxA P E i (evA sl x) objs k
 | .load T x=>bw3 P T (evA sl x) objs k
 | .index T x y=>match und P T with
  | some .string=>(asD .str (evA sl x)).bind λs=>(asD .int (evA sl y)).bind λi=>idxS s i k
  | _=>none
 | .makeFunc (.func f) ⟨[]⟩ ⟨ca⟩=>(capD (ca.map (evA sl))).bind λd=>k (.b (.one (.val (.clo f d.t) d.x)))
 | .call ⟨.builtin .len,⟨[x]⟩,⟨[T]⟩⟩=>match und P T with
  | some .string=>(asD .str (evA sl x)).bind λs=>k (iV (s.length:Nat))
  | some (.slice _)=>lenA (evA sl x) objs k
  | _=>none
 | .call ⟨.builtin .max,⟨[x,y]⟩,_⟩=>(asD .int (evA sl x)).bind λa=>(asD .int (evA sl y)).bind λb=>k (iV (maxI a b))
 | .call ⟨.builtin .min,⟨[x,y]⟩,_⟩=>(asD .int (evA sl x)).bind λa=>(asD .int (evA sl y)).bind λb=>k (iV (cm7 a b))
 | .lookup T x y ok=>(bk3 P T).bind λq=>match evA sl x with
  | .b (.one (.map o))=>match objs[o]? with
   | some (.map kt vt m _)=>cond (bx4 P q.1 kt) ((rf_ P q.2 vt).bind λz=>(asD kt (evA sl y)).bind λkey=>cond ok (k (.tup [ofB vt (cn3 z m key),.one (.val .bool (hasD m key))])) (k (ofD vt (cn3 z m key)))) none
   | _=>none
  | _=>none
 | .slice T x lo hi none=>match und P T with
  | some .string=>(asD .str (evA sl x)).bind λs=>cl2 sl lo hi (show List UInt8 from s) λm=>k (sV m)
  | _=>(elemOf P T).bind λE=>match evA sl x with
  | .b (.one (.val (.list t) l))=>cond (aq1 P E t) (cl2 sl lo hi l λm=>k (.b (.one (.val (.list t) m)))) none
  | _=>none
 | _=>none
section
variable {ρ:Type} {P:Program} [Tb P] {objs:List AO} {k:AV→Option ρ} {r:ρ} {sl:Nat→AV}
theorem ak0 {hv:Nat→Value} {S:PH}:∀ {l:List AV} {vs:List Value} {d:DV},capD l=some d→Fa (RA hv S) l vs→d.t.enc.rep S vs d.x
 | [],[],d,h,_=>by cases h;rfl
 | a::l,v::vs,d,h,hf=>by
  unfold capD at h
  split at h
  ·rename_i e;cases e
  ·rename_i t x l' e
   cases e
   obtain⟨d',h1,h⟩:=bnd h
   cases h
   have hv1:=hf.1
   exact⟨[v],vs,rfl,ox_ hv1.2.1 hv1.2.2,ak0 h1 hf.2⟩
  ·cases h
theorem ai8 {hv:Nat→Value} {S:PH} {Fm:List HP} {f:Fr} {w:World} (hs:Sit S hv Fm sl objs f w):∀ (ca:List Operand),Fa (RA hv S) (ca.map (evA sl)) (ca.map (ev f))
 | []=>trivial
 | x::ca=>⟨hs.ev x,ai8 hs ca⟩
theorem str_ext (s:Str) (a b:Int) (h0:0≤a) (h1:a≤b) (h2:b≤(s.length:Nat)):((⟨s.toArray⟩:ByteArray).extract a.toNat b.toNat)=⟨((s.take b.toNat).drop a.toNat).toArray⟩:=by
 apply ByteArray.ext
 rw[ByteArray.data_extract]
 simp
 show (s.drop a.toNat).take (b.toNat - a.toNat)=_
 rw[List.drop_take]
theorem ad2 {o:Oper} (h:stepP P o sl objs k=some r):∃ av,k av=some r∧OpOk P o sl objs av objs:=by
 obtain⟨dd,op,ty,pos,af,gd⟩:=o
 unfold stepP at h
 simp only at h
 split at h
 ·rename_i x
  exact⟨_,h,.pure (λhs _=>ik_ hs x) λhs=>⟨_,by simp[execOp],hs.ev x⟩⟩
 ·rename_i x
  exact⟨_,h,.pure (λhs _=>ik_ hs x) λhs=>⟨_,by simp[execOp],hs.ev x⟩⟩
 ·rename_i c a b
  obtain⟨q,hq,h⟩:=bnd h
  cases q with
  | true=>exact⟨_,h,.pure (λhs _=>ik_ hs a) λ{S hv Fm f w} hs=>⟨_,by simp[execOp,ep_ (hs.ev c) hq,asBool],hs.ev a⟩⟩
  | false=>exact⟨_,h,.pure (λhs _=>ik_ hs b) λ{S hv Fm f w} hs=>⟨_,by simp[execOp,ep_ (hs.ev c) hq,asBool],hs.ev b⟩⟩
 ·rename_i op T x y T2
  obtain⟨av,h1,h2,h3⟩:=binA_ok h
  refine⟨_,h1,.pure (λ_ _=>h2 _) λ{S hv Fm f w} hs => ?_⟩
  obtain⟨c,g1,g2,g3⟩:=h3 (w:=w) (hs.ev x) (hs.ev y)
  exact⟨c,by simp[execOp,Sem.run_bind,g1,g2,Result.andThen],g3⟩
 ·rename_i T x
  obtain⟨b,hb,h⟩:=bnd h
  exact⟨_,h,.pure (λ_ _=>rfl) λ{S hv Fm f w} hs=>⟨_,by simp[execOp,ep_ (hs.ev x) hb,Op.unary],qz_ _⟩⟩
 ·rename_i T x
  obtain⟨b,hb,h⟩:=bnd h
  exact⟨_,h,.pure (λ_ _=>rfl) λ{S hv Fm f w} hs=>⟨_,by simp[execOp,dr_ (hs.ev x) hb,Op.unary,Op.intArith];rfl,ai2 _⟩⟩
 ·rename_i x i
  split at h
  ·rename_i l hl
   obtain⟨b,hb,h⟩:=bnd h
   refine⟨_,h,.pure (λhs _ => ?_) λ{S hv Fm f w} hs => ?_⟩
   ·have:=ik_ hs x
    rw[hl] at this
    exact bg_ this b (b2_ hb)
   ·have:=hs.ev x
    rw[hl] at this
    obtain⟨vs,e,hf⟩:=this
    obtain⟨v,h1,h2⟩:=hf.get hb
    exact⟨v,by simp[execOp,e,Instr.extract,h1],h2⟩
  ·cases h
 ·rename_i x
  have key:∀ {av:AV},evA sl x=av→(∀ {hv:Nat→Value} {S:PH} {v:Value},RA hv S av v→∃ a,v = .pointer (some a))→OpOk P ⟨dd,.nilCheck x,ty,pos,af,gd⟩ sl objs av objs:=λ{av} e hp=>by
   refine .pure (λhs _=>by rw[← e];exact ik_ hs x) λ{S hv Fm f w} hs => ?_
   have:=hs.ev x
   rw[e] at this
   obtain⟨a,ha⟩:=hp this
   exact⟨ev f x,by simp[execOp,ha],this⟩
  split at h
  ·rename_i p i e
   exact⟨_,h,key e λhr=>hr.2.1⟩
  ·rename_i t y e
   exact⟨_,h,key e λhr=>PtS.ptr (qh_ hr.2.2)⟩
  ·rename_i p i n z q e
   exact⟨_,h,key e λhr=>hr.2.1⟩
  ·cases h
 ·rename_i T x i
  obtain⟨off,hoff,h⟩:=bnd h
  obtain⟨av,h1,h2,h3⟩:=fldA_ok (objs:=objs) (cm0 hoff) h
  refine⟨_,h1,.pure (λhs _=>h2 (ik_ hs x)) λ{S hv Fm f w} hs => ?_⟩
  obtain⟨u,g1,g2⟩:=h3 (w:=w) (hs.ev x)
  exact⟨u,by simp[execOp,g1],g2⟩
 ·rename_i T x i
  obtain⟨off,hoff,h⟩:=bnd h
  obtain⟨l,hl,h⟩:=bnd h
  obtain⟨s,hs1,h⟩:=bnd h
  refine⟨_,h,.pure (λhs _=>bg_ (cl1 (ik_ hs x) hl) s (b2_ hs1)) λ{S hv Fm f w} hs => ?_⟩
  obtain⟨cs,e,hf⟩:=cl0 (hs.ev x) hl
  obtain⟨v,h1,h2⟩:=hf.get hs1
  exact⟨v,by simp[execOp,e,bz7 hoff h1],h2⟩
 ·rename_i T x y
  split at h
  ·rename_i n E hT
   obtain⟨i,hi,h⟩:=bnd h
   obtain⟨av,h1,h2,h3⟩:=arrX_ok (cs_ hT) h
   refine⟨_,h1,.pure (λhs _=>h2 (ik_ hs x)) λ{S hv Fm f w} hs => ?_⟩
   obtain⟨u,g1,g2⟩:=h3 hs (hs.ev x)
   exact⟨u,by simp[execOp,dr_ (hs.ev y) hi,g1],g2⟩
  ·obtain⟨E,hE,h⟩:=bnd h
   obtain⟨i,hi,h⟩:=bnd h
   obtain⟨av,h1,h2,h3⟩:=idxA_ok (em_ hE) h
   refine⟨_,h1,.pure (λhs _=>h2 (ik_ hs x)) λ{S hv Fm f w} hs => ?_⟩
   obtain⟨u,g1,g2⟩:=h3 hs (hs.ev x)
   exact⟨u,by simp[execOp,dr_ (hs.ev y) hi,g1],g2⟩
 ·rename_i T x
  obtain⟨av,h1,h2,h3⟩:=bc5 h
  refine⟨_,h1,.pure (λ_ hw=>h2 hw) λ{S hv Fm f w} hs => ?_⟩
  obtain⟨u,g1,g2⟩:=h3 hs (hs.ev x)
  exact⟨u,by simp[execOp,g1],g2⟩
 ·rename_i T x y
  split at h
  ·rename_i hT
   have hT:=cs_ hT
   obtain⟨s,hs1,h⟩:=bnd h
   obtain⟨i,hi,h⟩:=bnd h
   obtain⟨c,hc,h⟩:=bnd h
   refine⟨_,h,.pure (λ_ _=>rfl) λ{S hv Fm f w} hs=>⟨_,?_,uV_ra _⟩⟩
   obtain⟨h0,hlt,hc⟩:=dg_ hc
   have e:(⟨(show Str from s).toArray⟩:ByteArray)[(show Int from i).toNat]?=some c:=by
    have hlt2:(show Int from i).toNat<(⟨(show Str from s).toArray⟩:ByteArray).size:=by rw[no_];exact hlt
    have h1:=getElem?_pos (⟨(show Str from s).toArray⟩:ByteArray) (show Int from i).toNat hlt2
    rw[h1]
    rw[a7_ hlt] at hc
    exact hc
   have h0':(0:Int)≤i:=h0
   simp[execOp,jj_ (hs.ev x) hs1,dr_ (hs.ev y) hi,Instr.index,asIntOf,run_underlying hT,h0',e]
  ·cases h
 ·rename_i f0 ca
  obtain⟨d,hd,h⟩:=bnd h
  refine⟨_,h,.pure (λ_ _=>rfl) λ{S hv Fm f w} hs=>⟨.func (.func f0) #[] (ca.map (ev f)).toArray,by simp[execOp,Instr.makeFunc],rfl,rfl,[.func (.func f0) #[] (ca.map (ev f)).toArray],⟨_,rfl,ak0 hd (ai8 hs ca)⟩,rfl⟩⟩
 ·rename_i x T
  split at h
  ·rename_i hT
   have hT:=cs_ hT
   obtain⟨s,hs1,h⟩:=bnd h
   refine⟨_,h,.pure (λ_ _=>rfl) λ{S hv Fm f w} hs=>⟨_,?_,ai2 _⟩⟩
   have e:=jj_ (hs.ev x) hs1
   have e2:=no_ s
   simp[execOp,e,resolve,invoke,builtin,Builtin.len_,run_underlying hT,goInt]
   exact congrArg (λn:Nat=>(n:Int)) e2
  ·rename_i E hT
   have hT:=cs_ hT
   obtain⟨av,h1,h2,h3⟩:=lenA_ok hT h
   refine⟨_,h1,.pure (λ_ _=>h2) λ{S hv Fm f w} hs => ?_⟩
   obtain⟨n,g1,a,c,e⟩:=h3 hs (hs.ev x)
   exact⟨_,by simp[execOp,e,resolve,invoke,builtin,Builtin.len_,run_underlying hT,goInt],g1⟩
  ·cases h
 ·rename_i x y ct
  obtain⟨a,ha,h⟩:=bnd h
  obtain⟨b,hb,h⟩:=bnd h
  refine⟨_,h,.pure (λ_ _=>rfl) λ{S hv Fm f w} hs=>⟨_,?_,ai2 _⟩⟩
  simp[execOp,dr_ (hs.ev x) ha,dr_ (hs.ev y) hb,resolve,invoke,builtin,Builtin.max_,Builtin.max2,maxI]
 ·rename_i x y ct
  obtain⟨a,ha,h⟩:=bnd h
  obtain⟨b,hb,h⟩:=bnd h
  refine⟨_,h,.pure (λ_ _=>rfl) λ{S hv Fm f w} hs=>⟨_,?_,ai2 _⟩⟩
  simp[execOp,dr_ (hs.ev x) ha,dr_ (hs.ev y) hb,resolve,invoke,builtin,Builtin.min_,Builtin.min2,cm7]
 ·rename_i T x y ok
  obtain⟨⟨kT,vT⟩,hq,h⟩:=bnd h
  have hT:=ah0 hq
  split at h
  ·rename_i o hx
   split at h
   ·rename_i kt vt m ro ho
    obtain⟨hk,h⟩:=bo_ h
    obtain⟨z,hz,h⟩:=bnd h
    obtain⟨key,hkey,h⟩:=bnd h
    have hK:=ah4 hk
    obtain⟨bytes,zv,⟨ei,hE⟩,_,hzr⟩:=ka_ hz
    have main:∀ {S:PH} {hv:Nat→Value} {Fm:List HP} {f:Fr} {w:World},Sit S hv Fm sl objs f w→∃ q,RVt vt S q (cn3 z m key)∧(Instr.lookup T (ev f x) (ev f y) ok).run P w = .ok (if ok then .tuple #[q,.bool (hasD m key)] else q) w:=λ{S hv Fm f w} hs=>by
     obtain⟨L,hI,_⟩:=hs.at ho
     obtain⟨hh,⟨g,e1,e2⟩,hI2⟩:=hI.open_
     have hI3:Inv w S (MapB g m::(L++Fm)):=hI2.shut e2
     have hxv:=hs.ev x
     rw[hx] at hxv
     have e3:ev f x = .map (some g):=hxv.2.trans e1
     rw[e3]
     exact @bi7 P w _ T kT vT kt.den vt.den kt.enc vt.enc kt.deq S _ m g key zv z hT hK (λw=>by simp[zeroValue,typeInfo,hE.hi,hE.hz]) hzr hI3 (gn_ (hs.ev y) hkey) ok
    cases ok with
    | true =>
     refine⟨_,h,.pure (λ_ _ => ?_) λ{S hv Fm f w} hs => ?_⟩
     ·show (BV.lt objs (ofB vt (cn3 z m key))&&(true&&true))=true
      rw[ao3]
      rfl
     ·obtain⟨q,h1,h2⟩:=main hs
      exact⟨_,by simp[execOp,h2],[q,.bool (hasD m key)],rfl,ao2 h1,⟨rfl,rfl,ae2 _⟩,trivial⟩
    | false =>
     refine⟨_,h,.pure (λ_ _=>bc0) λ{S hv Fm f w} hs => ?_⟩
     obtain⟨q,h1,h2⟩:=main hs
     exact⟨q,by simp[execOp,h2],sr_ h1⟩
   ·cases h
  ·cases h
 ·rename_i T x lo hi
  split at h
  case h_1 =>
   rename_i hT
   have hT:=cs_ hT
   obtain⟨s,hs1,h⟩:=bnd h
   unfold cl2 at h
   have ext:=λa b h0 h1 h2=>str_ext (show Str from s) a b h0 h1 h2
   split at h
   ·rename_i y _
    obtain⟨a,ha,h⟩:=bnd h
    obtain⟨m,hm,h⟩:=bnd h
    refine⟨_,h,.pure (λ_ _=>rfl) λ{S hv Fm f w} hs => ?_⟩
    obtain⟨h0,h1,h2,rfl⟩:=gq_ hm
    refine⟨_,?_,bi5 _⟩
    have e:=jj_ (hs.ev x) hs1
    have e2:(⟨(show Str from s).toArray⟩:ByteArray).size=(show Str from s).length:=no_ _
    have h1':(show Int from a)≤((show Str from s).length:Nat):=h1
    have h0':0≤(show Int from a):=h0
    simp[execOp,e,dr_ (hs.ev y) ha,Instr.sliceAt,Instr.slice,run_underlying hT,Instr.sliceBounds,Instr.sliceBound,asIntOf,e2,h0',h1']
    have:=ext a ((show Str from s).length:Nat) h0' h1' (m5_ _)
    simpa using this
   ·rename_i y _
    obtain⟨b,hb,h⟩:=bnd h
    obtain⟨m,hm,h⟩:=bnd h
    refine⟨_,h,.pure (λ_ _=>rfl) λ{S hv Fm f w} hs => ?_⟩
    obtain⟨h0,h1,h2,rfl⟩:=gq_ hm
    refine⟨_,?_,bi5 _⟩
    have e:=jj_ (hs.ev x) hs1
    have e2:(⟨(show Str from s).toArray⟩:ByteArray).size=(show Str from s).length:=no_ _
    have h1':0≤(show Int from b):=h1
    have h2':(show Int from b)≤((show Str from s).length:Nat):=h2
    simp[execOp,e,dr_ (hs.ev y) hb,Instr.sliceAt,Instr.slice,run_underlying hT,Instr.sliceBounds,Instr.sliceBound,asIntOf,e2,h1',h2']
    have:=ext 0 b (m5_ _) h1' h2'
    simpa using this
   ·rename_i y z _
    obtain⟨a,ha,h⟩:=bnd h
    obtain⟨b,hb,h⟩:=bnd h
    obtain⟨m,hm,h⟩:=bnd h
    refine⟨_,h,.pure (λ_ _=>rfl) λ{S hv Fm f w} hs => ?_⟩
    obtain⟨h0,h1,h2,rfl⟩:=gq_ hm
    refine⟨_,?_,bi5 _⟩
    have e:=jj_ (hs.ev x) hs1
    have e2:(⟨(show Str from s).toArray⟩:ByteArray).size=(show Str from s).length:=no_ _
    have h0':0≤(show Int from a):=h0
    have h1':(show Int from a)≤(show Int from b):=h1
    have h2':(show Int from b)≤((show Str from s).length:Nat):=h2
    have hb0:0≤(show Int from b):=Int.le_trans h0' h1'
    have hmx:(show Int from a)≤(((show Int from b).toNat:Nat):Int):=by omega
    simp[execOp,e,dr_ (hs.ev y) ha,dr_ (hs.ev z) hb,Instr.sliceAt,Instr.slice,run_underlying hT,Instr.sliceBounds,Instr.sliceBound,asIntOf,e2,h0',h1',h2',hb0,hmx]
    have:=ext a b h0' h1' h2'
    simpa using this
   ·cases h
  obtain⟨E,hE,h⟩:=bnd h
  split at h
  ·rename_i t l hx
   obtain⟨hf,h⟩:=bo_ h
   have hS:=hg_ hf
   have hlist:∀ {S:PH} {hv:Nat→Value} {Fm:List HP} {f:Fr} {w:World},Sit S hv Fm sl objs f w→RVt (.list t) S (ev f x) l:=λhs=>by
    have:=hs.ev x
    rw[hx] at this
    exact this.2.2
   unfold cl2 at h
   split at h
   ·rename_i y _ _
    obtain⟨a,ha,h⟩:=bnd h
    obtain⟨m,hm,h⟩:=bnd h
    refine⟨_,h,.pure (λ_ _=>rfl) λ{S hv Fm f w} hs => ?_⟩
    obtain⟨h0,h1,h2,rfl⟩:=gq_ hm
    obtain⟨ad,cap,e,hc,hp⟩:=@RV.part t.den t.enc S _ l a.toNat l.length (hlist hs) (by omega) (c3_ _)
    refine⟨_,?_,sr_ (t:=.list t) (x:=(l.take ((l.length:Nat):Int).toNat).drop a.toNat) (v:=sliced ad a.toNat l.length cap (Enc.sz t.den)) ?_⟩
    ·simp[execOp,e,dr_ (hs.ev y) ha,ct5 (em_ hE) hS h0 h1]
    ·exact hp
   ·rename_i y _ _
    obtain⟨b,hb,h⟩:=bnd h
    obtain⟨m,hm,h⟩:=bnd h
    refine⟨_,h,.pure (λ_ _=>rfl) λ{S hv Fm f w} hs => ?_⟩
    obtain⟨h0,h1,h2,rfl⟩:=gq_ hm
    obtain⟨ad,cap,e,hc,hp⟩:=@RV.part t.den t.enc S _ l 0 b.toNat (hlist hs) (by omega) (by omega)
    refine⟨_,?_,sr_ (t:=.list t) (x:=(l.take b.toNat).drop (0:Int).toNat) (v:=sliced ad 0 b.toNat cap (Enc.sz t.den)) ?_⟩
    ·have hc2:(show Int from b)≤(cap:Int):=Int.le_trans h2 (Int.ofNat_le.2 hc)
     simp[execOp,e,dr_ (hs.ev y) hb,ct6 (em_ hE) hS h1 hc2]
    ·exact hp
   ·rename_i y z _ _
    obtain⟨a,ha,h⟩:=bnd h
    obtain⟨b,hb,h⟩:=bnd h
    obtain⟨m,hm,h⟩:=bnd h
    refine⟨_,h,.pure (λ_ _=>rfl) λ{S hv Fm f w} hs => ?_⟩
    obtain⟨h0,h1,h2,rfl⟩:=gq_ hm
    obtain⟨ad,cap,e,hc,hp⟩:=@RV.part t.den t.enc S _ l a.toNat b.toNat (hlist hs) (by omega) (by omega)
    refine⟨_,?_,sr_ (t:=.list t) (x:=(l.take b.toNat).drop a.toNat) (v:=sliced ad a.toNat b.toNat cap (Enc.sz t.den)) ?_⟩
    ·have hc2:(show Int from b)≤(cap:Int):=Int.le_trans h2 (Int.ofNat_le.2 hc)
     simp[execOp,e,dr_ (hs.ev y) ha,dr_ (hs.ev z) hb,part_lh (em_ hE) hS h0 h1 hc2]
    ·exact hp
   ·cases h
  ·cases h
 ·cases h
end
end
section
variable [Gb]
theorem ax_:∀ {l:List AO} {o:Nat},born l o=true↔∃ a,l[o]?=some a∧a≠.unborn
 | [],_=>by simp[born]
 | a::l,0=>by
  cases a<;>simp[born]
 | a::l,o+1=>by
  have:=ax_ (l:=l) (o:=o)
  cases a<;>simpa [born] using this
theorem be_ {l:List AO} {i:Nat} {b:AO} (hb:b≠.unborn):BLe l (l.set i b):=by
 intro o ho
 obtain⟨a,h1,h2⟩:=ax_.1 ho
 refine ax_.2 ?_
 by_cases e:i=o
 ·subst e
  have hl:=(a4_.1 h1).1
  exact⟨b,by simp[hl],hb⟩
 ·exact⟨a,by rw[b7_ e];exact h1,h2⟩
theorem dx_ {l:List AO} {i:Nat} {b:AO} (hb:b≠.unborn) (hw:WfO l) (hl:b.lt (l.set i b)=true):WfO (l.set i b):=by
 intro a ha
 rcases o8_ ha with h | rfl
 ·exact AO.lt_mono (be_ hb) (hw a h)
 ·exact hl
def ins (hv:Nat→Value) (i:Nat) (v:Value):Nat→Value:=λj=>cond (Nat.beq j i) v (hv j)
theorem cn_ (hv:Nat→Value) (i:Nat) (v:Value):ins hv i v i=v:=by simp[ins]
theorem ng_ {hv:Nat→Value} {l:List AO} {i:Nat} {v:Value} (h:l[i]?=some .unborn):Ag l hv (ins hv i v):=by
 intro j hj
 obtain⟨a,h1,h2⟩:=ax_.1 hj
 have:j≠i:=by rintro rfl;rw[h] at h1;cases h1;exact h2 rfl
 have hb:Nat.beq j i=false:=by
  cases hb:Nat.beq j i with
  | false=>rfl
  | true=>exact absurd (a3_ hb) this
 simp[ins,hb]
theorem OHs.agS {hv hv':Nat→Value} {l:List AO} (ha:Ag l hv hv') (hw:WfO l):OHs hv 0 l=OHs hv' 0 l :=
 OHs.ag ha (λo ho=>by rw[b0_];exact ho) hw
theorem gx_ {S:PH} {hv:Nat→Value} {Fm:List HP} {objs:List AO} {w:World} {fr:Nat} {v:Value} {a:AO} (hw:WfO objs) (hu:objs[fr]?=some .unborn)
  (hI:Inv w S (OH (ins hv fr v) v a::(OHs hv 0 objs++Fm))):Inv w S (OHs (ins hv fr v) 0 (objs.set fr a)++Fm):=by
 rw[OHs.agS (ng_ hu) hw] at hI
 obtain⟨L,h1,h2⟩:=OHs.focus (hv:=ins hv fr v) (i:=0) hu
 rw[b0_,cn_] at h1 h2
 have h3:=hI.perm ((h1.append_right Fm).cons _)
 have h4:Inv w S (OH (ins hv fr v) v a::(L++Fm)):=(h3.swap).drop
 exact h4.perm ((h2 a).symm.append_right Fm)
theorem xl_ {S:PH} {hv:Nat→Value} {Fm:List HP} {objs:List AO} {w:World} {o:Nat} {L:List HP} {a:AO} (h2:∀ b,(OHs hv 0 (objs.set o b)).Perm (OH hv (hv o) b::L))
  (hI:Inv w S (OH hv (hv o) a::(L++Fm))):Inv w S (OHs hv 0 (objs.set o a)++Fm):=hI.perm ((h2 a).symm.append_right Fm)
section
variable {hv:Nat→Value} {S:PH}
theorem te_ {a:AV} {v:Value} {l:List SV} (h:RA hv S a v) (hl:ac3 a=some l):Fa (RS hv S) l v.cells.toList:=by
 cases a with
 | tup l=>cases hl
 | b a =>
  cases a with
  | dead=>cases hl
  | one s =>
   cases hl
   have:v.cells = #[v]:=by
    have h1:=h.1
    cases v<;>first | rfl | (simp[Value.oneCell'] at h1)
   rw[this]
   exact⟨h,trivial⟩
  | val t x =>
   cases hl
   exact yp_ (RV.cells h.2)
  | agg l =>
   cases hl
   obtain⟨cs,rfl,hf⟩:=h
   exact hf
theorem tf_ {n:List AO} {a:AV} {l:List SV} (h:a.lt n=true) (hl:ac3 a=some l):fb_ (SV.lt n) l=true:=by
 cases a with
 | tup l=>cases hl
 | b a =>
  cases a with
  | dead=>cases hl
  | one s=>cases hl;simp only[fb_,h1_];exact h
  | val t x=>cases hl;exact aq3
  | agg l=>cases hl;exact h
theorem fa_ag {n:List AO} {hv':Nat→Value} (ha:Ag n hv hv') {l:List SV} {cs:List Value} (hl:fb_ (SV.lt n) l=true) (h:Fa (RS hv S) l cs):Fa (RS hv' S) l cs :=
 h.imp' λa hm _ k=>RS.ag ha (bg_ hl a hm) k
theorem fa_one {l:List SV} {cs:List Value} (h:Fa (RS hv S) l cs):∀ u ∈ cs,u.oneCell'=true:=by
 intro u hu
 obtain⟨i,hi⟩:=f2_ hu
 obtain⟨a,_,h2⟩:=h.get' hi
 exact h2.1
end
def putL {α:Type}:List α→Nat→List α→List α
 | l,_,[]=>l
 | [],_,_=>[]
 | a::l,0,b::m=>b::putL l 0 m
 | a::l,i+1,b::m=>a::putL l i (b::m)
theorem ae8 {α:Type}:∀ (l:List α) (i:Nat) (m:List α),i+m.length≤l.length→putL l i m=l.take i++m++l.drop (i+m.length)
 | l,i,[],_=>by unfold putL;simp
 | [],i,b::m,h=>by simp at h
 | a::l,0,b::m,h=>by
  simp only[c4_] at h
  unfold putL
  rw[ae8 l 0 m (by omega)]
  simp only[b0_,k5_,g8_,c4_,List.drop_succ_cons,l6_]
 | a::l,i+1,b::m,h=>by
  simp only[c4_] at h
  unfold putL
  rw[ae8 l i (b::m) (by simp;omega)]
  simp only[List.take_succ_cons,l6_,c4_,b3_]
  rw[show i+1+(m.length+1)=(i+(m.length+1))+1 by omega,List.drop_succ_cons]
theorem Fa.putL {α β:Type} {R:α→β→Prop}:∀ {l:List α} {cs:List β} {i:Nat} {m:List α} {ds:List β},Fa R l cs→Fa R m ds→Fa R (Rex.putL l i m) (Rex.putL cs i ds)
 | l,cs,i,[],[],h,_=>by unfold Rex.putL;exact h
 | [],[],i,b::m,d::ds,_,_=>by unfold Rex.putL;trivial
 | a::l,c::cs,0,b::m,d::ds,h,k=>by unfold Rex.putL;exact⟨k.1,Fa.putL h.2 k.2⟩
 | a::l,c::cs,i+1,b::m,d::ds,h,k=>by unfold Rex.putL;exact⟨h.1,Fa.putL h.2 k⟩
theorem ae7 {α:Type}:∀ {l:List α} {i:Nat} {m:List α},(putL l i m).length=l.length
 | l,i,[]=>by unfold putL;rfl
 | [],i,b::m=>by unfold putL;rfl
 | a::l,0,b::m=>by unfold putL;simp[ae7 (l:=l)]
 | a::l,i+1,b::m=>by unfold putL;simp[ae7 (l:=l)]
theorem ae6 {α:Type}:∀ {l:List α} {i:Nat} {m:List α} {j:Nat},(Nat.blt j i||Nat.ble (i+m.length) j)=true→(putL l i m)[j]?=l[j]?
 | l,i,[],j,h=>by unfold putL;rfl
 | [],i,b::m,j,h=>by unfold putL;rfl
 | a::l,0,b::m,j,h=>by
  simp only[c8_] at h
  unfold putL
  cases j with
  | zero =>
   rcases h with h | h
   ·cases h
   ·have:=b6_ h;simp at this
  | succ j =>
   simp only[h9_]
   refine ae6 ?_
   rcases h with h | h
   ·cases h
   ·have:=b6_ h
    simp only[c4_] at this
    simp only[c8_]
    exact .inr (h5_ (by omega))
 | a::l,i+1,b::m,j,h=>by
  simp only[c8_] at h
  unfold putL
  cases j with
  | zero=>rfl
  | succ j =>
   simp only[h9_]
   refine ae6 ?_
   simp only[c8_]
   rcases h with h | h
   ·have:j+1<i+1:=b6_ h
    exact .inl (h5_ (by omega:j.succ≤i))
   ·have:=b6_ h
    exact .inr (h5_ (by omega))
theorem cd_ {l:List AO} {o:Nat} {a b:AO} (ho:l[o]?=some a) (h:K1 a b):Keep l (l.set o b):=by
 intro p c hp
 by_cases e:o=p
 ·subst e
  rw[ho] at hp
  cases hp
  have hl:=(a4_.1 ho).1
  exact⟨b,by simp[hl],h⟩
 ·exact⟨c,by rw[b7_ e];exact hp,K1.refl c⟩
theorem br5 {n:List AO} {l m:List SV} (h:fb_ (SV.lt n) l=true) (k:fb_ (SV.lt n) m=true):∀ {i:Nat},fb_ (SV.lt n) (putL l i m)=true:=by
 intro i
 induction l generalizing i m with
 | nil=>cases m<;>exact h
 | cons a l ih =>
  cases m with
  | nil=>exact h
  | cons b m =>
   simp only[fb_,a1_] at h k
   cases i with
   | zero=>simp only[putL,fb_,a1_];exact⟨k.1,ih h.2 k.2⟩
   | succ i=>simp only[putL,fb_,a1_];exact⟨h.1,ih h.2 (by simp only[fb_,a1_];exact k)⟩
section
variable {ρ:Type}
def bh6 (P:Program) [Tb P] (T:TypeId):Option (List SV):=(inf P T).bind λi=>i.zero.bind λz=>cond (z.cells.toList.all (·.oneCell')) (some (z.cells.toList.map ofC)) none
def aw1 (P:Program) [Tb P]:List Field→Option (List (Nat×Nat))
 | []=>some []
 | f::fs=>(inf P f.type).bind λi=>(aw1 P fs).bind λr=>some ((f.offset,i.size)::r)
def cp2 (pl:List (Nat×Nat)) (l:List SV):List (Nat×AV)→Option (List SV)
 | []=>some l
 | (i,a)::ps=>(pl[i]?).bind λq=>(ac3 a).bind λm=>cond (Nat.beq m.length q.2&&Nat.ble (q.1+m.length) l.length) (cp2 pl (putL l q.1 m) ps) none
def cd4 (P:Program) [Tb P] (T:TypeId) (ps:List (Nat×AV)) (k:AV→Option ρ):Option ρ:=match und P T with
 | some (.struct fs)=>(aw1 P fs.toList).bind λpl=>(bh6 P T).bind λz=>(cp2 pl z ps).bind λl=>k (.b (.agg l))
 | _=>none
def cs2 (P:Program) [Tb P] (T:TypeId) (p v:AV) (objs:List AO) (k:List AO→Option ρ):Option ρ:=match p with
 | .b (.one (.ptr o i))=>match objs[o]? with
  | some (.cells B l ro)=>(ac3 v).bind λm=>(shp P T).bind λsh=>cond (Nat.beq sh.2 m.length&&Nat.ble (i+m.length) l.length&&fb_ (λj=>Nat.blt j i||Nat.ble (i+m.length) j) ro) (k (objs.set o (.cells B (putL l i m) ro))) none
  | _=>none
 | _=>none
end
section
variable {ρ:Type} {P:Program} [Tb P] {objs:List AO} {r:ρ} {T:TypeId}
theorem sb_ {hv:Nat→Value} {S:PH} {l:List SV} (h:bh6 P T=some l):∃ z,(∀ w,(zeroValue T).run P w = .ok z w)∧Fa (RS hv S) l z.cells.toList∧∀ n,fb_ (SV.lt n) l=true:=by
 obtain⟨i,h1,h⟩:=bnd h
 obtain⟨z,h2,h⟩:=bnd h
 have h1:=yd_ h1
 obtain⟨hc,h⟩:=bo_ h
 cases h
 refine⟨z,λw=>by simp[zeroValue,typeInfo,h1,h2],cv5 λv hv=>f3_.1 hc v hv,λn=>hn_ λs hs => ?_⟩
 obtain⟨v,_,rfl⟩:=d2_.1 hs
 exact bt5 v
theorem aa2:∀ {fs:List Field} {pl:List (Nat×Nat)},aw1 P fs=some pl→∀ w,(fs.mapM λf=>do pure (f.offset,← sizeOf f.type):Sem (List (Nat×Nat))).run P w = .ok pl w
 | [],pl,h,w=>by cases h;rfl
 | f::fs,pl,h,w=>by
  obtain⟨i,h1,h⟩:=bnd h
  obtain⟨r,h2,h⟩:=bnd h
  have h1:=yd_ h1
  cases h
  have:=aa2 h2 w
  have hs:(sizeOf f.type).run P w = .ok i.size w:=by simp[sizeOf,typeInfo,h1]
  rw[List.mapM_cons]
  simp only[Sem.run_bind,hs,Result.andThen_ok,Sem.run_pure] at this ⊢
  rw[this]
  rfl
theorem be9 {hv:Nat→Value} {S:PH} {pl:List (Nat×Nat)}:∀ {ps:List (Nat×AV)} {vs:List (Nat×Value)} {l l':List SV} {cs:List Value},cp2 pl l ps=some l'→Fa (λp q=>p.1=q.1∧RA hv S p.2 q.2) ps vs→Fa (RS hv S) l cs →
  ∃ cs',fillC (pl[·]?) cs.toArray (vs.map λp=>(p.1,p.2.cells))=some cs'.toArray∧Fa (RS hv S) l' cs'
 | [],[],l,l',cs,h,_,hf=>by cases h;exact⟨cs,rfl,hf⟩
 | (i,a)::ps,(j,v)::vs,l,l',cs,h,hp,hf=>by
  obtain⟨q,h1,h⟩:=bnd h
  obtain⟨m,h2,h⟩:=bnd h
  obtain⟨hc,h⟩:=bo_ h
  simp only[a1_] at hc
  have c1:=a3_ hc.1
  have c2:=b6_ hc.2
  obtain⟨⟨e1,e2⟩,e3⟩:=hp
  simp only at e1 e2
  subst e1
  have hm:=te_ e2 h2
  obtain⟨cs',g1,g2⟩:=be9 h e3 (hf.putL (i:=q.1) hm)
  refine⟨cs',?_,g2⟩
  have hl:=hm.len
  have hl2:=hf.len
  simp only[h8_]
  unfold fillC
  simp only[h1]
  have hn:¬ (v.cells.size≠q.2∨q.1+v.cells.size > cs.toArray.size):=by
   have e:v.cells.size=m.length:=by rw[hl];simp
   rw[e]
   simp
   omega
  have:(decide (v.cells.size≠q.2)||decide (q.1+v.cells.size > cs.toArray.size))=false:=by
   simpa using hn
  rw[if_neg (by rw[this];decide)]
  rw[← nr_ v.cells.toList cs.toArray q.1 (by simp; (have e:v.cells.size=m.length:=by rw[hl];simp);omega)]
  have e4:(cs.toArray.toList.take q.1++v.cells.toList++cs.toArray.toList.drop (q.1+v.cells.toList.length))=putL cs q.1 v.cells.toList:=by
   rw[ae8]
   ·rw[← hl];omega
  rw[e4]
  exact g1
 | [],_::_,_,_,_,_,hp,_=>hp.elim
 | _::_,[],_,_,_,_,hp,_=>hp.elim
theorem bf0 {pl:List (Nat×Nat)} {n:List AO}:∀ {ps:List (Nat×AV)} {l l':List SV},cp2 pl l ps=some l'→(∀ p ∈ ps,p.2.lt n=true)→fb_ (SV.lt n) l=true→fb_ (SV.lt n) l'=true
 | [],l,l',h,_,hl=>by cases h;exact hl
 | (i,a)::ps,l,l',h,hp,hl=>by
  obtain⟨q,h1,h⟩:=bnd h
  obtain⟨m,h2,h⟩:=bnd h
  obtain⟨hc,h⟩:=bo_ h
  exact bf0 h (λp hm=>hp p (by simp[hm])) (br5 hl (tf_ (hp (i,a) (by simp)) h2))
theorem cd3 {ps:List (Nat×AV)} {k:AV→Option ρ} (h:cd4 P T ps k=some r):∃ av,k av=some r∧(∀ n,(∀ p ∈ ps,p.2.lt n=true)→av.lt n=true)∧∀ {S:PH} {hv:Nat→Value} {w:World} {vs:List (Nat×Value)},
  Fa (λp q=>p.1=q.1∧RA hv S p.2 q.2) ps vs→∃ u,(Instr.build T vs.toArray).run P w = .ok u w∧RA hv S av u:=by
 unfold cd4 at h
 split at h
 ·rename_i fs hT
  have hT:=cs_ hT
  obtain⟨pl,h1,h⟩:=bnd h
  obtain⟨z,h2,h⟩:=bnd h
  obtain⟨l,h3,h⟩:=bnd h
  refine⟨_,h,λn hn => ?_,λ{S hv w vs} hp => ?_⟩
  ·obtain⟨zv,_,_,hz⟩:=sb_ (hv:=λ_=>undef) (S:=⟨Hp.emp,default,#[]⟩) h2
   exact bf0 h3 hn (hz n)
  ·obtain⟨zv,z1,z2,_⟩:=sb_ (hv:=hv) (S:=S) h2
   obtain⟨cs',g1,g2⟩:=be9 h3 hp z2
   have hst:StructT P T zv.cells pl.toArray:=⟨fs,⟨λw=>by simp[Sem.run_bind,z1 w],hT,λw=>by
    rw[Array.mapM_eq_mapM_toList,map_eq_pure_bind,Sem.run_bind,aa2 h1 w]
    rfl⟩⟩
   refine⟨.agg cs'.toArray,hst.run w vs.toArray (c:=cs'.toArray) ?_,cs',rfl,g2⟩
   rw[ai7]
   simpa using g1
 ·cases h
end
end
section
variable [Gb]
def setF:(t:Ty)→t.den→Nat→((u:Ty)→u.den→Option u.den)→Option t.den
 | .one t,x,0,f=>f t x
 | .pair a b,x,0,f=>(f a x.1).bind λy=>some (y,x.2)
 | .pair a b,x,k+1,f=>(setF b x.2 k f).bind λy=>some (x.1,y)
 | _,_,_,_=>none
def setP:(p:List Nat)→(t:Ty)→t.den→AV→Option t.den
 | [],t,_,a=>asD t a
 | k::p,t,x,a=>setF t x k λu y=>setP p u y a
def tyP:Ty→List Nat→Option Ty
 | t,[]=>some t
 | t,k::p=>(co7 t k).bind λu=>tyP u p
theorem ba1 {S:PH} {f:(u:Ty)→u.den→Option u.den} {us:List Value} {off:Ty→Nat} (hf:∀ u (y y':u.den) ds,f u y=some y'→u.enc.rep S ds y→∃ A B C,ds=A++(B++C)∧A.length=off u∧B.length=us.length∧u.enc.rep S (A++(us++C)) y') :
  ∀ {t:Ty} {x x':t.den} {k:Nat} {cs:List Value},setF t x k f=some x'→t.enc.rep S cs x →
  ∃ A B C,cs=A++(B++C)∧A.length=(bz9 t k+match co7 t k with | some u=>off u | none=>0)∧B.length=us.length∧t.enc.rep S (A++(us++C)) x'
 | .one t,x,x',0,cs,h,hr=>by
  obtain⟨A,B,C,e,h1,h2,h3⟩:=hf t x x' cs h hr
  exact⟨A,B,C,e,by simp[bz9,co7,h1],h2,h3⟩
 | .pair a b,x,x',0,cs,h,⟨c1,c2,e,r1,r2⟩=>by
  obtain⟨y,h1,h⟩:=bnd h
  cases h
  obtain⟨A,B,C,e1,h2,h3,h4⟩:=hf a x.1 y c1 h1 r1
  refine⟨A,B,C++c2,by rw[e,e1];simp,by simp[bz9,co7,h2],h3,A++(us++C),c2,by simp,h4,r2⟩
 | .pair a b,x,x',k+1,cs,h,⟨c1,c2,e,r1,r2⟩=>by
  obtain⟨y,h1,h⟩:=bnd h
  cases h
  obtain⟨A,B,C,e1,h2,h3,h4⟩:=ba1 hf (t:=b) h1 r2
  have hl:=Enc.len (α:=a.den) r1
  rw[cj_] at hl
  refine⟨c1++A,B,C,by rw[e,e1];simp,?_,h3,c1,A++(us++C),by simp,r1,h4⟩
  simp only[a9_,h2,hl,bz9,co7]
  omega
 | .one t,_,_,k+1,_,h,_=>by cases h
 | .int,_,_,_,_,h,_=>by cases h
 | .bool,_,_,_,_,h,_=>by cases h
 | .u8,_,_,_,_,h,_=>by cases h
 | .str,_,_,_,_,h,_=>by cases h
 | .unit,_,_,_,_,h,_=>by cases h
 | .list _,_,_,_,_,h,_=>by cases h
 | .ref _,_,_,_,_,h,_=>by cases h
 | .clo _ _,_,_,_,_,h,_=>by cases h
theorem ba0 {hv:Nat→Value} {S:PH} {a:AV} {u:Value} (ha:RA hv S a u):∀ {p:List Nat} {t:Ty} {x x':t.den} {cs:List Value},setP p t x a=some x'→t.enc.rep S cs x →
  ∃ A B C,cs=A++(B++C)∧A.length=cl9 t p∧B.length=u.cells.toList.length∧t.enc.rep S (A++(u.cells.toList++C)) x'
 | [],t,x,x',cs,h,hr=>by
  have h1:=RV.cells (gn_ ha h)
  have l1:=Enc.len (α:=t.den) h1
  have l2:=Enc.len (α:=t.den) hr
  exact⟨[],cs,[],by simp,rfl,by rw[l1,l2],by simpa using h1⟩
 | k::p,t,x,x',cs,h,hr=>by
  obtain⟨A,B,C,e,h1,h2,h3⟩:=ba1 (us:=u.cells.toList) (off:=λu=>cl9 u p) (λu y y' ds hy hr=>ba0 ha (p:=p) hy hr) h hr
  refine⟨A,B,C,e,?_,h2,h3⟩
  rw[h1]
  rfl
theorem bp3 {f:(u:Ty)→u.den→Option u.den}:∀ {t:Ty} {x x':t.den} {k:Nat},setF t x k f=some x'→∃ u y y',co7 t k=some u∧f u y=some y'
 | .one t,x,x',0,h=>⟨t,x,x',rfl,h⟩
 | .pair a b,x,x',0,h=>by
  obtain⟨y,h1,h⟩:=bnd h
  exact⟨a,x.1,y,rfl,h1⟩
 | .pair a b,x,x',k+1,h=>by
  obtain⟨y,h1,h⟩:=bnd h
  exact bp3 (t:=b) h1
 | .one t,_,_,k+1,h=>by cases h
 | .int,_,_,_,h=>by cases h
 | .bool,_,_,_,h=>by cases h
 | .u8,_,_,_,h=>by cases h
 | .str,_,_,_,h=>by cases h
 | .unit,_,_,_,h=>by cases h
 | .list _,_,_,_,h=>by cases h
 | .ref _,_,_,_,h=>by cases h
 | .clo _ _,_,_,_,h=>by cases h
theorem bp2 {hv:Nat→Value} {S:PH} {a:AV} {u:Value} (ha:RA hv S a u):∀ {p:List Nat} {t t':Ty} {x x':t.den},setP p t x a=some x'→tyP t p=some t'→u.cells.size=t'.sz
 | [],t,t',x,x',h,hp=>by
  cases hp
  have l1:=Enc.len (α:=t.den) (RV.cells (gn_ ha h))
  rw[cj_] at l1
  simpa using l1
 | k::p,t,t',x,x',h,hp=>by
  obtain⟨u1,y,y',h1,h2⟩:=bp3 h
  obtain⟨u2,h3,h4⟩:=bnd hp
  rw[h1] at h3
  cases h3
  exact bp2 ha h2 h4
structure LV where
 t:Ty
 l:List t.den
def srcA (y:AV) (objs:List AO):Option LV:=match y with
 | .b (.one (.val (.list t) l))=>some ⟨t,l⟩
 | .b (.one (.row o))=>match objs[o]? with
  | some (.row t _ l _)=>some ⟨t,l⟩
  | _=>none
 | _=>none
def zr_ (a b:Ty) (x:List a.den):Option (List b.den):=if h:a.eqb b=true then some (Ty.eqb_eq h ▸ x) else none
theorem hv_ {a b:Ty} {x:List a.den} {y:List b.den} (h:zr_ a b x=some y):∃ e:a=b,y=e ▸ x:=by
 unfold zr_ at h
 split at h
 ·rename_i e;exact⟨Ty.eqb_eq e,(a6_ h).symm⟩
 ·cases h
theorem bo8 {S:PH} {hv:Nat→Value} {Fm:List HP} {sl:Nat→AV} {objs:List AO} {f:Fr} {w:World} (hs:Sit S hv Fm sl objs f w) {y:AV} {d:LV} {u:Value} (h:srcA y objs=some d) (hr:RA hv S y u) :
  @Src d.t.den d.t.enc w S u d.l:=by
 unfold srcA at h
 split at h
 ·rename_i t l
  cases h
  exact @RV.src t.den t.enc w S u l hr.2.2 hs.inv.in_
 ·rename_i o
  split at h
  ·rename_i t B l rr ho
   cases h
   obtain⟨L,hI,_⟩:=hs.at ho
   have e:u=hv o:=hr.2
   rw[e]
   exact @Inv.rowSrc t.den t.enc w S (L++Fm) B (hv o) l hI
  ·cases h
 ·cases h
def lits (t:Ty):List AV→Option (List t.den)
 | []=>some []
 | a::l=>(asD t a).bind λx=>(lits t l).bind λr=>some (x::r)
def ye_:Nat→List (Nat×Operand)→Bool
 | _,[]=>true
 | i,p::ps=>Nat.beq i p.1&&ye_ (i+1) ps
end
section
variable [Gb]
def isUn (objs:List AO) (i:Nat):Bool:=match objs[i]? with
 | some .unborn=>true
 | _=>false
theorem cg_ {objs:List AO} {i:Nat} (h:isUn objs i=true):objs[i]?=some .unborn:=by
 unfold isUn at h
 split at h
 ·assumption
 ·cases h
def ci8:Operand→Operand→Bool
 | .tmp i,.tmp j=>Nat.beq i j
 | .const (.int .i64 a),.const (.int .i64 b)=>decide (a=b)
 | _,_=>false
theorem ba2 {x y:Operand} (h:ci8 x y=true):x=y:=by
 unfold ci8 at h
 split at h
 ·rw[a3_ h]
 ·rw[f8_ h]
 ·cases h
abbrev zf_ (o:Nat):AV:=.b (.one (.row o))
abbrev ptrV (o k:Nat):AV:=.b (.one (.ptr o k))
section
variable {ρ:Type}
def zg_ (objs:List AO) (fr:Nat) (a:AO) (v:AV) (k:AV→List AO→Option ρ):Option ρ:=cond (isUn objs fr) (k v (objs.set fr a)) none
def bo3 (P:Program) [Tb P] (T:TypeId) (p v:AV) (objs:List AO) (k:List AO→Option ρ):Option ρ:=match p with
 | .b (.one (.ptrE o e n z q))=>match objs[o]? with
  | some (.row t B l false)=>(at? l e).bind λx=>(setP q t x v).bind λx'=>(tyP t q).bind λt'=>cond (Nat.beq n (cl9 t q)&&Nat.beq z t.sz&&aq1 P T t') (k (objs.set o (.row t B (l.set e.toNat x') false))) none
  | _=>none
 | _=>cs2 P T p v objs k
def appA (P:Program) [Tb P] (T:TypeId) (x y:AV) (objs:List AO) (fr:Nat) (k:AV→List AO→Option ρ):Option ρ:=(elemOf P T).bind λE=>match x with
  | .b (.one .nils)=>(srcA y objs).bind λd=>cond (Nat.blt 0 d.t.sz) ((rf_ P E d.t).bind λ_=>(push? [] d.l).bind λr=>zg_ objs fr (.row d.t E r false) (zf_ fr) k) none
  | .b (.one (.row o))=>match objs[o]? with
    | some (.row t B l false) => (srcA y objs).bind fun d => (zr_ d.t t d.l).bind fun m => cond (Nat.beq B E && Nat.blt 0 t.sz) ((rf_ P E t).bind fun _ => (push? l m).bind fun r =>
          cond (isUn objs fr) (k (zf_ fr) ((objs.set o .gone).set fr (.row t E r false))) none) none
    | _=>none
  | _=>none
def cutA (P:Program) [Tb P] (T:TypeId) (o:Nat) (a:Int) (objs:List AO) (fr:Nat) (k:AV→List AO→Option ρ):Option ρ:=(elemOf P T).bind λE=>match objs[o]? with
 | some (.row t B l false)=>cond (Nat.beq B E&&aq1 P E t&&isUn objs fr) ((sub? l a (l.length:Nat)).bind λm=>k (zf_ fr) ((objs.set o .gone).set fr (.row t E m false))) none
 | _=>none
def cutB (P:Program) [Tb P] (T:TypeId) (o:Nat) (a:Int) (objs:List AO) (fr:Nat) (k:AV→List AO→Option ρ):Option ρ:=(elemOf P T).bind λE=>match objs[o]? with
 | some (.row t B l false)=>cond (Nat.beq B E&&aq1 P E t&&isUn objs fr) ((sub? l 0 a).bind λm=>k (zf_ fr) ((objs.set o .gone).set fr (.row t E m false))) none
 | _=>none
def ct2 {α:Type}:Nat→α→List α→List α
 | 0,_,l=>l
 | j+1,z,l=>z::ct2 j z l
def cv3:List (Nat×Operand)→Nat
 | []=>0
 | p::_=>p.1
def isRB (o:Oper):Bool:=match o.op,o.dst with
 | .alloc T,some d=>Gb.fz (cdN T d 2047) o.pos
 | _,_=>false
def bo5 (P:Program) [Tb P] (o:Oper) (sl:Nat→AV) (objs:List AO) (fr:Nat) (k:AV→List AO→Option ρ):Option ρ:=match o.op with
 | .box T x=>(ac3 (evA sl x)).bind λl=>zg_ objs fr (.cells T l []) (ptrV fr 0) k
 | .alloc T=>cond (isRB o) ((bh9 P 20 T).bind λt=>(rf_ P T t).bind λz=>cond (Nat.blt 0 t.sz) (zg_ objs fr (.row t T [z] false) (.b (.one (.ptrE fr 0 0 t.sz []))) k) none) <| match und P T with
  | some (.array _ E)=>(bh9 P 20 E).bind λt=>(bh6 P T).bind λcs=>(lits t (cs.map λs=>.b (.one s))).bind λl=>cond (Nat.ble l.length 65536) (zg_ objs fr (.row t T l false) (.b (.one (.arr fr))) k) none
  | _=>(bh6 P T).bind λl=>zg_ objs fr (.cells T l []) (ptrV fr 0) k
 | .build T ⟨ps⟩=>cd4 P T (ps.map λp=>(p.1,evA sl p.2)) λa=>k a objs
 | .buildSlice T n ⟨ps⟩=>match o.dst with
  | some _=>(elemOf P T).bind λE=>(bh9 P 20 E).bind λt=>(rf_ P E t).bind λzd=>cond (ye_ (cv3 ps) ps&&Nat.beq (cv3 ps+ps.length) n&&Nat.ble n 65536&&Nat.ble (n * t.sz) 65536)
    ((lits t (ps.map λp=>evA sl p.2)).bind λl=>cond (Nat.beq (cv3 ps) 0) (zg_ objs fr (.row t E l false) (zf_ fr) k) (cond (Nat.beq (cv3 ps) 1) (zg_ objs fr (.row t E (zd::l) false) (zf_ fr) k) none)) none
  | none=>none
 | .makeSlice T x y=>match o.dst with
  | some _=>(elemOf P T).bind λE=>(bh9 P 20 E).bind λt=>(rf_ P E t).bind λzd=>(asD .int (evA sl x)).bind λc=>cond (ci8 x y) ((mk? c zd).bind λl=>zg_ objs fr (.row t E l false) (zf_ fr) k) none
  | none=>none
 | .store T p v=>match o.dst with
  | none=>bo3 P T (evA sl p) (evA sl v) objs λobjs'=>k (.b .dead) objs'
  | some _=>none
 | .slice T x lo hi none=>match evA sl x,lo,hi,o.dst with
  | .b (.one (.row p)),some y,none,some _=>(asD .int (evA sl y)).bind λa=>cutA P T p a objs fr k
  | .b (.one (.row p)),none,some y,some _=>(asD .int (evA sl y)).bind λa=>cutB P T p a objs fr k
  | _,_,_,_=>stepP P o sl objs λa=>k a objs
 | .call ⟨.builtin .append,⟨[x,y]⟩,⟨[T,T2]⟩⟩=>match o.dst with
  | some _=>cond (Nat.beq T T2) (appA P T (evA sl x) (evA sl y) objs fr k) none
  | none=>none
 | _=>none
end
section
variable {ρ:Type} {P:Program} [Tb P] {objs:List AO} {r:ρ} {sl:Nat→AV} {fr:Nat} {k:AV→List AO→Option ρ}
theorem ba6 {α:Type} [Enc α] {S:PH} {zc:List Value} {z:α} (hz:Enc.rep S zc z):∀ (j:Nat) {cs:List Value} {l:List α},RepL S cs l→RepL S ((List.replicate j zc).flatten++cs) (ct2 j z l)
 | 0,cs,l,h=>h
 | j+1,cs,l,h=>⟨zc,(List.replicate j zc).flatten++cs,by simp[l4_],hz,ba6 hz j h⟩
theorem ba7 {α:Type} {z:α}:∀ (j:Nat) {l:List α},(ct2 j z l).length=j+l.length
 | 0,l=>by simp[ct2]
 | j+1,l=>by simp[ct2,ba7 j];omega
theorem zn_ {α:Type} [Enc α] {n d:Nat} {f:Fr} {w:World} {K:Fr→World→Prop} {ro:Option Nat} {ty:TypeId} {pos:String} {af:Array Edge} {gd:Option (Nat×Bool)} {T E:TypeId} {S:PH} {O:List HP} {bytes:Nat} {zv:Value} {zd:α} {ps:List (Nat×Operand)} {vs:List Value} {ln j:Nat} {r:List α} (hd:Nat.blt d n=true) (hT:P.underlying T=some (.slice E)) (hE0:cx0 P α E bytes zv zd)
  (hps:(ps.map λp=>(p.1,ev f p.2))=(vs.zipIdx j).map λp=>(p.2,p.1)) (hln:j+vs.length=ln) (hsm:ln * Enc.sz α≤65536) (hsl:ln≤65536) (hr:RVs S vs r) (hI:Inv w S O) (k:∀ u w',Inv w' S (Row E u (ct2 j zd r)::O)→K (upd f d u) w') :
  OP P n ro ⟨some d,.buildSlice T ln ps.toArray,ty,pos,af,gd⟩ f w K:=by
 obtain⟨ei,hE⟩:=hE0
 obtain⟨h1,h2⟩:=hr.repL
 have hmap:(ps.toArray.map λ(i,x)=>(i,ev f x))=(ps.map λp=>(p.1,ev f p.2)).toArray:=by simp
 have hzs:zv.cells.size=ei.size:=by rw[hE.hzs,hE.hs]
 have hsplit:(madeCells zv.cells (ln * ei.size)).toList=(List.replicate j zv.cells.toList).flatten++(List.replicate vs.length zv.cells.toList).flatten:=by
  rw[← hzs,ma_,← hln,← List.replicate_append_replicate,List.flatten_append]
 have hf:Instr.fill (λi=>some (i * ei.size,ei.size)) (madeCells zv.cells (ln * ei.size)) ((vs.zipIdx j).map λp=>(p.2,p.1))=some ((List.replicate j zv.cells.toList).flatten++vs.flatMap λv=>v.cells.toList).toArray:=by
  rw[ai7]
  have hl0:∀ q,((List.replicate q zv.cells.toList).flatten).length=q * ei.size:=λq=>by
   rw[List.length_flatten,List.map_replicate,List.sum_replicate_nat];simp[hzs]
  have:=ym_ (Enc.sz α) vs j (List.replicate j zv.cells.toList).flatten (List.replicate vs.length zv.cells.toList).flatten (by rw[hl0,hE.hs]) (by rw[hl0,hE.hs]) hr.size
  rw[← hsplit] at this
  rw[k8_] at this
  rw[hE.hs] at this ⊢
  rw[← this,List.map_map]
  rfl
 have hmade:((Array.range (ln * ei.size)).map ((if ln * ei.size=0 then #[] else zv.cells)[· % (if ln * ei.size=0 then #[] else zv.cells).size]!))=madeCells zv.cells (ln * ei.size):=by
  split
  ·rename_i h0;rw[h0];simp[madeCells]
  ·rfl
 have hbig:¬ (ln * ei.size > 2 ^ 24):=by rw[hE.hs];omega
 have hrun:(Instr.buildSlice T ln ((vs.zipIdx j).map λp=>(p.2,p.1)).toArray).run P w = .ok (.slice (some ⟨w.heap.size,0,none⟩) ln ln) (w.alloc (.cells ((List.replicate j zv.cells.toList).flatten++vs.flatMap λv=>v.cells.toList).toArray E)):=by
  unfold Instr.buildSlice
  have hsz:∀ w,(sizeOf E).run P w = .ok ei.size w:=λw=>by simp[sizeOf,typeInfo,hE.hi]
  simp only[Sem.run_bind,run_underlying hT,Result.andThen_ok,hsz]
  rw[if_neg hbig]
  have hzv:(zeroValue E).run P w = .ok zv w:=by simp[zeroValue,typeInfo,hE.hi,hE.hz]
  by_cases h0:ln * ei.size=0
  ·rw[if_pos h0]
   rw[if_pos h0] at hmade
   simp only[Sem.run_bind,Sem.run_pure,Result.andThen_ok,hmade,hf]
   simp[newRow]
  ·rw[if_neg h0]
   rw[if_neg h0] at hmade
   simp only[Sem.run_bind,Sem.run_pure,Result.andThen_ok,hzv,hmade,hf]
   simp[newRow]
 have hlen:(ct2 j zd r).length=ln:=by rw[ba7,← h2,hln]
 refine cy_ hd (v:=.slice (some ⟨w.heap.size,0,none⟩) ln ln) (w':=w.alloc (.cells ((List.replicate j zv.cells.toList).flatten++vs.flatMap λv=>v.cells.toList).toArray E)) ?_ (k _ _ ?_)
 ·have e:(execOp (ev f) ⟨some d,.buildSlice T ln ps.toArray,ty,pos,af,gd⟩)=(do pure (.value (← Instr.buildSlice T ln ((vs.zipIdx j).map λp=>(p.2,p.1)).toArray))):=by
   simp only[execOp,hmap,hps]
  rw[e]
  simp only[Sem.run_bind,hrun,Result.andThen_ok,Sem.run_pure]
 ·refine (hI.new _).shut (A:=Row E _ _) ?_
  refine .inr ⟨w.heap.size,ln,[],_,[],by simp[hlen],?_,ba6 (hE.rep S) j h1,by omega,?_,?_⟩
  ·simp
  ·simp only[maxLen]
   omega
  ·rw[hlen];simp
theorem OpOk.new {o:Oper} {a:AO} {v:AV} (hu:isUn objs fr=true) (ha:a≠.unborn) (hlt:WfS sl objs→WfO objs→a.lt objs=true) (hv0:v.lt (objs.set fr a)=true)
  (hrun:∀ {S:PH} {hv:Nat→Value} {Fm:List HP} {f:Fr} {w:World} {n:Nat} {ro:Option Nat} {K:Fr→World→Prop},Sit S hv Fm sl objs f w→ey_ n o.dst=true →
   (∀ u w',u.oneCell'=true→Inv w' S (OH (ins hv fr u) u a::(OHs hv 0 objs++Fm))→RA (ins hv fr u) S v u→K (wy_ f o.dst u) w')→OP P n ro o f w K) :
  OpOk P o sl objs v (objs.set fr a) where
 ble:=be_ ha
 keep:=cd_ (cg_ hu) trivial
 wfo hs hw:=dx_ ha hw (AO.lt_mono (be_ ha) (hlt hs hw))
 lt _ _:=hv0
 run hs hd k:=hrun hs hd λu w' h1 hI hr=>k u _ _ _ (PH.Le.refl _) (ng_ (cg_ hu)) hr (gx_ hs.wfo (cg_ hu) hI)
theorem OpOk.new2 {o:Oper} {a:AO} {v:AV} (hu:isUn objs fr=true) (ha:a≠.unborn) (hlt:WfS sl objs→WfO objs→a.lt objs=true) (hv0:v.lt (objs.set fr a)=true)
  (hrun:∀ {S:PH} {hv:Nat→Value} {Fm:List HP} {f:Fr} {w:World} {n:Nat} {ro:Option Nat} {K:Fr→World→Prop},Sit S hv Fm sl objs f w→ey_ n o.dst=true →
   (∀ u z w',Inv w' S (OH (ins hv fr u) u a::(OHs hv 0 objs++Fm))→RA (ins hv fr u) S v z→K (wy_ f o.dst z) w')→OP P n ro o f w K) :
  OpOk P o sl objs v (objs.set fr a) where
 ble:=be_ ha
 keep:=cd_ (cg_ hu) trivial
 wfo hs hw:=dx_ ha hw (AO.lt_mono (be_ ha) (hlt hs hw))
 lt _ _:=hv0
 run hs hd k:=hrun hs hd λu z w' hI hr=>k z _ _ _ (PH.Le.refl _) (ng_ (cg_ hu)) hr (gx_ hs.wfo (cg_ hu) hI)
theorem be4:∀ {vs:List Value},(∀ v ∈ vs,v.oneCell'=true)→(vs.flatMap λv=>v.cells.toList)=vs
 | [],_=>rfl
 | v::vs,h=>by
  rw[p3_,be4 λu hu=>h u (by simp[hu])]
  have h1:=h v (by simp)
  have e:v.cells.toList=[v]:=by
   cases v<;>first | rfl | (simp[Value.oneCell'] at h1)
  rw[e]
  rfl
theorem gb_ {a:AO} {v:AV} (h:zg_ objs fr a v k=some r):isUn objs fr=true∧k v (objs.set fr a)=some r:=bo_ h
theorem iu_ {a:AO} (hu:isUn objs fr=true) (ha:a≠.unborn):born (objs.set fr a) fr=true:=by
 have h:=cg_ hu
 have hl:=(a4_.1 h).1
 exact ax_.2 ⟨a,by simp[hl],ha⟩
theorem ar0 {S:PH} {hv:Nat→Value} {Fm:List HP} {w:World} {g:Nat} {T:TypeId} {l:List SV} {cs:Array Value} (hu:isUn objs fr=true) (hlt:fb_ (SV.lt objs) l=true) (hf:Fa (RS hv S) l cs.toList)
  (hI:Inv w S (lu_ g T cs::(OHs hv 0 objs++Fm))):Inv w S (OH (ins hv fr (.pointer (some ⟨g,0,none⟩))) (.pointer (some ⟨g,0,none⟩)) (.cells T l [])::(OHs hv 0 objs++Fm)) :=
 Inv.shut (A:=as2 _ _ _ _) hI ⟨g,cs.toList,rfl,fa_ag (ng_ (cg_ hu)) hlt hf,by simp⟩
theorem br8 {S:PH} {hv:Nat→Value} {g:Nat}:RA (ins hv fr (.pointer (some ⟨g,0,none⟩))) S (ptrV fr 0) (.pointer (some ⟨g,0,none⟩)) :=
 ⟨rfl,⟨_,rfl⟩,by rw[cn_];simp[ay_,Addr.add]⟩
theorem ow_ {S:PH} {hv:Nat→Value} {O:List HP} {w:World} {t:Ty} {E:TypeId} {l:List t.den} {u:Value} (hI:Inv w S (@Row t.den t.enc E u l::O)):u.oneCell'=true∧RA (ins hv fr u) S (zf_ fr) u:=by
 obtain⟨a,cap,e,_⟩:=@Inv.rowForm t.den t.enc w S O E u l hI
 have h1:u.oneCell'=true:=by rw[e];rfl
 exact⟨h1,h1,(cn_ hv fr u).symm⟩
theorem aw8 {hv:Nat→Value} {S:PH} {t:Ty}:∀ {as:List AV} {vs:List Value} {l:List t.den},lits t as=some l→Fa (RA hv S) as vs→@RVs t.den t.enc S vs l
 | [],[],l,h,_=>by cases h;trivial
 | a::as,v::vs,l,h,hf=>by
  obtain⟨x,h1,h⟩:=bnd h
  obtain⟨m,h2,h⟩:=bnd h
  cases h
  exact⟨gn_ hf.1 h1,aw8 h2 hf.2⟩
theorem ue_ {f:Fr}:∀ {ps:List (Nat×Operand)} {i:Nat},ye_ i ps=true→(ps.map λp=>(p.1,ev f p.2))=((ps.map λp=>ev f p.2).zipIdx i).map λp=>(p.2,p.1)
 | [],_,_=>rfl
 | p::ps,i,h=>by
  simp only[ye_,a1_] at h
  simp only[h8_,List.zipIdx_cons]
  rw[ue_ h.2,← a3_ h.1]
theorem ca6 {hv:Nat→Value} {S:PH} {Fm:List HP} {f:Fr} {w:World} (hs:Sit S hv Fm sl objs f w):∀ (ps:List (Nat×Operand)),Fa (RA hv S) (ps.map λp=>evA sl p.2) (ps.map λp=>ev f p.2)
 | []=>trivial
 | x::ps=>⟨hs.ev x.2,ca6 hs ps⟩
theorem cv6 {hv:Nat→Value} {S:PH} {Fm:List HP} {f:Fr} {w:World} (hs:Sit S hv Fm sl objs f w):∀ (ps:List (Nat×Operand)),Fa (λp q=>p.1=q.1∧RA hv S p.2 q.2) (ps.map λp=>(p.1,evA sl p.2)) (ps.map λp=>(p.1,ev f p.2))
 | []=>trivial
 | x::ps=>⟨⟨rfl,hs.ev x.2⟩,cv6 hs ps⟩
theorem bm1 {o:Nat} {a b:AO} (ho:objs[o]?=some a) (hb:b≠.unborn) (hw:WfO objs) (hl:b.lt objs=true):WfO (objs.set o b):=dx_ hb hw (AO.lt_mono (be_ hb) hl)
theorem bo2 {T:TypeId} {px vx:Operand} {ty:TypeId} {pos:String} {af:Array Edge} {gd:Option (Nat×Bool)} {k:List AO→Option ρ} (h:bo3 P T (evA sl px) (evA sl vx) objs k=some r) :
  ∃ objs',k objs'=some r∧OpOk P ⟨none,.store T px vx,ty,pos,af,gd⟩ sl objs (.b .dead) objs':=by
 unfold bo3 at h
 split at h
 ·rename_i o e n z q hp
  split at h
  ·rename_i t B l ho
   obtain⟨x,hx,h⟩:=bnd h
   obtain⟨x',hx',h⟩:=bnd h
   obtain⟨t',ht',h⟩:=bnd h
   obtain⟨hc,h⟩:=bo_ h
   simp only[a1_] at hc
   obtain⟨⟨c1,c2⟩,c3⟩:=hc
   have c1:=a3_ c1
   have c2:=a3_ c2
   refine⟨_,h,⟨be_ (by simp),cd_ ho trivial,λhs hw=>bm1 ho (by simp) hw rfl,λ_ _=>rfl,λ{S hv Fm f w nn ro K} hs hd kk => ?_⟩⟩
   obtain⟨L,hI,h2⟩:=hs.at ho
   have hpv:=hs.ev px
   rw[hp] at hpv
   have hv1:ev f px=ay_ (cr_ (hv o) e z) n:=hpv.2.2
   have hu:=hs.ev vx
   have hS:=hg_ c3
   refine @rb_ ro P nn f w K ty pos af gd px vx (hv o) (ev f vx) T B t.den t.enc S (L++Fm) l e _ n _ x x' [] [] [] hS hI (by rw[hv1,cj_,← c2]) rfl hx (λcs hcs => ?_) ?_ λw' hI' => ?_
   ·obtain⟨A,B1,C,e1,e2,e3,e4⟩:=ba0 hu hx' hcs
    exact⟨A,B1,C,e1,by rw[e2,c1],e3,e4⟩
   ·rw[cj_];exact bp2 hu hx' ht'
   ·exact kk undef S hv w' (PH.Le.refl _) (λ_ _=>rfl) trivial (xl_ (a:=.row t B (l.set e.toNat x') false) h2 hI')
  ·cases h
 ·unfold cs2 at h
  split at h
  ·rename_i o i hp
   split at h
   ·rename_i B l ro1 ho
    obtain⟨m,hm,h⟩:=bnd h
    obtain⟨⟨ag,sz⟩,hsh,h⟩:=bnd h
    obtain⟨hc,h⟩:=bo_ h
    simp only[a1_] at hc
    have c1:=a3_ hc.1.1
    have c2:=b6_ hc.1.2
    refine⟨_,h,⟨be_ (by simp),cd_ ho ⟨_,rfl,ae7,λj hj=>ae6 (bg_ hc.2 j hj)⟩,λhs hw=>bm1 ho (by simp) hw (br5 (hw _ (b2_ ho)) (tf_ (ik_ hs vx) hm)),λ_ _=>rfl,λ{S hv Fm f w nn ro K} hs hd kk => ?_⟩⟩
    obtain⟨L,hI,h2⟩:=hs.at ho
    obtain⟨g,cs,e1,hf,hI⟩:=wr_ hI
    have hpv:=hs.ev px
    rw[hp] at hpv
    have hv1:ev f px=ay_ (hv o) i:=hpv.2.2
    rw[e1] at hv1
    simp only[ay_,fj_,b0_] at hv1
    have hmv:=te_ (hs.ev vx) hm
    have hl:=hmv.len
    have hl2:=hf.len
    have hsz:(ev f vx).cells.size=sz:=by
     have:(ev f vx).cells.size=m.length:=by rw[hl];simp
     rw[this,← c1]
    refine cl3 (cs:=cs.toArray) (zv_ hsh) hI hv1 rfl hsz (by simp;omega) (f3_.2 λu hu=>fa_one hmv u hu) λw' hI' => ?_
    refine kk undef S hv w' (PH.Le.refl _) (λ_ _=>rfl) trivial (xl_ (a:=.cells B (putL l i m) ro1) h2 (Inv.shut (A:=as2 _ _ _ _) hI' ⟨g,putL cs i (ev f vx).cells.toList,e1,hf.putL hmv,?_⟩))
    rw[← nr_ _ _ _ (by simp;omega)]
    have e4:(cs.toArray.toList.take i++(ev f vx).cells.toList++cs.toArray.toList.drop (i+(ev f vx).cells.toList.length))=putL cs i (ev f vx).cells.toList:=by
     rw[ae8]
     ·rw[← hl];omega
    rw[e4]
   ·cases h
  ·cases h
end
end
section
variable [Gb]
def capS:List AV→Option (List SV)
 | []=>some []
 | .b (.one s)::l=>(capS l).bind λr=>some (s::r)
 | _=>none
abbrev mapV (o:Nat):AV:=.b (.one (.map o))
section
variable {ρ:Type}
def updM (P:Program) [Tb P] (T:TypeId) (m x y:AV) (objs:List AO) (k:List AO→Option ρ):Option ρ:=(bk3 P T).bind λq=>match m with
 | .b (.one (.map o))=>match objs[o]? with
  | some (.map kt vt l false)=>cond (bx4 P q.1 kt) ((asD kt x).bind λa=>(asD vt y).bind λb=>k (objs.set o (.map kt vt (setD l a b) false))) none
  | _=>none
 | _=>none
def delM (P:Program) [Tb P] (T:TypeId) (m x:AV) (objs:List AO) (k:List AO→Option ρ):Option ρ:=(bk3 P T).bind λq=>match m with
 | .b (.one (.map o))=>match objs[o]? with
  | some (.map kt vt l false)=>cond (bx4 P q.1 kt) ((asD kt x).bind λa=>k (objs.set o (.map kt vt (delD l a) false))) none
  | _=>none
 | _=>none
def isX:Op→Bool
 | .makeFunc _ _ _ | .makeMap _ _ | .mapUpdate _ _ _ _ | .insert _ _ _ _=>true
 | .call ⟨.builtin .delete,_,_⟩=>true
 | _=>false
def ci1 (P:Program) [Tb P] (o:Oper) (sl:Nat→AV) (objs:List AO) (fr:Nat) (k:AV→List AO→Option ρ):Option ρ:=match o.op with
 | .makeFunc (.func f) ⟨[]⟩ ⟨ca⟩=>match capD (ca.map (evA sl)) with
  | some d=>k (.b (.one (.val (.clo f d.t) d.x))) objs
  | none=>(capS (ca.map (evA sl))).bind λl=>zg_ objs fr (.fn (.func f) [] l) (.b (.one (.fn fr))) k
 | .makeMap T none=>match o.dst with
  | some _=>(bk3 P T).bind λq=>(bh9 P 20 q.1).bind λkt=>(bh9 P 20 q.2).bind λvt=>zg_ objs fr (.map kt vt [] false) (mapV fr) k
  | none=>none
 | .mapUpdate T x y z=>match o.dst with
  | none=>updM P T (evA sl x) (evA sl y) (evA sl z) objs λob=>k (.b .dead) ob
  | some _=>none
 | .insert T x y z=>match o.dst with
  | none=>updM P T (evA sl x) (evA sl y) (evA sl z) objs λob=>k (.b .dead) ob
  | some _=>none
 | .call ⟨.builtin .delete,⟨[x,y]⟩,⟨[T,_]⟩⟩=>delM P T (evA sl x) (evA sl y) objs λob=>k (.b .dead) ob
 | _=>none
end
section
variable {ρ:Type} {P:Program} [Tb P] {objs:List AO} {r:ρ} {sl:Nat→AV} {fr:Nat} {k:AV→List AO→Option ρ}
theorem inv_add {w:World} {S:PH} {O:List HP} {A:HP} (h:Inv w S O) (hA:A.p S Hp.emp):Inv w S (A::O) :=
 ⟨h.os,h.out,Hp.emp,hA,λb=>.inl rfl,by
  have e:Hp.un Hp.emp S.m=S.m:=by funext b;simp[Hp.un,Hp.emp]
  rw[e]
  exact h.own⟩
theorem ax8 {hv:Nat→Value} {S:PH}:∀ {l:List AV} {vs:List Value} {cs:List SV},capS l=some cs→Fa (RA hv S) l vs→Fa (RS hv S) cs vs∧∀ n,(∀ a ∈ l,a.lt n=true)→fb_ (SV.lt n) cs=true
 | [],[],cs,h,_=>by cases h;exact⟨trivial,λ_ _=>rfl⟩
 | a::l,v::vs,cs,h,hf=>by
  unfold capS at h
  split at h
  ·rename_i e;cases e
  ·rename_i s l' e
   cases e
   obtain⟨q,h1,h⟩:=bnd h
   cases h
   obtain⟨g1,g2⟩:=ax8 h1 hf.2
   refine⟨⟨hf.1,g1⟩,λn hn => ?_⟩
   simp only[fb_,a1_]
   exact⟨hn (.b (.one s)) (by simp),g2 n λa ha=>hn a (by simp[ha])⟩
  ·cases h
theorem bn1 {m x y:Operand} {T:TypeId} {kk:List AO→Option ρ} (h:updM P T (evA sl m) (evA sl x) (evA sl y) objs kk=some r):∃ ob,kk ob=some r∧BLe objs ob∧Keep objs ob∧(WfO objs→WfO ob) ∧
  ∀ {S:PH} {hv:Nat→Value} {Fm:List HP} {f:Fr} {w:World},Sit S hv Fm sl objs f w→∃ w',(Instr.mapUpdate T (ev f m) (ev f x) (ev f y)).run P w = .ok () w'∧Inv w' S (OHs hv 0 ob++Fm):=by
 obtain⟨⟨kT,vT⟩,hq,h⟩:=bnd h
 have hT:=ah0 hq
 split at h
 ·rename_i o hm
  split at h
  ·rename_i kt vt l ho
   obtain⟨hk,h⟩:=bo_ h
   obtain⟨a,ha,h⟩:=bnd h
   obtain⟨b,hb,h⟩:=bnd h
   refine⟨_,h,be_ (by simp),cd_ ho trivial,λhw=>bm1 ho (by simp) hw rfl,λ{S hv Fm f w} hs => ?_⟩
   obtain⟨L,hI,h2⟩:=hs.at ho
   obtain⟨hh,⟨g,e1,e2⟩,hI2⟩:=hI.open_
   have hI3:Inv w S (MapB g l::(L++Fm)):=hI2.shut e2
   have hxv:=hs.ev m
   rw[hm] at hxv
   have e3:ev f m = .map (some g):=hxv.2.trans e1
   obtain⟨w',g1,g2⟩:=@ae4 P w _ _ T kT vT kt.den vt.den kt.enc vt.enc kt.deq S _ l g a b hT (ah4 hk) hI3 (gn_ (hs.ev x) ha) (gn_ (hs.ev y) hb)
   refine⟨w',by rw[e3];exact g1,xl_ (a:=.map kt vt (setD l a b) false) h2 ?_⟩
   obtain⟨hh2,q1,q2⟩:=g2.open_
   exact q2.shut (A:=bm0 _ _ _ _) ⟨g,e1,q1⟩
  ·cases h
 ·cases h
theorem ci0 {o:Oper} (h:ci1 P o sl objs fr k=some r):∃ av objs',k av objs'=some r∧OpOk P o sl objs av objs':=by
 obtain⟨dd,op,ty,pos,af,gd⟩:=o
 unfold ci1 at h
 simp only at h
 split at h
 ·rename_i f0 ca
  split at h
  ·rename_i d hd
   exact⟨_,_,h,.pure (λ_ _=>rfl) λ{S hv Fm f w} hs=>⟨.func (.func f0) #[] (ca.map (ev f)).toArray,by simp[execOp,Instr.makeFunc],rfl,rfl,[.func (.func f0) #[] (ca.map (ev f)).toArray],⟨_,rfl,ak0 hd (ai8 hs ca)⟩,rfl⟩⟩
  ·obtain⟨l,hl,h⟩:=bnd h
   obtain⟨hu,h⟩:=gb_ h
   refine⟨_,_,h,OpOk.new hu (by simp) (λhs _ => ?_) (iu_ hu (by simp)) λ{S hv Fm f w n ro K} hs hd kk => ?_⟩
   ·have e:fb_ (SV.lt objs) l=true:=by
     have hx:Fa (RA (λ_=>undef) ⟨Hp.emp,default,#[]⟩) (ca.map (evA sl)) (ca.map (evA sl) |>.map λ_=>undef)→True:=λ_=>trivial
     have gen:∀ {as:List AV} {cs:List SV},capS as=some cs→(∀ a ∈ as,a.lt objs=true)→fb_ (SV.lt objs) cs=true:=by
      intro as
      induction as with
      | nil=>intro cs h _;cases h;rfl
      | cons a as ih =>
       intro cs h hn
       unfold capS at h
       split at h
       ·rename_i e;cases e
       ·rename_i s l' e
        cases e
        obtain⟨q,h1,h⟩:=bnd h
        cases h
        simp only[fb_,a1_]
        exact⟨hn (.b (.one s)) (by simp),ih h1 λa ha=>hn a (by simp[ha])⟩
       ·cases h
     exact gen hl λa ha=>by
      obtain⟨x,_,rfl⟩:=d2_.1 ha
      exact ik_ hs x
    simp only[AO.lt,fb_,e,Bool.and_self]
   ·have hf:=(ax8 hl (ai8 hs ca)).1
    refine lb_ hd (w':=w) (v:=.func (.func f0) #[] (ca.map (ev f)).toArray) (by simp[execOp,Instr.makeFunc]) (kk _ w rfl ?_ ⟨rfl,(cn_ hv fr _).symm⟩)
    refine inv_add hs.inv ⟨rfl,[],ca.map (ev f),rfl,trivial,?_⟩
    refine fa_ag (ng_ (cg_ hu)) ?_ hf
    exact (ax8 hl (ai8 hs ca)).2 objs λa ha=>by
     obtain⟨x,_,rfl⟩:=d2_.1 ha
     exact ik_ hs.wfs x
 ·rename_i T
  split at h
  ·rename_i d
   obtain⟨⟨kT,vT⟩,hq,h⟩:=bnd h
   obtain⟨kt,hkt,h⟩:=bnd h
   obtain⟨vt,hvt,h⟩:=bnd h
   obtain⟨hu,h⟩:=gb_ h
   refine⟨_,_,h,OpOk.new hu (by simp) (λ_ _=>rfl) (iu_ hu (by simp)) λ{S hv Fm f w n ro K} hs hd kk => ?_⟩
   refine @bk1 ro P n f w K d ty pos af gd T kt.den vt.den kt.enc vt.enc S _ hd hs.inv λg w' hI => ?_
   refine kk (.map (some g)) w' rfl ?_ ⟨rfl,(cn_ hv fr _).symm⟩
   obtain⟨hh2,q1,q2⟩:=hI.open_
   exact q2.shut (A:=bm0 _ _ _ _) ⟨g,rfl,q1⟩
  ·cases h
 ·rename_i T x y z
  split at h
  ·obtain⟨ob,h1,g1,g2,g3,g4⟩:=bn1 h
   refine⟨_,_,h1,⟨g1,g2,λ_ hw=>g3 hw,λ_ _=>rfl,λ{S hv Fm f w n ro K} hs hd kk => ?_⟩⟩
   obtain⟨w',q1,q2⟩:=g4 hs
   exact af7 (by simp[execOp,q1]) (kk undef S hv w' (PH.Le.refl _) (λ_ _=>rfl) trivial q2)
  ·cases h
 ·rename_i T x y z
  split at h
  ·obtain⟨ob,h1,g1,g2,g3,g4⟩:=bn1 h
   refine⟨_,_,h1,⟨g1,g2,λ_ hw=>g3 hw,λ_ _=>rfl,λ{S hv Fm f w n ro K} hs hd kk => ?_⟩⟩
   obtain⟨w',q1,q2⟩:=g4 hs
   exact af7 (by simp[execOp,q1]) (kk undef S hv w' (PH.Le.refl _) (λ_ _=>rfl) trivial q2)
  ·cases h
 ·rename_i x y T T2
  obtain⟨⟨kT,vT⟩,hq,h⟩:=bnd h
  have hT:=ah0 hq
  split at h
  ·rename_i o hm
   split at h
   ·rename_i kt vt l ho
    obtain⟨hk,h⟩:=bo_ h
    obtain⟨a,ha,h⟩:=bnd h
    refine⟨_,_,h,⟨be_ (by simp),cd_ ho trivial,λ_ hw=>bm1 ho (by simp) hw rfl,λ_ _=>rfl,λ{S hv Fm f w n ro K} hs hd kk => ?_⟩⟩
    obtain⟨L,hI,h2⟩:=hs.at ho
    obtain⟨hh,⟨g,e1,e2⟩,hI2⟩:=hI.open_
    have hI3:Inv w S (MapB g l::(L++Fm)):=hI2.shut e2
    have hxv:=hs.ev x
    rw[hm] at hxv
    have e3:ev f x = .map (some g):=hxv.2.trans e1
    obtain⟨w',g1,g2⟩:=@bi8 P w _ T kT vT kt.den vt.den kt.enc vt.enc kt.deq S _ l g a T2 ty hT (ah4 hk) hI3 (gn_ (hs.ev y) ha)
    refine lb_ hd (w':=w') (v:=.tuple #[]) (by simp[execOp,e3,resolve,invoke,builtin,g1]) ?_
    refine kk (.tuple #[]) S hv w' (PH.Le.refl _) (λ_ _=>rfl) trivial (xl_ (a:=.map kt vt (delD l a) false) h2 ?_)
    obtain⟨hh2,q1,q2⟩:=g2.open_
    exact q2.shut (A:=bm0 _ _ _ _) ⟨g,e1,q1⟩
   ·cases h
  ·cases h
 ·cases h
end
end
section
variable [Gb]
def zNil (P:Program) [Tb P] (E:TypeId) (off:Nat):Bool:=match inf P E with
 | some i=>match i.zero with
  | some z=>match z.cells.toList[off]? with
   | some (.slice none 0 0)=>true
   | _=>false
  | none=>false
 | none=>false
def tidQ (P:Program) [Tb P]:TypeId→List Nat→Option TypeId
 | E,[]=>elemOf P E
 | E,k::q=>match und P E with
  | some (.struct fs)=>(fs[k]?).bind λf=>tidQ P f.type q
  | _=>none
def isE {α:Type}:Option (List α)→Bool
 | some []=>true
 | _=>false
def nilAt (off:Nat) (a:AV):Bool:=match ac3 a with
 | some l=>match l[off]? with
  | some .nils=>true
  | _=>false
 | none=>false
def unL:Ty→Option Ty
 | .list u=>some u
 | _=>none
def isGn (o:Oper):Option (List Nat):=match o.op,o.dst with
 | .makeSlice T _ _,some d=>Gb.gd (cdN T d 0)
 | .buildSlice T _ _,some d=>Gb.gd (cdN T d 0)
 | _,_=>none
def cn9 (o:Oper):Bool:=match o.op with
 | .load T (.tmp t)=>match o.dst with
  | some d=>Gb.gl (cdN T d t)
  | none=>false
 | .store T (.tmp p) (.tmp v)=>Gb.gl (cdN T p v)
 | _=>false
section
variable {ρ:Type}
def newG (P:Program) [Tb P] (q:List Nat) (o:Oper) (sl:Nat→AV) (objs:List AO) (fr:Nat) (k:AV→List AO→Option ρ):Option ρ:=match o.op with
 | .makeSlice T x y=>match o.dst with
  | some _=>(elemOf P T).bind λE=>(bh9 P 20 E).bind λt=>(rf_ P E t).bind λzd=>(asD .int (evA sl x)).bind λc=>((tyP t q).bind unL).bind λu=>(tidQ P E q).bind λTi =>
    cond (ci8 x y&&zNil P E (lc_ t q)&&Nat.blt (lc_ t q) t.sz&&isE (zh_ u t q zd)) ((mk? c zd).bind λl=>zg_ objs fr (.grid ⟨t,u,q,E,Ti⟩ l none false) (zf_ fr) k) none
  | none=>none
 | .buildSlice T n ⟨ps⟩=>match o.dst with
  | some _=>(elemOf P T).bind λE=>(bh9 P 20 E).bind λt=>(rf_ P E t).bind λzd=>((tyP t q).bind unL).bind λu=>(tidQ P E q).bind λTi =>
    cond (ye_ 0 ps&&Nat.beq ps.length n&&Nat.ble n 65536&&Nat.ble (n * t.sz) 65536&&t.agg&&Nat.blt (lc_ t q) t.sz&&fb_ (nilAt (lc_ t q)) (ps.map λp=>evA sl p.2))
    ((lits t (ps.map λp=>evA sl p.2)).bind λl=>cond (fb_ (λx=>isE (zh_ u t q x)) l) (zg_ objs fr (.grid ⟨t,u,q,E,Ti⟩ l none false) (zf_ fr) k) none) none
  | none=>none
 | _=>none
def takeG (P:Program) [Tb P] (T:TypeId) (p:AV) (objs:List AO) (fr:Nat) (k:AV→List AO→Option ρ) (els:Option ρ):Option ρ:=match p with
 | .b (.one (.ptrE o i n z q))=>match objs[o]? with
  | some (.grid G ls none false)=>cond (eqL q G.q&&Nat.beq n (lc_ G.t G.q)&&Nat.beq z G.t.sz&&aq1 P T (.list G.u)&&isUn objs fr) ((at? ls i).bind λx=>(zh_ G.u G.t G.q x).bind λl =>
    k (zf_ fr) (((objs.set o .gone).set fr (.row G.u G.Ti l false)).set o (.grid G ls (some (i,fr,x)) false))) none
  | _=>els
 | _=>els
def cv0 (G:GD) (h:G.Hole) (i:Int) (objs:List AO):Bool:=match h with
 | none=>true
 | some p=>(i==p.1)&&(match objs[p.2.1]? with
  | some .gone=>true
  | _=>false)
def putG (P:Program) [Tb P] (T:TypeId) (p v:AV) (objs:List AO) (k:AV→List AO→Option ρ) (els:Option ρ):Option ρ:=match p with
 | .b (.one (.ptrE o i n z q))=>match objs[o]? with
  | some (.grid G ls h false)=>match v with
   | .b (.one (.row o2))=>match objs[o2]? with
    | some (.row t2 T2 l2 false)=>cond (eqL q G.q&&Nat.beq n (lc_ G.t G.q)&&Nat.beq z G.t.sz&&aq1 P T (.list G.u)&&Nat.beq T2 G.Ti&&cv0 G h i objs) ((aj9 t2 G.u l2).bind λm=>(at? ls i).bind λx=>(ux_ G.u G.t G.q x m).bind λx' =>
      k (.b .dead) ((objs.set o2 .gone).set o (.grid G (ls.set i.toNat x') none false))) none
    | _=>none
   | _=>none
  | _=>els
 | _=>els
def al9 (ob:List AO) (o:Nat):List AO:=match ob[o]? with
 | some (.grid G ls (some (i,o2,x)) false)=>match ob[o2]? with
  | some (.row t2 T2 l2 false)=>cond (Nat.beq T2 G.Ti) (match aj9 t2 G.u l2 with
   | some m=>match ux_ G.u G.t G.q x m with
    | some x'=>(ob.set o2 .gone).set o (.grid G (ls.set i.toNat x') none false)
    | none=>ob
   | none=>ob) ob
  | _=>ob
 | _=>ob
def xg_ (ob:List AO):Nat→List AO
 | 0=>ob
 | k+1=>al9 (xg_ ob k) k
end
theorem rc_of {S:PH} {t:Ty} {cs:List Value} {x:t.den} (h:t.enc.rep S cs x):∃ e:RC t.sz,e.cs=cs:=⟨⟨cs,by rw[← cj_];exact Enc.len (α:=t.den) h,Enc.cell1 (α:=t.den) h⟩,rfl⟩
theorem ch0 {P:Program} [Tb P] {E:TypeId} {t:Ty} {zd:t.den} {off:Nat} (h:rf_ P E t=some zd) (hn:zNil P E off=true) :
  ∃ bytes z,∃ e:RC t.sz,cx0 P (RC t.sz) E bytes z e∧bytes≤65536∧e.cs[off]?=some (.slice none 0 0)∧∀ S,t.enc.rep S e.cs zd:=by
 obtain⟨i,h1,h⟩:=bnd h
 obtain⟨z,h2,h⟩:=bnd h
 unfold zNil at hn
 rw[h1] at hn
 simp only[h2] at hn
 have h1:=yd_ h1
 cases hc:Nat.beq i.size t.sz&&Nat.ble i.bytes 65536 with
 | false=>rw[hc] at h;cases h
 | true =>
  rw[hc] at h
  simp only[a1_] at hc
  have hr:∀ S,RVt t S z zd:=λS=>gn_ (hv:=λ_=>undef) (bb9 z) h
  have hs:i.size=t.sz:=a3_ hc.1
  have hrep:∀ S,t.enc.rep S z.cells.toList zd:=λS=>(hr S).cells
  obtain⟨e,he⟩:=rc_of (hrep ⟨Hp.emp,default,#[]⟩)
  refine⟨i.bytes,z,e,⟨i,h1,h2,hs,rfl,?_,λS=>he.symm⟩,b6_ hc.2,?_,λS=>by rw[he];exact hrep S⟩
  ·have:=e.len
   rw[he] at this
   show z.cells.size=t.sz
   simpa using this
  ·rw[he]
   split at hn
   ·rename_i e2;exact e2
   ·cases hn
theorem ax2 {G:GD} {x:G.t.den} (h:isE (zh_ G.u G.t G.q x)=true):zh_ G.u G.t G.q x=some (G.get x)∧G.get x=[]:=by
 unfold GD.get
 unfold isE at h
 split at h
 ·rename_i e;rw[e];exact⟨rfl,rfl⟩
 ·cases h
theorem cw0 {S:PH} {G:GD} {e:RC G.t.sz} {x:G.t.den} (hlt:lc_ G.t G.q<G.t.sz) (hr:G.t.enc.rep S e.cs x) (hg:zh_ G.u G.t G.q x=some (G.get x)):ElR S G e x :=
 ⟨elOk_of G.t G.q x _ hg e.cs hr,by rw[e.len];exact hlt,hg⟩
theorem bg1 {G:GD} {e:RC G.t.sz} (h:e.cs[lc_ G.t G.q]?=some (.slice none 0 0)):G.cell e = .slice none 0 0:=by
 unfold GD.cell
 rw[m0_,h]
 rfl
theorem au7 {α β:Type} {R:β→α→Prop} {y:β} {x:α} (h:R y x):∀ k,Rel R (List.replicate k y) (List.replicate k x)
 | 0=>trivial
 | k+1=>⟨h,au7 h k⟩
section
variable {S:PH} {hv:Nat→Value} {off:Nat} {t:Ty}
theorem bw5 (hag:t.agg=true) {p:t.den→Bool}:∀ {as:List AV} {vs:List Value} {l:List t.den},lits t as=some l→Fa (RA hv S) as vs→fb_ (nilAt off) as=true →
  ∃ es:List (RC t.sz),RVs S vs es∧Rel (λe x=>t.enc.rep S e.cs x∧e.cs[off]?=some (.slice none 0 0)) es l
 | [],[],_,h,_,_=>by cases h;exact⟨[],trivial,trivial⟩
 | a::as,v::vs,l,h,hf,hn=>by
  obtain⟨x,hx,h⟩:=bnd h
  obtain⟨r,hr,h⟩:=bnd h
  cases h
  simp only[fb_,a1_] at hn
  obtain⟨es,g1,g2⟩:=bw5 hag (p:=p) hr hf.2 hn.2
  have hv1:=gn_ hf.1 hx
  obtain⟨e,he⟩:=rc_of hv1.cells
  have hnil:e.cs[off]?=some (.slice none 0 0):=by
   rw[he]
   have h2:=hn.1
   unfold nilAt at h2
   split at h2
   ·rename_i l2 hl2
    have hf2:=te_ hf.1 hl2
    split at h2
    ·rename_i e3
     obtain⟨c,hc,hrs⟩:=hf2.get e3
     rw[hc]
     exact congrArg some hrs.2
    ·cases h2
   ·cases h2
  have hvm:v=mkV true e.cs:=by
   obtain⟨cs,hc1,hc2⟩:=hv1
   have e1:Enc.agg t.den=true:=by rw[jt_];exact hag
   rw[e1] at hc2
   rw[hc2]
   rw[hc2] at he
   have:(mkV true cs).cells.toList=cs:=by simp[mkV,Value.cells]
   rw[this] at he
   rw[he]
  exact⟨e::es,⟨⟨e.cs,rfl,hvm⟩,g1⟩,⟨by rw[he];exact hv1.cells,hnil⟩,g2⟩
end
theorem bq4 {α β:Type} {R R':β→α→Prop} {p:α→Bool} (h:∀ y x,R y x→p x=true→R' y x):∀ {m:List β} {l:List α},Rel R m l→fb_ p l=true→Rel R' m l
 | [],[],_,_=>trivial
 | _::_,_::_,hr,hp=>by
  simp only[fb_,a1_] at hp
  exact⟨h _ _ hr.1 hp.1,bq4 h hr.2 hp.2⟩
section
variable {ρ:Type} {P:Program} [Tb P] {objs:List AO} {r:ρ} {sl:Nat→AV} {fr:Nat} {k:AV→List AO→Option ρ}
theorem grid_new {S:PH} {hv:Nat→Value} {O:List HP} {w:World} {G:GD} {l:List G.t.den} {u:Value} (hI:Inv w S (kr_ hv u G l none::O)):u.oneCell'=true∧RA (ins hv fr u) S (zf_ fr) u∧Inv w S (OH (ins hv fr u) u (.grid G l none false)::O):=by
 obtain⟨a,cap,e,_⟩:=Inv.gridForm hI
 have h1:u.oneCell'=true:=by rw[e];rfl
 refine⟨h1,⟨h1,(cn_ hv fr u).symm⟩,?_⟩
 have:OH (ins hv fr u) u (.grid G l none false)=OH hv u (.grid G l none false):=OH.ag (n:=[]) (λi h=>by cases h) (λi h=>by cases h) rfl
 rw[this]
 exact hI
theorem newG_ok {q:List Nat} {o:Oper} (h:newG P q o sl objs fr k=some r):∃ av objs',k av objs'=some r∧OpOk P o sl objs av objs':=by
 obtain⟨dd,op,ty,pos,af,gd⟩:=o
 unfold newG at h
 simp only at h
 split at h
 ·rename_i T x y
  split at h
  ·rename_i d
   obtain⟨E,hE,h⟩:=bnd h
   obtain⟨t,ht,h⟩:=bnd h
   obtain⟨zd,hz,h⟩:=bnd h
   obtain⟨c,hc,h⟩:=bnd h
   obtain⟨u,hu0,h⟩:=bnd h
   obtain⟨Ti,hTi,h⟩:=bnd h
   obtain⟨hb,h⟩:=bo_ h
   simp only[a1_] at hb
   obtain⟨⟨⟨b1,b2⟩,b3⟩,b4⟩:=hb
   have exy:=ba2 b1
   have hlt:lc_ t q<t.sz:=b6_ b3
   obtain⟨l,hl,h⟩:=bnd h
   obtain⟨hu,h⟩:=gb_ h
   refine⟨_,_,h,OpOk.new hu (by simp) (λ_ _=>rfl) (iu_ hu (by simp)) λ{S hv Fm f w nn ro K} hs hd kk => ?_⟩
   obtain⟨bytes,zv,e,h1,h2,h3,h4⟩:=ch0 hz b2
   obtain⟨g1,g2,g3⟩:=ag7 hl
   refine @ve_ ro P nn f w K d ty pos af gd x y T E (RC t.sz) _ S _ bytes zv e c (List.replicate c.toNat e) hd (em_ hE) h1 h2 (dr_ (hs.ev x) hc) (by rw[← exy];exact dr_ (hs.ev x) hc) hs.inv (by unfold mk?; rw[if_pos ⟨g1,g2⟩]) λv w' hI => ?_
   have hg:=ax2 (G:=⟨t,u,q,E,Ti⟩) b4
   have hI2:Inv w' S (kr_ hv v ⟨t,u,q,E,Ti⟩ l none::(OHs hv 0 objs++Fm)):=by
    subst g3
    exact Inv.gridFresh (G:=⟨t,u,q,E,Ti⟩) (au7 (cw0 (G:=⟨t,u,q,E,Ti⟩) hlt (h4 S) hg.1) _) (au7 ⟨bg1 (G:=⟨t,u,q,E,Ti⟩) h3,hg.2⟩ _) hI
   obtain⟨k1,k2,k3⟩:=grid_new (fr:=fr) hI2
   exact kk v w' k1 k3 k2
  ·cases h
 ·rename_i T n ps
  split at h
  ·rename_i d
   obtain⟨E,hE,h⟩:=bnd h
   obtain⟨t,ht,h⟩:=bnd h
   obtain⟨zd,hz,h⟩:=bnd h
   obtain⟨u,hu0,h⟩:=bnd h
   obtain⟨Ti,hTi,h⟩:=bnd h
   obtain⟨hb,h⟩:=bo_ h
   simp only[a1_] at hb
   obtain⟨⟨⟨⟨⟨⟨b1,b2⟩,b3⟩,b4⟩,b5⟩,b6⟩,b7⟩:=hb
   have hlt:lc_ t q<t.sz:=b6_ b6
   obtain⟨l,hl,h⟩:=bnd h
   obtain⟨b8,h⟩:=bo_ h
   obtain⟨hu,h⟩:=gb_ h
   refine⟨_,_,h,OpOk.new hu (by simp) (λ_ _=>rfl) (iu_ hu (by simp)) λ{S hv Fm f w nn ro K} hs hd kk => ?_⟩
   obtain⟨i,i1,hz⟩:=bnd hz
   obtain⟨z,i2,hz⟩:=bnd hz
   cases hc:Nat.beq i.size t.sz&&Nat.ble i.bytes 65536 with
   | false=>rw[hc] at hz;cases hz
   | true =>
   rw[hc] at hz
   simp only[a1_] at hc
   have hzr:t.enc.rep S z.cells.toList zd:=(gn_ (hv:=λ_=>undef) (S:=S) (bb9 z) hz).cells
   obtain⟨ze,hze⟩:=rc_of hzr
   have hEl:cx0 P (RC t.sz) E i.bytes z ze:=⟨i,yd_ i1,i2,a3_ hc.1,rfl,by have:=ze.len;rw[hze] at this;show z.cells.size=t.sz;simpa using this,λS=>hze.symm⟩
   obtain⟨es,e1,e2⟩:=bw5 (S:=S) (hv:=hv) (off:=lc_ t q) b5 (p:=λ_=>true) hl (ca6 hs ps) b7
   have hlen:=a3_ b2
   refine @sq_ ro P nn f w K d ty pos af gd T E (RC t.sz) _ S _ i.bytes z ze ps (ps.map λp=>ev f p.2) n es hd (em_ hE) hEl (by rw[ue_ b1]) (by simpa using hlen) (b6_ b4) (b6_ b3) e1 hs.inv λv w' hI => ?_
   have hI2:Inv w' S (kr_ hv v ⟨t,u,q,E,Ti⟩ l none::(OHs hv 0 objs++Fm)) :=
    Inv.gridFresh (G:=⟨t,u,q,E,Ti⟩) (bq4 (p:=λx=>isE (zh_ u t q x)) (λe x hR hp=>cw0 (G:=⟨t,u,q,E,Ti⟩) hlt hR.1 (ax2 (G:=⟨t,u,q,E,Ti⟩) hp).1) e2 b8)
     (bq4 (p:=λx=>isE (zh_ u t q x)) (λe x hR hp=>⟨bg1 (G:=⟨t,u,q,E,Ti⟩) hR.2,(ax2 (G:=⟨t,u,q,E,Ti⟩) hp).2⟩) e2 b8) hI
   obtain⟨k1,k2,k3⟩:=grid_new (fr:=fr) hI2
   exact kk v w' k1 k3 k2
  ·cases h
 ·cases h
theorem wn_ {l:List AO} (hw:WfO l) {o:Nat} {a:AO} (ho:l[o]?=some a):WfO (l.set o .gone):=dx_ (by simp) hw rfl
theorem OHs.at2 {hv:Nat→Value} {S:PH} {w:World} {Fm:List HP} {ob:List AO} {o:Nat} {a b:AO} (ho:ob[o]?=some a) (h:Inv w S (OHs hv 0 ob++Fm)):∃ L,Inv w S (OH hv (hv o) a::(L++Fm))∧∀ b,(OHs hv 0 (ob.set o b)).Perm (OH hv (hv o) b::L):=by
 obtain⟨L,h1,h2⟩:=OHs.focus (hv:=hv) (i:=0) ho
 rw[b0_] at h1 h2
 exact⟨L,h.perm (h1.append_right Fm),h2⟩
theorem ch6 {T:TypeId} {x:Operand} {d:Option Nat} {ty:TypeId} {pos:String} {af:Array Edge} {gd:Option (Nat×Bool)} {els:Option ρ} (h:takeG P T (evA sl x) objs fr k els=some r) :
  els=some r∨∃ av objs',k av objs'=some r∧OpOk P ⟨d,.load T x,ty,pos,af,gd⟩ sl objs av objs':=by
 unfold takeG at h
 split at h
 ·rename_i o i n z q hp
  split at h
  ·rename_i G ls ho
   right
   obtain⟨hc,h⟩:=bo_ h
   simp only[a1_] at hc
   obtain⟨⟨⟨⟨c0,c1⟩,c2⟩,c3⟩,hu⟩:=hc
   have c1:=a3_ c1
   have c2:=a3_ c2
   obtain⟨y,hy,h⟩:=bnd h
   obtain⟨l,hl,h⟩:=bnd h
   have hun:=cg_ hu
   have hne:o≠fr:=by
    rintro rfl
    rw[hun] at ho
    cases ho
   have hlt:=(a4_.1 ho).1
   have hun2:(objs.set o .gone)[fr]?=some .unborn:=by rw[b7_ hne];exact hun
   have hog:((objs.set o AO.gone).set fr (.row G.u G.Ti l false))[o]?=some .gone:=by rw[b7_ (n5_ hne),e9_ hlt]
   have hbf:born (((objs.set o AO.gone).set fr (.row G.u G.Ti l false)).set o (.grid G ls (some (i,fr,y)) false)) fr=true:=by
    have hf:fr<(objs.set o AO.gone).length:=(a4_.1 hun2).1
    exact ax_.2 ⟨.row G.u G.Ti l false,by rw[b7_ hne,e9_ hf],by simp⟩
   refine⟨_,_,h,⟨(be_ (by simp)).trans ((be_ (by simp)).trans (be_ (by simp))),(cd_ ho trivial).trans ((cd_ hun2 trivial).trans (cd_ hog trivial)),λ_ hw => ?_,λ_ _=>hbf,λ{S hv Fm f w nn ro K} hs hd kk => ?_⟩⟩
   ·exact dx_ (by simp) (dx_ (by simp) (wn_ hw ho) rfl) hbf
   ·obtain⟨L,hI,h2⟩:=hs.at ho
    have hI:Inv w S (kr_ hv (hv o) G ls none::(L++Fm)):=hI
    obtain⟨u,u1,u2,⟨b,cap,u3⟩,u4⟩:=Inv.gridTake (fr:=fr) hI hy
    have hpv:=hs.ev x
    rw[hp] at hpv
    have hv1:ev f x=ay_ (cr_ (hv o) i z) n:=hpv.2.2
    rw[c1,c2] at hv1
    obtain⟨v0,e1,e2⟩:=qi_ (P:=P) (T:=T) (α:=Raw) (w:=w) (hg_ c3) u2
    have e3:v0=u:=rv_raw e2
    subst e3
    have hI2:=u4 (ins hv fr v0) (cn_ hv fr v0)
    have hg:G.get y=l:=by unfold GD.get;rw[hl];rfl
    rw[hg] at hI2
    refine lb_ hd (w':=w) (v:=v0) ?_ (kk v0 S (ins hv fr v0) w (PH.Le.refl _) (ng_ hun) ⟨u1,(cn_ hv fr v0).symm⟩ ?_)
    ·simp only[execOp]
     rw[hv1]
     simp only[Sem.run_bind,e1,Result.andThen_ok,Sem.run_pure]
    ·have hE:=wj_ hI2
     have hJ:Inv w S (@Row G.u.den G.u.enc G.Ti v0 l::(OHs hv 0 (objs.set o .gone)++(kr_ (ins hv fr v0) (hv o) G ls (some (i,fr,y))::Fm))):=by
      refine hE.perm ?_
      refine (List.Perm.swap _ _ _).trans (List.Perm.cons _ ?_)
      refine List.Perm.trans ?_ ((h2 .gone).symm.append_right _)
      exact List.Perm.cons _ List.perm_middle.symm
     have hA:=gx_ (a:=.row G.u G.Ti l false) (wn_ hs.wfo ho) hun2 (show Inv w S (OH (ins hv fr v0) v0 (.row G.u G.Ti l false)::(OHs hv 0 (objs.set o .gone)++(kr_ (ins hv fr v0) (hv o) G ls (some (i,fr,y))::Fm))) from hJ)
     obtain⟨L2,hL,h3⟩:=OHs.at2 (b:=.gone) hog hA
     have ho2:ins hv fr v0 o=hv o:=by
      show cond (Nat.beq o fr) v0 (hv o)=hv o
      rw[bg6 hne]
      rfl
     have hL2:Inv w S (kr_ (ins hv fr v0) (hv o) G ls (some (i,fr,y))::(L2++Fm)):=(hL.drop).perm c9_
     refine Inv.perm ?_ ((h3 (.grid G ls (some (i,fr,y)) false)).symm.append_right Fm)
     rw[ho2]
     exact hL2
  ·exact .inl h
 ·exact .inl h
theorem putG_ok {T:TypeId} {px vx:Operand} {ty:TypeId} {pos:String} {af:Array Edge} {gd:Option (Nat×Bool)} {els:Option ρ} (h:putG P T (evA sl px) (evA sl vx) objs k els=some r) :
  els=some r∨∃ av objs',k av objs'=some r∧OpOk P ⟨none,.store T px vx,ty,pos,af,gd⟩ sl objs av objs':=by
 unfold putG at h
 split at h
 ·rename_i o i n z q hp
  split at h
  ·rename_i G ls hh ho
   right
   split at h
   ·rename_i o2 hv2
    split at h
    ·rename_i t2 T2 l2 ho2
     obtain⟨hc,hz⟩:=bo_ h
     clear h
     simp only[a1_] at hc
     obtain⟨⟨⟨⟨⟨c0,c1⟩,c2⟩,c3⟩,c4⟩,c5⟩:=hc
     have c1:=a3_ c1
     have c2:=a3_ c2
     have c4:=a3_ c4
     subst c4
     obtain⟨m,hm,h⟩:=bnd hz
     clear hz
     obtain⟨e,hm⟩:=uq_ hm
     subst e
     have hm:m=l2:=hm
     subst hm
     obtain⟨y,hy,h⟩:=bnd h
     obtain⟨x',hx',h⟩:=bnd h
     obtain⟨hi0,hyn⟩:=ce0 hy
     have hne:o≠o2:=by
      rintro rfl
      rw[ho] at ho2
      cases ho2
     have hog:(objs.set o2 AO.gone)[o]?=some (.grid G ls hh false):=by rw[b7_ (n5_ hne)];exact ho
     refine⟨_,_,h,⟨(be_ (by simp)).trans (be_ (by simp)),(cd_ ho2 trivial).trans (cd_ hog trivial),λ_ hw=>dx_ (by simp) (wn_ hw ho2) rfl,λ_ _=>rfl,λ{S hv Fm f w nn ro K} hs hd kk => ?_⟩⟩
     obtain⟨L1,hI1,p1⟩:=hs.at ho2
     have hE:Inv w S (OHs hv 0 (objs.set o2 .gone)++(@Row G.u.den G.u.enc G.Ti (hv o2) m::Fm)):=by
      refine (wj_ hI1).perm ?_
      refine List.Perm.trans ?_ ((p1 .gone).symm.append_right _)
      refine List.Perm.cons _ ?_
      exact List.perm_middle.symm
     obtain⟨L,hI,p2⟩:=OHs.at2 (b:=.gone) hog hE
     have hI:Inv w S (kr_ hv (hv o) G ls hh::(L++(@Row G.u.den G.u.enc G.Ti (hv o2) m::Fm))):=hI
     have hvx:=hs.ev vx
     rw[hv2] at hvx
     have hu1:(ev f vx).oneCell'=true:=hvx.1
     have hue:ev f vx=hv o2:=hvx.2
     have hI:Inv w S (kr_ hv (hv o) G ls hh::(L++(@Row G.u.den G.u.enc G.Ti (ev f vx) m::Fm))):=by rw[hue];exact hI
     obtain⟨es,r1,r2,r3⟩:=Inv.gridOpenA hI
     obtain⟨e,he,hR⟩:=Rel.get r1 hyn
     have hat:at? es i=some e:=by unfold at?; rw[if_pos hi0];exact he
     have hpv:=hs.ev px
     rw[hp] at hpv
     have hv1:ev f px=ay_ (cr_ (hv o) i z) n:=hpv.2.2
     rw[c1,c2] at hv1
     obtain⟨b,cap,eform⟩:=@Inv.rowForm G.u.den G.u.enc _ _ _ _ _ _ hI1
     have hcs:(ev f vx).cells.toList=[ev f vx]:=by rw[hue,eform.1];rfl
     refine @rb_ ro P nn f w K ty pos af gd px vx (hv o) (ev f vx) T G.T (RC G.t.sz) _ S _ es i (Enc.sz (Ty.list G.u).den) (lc_ G.t G.q) _ e (e.put (lc_ G.t G.q) (ev f vx) hu1) [] [] [] (hg_ c3) r3 hv1 rfl hat (λcs hcs' => ?_) ?_ λw' hI' => ?_
     ·have hcs':cs=e.cs:=hcs'
      subst hcs'
      refine⟨e.cs.take (lc_ G.t G.q),[G.cell e],e.cs.drop (lc_ G.t G.q+1),?_,?_,by rw[hcs];rfl,?_⟩
      ·have hd:e.cs.drop (lc_ G.t G.q)=G.cell e::e.cs.drop (lc_ G.t G.q+1):=by
        rw[i5_ hR.lt]
        congr 1
        exact a6_ ((a7_ hR.lt).symm.trans (aj8 hR.lt))
       rw[p8_,← hd,g1_]
      ·rw[c7_]
       exact Nat.min_eq_left (f9_ hR.lt)
      ·rw[hcs]
       show e.cs.take _++([ev f vx]++e.cs.drop _)=e.cs.set _ _
       rw[List.set_eq_take_append_cons_drop,if_pos hR.lt]
       rfl
     ·have:(ev f vx).cells.size=(ev f vx).cells.toList.length:=by simp
      rw[this,hcs]
      rfl
     ·have hI2:Inv w' S (Row G.T (hv o) (es.set i.toNat (e.put (lc_ G.t G.q) (ev f vx) hu1))::(inn G hh 0 es ls++(@Row G.u.den G.u.enc G.Ti (ev f vx) m::(L++Fm)))):=by
       exact hI'.perm (List.Perm.cons _ (l9_ _ c9_))
      have hI3:=Inv.gridPut (hv:=hv) r1 he hyn (λkx hk=>by
       cases hh with
       | none=>rfl
       | some p =>
        simp only[cv0,a1_,g5_] at c5
        show Nat.beq kx p.1.toNat=false
        rw[← c5.1]
        exact bg6 hk) hx' hI2
      refine kk undef S hv w' (PH.Le.refl _) (λ_ _=>rfl) trivial ?_
      exact Inv.perm hI3 ((p2 (.grid G (ls.set i.toNat x') none false)).symm.append_right Fm)
    ·cases h
   ·cases h
  ·exact .inl h
 ·exact .inl h
theorem al8 {ob:List AO} {o:Nat}:al9 ob o=ob∨∃ (G:GD) (ls:List G.t.den) (i:Int) (o2:Nat) (x x':G.t.den) (m:List G.u.den),ob[o]?=some (.grid G ls (some (i,o2,x)) false)∧ob[o2]?=some (.row G.u G.Ti m false)∧ux_ G.u G.t G.q x m=some x'∧al9 ob o=(ob.set o2 .gone).set o (.grid G (ls.set i.toNat x') none false):=by
 unfold al9
 split
 ·rename_i G ls i o2 x ho
  split
  ·rename_i t2 T2 l2 ho2
   cases hc:Nat.beq T2 G.Ti with
   | false=>exact .inl rfl
   | true =>
    have:=a3_ hc
    subst this
    cases hm:aj9 t2 G.u l2 with
    | none=>exact .inl rfl
    | some m =>
     obtain⟨e,hm⟩:=uq_ hm
     subst e
     have hm:m=l2:=hm
     subst hm
     cases hs:ux_ G.u G.t G.q x m with
     | none=>exact .inl (by simp only[a5_,hs])
     | some x'=>exact .inr ⟨G,ls,i,o2,x,x',m,ho,ho2,hs,by simp only[a5_,hs]⟩
  ·exact .inl rfl
 ·exact .inl rfl
theorem cj5 {S:PH} {hv:Nat→Value} {Fm:List HP} {w:World} {ob:List AO} {o:Nat} (hI:Inv w S (OHs hv 0 ob++Fm)):Inv w S (OHs hv 0 (al9 ob o)++Fm):=by
 rcases al8 (ob:=ob) (o:=o) with e | ⟨G,ls,i,o2,x,x',m,ho,ho2,hs,e⟩
 ·rw[e];exact hI
 ·rw[e]
  have hne:o≠o2:=by
   rintro rfl
   rw[ho] at ho2
   cases ho2
  have hog:(ob.set o2 AO.gone)[o]?=some (.grid G ls (some (i,o2,x)) false):=by rw[b7_ (n5_ hne)];exact ho
  obtain⟨L1,hI1,p1⟩:=OHs.at2 (b:=.gone) ho2 hI
  have hE:Inv w S (OHs hv 0 (ob.set o2 .gone)++(@Row G.u.den G.u.enc G.Ti (hv o2) m::Fm)):=by
   refine (wj_ hI1).perm ?_
   refine List.Perm.trans ?_ ((p1 .gone).symm.append_right _)
   refine List.Perm.cons _ ?_
   exact List.perm_middle.symm
  obtain⟨L,hI2,p2⟩:=OHs.at2 (b:=.gone) hog hE
  have hI3:Inv w S (@Row G.u.den G.u.enc G.Ti (hv o2) m::kr_ hv (hv o) G ls (some (i,o2,x))::(L++Fm)):=hI2.perm ((List.Perm.cons _ c9_).trans (List.Perm.swap _ _ _))
  exact Inv.perm (Inv.gridBack hI3 hs hv) ((p2 (.grid G (ls.set i.toNat x') none false)).symm.append_right Fm)
theorem bj0 {ob:List AO} {o:Nat}:BLe ob (al9 ob o)∧Keep ob (al9 ob o)∧(WfO ob→WfO (al9 ob o)):=by
 rcases al8 (ob:=ob) (o:=o) with e | ⟨G,ls,i,o2,x,x',m,ho,ho2,hs,e⟩
 ·rw[e];exact⟨BLe.refl _,Keep.refl _,λh=>h⟩
 ·rw[e]
  have hne:o≠o2:=by
   rintro rfl
   rw[ho] at ho2
   cases ho2
  have hog:(ob.set o2 AO.gone)[o]?=some (.grid G ls (some (i,o2,x)) false):=by rw[b7_ (n5_ hne)];exact ho
  exact⟨(be_ (by simp)).trans (be_ (by simp)),(cd_ ho2 trivial).trans (cd_ hog trivial),λhw=>dx_ (by simp) (wn_ hw ho2) rfl⟩
theorem wf_ {S:PH} {hv:Nat→Value} {Fm:List HP} {w:World} {ob:List AO} (hI:Inv w S (OHs hv 0 ob++Fm)):∀ n,Inv w S (OHs hv 0 (xg_ ob n)++Fm)
 | 0=>hI
 | n+1=>cj5 (wf_ hI n)
theorem qk_ {ob:List AO}:∀ n,BLe ob (xg_ ob n)∧Keep ob (xg_ ob n)∧(WfO ob→WfO (xg_ ob n))
 | 0=>⟨BLe.refl _,Keep.refl _,λh=>h⟩
 | n+1=>by
  obtain⟨a,b,c⟩:=qk_ (ob:=ob) n
  obtain⟨a',b',c'⟩:=bj0 (ob:=xg_ ob n) (o:=n)
  exact⟨a.trans a',b.trans b',λh=>c' (c h)⟩
end
end
section
variable [Gb]
section
variable {ρ:Type} {P:Program} [Tb P] {objs:List AO} {r:ρ} {sl:Nat→AV} {fr:Nat} {k:AV→List AO→Option ρ} {ty:TypeId} {pos:String} {af:Array Edge} {gd:Option (Nat×Bool)}
theorem uf_ {o:Nat} (hw:WfO objs) {a:AO} (ho:objs[o]?=some a):WfO (objs.set o .gone):=dx_ (by simp) hw rfl
theorem appA_ok {T:TypeId} {x y:Operand} {d:Nat} (h:appA P T (evA sl x) (evA sl y) objs fr k=some r) :
  ∃ av objs',k av objs'=some r∧OpOk P ⟨some d,.call ⟨.builtin .append,#[x,y],#[T,T]⟩,ty,pos,af,gd⟩ sl objs av objs':=by
 obtain⟨E,hE,h⟩:=bnd h
 have hE:=em_ hE
 split at h
 ·rename_i hx
  obtain⟨q,hq,h⟩:=bnd h
  obtain⟨c1,h⟩:=bo_ h
  obtain⟨zd,hz,h⟩:=bnd h
  obtain⟨m,hm,h⟩:=bnd h
  obtain⟨hu,h⟩:=gb_ h
  refine⟨_,_,h,OpOk.new hu (by simp) (λ_ _=>rfl) (iu_ hu (by simp)) λ{S hv Fm f w n ro K} hs hd kk => ?_⟩
  obtain⟨bytes,zv,h1,h2,_⟩:=ka_ hz
  have hxv:=hs.ev x
  rw[hx] at hxv
  have hxv:ev f x = .slice none 0 0:=hxv.2
  refine @xt_ ro P n f w K d ty pos af gd x y _ (ev f y) T E q.t.den q.t.enc S _ [] bytes zv zd q.l m #[T,T] hd rfl hE h1 h2 (by rw[cj_];exact b6_ c1) hxv rfl (hs.inv.rowNil) (bo8 hs hq (hs.ev y)) hm λu w' hI => ?_
  obtain⟨g1,g2⟩:=ow_ hI
  exact kk u w' g1 hI g2
 ·rename_i o hx
  split at h
  ·rename_i t B l ho
   obtain⟨q,hq,h⟩:=bnd h
   obtain⟨m,hm,h⟩:=bnd h
   obtain⟨c1,h⟩:=bo_ h
   simp only[a1_] at c1
   obtain rfl:=a3_ c1.1
   obtain⟨zd,hz,h⟩:=bnd h
   obtain⟨m2,hm2,h⟩:=bnd h
   obtain⟨hu,h⟩:=bo_ h
   have hne:o≠fr:=by rintro rfl;rw[cg_ hu] at ho;cases ho
   have hu2:isUn (objs.set o .gone) fr=true:=by
    unfold isUn
    rw[b7_ hne,cg_ hu]
   refine⟨_,_,h,⟨(be_ (by simp)).trans (be_ (by simp)),(cd_ ho trivial).trans (cd_ (cg_ hu2) trivial),λhs hw=>dx_ (by simp) (uf_ hw ho) rfl,λ_ _=>iu_ hu2 (by simp),λ{S hv Fm f w n ro K} hs hd kk => ?_⟩⟩
   obtain⟨bytes,zv,h1,h2,_⟩:=ka_ hz
   obtain⟨L,hI,hp⟩:=hs.at ho
   have hxv:=hs.ev x
   rw[hx] at hxv
   have hxv:ev f x=hv o:=hxv.2
   have hsrc:=bo8 hs hq (hs.ev y)
   obtain⟨e1,e2⟩:=hv_ hm
   have hsrc2:@Src t.den t.enc w S (ev f y) m:=by
    obtain⟨qt,ql⟩:=q
    simp only at e1
    subst e1
    rw[e2]
    exact hsrc
   refine @xt_ ro P n f w K d ty pos af gd x y (hv o) (ev f y) T B t.den t.enc S (L++Fm) l bytes zv zd m m2 #[T,T] hd rfl hE h1 h2 (by rw[cj_];exact b6_ c1.2) hxv rfl hI hsrc2 hm2 λu w' hI' => ?_
   obtain⟨g1,g2⟩:=ow_ (hv:=hv) (fr:=fr) hI'
   refine kk u S (ins hv fr u) w' (PH.Le.refl _) (ng_ (cg_ hu)) g2 ?_
   refine gx_ (uf_ hs.wfo ho) (cg_ hu2) ?_
   refine Inv.swap (B:=OH (ins hv fr u) u (.row t B m2 false)) (A:=HP.exact Hp.emp) (O:=L++Fm) ?_ |>.perm ?_
   ·exact⟨hI'.os,hI'.out,Hp.emp,rfl,λb=>.inl rfl,by
     have e:Hp.un Hp.emp S.m=S.m:=by funext b;simp[Hp.un,Hp.emp]
     rw[e]
     exact hI'.own⟩
   ·have:=(hp .gone).symm
    exact (this.append_right Fm).cons _
  ·cases h
 ·cases h
theorem cutA_ok {T:TypeId} {x y:Operand} {d o:Nat} {a:Int} (hx:evA sl x = .b (.one (.row o))) (hy:asD .int (evA sl y)=some a) (h:cutA P T o a objs fr k=some r) :
  ∃ av objs',k av objs'=some r∧OpOk P ⟨some d,.slice T x (some y) none none,ty,pos,af,gd⟩ sl objs av objs':=by
 obtain⟨E,hE,h⟩:=bnd h
 have hE:=em_ hE
 split at h
 ·rename_i t B l ho
  obtain⟨c1,h⟩:=bo_ h
  simp only[a1_] at c1
  obtain⟨⟨c1,c2⟩,hu⟩:=c1
  obtain rfl:=a3_ c1
  obtain⟨m,hm,h⟩:=bnd h
  have hne:o≠fr:=by rintro rfl;rw[cg_ hu] at ho;cases ho
  have hu2:isUn (objs.set o .gone) fr=true:=by
   unfold isUn
   rw[b7_ hne,cg_ hu]
  refine⟨_,_,h,⟨(be_ (by simp)).trans (be_ (by simp)),(cd_ ho trivial).trans (cd_ (cg_ hu2) trivial),λhs hw=>dx_ (by simp) (uf_ hw ho) rfl,λ_ _=>iu_ hu2 (by simp),λ{S hv Fm f w n ro K} hs hd kk => ?_⟩⟩
  obtain⟨L,hI,hp⟩:=hs.at ho
  have hxv:=hs.ev x
  rw[hx] at hxv
  have hxv:ev f x=hv o:=hxv.2
  refine @af8 ro P n f w K d ty pos af gd x y (hv o) T B t.den t.enc S (L++Fm) l m a hd hE (hg_ c2) hxv hI (dr_ (hs.ev y) hy) hm λu hI' => ?_
  obtain⟨g1,g2⟩:=ow_ (hv:=hv) (fr:=fr) hI'
  refine kk u S (ins hv fr u) w (PH.Le.refl _) (ng_ (cg_ hu)) g2 ?_
  refine gx_ (uf_ hs.wfo ho) (cg_ hu2) ?_
  refine Inv.swap (B:=OH (ins hv fr u) u (.row t B m false)) (A:=HP.exact Hp.emp) (O:=L++Fm) ?_ |>.perm ?_
  ·exact⟨hI'.os,hI'.out,Hp.emp,rfl,λb=>.inl rfl,by
    have e:Hp.un Hp.emp S.m=S.m:=by funext b;simp[Hp.un,Hp.emp]
    rw[e]
    exact hI'.own⟩
  ·have:=(hp .gone).symm
   exact (this.append_right Fm).cons _
 ·cases h
theorem cutB_ok {T:TypeId} {x y:Operand} {d o:Nat} {a:Int} (hx:evA sl x = .b (.one (.row o))) (hy:asD .int (evA sl y)=some a) (h:cutB P T o a objs fr k=some r) :
  ∃ av objs',k av objs'=some r∧OpOk P ⟨some d,.slice T x none (some y) none,ty,pos,af,gd⟩ sl objs av objs':=by
 obtain⟨E,hE,h⟩:=bnd h
 have hE:=em_ hE
 split at h
 ·rename_i t B l ho
  obtain⟨c1,h⟩:=bo_ h
  simp only[a1_] at c1
  obtain⟨⟨c1,c2⟩,hu⟩:=c1
  obtain rfl:=a3_ c1
  obtain⟨m,hm,h⟩:=bnd h
  have hne:o≠fr:=by rintro rfl;rw[cg_ hu] at ho;cases ho
  have hu2:isUn (objs.set o .gone) fr=true:=by
   unfold isUn
   rw[b7_ hne,cg_ hu]
  refine⟨_,_,h,⟨(be_ (by simp)).trans (be_ (by simp)),(cd_ ho trivial).trans (cd_ (cg_ hu2) trivial),λhs hw=>dx_ (by simp) (uf_ hw ho) rfl,λ_ _=>iu_ hu2 (by simp),λ{S hv Fm f w n ro K} hs hd kk => ?_⟩⟩
  obtain⟨L,hI,hp⟩:=hs.at ho
  have hxv:=hs.ev x
  rw[hx] at hxv
  have hxv:ev f x=hv o:=hxv.2
  refine @af9 ro P n f w K d ty pos af gd x y (hv o) T B t.den t.enc S (L++Fm) l m a hd hE (hg_ c2) hxv hI (dr_ (hs.ev y) hy) hm λu hI' => ?_
  obtain⟨g1,g2⟩:=ow_ (hv:=hv) (fr:=fr) hI'
  refine kk u S (ins hv fr u) w (PH.Le.refl _) (ng_ (cg_ hu)) g2 ?_
  refine gx_ (uf_ hs.wfo ho) (cg_ hu2) ?_
  refine Inv.swap (B:=OH (ins hv fr u) u (.row t B m false)) (A:=HP.exact Hp.emp) (O:=L++Fm) ?_ |>.perm ?_
  ·exact⟨hI'.os,hI'.out,Hp.emp,rfl,λb=>.inl rfl,by
    have e:Hp.un Hp.emp S.m=S.m:=by funext b;simp[Hp.un,Hp.emp]
    rw[e]
    exact hI'.own⟩
  ·have:=(hp .gone).symm
   exact (this.append_right Fm).cons _
 ·cases h
theorem ci3 {o:Oper} (h:bo5 P o sl objs fr k=some r):∃ av objs',k av objs'=some r∧OpOk P o sl objs av objs':=by
 obtain⟨dd,op,ty,pos,af,gd⟩:=o
 unfold bo5 at h
 simp only at h
 split at h
 ·rename_i T x
  obtain⟨l,hl,h⟩:=bnd h
  obtain⟨hu,h⟩:=gb_ h
  refine⟨_,_,h,OpOk.new hu (by simp) (λhs _=>tf_ (ik_ hs x) hl) (iu_ hu (by simp)) λ{S hv Fm f w n ro K} hs hd kk => ?_⟩
  exact lb_ hd (w':=w.alloc (.cells (ev f x).cells T)) (by simp[execOp,Instr.box,newVar,newRow]) (kk _ _ rfl (ar0 hu (tf_ (ik_ hs.wfs x) hl) (te_ (hs.ev x) hl) (hs.inv.alloc T _)) br8)
 ·rename_i T
  cases hrb:isRB ⟨dd,.alloc T,ty,pos,af,gd⟩ with
  | true =>
   rw[hrb] at h
   obtain⟨t,ht,h⟩:=bnd (show Option.bind _ _=some _ from h)
   obtain⟨zd,hz,h⟩:=bnd h
   obtain⟨hsz,h⟩:=bo_ h
   obtain⟨hu,h⟩:=gb_ h
   obtain⟨bytes,zv,⟨ei,hE⟩,_,_⟩:=ka_ hz
   refine⟨_,_,h,OpOk.new2 hu (by simp) (λ_ _=>rfl) (iu_ hu (by simp)) λ{S hv Fm f w n ro K} hs hd kk => ?_⟩
   have z1:∀ w,(zeroValue T).run P w = .ok zv w:=λw=>by simp[zeroValue,typeInfo,hE.hi,hE.hz]
   refine lb_ hd (w':=w.alloc (.cells zv.cells T)) (v:=.pointer (some ⟨w.heap.size,0,none⟩)) (by simp[execOp,Instr.alloc,z1 w,newVar,newRow]) (kk (.slice (some ⟨w.heap.size,0,none⟩) 1 1) _ _ ?_ ?_)
   ·refine Inv.shut (A:=@Row t.den t.enc T _ [zd]) (hs.inv.alloc T _) (.inr ⟨w.heap.size,1,[],zv.cells.toList,[],rfl,by simp,⟨zv.cells.toList,[],by simp,hE.rep S,rfl⟩,c3_ _,by simp[maxLen],by simp⟩)
   ·exact⟨rfl,⟨_,rfl⟩,by rw[cn_];simp[cr_,ay_,Addr.add]⟩
  | false =>
  rw[hrb] at h
  replace h:=(show (match und P T with
   | some (.array _ E)=>(bh9 P 20 E).bind λt=>(bh6 P T).bind λcs=>(lits t (cs.map λs=>.b (.one s))).bind λl=>cond (Nat.ble l.length 65536) (zg_ objs fr (.row t T l false) (.b (.one (.arr fr))) k) none
   | _=>(bh6 P T).bind λl=>zg_ objs fr (.cells T l []) (ptrV fr 0) k)=some r from h)
  split at h
  case h_1 =>
   rename_i n0 E hT
   obtain⟨t,ht,h⟩:=bnd h
   obtain⟨cs,hcs,h⟩:=bnd h
   obtain⟨l,hl,h⟩:=bnd h
   obtain⟨hsz,h⟩:=bo_ h
   obtain⟨hu,h⟩:=gb_ h
   refine⟨_,_,h,OpOk.new2 hu (by simp) (λ_ _=>rfl) (iu_ hu (by simp)) λ{S hv Fm f w n ro K} hs hd kk => ?_⟩
   obtain⟨z,z1,z2,_⟩:=sb_ (hv:=hv) (S:=S) hcs
   have hra:∀ {m:List SV} {ys:List Value},Fa (RS hv S) m ys→Fa (RA hv S) (m.map λs=>AV.b (.one s)) ys:=by
    intro m
    induction m with
    | nil=>intro ys h;cases ys with
     | nil=>trivial
     | cons _ _=>exact h.elim
    | cons s m ih=>intro ys h;cases ys with
     | nil=>exact h.elim
     | cons y ys=>exact⟨h.1,ih h.2⟩
   have hone:∀ {m:List SV} {ys:List Value},Fa (RS hv S) m ys→∀ y ∈ ys,y.oneCell'=true:=by
    intro m
    induction m with
    | nil=>intro ys h;cases ys with
     | nil=>intro y hy;cases hy
     | cons _ _=>exact h.elim
    | cons s m ih=>intro ys h;cases ys with
     | nil=>exact h.elim
     | cons y ys=>intro x hx;rcases d8_.1 hx with rfl | hx;exact h.1.1;exact ih h.2 x hx
   obtain⟨hrep,hlen⟩:=@RVs.repL t.den t.enc S z.cells.toList l (aw8 hl (hra z2))
   rw[be4 (hone z2)] at hrep
   refine lb_ hd (w':=w.alloc (.cells z.cells T)) (v:=.pointer (some ⟨w.heap.size,0,none⟩)) (by simp[execOp,Instr.alloc,z1 w,newVar,newRow]) (kk (.slice (some ⟨w.heap.size,0,none⟩) l.length l.length) _ _ ?_ ?_)
   ·refine Inv.shut (A:=@Row t.den t.enc T _ l) (hs.inv.alloc T _) (.inr ⟨w.heap.size,l.length,[],z.cells.toList,[],rfl,by simp,hrep,c3_ _,?_,by simp⟩)
    have:=b6_ hsz
    unfold maxLen
    omega
   ·exact⟨rfl,⟨_,rfl⟩,by rw[cn_];simp[cr_,Addr.add]⟩
  obtain⟨l,hl,h⟩:=bnd h
  obtain⟨hu,h⟩:=gb_ h
  have hl3:∀ n,fb_ (SV.lt n) l=true:=by
   obtain⟨_,_,_,h3⟩:=sb_ (hv:=λ_=>undef) (S:=⟨Hp.emp,default,#[]⟩) hl
   exact h3
  refine⟨_,_,h,OpOk.new hu (by simp) (λhs _=>hl3 _) (iu_ hu (by simp)) λ{S hv Fm f w n ro K} hs hd kk => ?_⟩
  obtain⟨z,z1,z2,_⟩:=sb_ (hv:=hv) (S:=S) hl
  exact lb_ hd (w':=w.alloc (.cells z.cells T)) (by simp[execOp,Instr.alloc,z1 w,newVar,newRow]) (kk _ _ rfl (ar0 hu (hl3 _) z2 (hs.inv.alloc T _)) br8)
 ·rename_i T ps
  obtain⟨av,h1,h2,h3⟩:=cd3 h
  refine⟨_,_,h1,.pure (λhs _=>h2 _ λp hp => ?_) λ{S hv Fm f w} hs => ?_⟩
  ·obtain⟨q,_,rfl⟩:=d2_.1 hp
   exact ik_ hs q.2
  ·obtain⟨u,g1,g2⟩:=h3 (w:=w) (cv6 hs ps)
   refine⟨u,?_,g2⟩
   have e:(List.toArray ps).map (λ(x:Nat×Operand)=>(x.1,ev f x.2))=(ps.map λp=>(p.1,ev f p.2)).toArray:=by simp
   have g1':(Instr.build T ((List.toArray ps).map λ(i,x)=>(i,ev f x))).run P w = .ok u w:=by
    rw[← g1]
    exact congrArg (λz=>(Instr.build T z).run P w) e
   have e2:(execOp (ev f) ⟨dd,.build T ⟨ps⟩,ty,pos,af,gd⟩)=(do pure (.value (← Instr.build T ((List.toArray ps).map λ(i,x)=>(i,ev f x))))):=by
    simp only[execOp]
   rw[e2]
   simp only[Sem.run_bind,g1',Result.andThen_ok,Sem.run_pure]
 ·rename_i T n ps
  split at h
  ·rename_i d
   obtain⟨E,hE,h⟩:=bnd h
   obtain⟨t,ht,h⟩:=bnd h
   obtain⟨zd,hz,h⟩:=bnd h
   obtain⟨hc,h⟩:=bo_ h
   simp only[a1_] at hc
   obtain⟨l,hl,h⟩:=bnd h
   have main:zg_ objs fr (.row t E (ct2 (cv3 ps) zd l) false) (zf_ fr) k=some r→∃ av objs',k av objs'=some r∧OpOk P ⟨some d,.buildSlice T n ⟨ps⟩,ty,pos,af,gd⟩ sl objs av objs':=by
    intro h
    obtain⟨hu,h⟩:=gb_ h
    refine⟨_,_,h,OpOk.new hu (by simp) (λ_ _=>rfl) (iu_ hu (by simp)) λ{S hv Fm f w nn ro K} hs hd kk => ?_⟩
    obtain⟨bytes,zv,h1,h2,_⟩:=ka_ hz
    have hlen:=a3_ hc.1.1.2
    refine @zn_ _ P _ t.den t.enc nn d f w K ro ty pos af gd T E S _ bytes zv zd ps (ps.map λp=>ev f p.2) n (cv3 ps) l hd (em_ hE) h1 (by rw[ue_ hc.1.1.1]) (by simpa using hlen) (by rw[cj_];exact b6_ hc.2) (b6_ hc.1.2) (aw8 hl (ca6 hs ps)) hs.inv λu w' hI => ?_
    obtain⟨g1,g2⟩:=ow_ hI
    exact kk u w' g1 hI g2
   cases h0:Nat.beq (cv3 ps) 0 with
   | true =>
    rw[h0] at h
    rw[a3_ h0] at main
    exact main h
   | false =>
    rw[h0] at h
    obtain⟨h1,h⟩:=bo_ (show cond (Nat.beq (cv3 ps) 1) (zg_ objs fr (.row t E (zd::l) false) (zf_ fr) k) none=some r from h)
    rw[a3_ h1] at main
    exact main h
  ·cases h
 ·rename_i T x y
  split at h
  ·rename_i d
   obtain⟨E,hE,h⟩:=bnd h
   obtain⟨t,ht,h⟩:=bnd h
   obtain⟨zd,hz,h⟩:=bnd h
   obtain⟨c,hc,h⟩:=bnd h
   obtain⟨hxy,h⟩:=bo_ h
   have exy:=ba2 hxy
   obtain⟨l,hl,h⟩:=bnd h
   obtain⟨hu,h⟩:=gb_ h
   refine⟨_,_,h,OpOk.new hu (by simp) (λ_ _=>rfl) (iu_ hu (by simp)) λ{S hv Fm f w nn ro K} hs hd kk => ?_⟩
   obtain⟨bytes,zv,h1,h2,_⟩:=ka_ hz
   refine @ve_ ro P nn f w K d ty pos af gd x y T E t.den t.enc S _ bytes zv zd c l hd (em_ hE) h1 h2 (dr_ (hs.ev x) hc) (by rw[← exy];exact dr_ (hs.ev x) hc) hs.inv hl λu w' hI => ?_
   obtain⟨g1,g2⟩:=ow_ hI
   exact kk u w' g1 hI g2
  ·cases h
 ·rename_i T p v
  split at h
  ·obtain⟨objs',h1,h2⟩:=bo2 h
   exact⟨_,_,h1,h2⟩
  ·cases h
 ·rename_i T x lo hi
  split at h
  ·rename_i p y d hx
   obtain⟨a,ha,h⟩:=bnd h
   exact cutA_ok hx ha h
  ·rename_i p y d hx
   obtain⟨a,ha,h⟩:=bnd h
   exact cutB_ok hx ha h
  ·obtain⟨av,h1,h2⟩:=ad2 h
   exact⟨_,_,h1,h2⟩
 ·rename_i x y T T2
  split at h
  ·rename_i d
   obtain⟨hc,h2⟩:=bo_ h
   obtain rfl:=a3_ hc
   exact appA_ok h2
  ·cases h
 ·cases h
def isM:Op→Bool
 | .box _ _ | .alloc _ | .build _ _ | .buildSlice _ _ _ | .makeSlice _ _ _ | .store _ _ _ | .slice _ _ _ _ _=>true
 | .call ⟨.builtin .append,_,_⟩=>true
 | _=>false
def isZ (o:Oper):Bool:=match o.op,o.dst with
 | .box T (.tmp t),some d=>Gb.fz (cdN T d t) o.pos
 | _,_=>false
def ftA (o:Oper):Option Ty:=match o.op,o.dst with
 | .box T (.tmp t),some d=>Gb.ft (cdN T d t)
 | _,_=>none
def stepZ (o:Oper) (sl:Nat→AV) (objs:List AO) (k:AV→List AO→Option ρ):Option ρ:=match o.op with
 | .box _ x=>match evA sl x with
  | .b (.one (.val t y))=>cond t.agg none (k (.b (.one (.val (.ref t) y))) objs)
  | .b (.val t y)=>k (.b (.one (.val (.ref t) y))) objs
  | .b (.agg l)=>(ftA o).bind λt=>(asD t (.b (.agg l))).bind λy=>k (.b (.one (.val (.ref t) y))) objs
  | _=>none
 | _=>none
theorem ch9 {o:Oper} (h:stepZ o sl objs k=some r):∃ av objs',k av objs'=some r∧OpOk P o sl objs av objs':=by
 obtain⟨dd,op,ty,pos,af,gd⟩:=o
 unfold stepZ at h
 simp only at h
 split at h
 ·rename_i T x
  split at h
  ·rename_i t y he
   cases ht:t.agg with
   | true=>rw[ht] at h;cases h
   | false =>
    rw[ht] at h
    refine⟨_,_,h,⟨BLe.refl _,Keep.refl _,λ_ hw=>hw,λ_ _=>rfl,λ{S hv Fm f w n ro K} hs hd kk => ?_⟩⟩
    have h1:=hs.ev x
    rw[he] at h1
    have h2:RVt t S (Go.Proofs.YtgeehfnbhbibeaaGreatDoor.Pad.ev f x) y:=h1.2.2
    obtain⟨U,g1,g2,g3⟩:=@Inv.boxFreeze _ S _ T t.den t.enc _ (Go.Proofs.YtgeehfnbhbibeaaGreatDoor.Pad.ev f x) y (hs.inv.alloc T _) h2
    have g4:RVt (.ref t) U _ y:=na_ g3
    exact lb_ hd (w':=w.alloc (.cells (Go.Proofs.YtgeehfnbhbibeaaGreatDoor.Pad.ev f x).cells T)) (by simp[execOp,Instr.box,newVar,newRow]) (kk _ U hv _ g1 (λ_ _=>rfl) ⟨rfl,rfl,g4⟩ g2)
  ·rename_i t y he
   refine⟨_,_,h,⟨BLe.refl _,Keep.refl _,λ_ hw=>hw,λ_ _=>rfl,λ{S hv Fm f w n ro K} hs hd kk => ?_⟩⟩
   have h1:=hs.ev x
   rw[he] at h1
   have h2:RVt t S (Go.Proofs.YtgeehfnbhbibeaaGreatDoor.Pad.ev f x) y:=h1.2
   obtain⟨U,g1,g2,g3⟩:=@Inv.boxFreeze _ S _ T t.den t.enc _ (Go.Proofs.YtgeehfnbhbibeaaGreatDoor.Pad.ev f x) y (hs.inv.alloc T _) h2
   have g4:RVt (.ref t) U _ y:=na_ g3
   exact lb_ hd (w':=w.alloc (.cells (Go.Proofs.YtgeehfnbhbibeaaGreatDoor.Pad.ev f x).cells T)) (by simp[execOp,Instr.box,newVar,newRow]) (kk _ U hv _ g1 (λ_ _=>rfl) ⟨rfl,rfl,g4⟩ g2)
  ·rename_i l he
   obtain⟨t,_,h⟩:=bnd h
   obtain⟨y,hy,h⟩:=bnd h
   refine⟨_,_,h,⟨BLe.refl _,Keep.refl _,λ_ hw=>hw,λ_ _=>rfl,λ{S hv Fm f w n ro K} hs hd kk => ?_⟩⟩
   have h1:=hs.ev x
   rw[he] at h1
   have h2:RVt t S (Go.Proofs.YtgeehfnbhbibeaaGreatDoor.Pad.ev f x) y:=gn_ h1 hy
   obtain⟨U,g1,g2,g3⟩:=@Inv.boxFreeze _ S _ T t.den t.enc _ (Go.Proofs.YtgeehfnbhbibeaaGreatDoor.Pad.ev f x) y (hs.inv.alloc T _) h2
   have g4:RVt (.ref t) U _ y:=na_ g3
   exact lb_ hd (w':=w.alloc (.cells (Go.Proofs.YtgeehfnbhbibeaaGreatDoor.Pad.ev f x).cells T)) (by simp[execOp,Instr.box,newVar,newRow]) (kk _ U hv _ g1 (λ_ _=>rfl) ⟨rfl,rfl,g4⟩ g2)
  ·cases h
 ·cases h
def bo7 (P:Program) [Tb P] (o:Oper) (sl:Nat→AV) (objs:List AO) (fr:Nat) (k:AV→List AO→Option ρ):Option ρ :=
 cond (isZ o) (stepZ o sl objs k) (cond (isX o.op) (ci1 P o sl objs fr k) (cond (isM o.op) (bo5 P o sl objs fr k) (stepP P o sl objs λa=>k a objs)))
theorem ad5 {o:Oper} (h:bo7 P o sl objs fr k=some r):∃ av objs',k av objs'=some r∧OpOk P o sl objs av objs':=by
 unfold bo7 at h
 cases hz:isZ o with
 | true=>rw[hz] at h;exact ch9 h
 | false =>
 rw[hz] at h
 have h:cond (isX o.op) (ci1 P o sl objs fr k) (cond (isM o.op) (bo5 P o sl objs fr k) (stepP P o sl objs λa=>k a objs))=some r:=h
 cases hx:isX o.op with
 | true=>rw[hx] at h;exact ci0 h
 | false =>
  rw[hx] at h
  have h:cond (isM o.op) (bo5 P o sl objs fr k) (stepP P o sl objs λa=>k a objs)=some r:=h
  cases hm:isM o.op with
  | true=>rw[hm] at h;exact ci3 h
  | false =>
   rw[hm] at h
   obtain⟨av,h1,h2⟩:=ad2 (show stepP P o sl objs (λa=>k a objs)=some r from h)
   exact⟨av,objs,h1,h2⟩
def stepG (P:Program) [Tb P] (o:Oper) (sl:Nat→AV) (objs:List AO) (fr:Nat) (k:AV→List AO→Option ρ):Option ρ:=match o.op with
 | .load T x=>takeG P T (evA sl x) objs fr k (bo7 P o sl objs fr k)
 | .store T p v=>match o.dst with
  | none=>putG P T (evA sl p) (evA sl v) objs k (bo7 P o sl objs fr k)
  | some _=>none
 | _=>none
def ci6 (P:Program) [Tb P] (o:Oper) (sl:Nat→AV) (objs:List AO) (fr:Nat) (k:AV→List AO→Option ρ):Option ρ:=match isGn o with
 | some q=>newG P q o sl objs fr k
 | none=>cond (cn9 o) (stepG P o sl objs fr k) (bo7 P o sl objs fr k)
theorem ci5 {o:Oper} (h:ci6 P o sl objs fr k=some r):∃ av objs',k av objs'=some r∧OpOk P o sl objs av objs':=by
 unfold ci6 at h
 split at h
 ·exact newG_ok h
 ·cases hg:cn9 o with
  | false=>rw[hg] at h;exact ad5 h
  | true =>
   rw[hg] at h
   have h:stepG P o sl objs fr k=some r:=h
   obtain⟨dd,op,ty,pos,af,gd⟩:=o
   unfold stepG at h
   simp only at h
   split at h
   ·rcases ch6 h with h | h
    ·exact ad5 h
    ·exact h
   ·split at h
    ·rcases putG_ok h with h | h
     ·exact ad5 h
     ·exact h
    ·cases h
   ·cases h
end
end
section
variable [Gb]
def OpUn (P:Program) [Tb P] (o:Oper) (sl:Nat→AV) (objs:List AO) (av:AV) (objs':List AO):Prop :=
 ∀ {S:PH} {hv:Nat→Value} {Fm:List HP} {f:Fr} {w:World} {n:Nat} {ro:Option Nat} {K:Fr→World→Prop},Sit S hv Fm sl objs f w→ey_ n o.dst=true →
  (∀ v S' hv' w',BLe objs objs'→Keep objs objs'→WfO objs'→av.lt objs'=true→S.Le S'→Ag objs hv hv'→RA hv' S' av v→Inv w' S' (OHs hv' 0 objs'++Fm)→K (wy_ f o.dst v) w')→OP P n ro o f w K
theorem OpOk.un {P:Program} [Tb P] {o:Oper} {sl:Nat→AV} {objs:List AO} {av:AV} {objs':List AO} (h:OpOk P o sl objs av objs'):OpUn P o sl objs av objs' :=
 λhs hd kk=>h.run hs hd λv S' hv' w' a b c d=>kk v S' hv' w' h.ble h.keep (h.wfo hs.wfs hs.wfo) (h.lt hs.wfs hs.wfo) a b c d
theorem lf_ {w:World} {S:PH} {O:List HP} (h:Inv w S O):Inv w S (HP.exact Hp.emp::O) :=
 ⟨h.os,h.out,Hp.emp,rfl,λb=>.inl rfl,by
  have e:Hp.un Hp.emp S.m=S.m:=by funext b;simp[Hp.un,Hp.emp]
  rw[e]
  exact h.own⟩
def rsF (ob:List AO) (o:Nat) (s:SV):SV:=match ob[o]? with
 | some (.froz t x)=>.val t x
 | _=>s
def rsS (ob:List AO):SV→SV
 | .row o=>rsF ob o (.row o)
 | .ptr o 0=>rsF ob o (.ptr o 0)
 | s=>s
def rsB (ob:List AO):BV→BV
 | .one s=>.one (rsS ob s)
 | .agg l=>.agg (l.map (rsS ob))
 | x=>x
def rsA (ob:List AO):AV→AV
 | .b x=>.b (rsB ob x)
 | .tup l=>.tup (l.map (rsB ob))
def rsl (ob:List AO) (sl:Nat→AV) (d:Nat):AV:=rsA ob (sl d)
theorem Fa.map {α β γ:Type} {R:α→γ→Prop} {R':β→γ→Prop} {f:α→β} (h:∀ a c,R a c→R' (f a) c):∀ {l:List α} {m:List γ},Fa R l m→Fa R' (l.map f) m
 | [],[],_=>trivial
 | _::_,_::_,k=>⟨h _ _ k.1,Fa.map h k.2⟩
theorem tb_ {v:Value} {a:Addr} (h:v=ay_ (.pointer (some a)) 0):v = .pointer (some a):=by
 rw[h]
 simp[ay_,Addr.add]
section
variable {S:PH} {hv:Nat→Value} {Fm:List HP} {ob:List AO} {w:World}
theorem bz2 (hI:Inv w S (OHs hv 0 ob++Fm)) {o:Nat} {t:Ty} {x:t.den} (ho:ob[o]?=some (.froz t x)):t.agg=false∧(hv o).oneCell'=true∧RVt t S (hv o) x:=by
 obtain⟨L,h1,_⟩:=OHs.focus (hv:=hv) (i:=0) ho
 rw[b0_] at h1
 obtain⟨k,⟨_,h2,h3,h4⟩,_⟩:=(hI.perm (h1.append_right Fm)).open_
 exact⟨h2,h3,h4⟩
theorem cs8 (hI:Inv w S (OHs hv 0 ob++Fm)) {s:SV} {v:Value} (h:RS hv S s v):RS hv S (rsS ob s) v:=by
 have gen:∀ o s',v.oneCell'=true→(∀ t x,ob[o]?=some (AO.froz t x)→v=hv o)→RS hv S s' v→RS hv S (rsF ob o s') v:=λo s' h1 h2 h3=>by
  unfold rsF
  split
  ·rename_i t x ho
   obtain⟨g1,g2,g3⟩:=bz2 hI ho
   exact⟨h1,g1,by rw[h2 t x ho];exact g3⟩
  ·exact h3
 unfold rsS
 split
 ·rename_i o
  exact gen o _ h.1 (λ_ _ _=>h.2) h
 ·rename_i o
  refine gen o _ h.1 (λt x ho => ?_) h
  obtain⟨g1,g2,g3⟩:=bz2 hI ho
  have h2:(∃ a,v = .pointer (some a))∧v=ay_ (hv o) 0:=h.2
  obtain⟨⟨a,rfl⟩,h3⟩:=h2
  cases hh:hv o with
  | pointer p =>
   cases p with
   | none=>rw[hh] at h3;simp[ay_] at h3
   | some b =>
    rw[hh] at h3
    exact tb_ h3
  | _=>rw[hh] at h3;simp[ay_] at h3
 ·exact h
theorem ct0 (hI:Inv w S (OHs hv 0 ob++Fm)) {s:BV} {v:Value} (h:RB hv S s v):RB hv S (rsB ob s) v:=by
 cases s with
 | dead=>trivial
 | one s=>exact cs8 hI h
 | val t x=>exact h
 | agg l=>obtain⟨cs,e,h⟩:=h;exact⟨cs,e,Fa.map (f:=rsS ob) (λ_ _=>cs8 hI) h⟩
theorem ba3 (hI:Inv w S (OHs hv 0 ob++Fm)) {s:AV} {v:Value} (h:RA hv S s v):RA hv S (rsA ob s) v:=by
 cases s with
 | b x=>exact ct0 hI h
 | tup l=>obtain⟨cs,e,h⟩:=h;exact⟨cs,e,Fa.map (f:=rsB ob) (λ_ _=>ct0 hI) h⟩
theorem cs9 {n:List AO} {s:SV} (h:s.lt n=true):(rsS ob s).lt n=true:=by
 unfold rsS rsF
 split
 ·split
  ·rfl
  ·exact h
 ·split
  ·rfl
  ·exact h
 ·exact h
theorem bh2 {α:Type} {p:α→Bool} {f:α→α} (hf:∀ a,p a=true→p (f a)=true) {l:List α} (h:fb_ p l=true):fb_ p (l.map f)=true:=by
 refine hn_ λa ha => ?_
 obtain⟨b,hb,rfl⟩:=d2_.1 ha
 exact hf b (bg_ h b hb)
theorem ct1 {n:List AO} {s:BV} (h:s.lt n=true):(rsB ob s).lt n=true:=by
 cases s with
 | dead=>rfl
 | one s=>exact cs9 h
 | val t x=>rfl
 | agg l=>exact bh2 (f:=rsS ob) (p:=SV.lt n) (λ_=>cs9) h
theorem rsA_lt {n:List AO} {s:AV} (h:s.lt n=true):(rsA ob s).lt n=true:=by
 cases s with
 | b x=>exact ct1 h
 | tup l=>exact bh2 (f:=rsB ob) (p:=BV.lt n) (λ_=>ct1) h
theorem Sit.rs {sl:Nat→AV} {f:Fr} (h:Sit S hv Fm sl ob f w):Sit S hv Fm (rsl ob sl) ob f w :=
 ⟨h.inv,λd=>ba3 h.inv (h.rel d),λd=>rsA_lt (h.wfs d),h.wfo,h.gl⟩
end
def as6 (ob:List AO) (o:Nat):List AO:=match ob[o]? with
 | some (.row t _ l false)=>ob.set o (.froz (.list t) l)
 | some (.grid G l none false)=>ob.set o (.froz (.list G.t) l)
 | _=>ob
def wp_:List AO→List Nat→List AO
 | ob,[]=>ob
 | ob,o::os=>wp_ (as6 ob o) os
section
variable {Fm:List HP} {ob:List AO} {w:World} {hv:Nat→Value}
theorem zw_ {t:Ty} {S:PH} {v:Value} {x:t.den} (h0:t.agg=false) (h:RVt t S v x):v.oneCell'=true:=ms_ (ox_ h0 h)
theorem bz1 {S:PH} {o:Nat} (hI:Inv w S (OHs hv 0 ob++Fm)):∃ S',S.Le S'∧Inv w S' (OHs hv 0 (as6 ob o)++Fm):=by
 unfold as6
 split
 ·rename_i t T l ho
  obtain⟨L,h1,h2⟩:=OHs.focus (hv:=hv) (i:=0) ho
  rw[b0_] at h1 h2
  obtain⟨U,g1,g2,g3⟩:=Inv.rowFreeze (hI.perm (h1.append_right Fm))
  refine⟨U,g1,?_⟩
  have h3:RVt (.list t) U (hv o) l:=g3
  have h4:=lf_ g2
  refine Inv.perm (O:=OH hv (hv o) (.froz (.list t) l)::(L++Fm)) ?_ ((h2 (.froz (.list t) l)).symm.append_right Fm)
  obtain⟨k,hk,hI'⟩:=h4.open_
  refine Inv.shut hI' ?_
  exact⟨hk,rfl,zw_ rfl h3,h3⟩
 ·rename_i G l ho
  obtain⟨L,h1,h2⟩:=OHs.focus (hv:=hv) (i:=0) ho
  rw[b0_] at h1 h2
  obtain⟨U,g1,g2,h3⟩:=Inv.gridDone (show Inv w S (kr_ hv (hv o) G l none::(L++Fm)) from hI.perm (h1.append_right Fm))
  refine⟨U,g1,?_⟩
  have h4:=lf_ g2
  refine Inv.perm (O:=OH hv (hv o) (.froz (.list G.t) l)::(L++Fm)) ?_ ((h2 (.froz (.list G.t) l)).symm.append_right Fm)
  obtain⟨k,hk,hI'⟩:=h4.open_
  refine Inv.shut hI' ?_
  exact⟨hk,rfl,zw_ rfl h3,h3⟩
 ·exact⟨S,PH.Le.refl S,hI⟩
theorem frz1_ble {o:Nat}:BLe ob (as6 ob o):=by
 unfold as6
 split
 ·exact be_ (by simp)
 ·exact be_ (by simp)
 ·exact BLe.refl _
theorem frz1_keep {o:Nat}:Keep ob (as6 ob o):=by
 unfold as6
 split
 ·rename_i t T l ho
  exact cd_ ho trivial
 ·rename_i G l ho
  exact cd_ ho trivial
 ·exact Keep.refl _
theorem be1 {o:Nat} (h:WfO ob):WfO (as6 ob o):=by
 unfold as6
 split
 ·exact dx_ (by simp) h rfl
 ·exact dx_ (by simp) h rfl
 ·exact h
theorem co5 {o:Nat}:(as6 ob o).length=ob.length:=by
 unfold as6
 split
 ·simp
 ·simp
 ·rfl
end
section
variable {Fm:List HP} {w:World} {hv:Nat→Value}
theorem yj_:∀ {os:List Nat} {ob:List AO} {S:PH},Inv w S (OHs hv 0 ob++Fm)→∃ S',S.Le S'∧Inv w S' (OHs hv 0 (wp_ ob os)++Fm)
 | [],ob,S,h=>⟨S,PH.Le.refl S,h⟩
 | o::os,ob,S,h=>by
  obtain⟨S1,a,b⟩:=bz1 (o:=o) h
  obtain⟨S2,c,d⟩:=yj_ (os:=os) b
  exact⟨S2,a.trans c,d⟩
theorem frzL_ble:∀ {os:List Nat} {ob:List AO},BLe ob (wp_ ob os)
 | [],ob=>BLe.refl _
 | o::os,ob=>frz1_ble.trans (frzL_ble (os:=os))
theorem frzL_keep:∀ {os:List Nat} {ob:List AO},Keep ob (wp_ ob os)
 | [],ob=>Keep.refl _
 | o::os,ob=>frz1_keep.trans (frzL_keep (os:=os))
theorem sz_:∀ {os:List Nat} {ob:List AO},WfO ob→WfO (wp_ ob os)
 | [],ob,h=>h
 | o::os,ob,h=>sz_ (os:=os) (be1 h)
theorem be0:∀ {os:List Nat} {ob:List AO},(wp_ ob os).length=ob.length
 | [],ob=>rfl
 | o::os,ob=>(be0 (os:=os)).trans co5
theorem Sit.frz {S:PH} {sl:Nat→AV} {ob:List AO} {f:Fr} (h:Sit S hv Fm sl ob f w) (os:List Nat):∃ S',S.Le S'∧Sit S' hv Fm (rsl (wp_ ob os) sl) (wp_ ob os) f w:=by
 obtain⟨S',h1,h2⟩:=yj_ (os:=os) h.inv
 exact⟨S',h1,Sit.rs ⟨h2,λd=>RA.mono h1 (h.rel d),λd=>AV.lt_mono frzL_ble (h.wfs d),sz_ h.wfo,h.gl.mono h1⟩⟩
end
theorem OpUn.frz {P:Program} [Tb P] {o:Oper} {sl:Nat→AV} {ob ob':List AO} {av:AV} {os:List Nat} (h:OpUn P o (rsl (wp_ ob os) sl) (wp_ ob os) av ob'):OpUn P o sl ob av ob':=by
 intro S hv Fm f w n ro K hs hd kk
 obtain⟨S1,h1,hs1⟩:=hs.frz os
 exact h hs1 hd λv S' hv' w' a b c d e g i j=>kk v S' hv' w' (frzL_ble.trans a) (frzL_keep.trans b) c d (h1.trans e) (λo ho=>g o (frzL_ble o ho)) i j
theorem OpUn.rest {P:Program} [Tb P] {o:Oper} {sl:Nat→AV} {ob ob':List AO} {av:AV} {m:Nat} (h:OpUn P o sl (xg_ ob m) av ob'):OpUn P o sl ob av ob':=by
 intro S hv Fm f w n ro K hs hd kk
 obtain⟨b1,b2,b3⟩:=qk_ (ob:=ob) m
 have hs1:Sit S hv Fm sl (xg_ ob m) f w:=⟨wf_ hs.inv m,hs.rel,λd=>AV.lt_mono b1 (hs.wfs d),b3 hs.wfo,hs.gl⟩
 exact h hs1 hd λv S' hv' w' a b c d e g i j=>kk v S' hv' w' (b1.trans a) (b2.trans b) c d e (λo ho=>g o (b1 o ho)) i j
theorem OpUn.rs {P:Program} [Tb P] {o:Oper} {sl:Nat→AV} {ob ob':List AO} {av:AV} (h:OpUn P o (rsl ob sl) ob av ob'):OpUn P o sl ob av ob':=OpUn.frz (os:=[]) h
def idsS:SV→List Nat
 | .row o | .ptr o _ | .ptrE o _ _ _ _ | .map o | .fn o | .arr o=>[o]
 | _=>[]
def idsL:List SV→List Nat
 | []=>[]
 | s::l=>idsS s++idsL l
def idsB:BV→List Nat
 | .one s=>idsS s
 | .agg l=>idsL l
 | _=>[]
def cu8:AV→List Nat
 | .b x=>idsB x
 | .tup l=>go l
 where go:List BV→List Nat
 | []=>[]
 | x::l=>idsB x++go l
def idsX (env:Nat→AV):List Operand→List Nat
 | []=>[]
 | x::l=>cu8 (evA env x)++idsX env l
def fzIds (o:Oper) (sl:Nat→AV):List Nat:=cond (cn9 o) [] (match o.op with
 | .buildSlice _ _ ps=>idsX sl (ps.toList.map (·.2))
 | .store _ p v=>match evA sl p with
  | .b (.one (.ptrE _ _ _ _ _))=>cu8 (evA sl v)
  | _=>[]
 | _=>[])
end
section
variable [Gb]
def cx1 (P:Program) [Tb P] (g:AV) (args:List AV) (objs:List AO) (av:AV) (objs':List AO):Prop :=
 ∀ {S:PH} {hv:Nat→Value} {Fm:List HP} {w:World} {gv:Value} {vs:List Value},GlS S→Inv w S (OHs hv 0 objs++Fm)→WfO objs→RA hv S g gv→Fa (RA hv S) args vs→(∀ a ∈ args,a.lt objs=true) →
  ∃ (kf:FuncId) (cap:List Value),gv = .func (.func kf) #[] cap.toArray∧eh_ P kf ∧
   Calls P kf (vs++cap).toArray w λe w'=>∃ v S' hv',e = .returned v∧BLe objs objs'∧Keep objs objs'∧WfO objs'∧av.lt objs'=true∧S.Le S'∧Ag objs hv hv'∧RA hv' S' av v∧Inv w' S' (OHs hv' 0 objs'++Fm)
structure Cx (P:Program) [Tb P] where
 need:Oper→Nat
 call:(ρ:Type)→Oper→(Nat→AV)→List AO→Nat→(AV→List AO→Option ρ)→Option ρ
 ok:∀ {ρ:Type} {o:Oper} {sl:Nat→AV} {objs:List AO} {fr:Nat} {k:AV→List AO→Option ρ} {r:ρ},call ρ o sl objs fr k=some r→∃ av objs',k av objs'=some r∧OpUn P o sl objs av objs'
 callV:(ρ:Type)→AV→List AV→List AO→(AV→List AO→Option ρ)→Option ρ
 okV:∀ {ρ:Type} {g:AV} {args:List AV} {objs:List AO} {k:AV→List AO→Option ρ} {r:ρ},callV ρ g args objs k=some r→∃ av objs',k av objs'=some r∧cx1 P g args objs av objs'
def isNew:Op→Bool
 | .box _ _ | .alloc _ | .buildSlice _ _ _ | .makeSlice _ _ _ | .makeFunc _ _ _ | .makeMap _ _ | .slice _ _ _ _ _=>true
 | .call ⟨.builtin .append,_,_⟩=>true
 | _=>false
def bd1:Op→Bool
 | .call ⟨.builtin _,_,_⟩=>false
 | .call _=>true
 | _=>false
def cg0 (sl:Nat→AV) (d:Nat) (v:AV):Nat→AV:=λi=>cond (Nat.beq i d) v (sl i)
def stA (s:A) (d:Option Nat) (av:AV) (ob:List AO):A:=⟨match d with
 | some d=>cg0 s.slot d av
 | none=>s.slot,ob⟩
def unA:AV→Bool
 | .tup []=>true
 | _=>false
theorem bn4 {hv:Nat→Value} {S:PH} {a:AV} {v:Value} (h:unA a=true) (hr:RA hv S a v):v=undef:=by
 unfold unA at h
 split at h
 ·obtain⟨vs,e,hf⟩:=hr
  cases vs with
  | nil=>exact e
  | cons _ _=>exact hf.elim
 ·cases h
theorem un_ra {hv:Nat→Value} {S:PH}:RA hv S (.tup []) undef:=⟨[],rfl,trivial⟩
section
variable {ρ:Type} {P:Program} [Tb P]
def frcS (s:SV) (k:SV→Option ρ):Option ρ:=match s with
 | .dead=>k .dead
 | .val t x=>k (.val t x)
 | .nils=>k .nils
 | .nilp=>k .nilp
 | .nilm=>k .nilm
 | .row o=>k (.row o)
 | .ptr o i=>k (.ptr o i)
 | .ptrE o i j z p=>k (.ptrE o i j z p)
 | .map o=>k (.map o)
 | .fn o=>k (.fn o)
 | .arr o=>k (.arr o)
def frcA (a:AV) (k:AV→Option ρ):Option ρ:=match a with
 | .b .dead=>k (.b .dead)
 | .b (.one s)=>frcS s λs=>k (.b (.one s))
 | .b (.val t x)=>k (.b (.val t x))
 | .b (.agg l)=>k (.b (.agg l))
 | .tup l=>k (.tup l)
def frcO (a:AO) (k:AO→Option ρ):Option ρ:=match a with
 | .unborn=>k .unborn
 | .gone=>k .gone
 | .row t T l r=>k (.row t T l r)
 | .cells T l r=>k (.cells T l r)
 | .map a b m r=>k (.map a b m r)
 | .fn f a b=>k (.fn f a b)
 | .froz t x=>k (.froz t x)
 | .grid G l h r=>k (.grid G l h r)
 | .yld Y st r=>k (.yld Y st r)
def cg5:List AO→(List AO→Option ρ)→Option ρ
 | [],k=>k []
 | a::l,k=>frcO a λa=>cg5 l λl=>k (a::l)
theorem frcS_eq (s:SV) (k:SV→Option ρ):frcS s k=k s:=by cases s<;>rfl
theorem ai5 (a:AV) (k:AV→Option ρ):frcA a k=k a:=by
 cases a with
 | b x =>
  cases x with
  | one s=>exact frcS_eq s λs=>k (.b (.one s))
  | _=>rfl
 | tup l=>rfl
theorem frcO_eq (a:AO) (k:AO→Option ρ):frcO a k=k a:=by cases a<;>rfl
theorem ug_:∀ (l:List AO) (k:List AO→Option ρ),cg5 l k=k l
 | [],_=>rfl
 | a::l,k=>by unfold cg5;rw[frcO_eq,ug_]
def zu_ (cx:Cx P) (o:Oper) (sl:Nat→AV) (objs:List AO) (fr:Nat) (k:AV→List AO→Option ρ):Option ρ :=
 cond (bd1 o.op) (cx.call ρ o (rsl objs sl) objs fr k) (ci6 P o (rsl objs sl) objs fr k)
def bo6 (cx:Cx P) (o:Oper) (sl:Nat→AV) (objs:List AO) (fr:Nat) (k:AV→List AO→Option ρ):Option ρ :=
 cond (cn9 o) (zu_ cx o sl (xg_ objs objs.length) fr k) (zu_ cx o sl (wp_ objs (fzIds o sl)) fr k)
def ndO (cx:Cx P) (o:Oper):Nat:=cond (isNew o.op||cn9 o) 1 (cx.need o)
def run1 (cx:Cx P) (n:Nat) (o:Oper) (s:A) (k:A→Option ρ):Option ρ :=
 cond (ey_ n o.dst) (bo6 cx o s.slot (s.objs++List.replicate (ndO cx o) .unborn) s.objs.length λav ob=>frcA av λav=>cg5 ob λob=>k (stA s o.dst av ob)) none
def co0 (o o2:Oper):Bool:=match o.op,o.dst with
 | .slice T _ (some _) none none,some d=>match o2.op,o2.dst,o2.guard with
  | .call ⟨.builtin .clear,⟨[.tmp d2]⟩,⟨[T2]⟩⟩,none,none=>Nat.beq d d2&&Nat.beq T T2
  | _,_,_=>false
 | _,_=>false
def endX (P:Program) [Tb P] (n:Nat) (o:Oper) (s:A) (k:A→Option ρ):Option ρ:=match o.op,o.dst with
 | .slice T x (some y) none none,some d=>match evA s.slot x with
  | .b (.one (.row p))=>match s.objs[p]? with
   | some (.row t B l false)=>(elemOf P T).bind λE=>(asD .int (evA s.slot y)).bind λa=>(rf_ P E t).bind λz=>cond (Nat.blt d n&&Nat.beq B E&&aq1 P E t)
     ((sub? l a (l.length:Nat)).bind λ_=>cg5 (s.objs.set p (.row t E (l.take a.toNat++List.replicate (l.length - a.toNat) z) false)) λob=>k ⟨cg0 s.slot d (.b .dead),ob⟩) none
   | _=>none
  | _=>none
 | _,_=>none
def ol_ (cx:Cx P) (n:Nat) (all:List Oper):List Oper→A→(A→Option ρ)→Option ρ
 | [],s,k=>k s
 | o::os,s,k=>match o.guard with
  | none=>match os with
   | []=>run1 cx n o s k
   | o2::os2=>cond (co0 o o2) (endX P n o s λs=>ol_ cx n all os2 s k) (run1 cx n o s λs=>ol_ cx n all (o2::os2) s k)
  | some (j,b)=>(all[j]?).bind λoj=>oj.dst.bind λd=>cond (Nat.blt d n) (cond (unA (s.slot d)) (cond (ey_ n o.dst) (ol_ cx n all os (stA s o.dst (.tup []) s.objs) k) none) ((asD .bool (s.slot d)).bind λc =>
    cond c (cond b (run1 cx n o (stA s (some d) (bV true) s.objs) λs=>ol_ cx n all os s k) (cond (ey_ n o.dst) (ol_ cx n all os (stA (stA s (some d) (bV true) s.objs) o.dst (.tup []) s.objs) k) none))
     (cond b (cond (ey_ n o.dst) (ol_ cx n all os (stA (stA s (some d) (bV false) s.objs) o.dst (.tup []) s.objs) k) none) (run1 cx n o (stA s (some d) (bV false) s.objs) λs=>ol_ cx n all os s k)))) none
end
def Rl (S0:PH) (hv0:Nat→Value) (ob0:List AO) (Fm:List HP) (s:A) (f:Fr) (w:World):Prop :=
 ∃ S hv Ds,S0.Le S∧Ag ob0 hv0 hv∧BLe ob0 s.objs∧Sit S hv (py_ Ds::Fm) s.slot s.objs f w∧f.ds=cm6 Ds
theorem Ag.trans {l:List AO} {a b c:Nat→Value} (h:Ag l a b) (k:Ag l b c):Ag l a c:=λi hi=>(h i hi).trans (k i hi)
theorem Ag.sub {l m:List AO} {a b:Nat→Value} (h:Ag m a b) (hl:BLe l m):Ag l a b:=λi hi=>h i (hl i hi)
theorem at1 {hv:Nat→Value} {S:PH} {sl:Nat→AV} {f:Fr} {d:Nat} {av:AV} {v:Value} (h:∀ i,RA hv S (sl i) (f i)) (hr:RA hv S av v):∀ i,RA hv S (cg0 sl d av i) (upd f d v i):=by
 intro i
 show RA hv S (cond (Nat.beq i d) av (sl i)) (cond (Nat.beq i d) v (f i))
 cases Nat.beq i d with
 | true=>exact hr
 | false=>exact h i
theorem Sit.put {S:PH} {hv:Nat→Value} {Fm:List HP} {s:A} {f:Fr} {w:World} (h:Sit S hv Fm s.slot s.objs f w) {d:Option Nat} {av:AV} {v:Value} (hr:RA hv S av v) (hl:av.lt s.objs=true) :
  Sit S hv Fm (stA s d av s.objs).slot s.objs (wy_ f d v) w:=by
 cases d with
 | none=>exact h
 | some d=>exact⟨h.inv,at1 h.rel hr,λi=>by
   show (cond (Nat.beq i d) av (s.slot i)).lt s.objs=true
   cases Nat.beq i d with
   | true=>exact hl
   | false=>exact h.wfs i,h.wfo,h.gl⟩
theorem tq_ {f:Fr} {d:Option Nat} {v:Value}:(wy_ f d v).ds=f.ds:=by cases d<;>rfl
theorem aa6 (hv:Nat→Value):∀ (k i:Nat),OHs hv i (List.replicate k .unborn)=List.replicate k (HP.exact Hp.emp)
 | 0,_=>rfl
 | k+1,i=>by
  rw[l4_,l4_]
  simp only[OHs]
  rw[aa6 hv k (i+1)]
  rfl
theorem bd2 {w:World} {S:PH} {O:List HP} (h:Inv w S O):∀ k,Inv w S (List.replicate k (HP.exact Hp.emp)++O)
 | 0=>h
 | k+1=>by rw[l4_];exact lf_ (bd2 h k)
theorem wt_ {l:List AO} {k o:Nat}:born l o=true→born (l++List.replicate k .unborn) o=true:=by
 intro h
 obtain⟨a,h1,h2⟩:=ax_.1 h
 refine ax_.2 ⟨a,?_,h2⟩
 rw[b1_ (a4_.1 h1).1]
 exact h1
theorem Sit.ext {S:PH} {hv:Nat→Value} {Fm:List HP} {sl:Nat→AV} {objs:List AO} {f:Fr} {w:World} (h:Sit S hv Fm sl objs f w) (k:Nat):Sit S hv Fm sl (objs++List.replicate k .unborn) f w where
 inv:=by
  rw[OHs.app,aa6]
  have:=bd2 h.inv k
  refine this.perm ?_
  rw[← b3_]
  exact List.perm_append_comm.append_right Fm
 rel:=h.rel
 wfs d:=AV.lt_mono (λ_=>wt_) (h.wfs d)
 wfo a ha:=by
  rcases b5_.1 ha with h1 | h1
  ·exact AO.lt_mono (λ_=>wt_) (h.wfo a h1)
  ·obtain rfl:=List.eq_of_mem_replicate h1;rfl
 gl:=h.gl
theorem qf_ {s:A} {dd:Option Nat} {av:AV} {ob:List AO} {d:Nat} (h:dd≠some d):(stA s dd av ob).slot d=s.slot d:=by
 cases dd with
 | none=>rfl
 | some e =>
  have hb:Nat.beq d e=false:=by
   cases hb:Nat.beq d e with
   | false=>rfl
   | true=>rw[a3_ hb] at h;exact absurd rfl h
  show cond (Nat.beq d e) _ _=_
  rw[hb]
  rfl
section
variable {ρ:Type} {P:Program} [Tb P] {cx:Cx P} {n:Nat} {r:ρ} {ro:Option Nat} {S0:PH} {hv0:Nat→Value} {ob0:List AO} {Fm:List HP}
theorem ad4 {o:Oper} {sl:Nat→AV} {objs:List AO} {fr:Nat} {k:AV→List AO→Option ρ} (h:bo6 cx o sl objs fr k=some r):∃ av objs',k av objs'=some r∧OpUn P o sl objs av objs':=by
 unfold bo6 at h
 have go:∀ ob,zu_ cx o sl ob fr k=some r→∃ av objs',k av objs'=some r∧OpUn P o (rsl ob sl) ob av objs':=by
  intro ob h
  unfold zu_ at h
  cases hc:bd1 o.op with
  | true =>
   rw[hc] at h
   obtain⟨av,objs',h1,h2⟩:=cx.ok (show cx.call ρ o _ _ fr k=some r from h)
   exact⟨av,objs',h1,h2⟩
  | false =>
   rw[hc] at h
   obtain⟨av,objs',h1,h2⟩:=ci5 (show ci6 P o _ _ fr k=some r from h)
   exact⟨av,objs',h1,h2.un⟩
 cases hg:cn9 o with
 | true =>
  rw[hg] at h
  obtain⟨av,objs',h1,h2⟩:=go _ (show zu_ cx o sl (xg_ objs objs.length) fr k=some r from h)
  exact⟨av,objs',h1,OpUn.rest (OpUn.rs h2)⟩
 | false =>
  rw[hg] at h
  obtain⟨av,objs',h1,h2⟩:=go _ (show zu_ cx o sl (wp_ objs (fzIds o sl)) fr k=some r from h)
  exact⟨av,objs',h1,OpUn.frz h2⟩
def OpTo (P:Program) [Tb P] (n:Nat) (o:Oper) (s s':A):Prop:=(∀ d,o.dst≠some d→s'.slot d=s.slot d) ∧
 ∀ {ro:Option Nat} {S0:PH} {hv0:Nat→Value} {ob0:List AO} {Fm:List HP} {f:Fr} {w:World} {K:Fr→World→Prop},Rl S0 hv0 ob0 Fm s f w→(∀ f' w',Rl S0 hv0 ob0 Fm s' f' w'→Keep s.objs s'.objs→K f' w')→OP P n ro o f w K
theorem au2 {o:Oper} {s:A} {k:A→Option ρ} (h:run1 cx n o s k=some r):∃ s',k s'=some r∧OpTo P n o s s':=by
 unfold run1 at h
 simp only[ai5,ug_] at h
 obtain⟨hd,h⟩:=bo_ h
 obtain⟨av,objs',h1,h2⟩:=ad4 h
 refine⟨_,h1,λd hne=>qf_ hne,λ{ro S0 hv0 ob0 Fm f w K} hr hk => ?_⟩
 obtain⟨S,hv,Ds,hle,hag,hbl,hs,hds⟩:=hr
 have hs2:=hs.ext (ndO cx o)
 refine h2 hs2 hd λv S' hv' w' x1 x2 x3 x4 a b c e => ?_
 have hb1:BLe s.objs (s.objs++List.replicate (ndO cx o) .unborn):=λ_=>wt_
 refine hk _ _ ⟨S',hv',Ds,hle.trans a,hag.trans (b.sub (hbl.trans hb1)),(hbl.trans hb1).trans x1,?_,by rw[tq_];exact hds⟩ ?_
 ·have hs3:Sit S' hv' (py_ Ds::Fm) s.slot objs' f w':=⟨e,λi=>RA.mono a (RA.ag b (hs2.wfs i) (hs2.rel i)),λi=>AV.lt_mono x1 (hs2.wfs i),x3,hs2.gl.mono a⟩
  have:=Sit.put (s:=⟨s.slot,objs'⟩) hs3 (d:=o.dst) c x4
  cases hd2:o.dst <;> (rw[hd2] at this;exact this)
 ·refine Keep.trans (b:=s.objs++List.replicate (ndO cx o) .unborn) (λp c hp=>⟨c,?_,K1.refl c⟩) ?_
  ·rw[b1_ (a4_.1 hp).1];exact hp
  ·have:(stA s o.dst av objs').objs=objs':=rfl
   rw[this]
   exact x2
theorem Rl.setB {s:A} {f:Fr} {w:World} {d:Nat} {c:Bool} (hr:Rl S0 hv0 ob0 Fm s f w) (hc:f d = .bool c):Rl S0 hv0 ob0 Fm (stA s (some d) (bV c) s.objs) f w:=by
 obtain⟨S,hv,Ds,hle,hag,hbl,hs,hds⟩:=hr
 refine⟨S,hv,Ds,hle,hag,hbl,⟨hs.inv,λi => ?_,λi => ?_,hs.wfo,hs.gl⟩,hds⟩
 ·show RA hv S (cond (Nat.beq i d) (bV c) (s.slot i)) (f i)
  cases hb:Nat.beq i d with
  | true =>
   rw[a3_ hb,hc]
   exact qz_ c
  | false=>exact hs.rel i
 ·show (cond (Nat.beq i d) (bV c) (s.slot i)).lt s.objs=true
  cases Nat.beq i d with
  | true=>rfl
  | false=>exact hs.wfs i
theorem Rl.bool {s:A} {f:Fr} {w:World} {d:Nat} {c:Bool} (hr:Rl S0 hv0 ob0 Fm s f w) (h:asD .bool (s.slot d)=some c):f d = .bool c:=by
 obtain⟨S,hv,Ds,hle,hag,hbl,hs,hds⟩:=hr
 exact ep_ (hs.rel d) h
theorem Rl.un {s:A} {f:Fr} {w:World} {d:Option Nat} (hr:Rl S0 hv0 ob0 Fm s f w):Rl S0 hv0 ob0 Fm (stA s d (.tup []) s.objs) (wy_ f d undef) w:=by
 obtain⟨S,hv,Ds,hle,hag,hbl,hs,hds⟩:=hr
 exact⟨S,hv,Ds,hle,hag,hbl,hs.put un_ra rfl,by rw[tq_];exact hds⟩
theorem Rl.isUn {s:A} {f:Fr} {w:World} {d:Nat} (hr:Rl S0 hv0 ob0 Fm s f w) (h:unA (s.slot d)=true):f d=undef:=by
 obtain⟨S,hv,Ds,hle,hag,hbl,hs,hds⟩:=hr
 exact bn4 h (hs.rel d)
structure LTo (P:Program) [Tb P] (n:Nat) (all os:List Oper) (s s':A):Prop where
 slot:∀ d,(∀ o ∈ all,o.dst≠some d)→s'.slot d=s.slot d
 runT:∀ {ro:Option Nat} {S0:PH} {hv0:Nat→Value} {ob0:List AO} {Fm:List HP} {f:Fr} {w:World} {N:Fr→World→Prop} {tail:List Oper},Rl S0 hv0 ob0 Fm s f w→(∀ f' w',Rl S0 hv0 ob0 Fm s' f' w'→Keep s.objs s'.objs→WL P n ro all.toArray N tail f' w')→WL P n ro all.toArray N (os++tail) f w
theorem LTo.run {n:Nat} {all os:List Oper} {s s':A} (L:LTo P n all os s s') {ro:Option Nat} {S0:PH} {hv0:Nat→Value} {ob0:List AO} {Fm:List HP} {f:Fr} {w:World} {N:Fr→World→Prop} (hr:Rl S0 hv0 ob0 Fm s f w) (hk:∀ f' w',Rl S0 hv0 ob0 Fm s' f' w'→Keep s.objs s'.objs→N f' w'):WL P n ro all.toArray N os f w:=by
 have:=L.runT (ro:=ro) (N:=N) (tail:=[]) hr λf' w' h k=>dq_ (hk f' w' h k)
 rwa [e7_] at this
theorem endX_ok {o o2:Oper} {s:A} {kk:A→Option ρ} (he:co0 o o2=true) (h:endX P n o s kk=some r):∃ s',kk s'=some r∧(∀ d,o.dst≠some d→s'.slot d=s.slot d)∧o2.guard=none ∧
  ∀ {ro:Option Nat} {S0:PH} {hv0:Nat→Value} {ob0:List AO} {Fm:List HP} {f:Fr} {w:World} {K:Fr→World→Prop},Rl S0 hv0 ob0 Fm s f w→(∀ f' w',Rl S0 hv0 ob0 Fm s' f' w'→Keep s.objs s'.objs→K f' w')→OP P n ro o f w λf1 w1=>OP P n ro o2 f1 w1 K:=by
 obtain⟨dd,op,ty,pos,af,gd⟩:=o
 obtain⟨dd2,op2,ty2,pos2,af2,gd2⟩:=o2
 unfold co0 at he
 unfold endX at h
 simp only at he h
 split at he
 ·rename_i T x y d
  split at he
  ·rename_i d2 T2
   rw[a1_] at he
   obtain rfl:=a3_ he.1
   obtain rfl:=a3_ he.2
   simp only at h
   split at h
   ·rename_i p hx
    split at h
    ·rename_i t B l ho
     obtain⟨E,hE,h⟩:=bnd h
     have hE:=em_ hE
     obtain⟨a,ha,h⟩:=bnd h
     obtain⟨z,hz,h⟩:=bnd h
     obtain⟨c1,h⟩:=bo_ h
     simp only[a1_] at c1
     obtain⟨⟨c1,c2⟩,c3⟩:=c1
     obtain rfl:=a3_ c2
     obtain⟨m,hm,h⟩:=bnd h
     rw[ug_] at h
     obtain⟨bytes,zv,h1,_,_⟩:=ka_ hz
     have hlt:p<s.objs.length:=(a4_.1 ho).1
     refine⟨_,h,λd' hd' => ?_,rfl,λ{ro S0 hv0 ob0 Fm f w K} hr hk => ?_⟩
     ·show cond (Nat.beq d' d) (.b .dead) (s.slot d')=s.slot d'
      cases hb:Nat.beq d' d with
      | true=>exact absurd (by rw[a3_ hb]) hd'
      | false=>rfl
     obtain⟨S,hv,Ds,hle,hag,hbl,hs,hds⟩:=hr
     obtain⟨L,hI,h2⟩:=hs.at ho
     have hxv:=hs.ev x
     rw[hx] at hxv
     have hxv:ev f x=hv p:=hxv.2
     refine @aw2 ro P n f w _ d ty pos af none x y (hv p) T B t.den t.enc S (L++(py_ Ds::Fm)) l a m c1 hE (hg_ c3) hxv hI (dr_ (hs.ev y) ha) hm λu hu => ?_
     obtain⟨q0,q1,q2,q3⟩:=gq_ hm
     refine @cl7 ro P n (upd f d u) w K ty2 pos2 af2 none (.tmp d) (hv p) u T B t.den t.enc S (L++(py_ Ds::Fm)) l bytes zv z a.toNat #[T] rfl hE h1 (nm_ ..) hI (by omega) hu λw' hI' => ?_
     refine hk _ _ ⟨S,hv,Ds,hle,hag,hbl.trans (be_ (by simp)),⟨xl_ (a:=.row t B (l.take a.toNat++List.replicate (l.length - a.toNat) z) false) h2 hI',at1 hs.rel trivial,λi => ?_,bm1 ho (by simp) hs.wfo rfl,hs.gl⟩,hds⟩ (cd_ ho trivial)
     show (cond (Nat.beq i d) (.b .dead) (s.slot i):AV).lt _=true
     cases Nat.beq i d with
     | true=>rfl
     | false=>exact AV.lt_mono (be_ (by simp)) (hs.wfs i)
    ·cases h
   ·cases h
  ·cases he
 ·cases he
theorem jh_ {all:List Oper}:∀ {os:List Oper} {s:A} {k:A→Option ρ},(∀ o ∈ os,o ∈ all)→ol_ cx n all os s k=some r→∃ s',k s'=some r∧LTo P n all os s s'
 | [],s,k,_,h=>⟨s,h,λ_ _=>rfl,λhr hk=>hk _ _ hr (Keep.refl _)⟩
 | o::os,s,k,hall,h=>by
  have hos:∀ q ∈ os,q ∈ all:=λq hq=>hall q (by simp[hq])
  have hoo:o ∈ all:=hall o (by simp)
  unfold ol_ at h
  split at h
  ·rename_i hg
   split at h
   ·obtain⟨s1,h1,t1,t3⟩:=au2 h
    exact⟨s1,h1,λd hd=>t1 d (hd o hoo),λhr hk=>mq_ hg (t3 hr λf1 w1 hr1 k1=>hk f1 w1 hr1 k1)⟩
   ·rename_i o2 os2
    cases he:co0 o o2 with
    | true =>
     simp only[he,a5_] at h
     obtain⟨s1,h1,t1,t2,t3⟩:=endX_ok he h
     obtain⟨s2,h2,L⟩:=jh_ (λq hq=>hos q (by simp[hq])) h1
     exact⟨s2,h2,λd hd=>(L.slot d hd).trans (t1 d (hd o hoo)),λhr hk=>mq_ hg (OP.mono (t3 hr λf1 w1 hr1 k1=>L.runT hr1 λf2 w2 hr2 k2=>hk f2 w2 hr2 (k1.trans k2)) λf1 w1 q=>mq_ t2 q)⟩
    | false =>
     simp only[he,a2_] at h
     obtain⟨s1,h1,t1,t3⟩:=au2 h
     obtain⟨s2,h2,L⟩:=jh_ hos h1
     exact⟨s2,h2,λd hd=>(L.slot d hd).trans (t1 d (hd o hoo)),λhr hk=>mq_ hg (t3 hr λf1 w1 hr1 k1=>L.runT hr1 λf2 w2 hr2 k2=>hk f2 w2 hr2 (k1.trans k2))⟩
  ·rename_i j b hg
   obtain⟨oj,hj,h⟩:=bnd h
   obtain⟨d,hd,h⟩:=bnd h
   obtain⟨hdn,h⟩:=bo_ h
   have hjd0:(all.toArray[j]?).bind (·.dst)=some d:=by simp[hj,hd]
   cases hun:unA (s.slot d) with
   | true =>
    rw[hun] at h
    obtain⟨h0,h⟩:=bo_ (show cond (ey_ n o.dst) _ none=some r from h)
    obtain⟨s2,h2,L⟩:=jh_ hos h
    exact⟨s2,h2,λd' hd'=>(L.slot d' hd').trans (qf_ (hd' o hoo)),λ{ro S0 hv0 ob0 Fm f w N tail} hr hk =>
     bm4 hg hjd0 hdn (hr.isUn hun) h0 (L.runT (Rl.un hr) hk)⟩
   | false =>
   rw[hun] at h
   obtain⟨c,hc,h⟩:=bnd (show Option.bind _ _=some r from h)
   have hjd:(all.toArray[j]?).bind (·.dst)=some d:=by simp[hj,hd]
   have hjn:∀ d',(∀ q ∈ all,q.dst≠some d')→(some d:Option Nat)≠some d':=λd' hd' e=>hd' oj (b2_ hj) (hd.trans e)
   have go:∀ c',c'=c→c'=b→run1 cx n o (stA s (some d) (bV c') s.objs) (λs=>ol_ cx n all os s k)=some r→∃ s',k s'=some r∧LTo P n all (o::os) s s':=λc' e e2 h=>by
    obtain⟨s1,h1,t1,t3⟩:=au2 h
    obtain⟨s2,h2,L⟩:=jh_ hos h1
    exact⟨s2,h2,λd' hd'=>(L.slot d' hd').trans ((t1 d' (hd' o hoo)).trans (qf_ (hjn d' hd'))),λhr hk =>
     ay8 hg hjd hdn (hr.bool hc) (e ▸ e2) (t3 (by rw[e];exact hr.setB (hr.bool hc)) λf1 w1 hr1 k1=>L.runT hr1 λf2 w2 hr2 k2=>hk f2 w2 hr2 (k1.trans k2))⟩
   have no:∀ c',c'=c→c' = !b→cond (ey_ n o.dst) (ol_ cx n all os (stA (stA s (some d) (bV c') s.objs) o.dst (.tup []) s.objs) k) none=some r→∃ s',k s'=some r∧LTo P n all (o::os) s s':=λc' e e2 h=>by
    obtain⟨h0,h⟩:=bo_ h
    obtain⟨s2,h2,L⟩:=jh_ hos h
    exact⟨s2,h2,λd' hd'=>(L.slot d' hd').trans ((qf_ (hd' o hoo)).trans (qf_ (hjn d' hd'))),λ{ro S0 hv0 ob0 Fm f w N tail} hr hk =>
     wl_skip hg hjd hdn (hr.bool hc) (e ▸ e2) h0 (L.runT (Rl.un (s:=stA s (some d) (bV c') s.objs) (by rw[e];exact hr.setB (hr.bool hc))) hk)⟩
   cases c with
   | true=>cases b with
    | true=>exact go true rfl rfl h
    | false=>exact no true rfl rfl h
   | false=>cases b with
    | true=>exact no false rfl rfl h
    | false=>exact go false rfl rfl h
end
end
section
variable [Gb]
abbrev GD.at_ (G:GD) (t:Ty):GD:=⟨t,G.u,G.q,G.T,G.Ti⟩
inductive Sp1 where
 | v (d:Nat) (t:Ty)
 | r (d:Nat) (t:Ty) (T:TypeId)
 | a (d:Nat) (t:Ty) (T:TypeId)
 | o (o:Nat) (t:Ty)
 | b (o:Nat) (ks:List CK)
 | m (o:Nat) (k v:Ty)
 | g (o:Nat) (t:Ty)
 | x (o:Nat)
 | y (o:Nat)
def lr_:List CK→Type
 | []=>Unit
 | .keep::ks=>lr_ ks
 | .val t::ks=>t.den×lr_ ks
 | .row t _::ks=>List t.den×lr_ ks
 | .map k v::ks=>List (k.den×v.den)×lr_ ks
def Sp1.den:Sp1→Type
 | .v _ t=>t.den
 | .r _ t _=>List t.den
 | .a _ t _=>t.den
 | .o _ t=>List t.den
 | .b _ ks=>lr_ ks
 | .m _ kt vt=>List (kt.den×vt.den)
 | .g _ t=>List t.den
 | .x _=>Unit
 | .y _=>Unit
def br_:List Sp1→Type
 | []=>Unit
 | e::es=>e.den×br_ es
def al2 (t:Ty) (T:TypeId) (c:SV) (rem:List AO):Option (List t.den×List AO):=match c with
 | .nils=>some ([],rem)
 | .row o=>match rem[o]? with
  | some (.row t' T' l false)=>cond (Nat.beq T' T) ((zr_ t' t l).bind λm=>some (m,rem.set o .gone)) none
  | _=>none
 | _=>none
def oneR (t:Ty) (o:Nat) (l:List t.den) (rem:List AO):Option (t.den×List AO):=match l with
 | [x]=>some (x,rem.set o .gone)
 | _=>none
def ieq0:Int→Bool
 | .ofNat 0=>true
 | _=>false
def isEL {α:Type}:List α→Bool
 | []=>true
 | _=>false
def bo0 (t:Ty) (T:TypeId) (c:SV) (rem:List AO):Option (t.den×List AO):=match c with
 | .ptrE o i k z p=>match rem[o]? with
  | some (.row t' T' l false)=>cond (Nat.beq T' T&&Nat.beq z t.sz&&Nat.beq k 0&&ieq0 i&&isEL p) ((zr_ t' t l).bind λm=>oneR t o m rem) none
  | _=>none
 | _=>none
theorem cc6 {k v k' v':Ty} (h:cond (k.eqb k') (v.eqb v') false=true):k=k':=by
 cases h1:k.eqb k' with
 | true=>exact Ty.eqb_eq h1
 | false=>rw[h1] at h;cases h
theorem bg2 {k v k' v':Ty} (h:cond (k.eqb k') (v.eqb v') false=true):v=v':=by
 cases h1:k.eqb k' with
 | true=>rw[h1] at h;exact Ty.eqb_eq h
 | false=>rw[h1] at h;cases h
def cq0 (k v k' v':Ty) (m:List (k.den×v.den)):Option (List (k'.den×v'.den)):=if h:cond (k.eqb k') (v.eqb v') false=true then some (cc6 h ▸ bg2 h ▸ m) else none
theorem ac4 {k v k' v':Ty} {m:List (k.den×v.den)} {y:List (k'.den×v'.den)} (h:cq0 k v k' v' m=some y):∃ (e1:k=k') (e2:v=v'),y=e1 ▸ e2 ▸ m:=by
 unfold cq0 at h
 split at h
 ·rename_i hc;exact⟨cc6 hc,bg2 hc,(a6_ h).symm⟩
 ·cases h
def at3 (k v:Ty) (c:SV) (rem:List AO):Option (List (k.den×v.den)×List AO):=match c with
 | .map o=>match rem[o]? with
  | some (.map k' v' l false)=>(cq0 k' v' k v l).bind λm=>some (m,rem.set o .gone)
  | _=>none
 | _=>none
def bk7:(ks:List CK)→(cur:List SV)→(rem:List AO)→Option (lr_ ks×List AO)
 | [],[],rem=>some ((),rem)
 | .keep::ks,_::cs,rem=>bk7 ks cs rem
 | .val t::ks,c::cs,rem=>cond t.agg none ((asC t c).bind λx=>(bk7 ks cs rem).bind λq=>some ((x,q.1),q.2))
 | .row t T::ks,c::cs,rem=>(al2 t T c rem).bind λp=>(bk7 ks cs p.2).bind λq=>some ((p.1,q.1),q.2)
 | .map k v::ks,c::cs,rem=>(at3 k v c rem).bind λp=>(bk7 ks cs p.2).bind λq=>some ((p.1,q.1),q.2)
 | _,_,_=>none
def getR (sl:Nat→AV) (d:Nat) (t:Ty) (T:TypeId) (rem:List AO):Option (List t.den×List AO):=match sl d with
 | .b (.one c)=>al2 t T c rem
 | _=>none
def getA (sl:Nat→AV) (d:Nat) (t:Ty) (T:TypeId) (rem:List AO):Option (t.den×List AO):=match sl d with
 | .b (.one c)=>bo0 t T c rem
 | _=>none
def getO (ob:List AO) (o:Nat) (t:Ty) (rem:List AO):Option (List t.den×List AO):=match ob[o]? with
 | some (.row _ T _ _)=>match rem[o]? with
  | some (.row t' T' l false)=>cond (Nat.beq T' T) ((zr_ t' t l).bind λm=>some (m,rem.set o .gone)) none
  | _=>none
 | _=>none
def getB (ob:List AO) (o:Nat) (ks:List CK) (rem:List AO):Option (lr_ ks×List AO):=match ob[o]? with
 | some (.cells _ _ _)=>match rem[o]? with
  | some (.cells _ c _)=>bk7 ks c (rem.set o .gone)
  | _=>none
 | _=>none
def getM (ob:List AO) (o:Nat) (k v:Ty) (rem:List AO):Option (List (k.den×v.den)×List AO):=match ob[o]? with
 | some (.map _ _ _ _)=>match rem[o]? with
  | some (.map k' v' l false)=>(cq0 k' v' k v l).bind λm=>some (m,rem.set o .gone)
  | _=>none
 | _=>none
def by7 (ob:List AO) (o:Nat) (t:Ty) (rem:List AO):Option (List t.den×List AO):=match ob[o]? with
 | some (.grid G0 _ _ _)=>match rem[o]? with
  | some (.grid G l none false)=>cond (G.t.eqb G0.t&&G.u.eqb G0.u&&eqL G.q G0.q&&Nat.beq G.T G0.T&&Nat.beq G.Ti G0.Ti) ((zr_ G.t t l).bind λm=>some (m,rem.set o .gone)) none
  | _=>none
 | _=>none
def getY (ob:List AO) (o:Nat) (rem:List AO):Option (Unit×List AO):=match ob[o]? with
 | some (.yld _ _ _)=>match rem[o]? with
  | some (.yld _ .rdy false)=>some ((),rem.set o .gone)
  | _=>none
 | _=>none
def get1 (ob:List AO) (sl:Nat→AV):(e:Sp1)→(rem:List AO)→Option (e.den×List AO)
 | .v d t,rem=>(asD t (sl d)).bind λx=>some (x,rem)
 | .r d t T,rem=>getR sl d t T rem
 | .a d t T,rem=>getA sl d t T rem
 | .o o t,rem=>getO ob o t rem
 | .b o ks,rem=>getB ob o ks rem
 | .m o k v,rem=>getM ob o k v rem
 | .g o t,rem=>by7 ob o t rem
 | .x _,rem=>some ((),rem)
 | .y o,rem=>getY ob o rem
def getS (ob:List AO) (sl:Nat→AV):(es:List Sp1)→(rem:List AO)→Option (br_ es)
 | [],_=>some ()
 | e::es,rem=>(get1 ob sl e rem).bind λp=>(getS ob sl es p.2).bind λy=>some (p.1,y)
def pg_:AO→AO
 | .cells T c _=>.cells T c (List.range c.length)
 | .row t T l _=>.row t T l true
 | .map k v m _=>.map k v m true
 | .grid G l h _=>.grid G l h true
 | .yld Y st _=>.yld Y st true
 | a=>a
def listed:List Sp1→Nat→Bool
 | [],_=>false
 | .o o _::es,i=>Nat.beq o i||listed es i
 | .b o _::es,i=>Nat.beq o i||listed es i
 | .m o _ _::es,i=>Nat.beq o i||listed es i
 | .g o _::es,i=>Nat.beq o i||listed es i
 | .x o::es,i=>Nat.beq o i||listed es i
 | .y o::es,i=>Nat.beq o i||listed es i
 | _::es,i=>listed es i
def inL:Nat→List Nat→Bool
 | _,[]=>false
 | i,a::l=>Nat.beq i a||inL i l
def mvS (sl:Nat→AV) (ob:List AO):List Sp1→List Nat
 | []=>[]
 | .r d _ _::es=>match sl d with
  | .b (.one (.row o))=>o::mvS sl ob es
  | _=>mvS sl ob es
 | .a d _ _::es=>match sl d with
  | .b (.one (.ptrE o _ _ _ _))=>o::mvS sl ob es
  | _=>mvS sl ob es
 | .b o ks::es=>(match ob[o]? with
  | some (.cells _ c _)=>mvC ks c
  | _=>[])++mvS sl ob es
 | _::es=>mvS sl ob es
 where mvC:List CK→List SV→List Nat
 | .row _ _::ks,.row o::cs=>o::mvC ks cs
 | .map _ _::ks,.map o::cs=>o::mvC ks cs
 | _::ks,_::cs=>mvC ks cs
 | _,_=>[]
def fo_ (mk:Bool) (es:List Sp1) (mv:List Nat):Nat→List AO→List AO
 | _,[]=>[]
 | i,a::l=>(match a with
  | .unborn=>.unborn
  | .gone=>.gone
  | a=>cond (listed es i||inL i mv) .gone (cond mk (pg_ a) a))::fo_ mk es mv (i+1) l
def lp_:(ks:List CK)→(base:List SV)→lr_ ks→Nat→List SV×List AO
 | .keep::ks,b::bs,x,k=>let q:=lp_ ks bs x k; (b::q.1,q.2)
 | .val t::ks,_::bs,x,k=>let q:=lp_ ks bs x.2 k; (.val t x.1::q.1,q.2)
 | .row t T::ks,_::bs,x,k=>let q:=lp_ ks bs x.2 (k+1); (.row k::q.1,.row t T x.1 false::q.2)
 | .map kt vt::ks,_::bs,x,k=>let q:=lp_ ks bs x.2 (k+1); (.map k::q.1,.map kt vt x.1 false::q.2)
 | _,_,_,_=>([],[])
def roC:List CK→Nat→List Nat
 | [],_=>[]
 | .keep::ks,i=>i::roC ks (i+1)
 | _::ks,i=>roC ks (i+1)
def fn_ (mk:Bool) (ob:List AO):(e:Sp1)→e.den→A→A
 | .v d t,x,s=>⟨cg0 s.slot d (ofD t x),s.objs⟩
 | .r d t T,x,s=>⟨cg0 s.slot d (zf_ s.objs.length),s.objs++[.row t T x false]⟩
 | .a d t T,x,s=>⟨cg0 s.slot d (.b (.one (.ptrE s.objs.length 0 0 t.sz []))),s.objs++[.row t T [x] false]⟩
 | .o o t,x,s=>match ob[o]? with
  | some (.row _ T _ _)=>⟨s.slot,s.objs.set o (.row t T x false)⟩
  | _=>s
 | .b o ks,x,s=>match ob[o]? with
  | some (.cells T c ro)=>⟨s.slot,s.objs.set o (.cells T (lp_ ks c x s.objs.length).1 (cond mk (roC ks 0) ro))++(lp_ ks c x s.objs.length).2⟩
  | _=>s
 | .m o k v,x,s=>match ob[o]? with
  | some (.map _ _ _ _)=>⟨s.slot,s.objs.set o (.map k v x false)⟩
  | _=>s
 | .g o t,x,s=>match ob[o]? with
  | some (.grid G _ _ _)=>⟨s.slot,s.objs.set o (.grid (G.at_ t) x none false)⟩
  | _=>s
 | .x _,_,s=>s
 | .y o,_,s=>match ob[o]? with
  | some (.yld Y _ _)=>⟨s.slot,s.objs.set o (.yld Y .rdy false)⟩
  | _=>s
def qy_ (mk:Bool) (ob:List AO):(es:List Sp1)→br_ es→A→A
 | [],_,s=>s
 | e::es,x,s=>qy_ mk ob es x.2 (fn_ mk ob e x.1 s)
def gp_ (mk:Bool) (asg:List Nat) (es:List Sp1) (mv:List Nat) (s:A) (x:br_ es):A :=
 qy_ mk s.objs es x ⟨λd=>cond (inL d asg) (.b .dead) (s.slot d),fo_ mk es mv 0 s.objs⟩
def okS (ob:List AO):List Sp1→Bool
 | []=>true
 | .o o _::es=>(match ob[o]? with
  | some (.row _ _ _ false)=>true
  | _=>false)&&!listed es o&&okS ob es
 | .b o ks::es=>(match ob[o]? with
  | some (.cells _ c ro)=>Nat.beq ks.length c.length&&fb_ (λj=>inL j (roC ks 0)) ro
  | _=>false)&&!listed es o&&okS ob es
 | .m o _ _::es=>(match ob[o]? with
  | some (.map _ _ _ false)=>true
  | _=>false)&&!listed es o&&okS ob es
 | .g o _::es=>(match ob[o]? with
  | some (.grid _ _ _ false)=>true
  | _=>false)&&!listed es o&&okS ob es
 | .x o::es=>(match ob[o]? with
  | some (.row _ _ _ false)=>true
  | _=>false)&&!listed es o&&okS ob es
 | .y o::es=>(match ob[o]? with
  | some (.yld _ _ false)=>true
  | _=>false)&&!listed es o&&okS ob es
 | _::es=>okS ob es
end
section
variable [Gb]
def inL0:Nat→List Nat→Bool
 | _,[]=>false
 | i,a::l=>Nat.beq i a||inL0 i l
def bn3 {α:Type}:List Nat→List Nat→(List Nat→α)→α
 | [],m,k=>k m
 | a::l,m,k=>cond (inL0 a m) (bn3 l m k) (bn3 l (a::m) k)
def zp_ {α:Type} (acc:List (List Nat)):List Nat→List Nat→(List Nat→α)→α
 | [],m,k=>k m
 | p::ps,m,k=>bn3 (p::(acc[p]?).getD []) m λm=>zp_ acc ps m k
def aq0 (acc:List (List Nat)) (ps:List Nat):List Nat:=zp_ acc ps [] id
theorem wz_ {α:Type}:∀ (l m:List Nat) (k:List Nat→α),bn3 l m k=k (bn3 l m id)
 | [],m,k=>rfl
 | a::l,m,k=>by
  unfold bn3
  cases inL0 a m with
  | true=>exact wz_ l m k
  | false=>exact wz_ l (a::m) k
theorem bd6 {i:Nat}:∀ {l:List Nat},inL0 i l=true↔i ∈ l
 | []=>by simp[inL0]
 | a::l=>by
  simp only[inL0,c8_,d8_,bd6 (l:=l)]
  exact⟨λh=>h.imp (λh=>a3_ h) id,λh=>h.imp (λh=>by rw[h];exact g0_ a) id⟩
theorem ag9 {x:Nat}:∀ (l m:List Nat),x ∈ bn3 l m id↔x ∈ l∨x ∈ m
 | [],m=>by simp[bn3]
 | a::l,m=>by
  unfold bn3
  cases h:inL0 a m with
  | true =>
   show x ∈ bn3 l m id↔_
   rw[ag9 l m]
   have:=bd6.1 h
   constructor
   ·rintro (h | h)
    ·exact .inl (by simp[h])
    ·exact .inr h
   ·rintro (h | h)
    ·rcases d8_.1 h with rfl | h
     ·exact .inr this
     ·exact .inl h
    ·exact .inr h
  | false =>
   show x ∈ bn3 l (a::m) id↔_
   rw[ag9 l (a::m)]
   simp only[d8_]
   constructor
   ·rintro (h | h | h)
    ·exact .inl (.inr h)
    ·exact .inl (.inl h)
    ·exact .inr h
   ·rintro ((h | h) | h)
    ·exact .inr (.inl h)
    ·exact .inl h
    ·exact .inr (.inr h)
theorem be7 {α:Type} (acc:List (List Nat)):∀ (ps m:List Nat) (k:List Nat→α),zp_ acc ps m k=k (zp_ acc ps m id)
 | [],m,k=>rfl
 | p::ps,m,k=>by
  unfold zp_
  rw[wz_,wz_ (k:=λm=>zp_ acc ps m id),be7 acc ps _ k]
theorem xz_ {x:Nat} (acc:List (List Nat)):∀ (ps m:List Nat),x ∈ zp_ acc ps m id↔x ∈ m∨∃ p ∈ ps,x=p∨x ∈ (acc[p]?).getD []
 | [],m=>by simp[zp_]
 | p::ps,m=>by
  unfold zp_
  rw[wz_,xz_ acc ps,ag9]
  constructor
  ·rintro ((h | h) | ⟨q,h1,h2⟩)
   ·rcases d8_.1 h with h | h
    ·exact .inr ⟨p,by simp,.inl h⟩
    ·exact .inr ⟨p,by simp,.inr h⟩
   ·exact .inl h
   ·exact .inr ⟨q,by simp[h1],h2⟩
  ·rintro (h | ⟨q,h1,h2⟩)
   ·exact .inl (.inr h)
   ·rcases d8_.1 h1 with rfl | h1
    ·exact .inl (.inl (by rcases h2 with rfl | h2<;>simp[*]))
    ·exact .inr ⟨q,h1,h2⟩
def lt_:List Oper→List (List Nat)→List (List Nat)
 | [],acc=>acc
 | o::os,acc=>lt_ os (acc++[aq0 acc (cm_ o)])
def snoF {α:Type}:List (List Nat)→List Nat→(List (List Nat)→α)→α
 | [],x,k=>k [x]
 | a::l,x,k=>snoF l x λl=>k (a::l)
theorem bo9 {α:Type}:∀ (l:List (List Nat)) (x:List Nat) (k:List (List Nat)→α),snoF l x k=k (l++[x])
 | [],_,_=>rfl
 | a::l,x,k=>bo9 l x λl=>k (a::l)
def cw7 {α:Type}:List Oper→List (List Nat)→(List (List Nat)→α)→α
 | [],acc,k=>k acc
 | o::os,acc,k=>zp_ acc (cm_ o) [] λx=>snoF acc x λacc=>cw7 os acc k
theorem zc_ {α:Type}:∀ (os:List Oper) (acc:List (List Nat)) (k:List (List Nat)→α),cw7 os acc k=k (lt_ os acc)
 | [],_,_=>rfl
 | o::os,acc,k=>by
  unfold cw7
  rw[be7,bo9,zc_ os]
  rfl
def go_ (d:Nat):List (Option Nat)→Nat→Option Nat
 | [],_=>none
 | some e::l,i=>cond (Nat.beq d e) (some i) (go_ d l (i+1))
 | none::l,i=>go_ d l (i+1)
def cg7 (sl:Nat→AV) (dsts:List (Option Nat)) (tab:List (List Nat)) (anc:List Nat) (vals:List AV) (d:Nat):AV:=match go_ d dsts 0 with
 | none=>sl d
 | some j=>cond (inL j anc) ((vals[j]?).getD (.b .dead)) (cond (inL vals.length ((tab[j]?).getD [])) (sl d) (.b .dead))
def qa_ (fr0:Nat) (anc F:List Nat):Nat→List AO→List AO
 | _,[]=>[]
 | i,a::l=>cond (inL i F) a (cond (Nat.blt i fr0) (match a with
  | .unborn=>.unborn
  | _=>.gone) (cond (inL (i - fr0) anc) .gone .unborn))::qa_ fr0 anc F (i+1) l
def jy_ (F:List Nat):Nat→List AO→List AO→List AO
 | _,[],_=>[]
 | _,l,[]=>l
 | i,a::l,b::m=>cond (inL i F) b a::jy_ F (i+1) l m
def idsY:List (Nat×AV)→List Nat
 | []=>[]
 | p::l=>cu8 p.2++idsY l
def idsO:AO→List Nat
 | .cells _ l _=>idsL l
 | .fn _ a b=>idsL a++idsL b
 | .grid _ _ (some p) _=>[p.2.1]
 | .yld Y _ _=>idsY Y.sl
 | _=>[]
def addN:List Nat→List Nat→List Nat
 | [],F=>F
 | i::l,F=>cond (inL i F) (addN l F) (addN l (i::F))
def deep (objs:List AO):Nat→List Nat→List Nat→List Nat
 | 0,_,F=>F
 | _,[],F=>F
 | n+1,i::l,F=>cond (inL i F) (deep objs n l F) (deep objs n (idsO ((objs[i]?).getD .gone)++l) (i::F))
def isLight:Op→Bool
 | .move _ | .assign _ | .pick _ _ _ | .binOp _ _ _ _ _ | .unOp _ _ _ | .extract _ _ | .nilCheck _ | .fieldAddr _ _ _ | .build _ _ | .makeFunc _ _ _=>true
 | _=>false
def foot (o:Oper) (env:Nat→AV) (objs:List AO):List Nat :=
 cond (isLight o.op) [] (cond (bd1 o.op||cn9 o) (deep objs 200 (idsX env o.op.operands.toList) []) (addN (idsX env o.op.operands.toList) []))
def isWr (o:Oper):Bool:=isX o.op||(isM o.op||(bd1 o.op||cn9 o))
def cm8:List Nat→List Nat→Bool
 | [],_=>false
 | i::l,F=>inL i F||cm8 l F
structure DR where
 F:List Nat
 wr:Bool
def okC (anc:List Nat) (F:List Nat) (wr:Bool):Nat→List DR→Bool
 | _,[]=>true
 | j,r::rs=>(!(r.wr||wr)||!cm8 r.F F||inL j anc)&&okC anc F wr (j+1) rs
def okW (F:List Nat) (all:List AO):Nat→List AO→Bool
 | _,[]=>true
 | i,a::l=>(!inL i F||a.lt all)&&okW F all (i+1) l
def okF (fr0:Nat) (anc:List Nat) (C:List AO):List Nat→Bool
 | []=>true
 | i::F=>(Nat.blt i fr0||inL (i - fr0) anc)&&born C i&&okF fr0 anc C F
def okU (anc:List Nat) (vis:List AO):Nat→List AV→Bool
 | _,[]=>true
 | j,a::l=>(!inL j anc||a.lt vis)&&okU anc vis (j+1) l
def okS2 (fr0:Nat) (anc:List Nat) (vals:List AV) (F:List Nat) (C:List AO) (vis:List AO):Bool:=okF fr0 anc C F&&fb_ (AO.lt vis) vis&&okU anc vis 0 vals
def dstG (n:Nat) (dsts:List (Option Nat)) (j:Nat):Bool:=match dsts[j]? with
 | some (some d)=>Nat.blt d n
 | _=>false
def so_:List Oper→Nat→Bool
 | [],_=>true
 | o::os,i=>fb_ (λp=>Nat.blt p i) (cm_ o)&&so_ os (i+1)
def fz_ (fr:Nat) (C:List AO):List AO:=match C[fr]? with
 | some .unborn=>C.set fr .gone
 | _=>C
section
variable {ρ:Type} {P:Program} [Tb P]
def stepW (cx:Cx P) (env:Nat→AV) (fr0 fr:Nat) (o:Oper) (anc:List Nat) (vals:List AV) (recs:List DR) (F:List Nat) (C vis:List AO) (k:AV→DR→List AO→Option ρ):Option ρ :=
 cond (okC anc F true 0 recs&&okS2 fr0 anc vals F C vis) (bo6 cx o env vis fr λav ob =>
  cond (av.lt (vis.set fr .gone)&&okW (fr::F) (vis.set fr .gone) 0 (fz_ fr (jy_ (fr::F) 0 C ob))&&fb_ (born (fz_ fr (jy_ (fr::F) 0 C ob))) F&&Nat.ble C.length ob.length)
   (frcA av λav=>cg5 (fz_ fr (jy_ (fr::F) 0 C ob)) λob'=>k av ⟨F,true⟩ ob') none) none
def stepN (P:Program) [Tb P] (env:Nat→AV) (fr0 fr:Nat) (o:Oper) (anc:List Nat) (vals:List AV) (recs:List DR) (F:List Nat) (C vis:List AO) (k:AV→DR→List AO→Option ρ):Option ρ :=
 cond (okC anc F false 0 recs&&okS2 fr0 anc vals F C vis) (stepP P o (rsl vis env) vis λav =>
  cond (av.lt (vis.set fr .gone)) (frcA av λav=>cg5 (fz_ fr C) λob'=>k av ⟨F,false⟩ ob') none) none
def stepF (cx:Cx P) (env:Nat→AV) (fr0 fr:Nat) (o:Oper) (anc:List Nat) (vals:List AV) (recs:List DR) (C:List AO) (F:List Nat) (k:AV→DR→List AO→Option ρ):Option ρ :=
 cond (isWr o) (stepW cx env fr0 fr o anc vals recs F C (qa_ fr0 anc F 0 C) k) (stepN P env fr0 fr o anc vals recs F C (qa_ fr0 anc F 0 C) k)
def at8 (cx:Cx P) (n:Nat) (sl:Nat→AV) (dsts:List (Option Nat)) (tab:List (List Nat)) (fr0 fr:Nat) (o:Oper) (anc:List Nat) (vals:List AV) (recs:List DR) (C:List AO) (k:AV→DR→List AO→Option ρ):Option ρ :=
 cond (ey_ n o.dst) (stepF cx (cg7 sl dsts tab anc vals) fr0 fr o anc vals recs C (foot o (cg7 sl dsts tab anc vals) C) k) none
def uk_ (cx:Cx P) (n:Nat) (sl:Nat→AV) (dsts:List (Option Nat)) (tab:List (List Nat)) (fr0:Nat):List Oper→List (List Nat)→List AV→List DR→List AO→(List AV→List AO→Option ρ)→Option ρ
 | [],_,vals,_,objs,k=>k vals objs
 | o::os,anc::ancs,vals,recs,objs,k=>match o.guard with
  | none=>at8 cx n sl dsts tab fr0 (fr0+vals.length) o anc vals recs objs λav r ob=>uk_ cx n sl dsts tab fr0 os ancs (vals++[av]) (recs++[r]) ob k
  | some (j,b)=>cond (inL j anc&&dstG n dsts j) ((vals[j]?).bind λvj=>cond (unA vj) (cond (ey_ n o.dst) (uk_ cx n sl dsts tab fr0 os ancs (vals++[.tup []]) (recs++[⟨[],false⟩]) (fz_ (fr0+vals.length) objs) k) none) ((asD .bool vj).bind λc =>
    cond c (cond b (at8 cx n sl dsts tab fr0 (fr0+vals.length) o anc (vals.set j (bV true)) recs objs λav r ob=>uk_ cx n sl dsts tab fr0 os ancs (vals.set j (bV true)++[av]) (recs++[r]) ob k)
      (cond (ey_ n o.dst) (uk_ cx n sl dsts tab fr0 os ancs (vals.set j (bV true)++[.tup []]) (recs++[⟨[],false⟩]) (fz_ (fr0+vals.length) objs) k) none))
     (cond b (cond (ey_ n o.dst) (uk_ cx n sl dsts tab fr0 os ancs (vals.set j (bV false)++[.tup []]) (recs++[⟨[],false⟩]) (fz_ (fr0+vals.length) objs) k) none)
      (at8 cx n sl dsts tab fr0 (fr0+vals.length) o anc (vals.set j (bV false)) recs objs λav r ob=>uk_ cx n sl dsts tab fr0 os ancs (vals.set j (bV false)++[av]) (recs++[r]) ob k)))) none
 | _::_,[],_,_,_,_=>none
def tz_:List (Option Nat)→Bool
 | []=>true
 | some d::l=>!(l.contains (some d))&&tz_ l
 | none::l=>tz_ l
def regD (cx:Cx P) (n:Nat) (ops:List Oper) (s:A) (k:A→Option ρ):Option ρ :=
 cond (P.follows .mixedOrders&&tz_ (ops.map (·.dst))&&so_ ops 0) (cw7 ops [] λancs=>uk_ cx n s.slot (ops.map (·.dst)) ancs s.objs.length ops ancs [] [] (s.objs++List.replicate ops.length .unborn) λvals ob =>
  k ⟨λd=>match go_ d (ops.map (·.dst)) 0 with
   | none=>s.slot d
   | some j=>(vals[j]?).getD (.b .dead),ob⟩) none
end
end
section
variable [Gb]
def VOk (V avs:List AV):Prop:=V.length=avs.length∧∀ (j:Nat) (a:AV),V[j]?=some a→∃ a0,avs[j]?=some a0∧(a=a0∨∃ c,asD .bool a0=some c∧a=bV c)
theorem VOk.app {V avs:List AV} (h:VOk V avs) (a:AV):VOk (V++[a]) (avs++[a]):=by
 refine⟨by simp[h.1],λj b hb => ?_⟩
 by_cases hj:j<V.length
 ·rw[b1_ hj] at hb
  obtain⟨a0,h1,h2⟩:=h.2 j b hb
  exact⟨a0,by rw[b1_ (by rw[← h.1];exact hj)];exact h1,h2⟩
 ·rw[c6_ (by omega)] at hb
  have h0:j - V.length=0:=by
   have:=(a4_.1 hb).1
   simp at this
   omega
  rw[h0] at hb
  have e:a=b:=by simpa using hb
  refine⟨a,?_,.inl e.symm⟩
  rw[c6_ (by rw[← h.1];omega),← h.1,h0]
  rfl
theorem VOk.set {V avs:List AV} (h:VOk V avs) {j:Nat} {vj:AV} {c:Bool} (hj:V[j]?=some vj) (hc:asD .bool vj=some c):VOk (V.set j (bV c)) avs:=by
 refine⟨by simp[h.1],λi b hb => ?_⟩
 by_cases e:j=i
 ·subst e
  have hl:=(a4_.1 hj).1
  obtain⟨a0,h1,h2⟩:=h.2 j vj hj
  have hb':bV c=b:=by simpa [hl] using hb
  subst hb'
  rcases h2 with rfl | ⟨c',h3,rfl⟩
  ·exact⟨vj,h1,.inr ⟨c,hc,rfl⟩⟩
  ·have:c'=c:=by
    have h4:asD .bool (bV c')=some c':=rfl
    rw[h4] at hc
    exact a6_ hc
   subst this
   exact⟨a0,h1,.inr ⟨c',h3,rfl⟩⟩
 ·rw[b7_ e] at hb
  exact h.2 i b hb
structure Ran (P:Program) [Tb P] (n:Nat) (sl:Nat→AV) (dsts:List (Option Nat)) (tab:List (List Nat)) (fr0 fr:Nat) (o:Oper) (anc:List Nat) (V:List AV) (recs:List DR) (C:List AO) (av:AV) (r:DR) (C':List AO):Prop where
  dst:ey_ n o.dst=true
  okc:okC anc r.F r.wr 0 recs=true
  oks:okS2 fr0 anc V r.F C (qa_ fr0 anc r.F 0 C)=true
  lt:av.lt ((qa_ fr0 anc r.F 0 C).set fr .gone)=true
  run:(r.wr=true∧∃ ob,OpUn P o (cg7 sl dsts tab anc V) (qa_ fr0 anc r.F 0 C) av ob∧C'=fz_ fr (jy_ (fr::r.F) 0 C ob)∧okW (fr::r.F) ((qa_ fr0 anc r.F 0 C).set fr .gone) 0 C'=true∧fb_ (born C') r.F=true∧C.length≤ob.length) ∨
     (r.wr=false∧OpUn P o (cg7 sl dsts tab anc V) (qa_ fr0 anc r.F 0 C) av (qa_ fr0 anc r.F 0 C)∧C'=fz_ fr C)
structure Good (P:Program) [Tb P] (n:Nat) (sl:Nat→AV) (dsts:List (Option Nat)) (tab:List (List Nat)) (fr0 fr:Nat) (o:Oper) (anc:List Nat) (avs:List AV) (recs:List DR) (C:List AO) (av:AV) (r:DR) (C':List AO):Prop where
 go:∃ V,VOk V avs∧match o.guard with
  | none=>Ran P n sl dsts tab fr0 fr o anc V recs C av r C'
  | some (j,b)=>inL j anc=true∧dstG n dsts j=true∧∃ a0,avs[j]?=some a0∧((asD .bool a0=some b∧Ran P n sl dsts tab fr0 fr o anc V recs C av r C')∨((asD .bool a0=some (!b)∨unA a0=true)∧ey_ n o.dst=true∧av = .tup []∧r=⟨[],false⟩∧C'=fz_ fr C))
def tm_ (P:Program) [Tb P] (n:Nat) (sl:Nat→AV) (dsts:List (Option Nat)) (tab:List (List Nat)) (fr0:Nat):List Oper→List (List Nat)→List AV→List DR→List AO→List (AV×DR×List AO)→Prop
 | [],_,_,_,_,[]=>True
 | o::os,anc::ancs,avs,recs,C,q::tr=>Good P n sl dsts tab fr0 (fr0+avs.length) o anc avs recs C q.1 q.2.1 q.2.2∧tm_ P n sl dsts tab fr0 os ancs (avs++[q.1]) (recs++[q.2.1]) q.2.2 tr
 | _,_,_,_,_,_=>False
def ua_ (C:List AO):List (AV×DR×List AO)→List AO
 | []=>C
 | q::tr=>ua_ q.2.2 tr
section
variable {ρ:Type} {P:Program} [Tb P] {cx:Cx P} {n:Nat} {sl:Nat→AV} {dsts:List (Option Nat)} {tab:List (List Nat)} {r:ρ}
theorem ci4 {fr0 fr:Nat} {o:Oper} {anc:List Nat} {vals:List AV} {recs:List DR} {C:List AO} {k:AV→DR→List AO→Option ρ} (h:at8 cx n sl dsts tab fr0 fr o anc vals recs C k=some r) :
  ∃ av rc C',k av rc C'=some r∧Ran P n sl dsts tab fr0 fr o anc vals recs C av rc C':=by
 unfold at8 at h
 obtain⟨hd,h⟩:=bo_ h
 unfold stepF stepW stepN at h
 simp only[ai5,ug_] at h
 cases hw:isWr o with
 | true =>
  rw[hw] at h
  obtain⟨hc,h⟩:=bo_ (show cond _ _ none=some r from h)
  obtain⟨av,ob,h1,h2⟩:=ad4 h
  obtain⟨hk,h1⟩:=bo_ h1
  simp only[a1_] at hk hc
  exact⟨av,_,_,h1,hd,hc.1,hc.2,hk.1.1.1,.inl ⟨rfl,ob,h2,rfl,hk.1.1.2,hk.1.2,b6_ hk.2⟩⟩
 | false =>
  rw[hw] at h
  obtain⟨hc,h⟩:=bo_ (show cond _ _ none=some r from h)
  obtain⟨av,h1,h2⟩:=ad2 h
  obtain⟨hk,h1⟩:=bo_ h1
  simp only[a1_] at hc
  exact⟨av,_,_,h1,hd,hc.1,hc.2,hk,.inr ⟨rfl,OpUn.rs h2.un,rfl⟩⟩
theorem aj2 {fr0:Nat}:∀ {os:List Oper} {ancs:List (List Nat)} {vals avs:List AV} {recs:List DR} {C:List AO} {k:List AV→List AO→Option ρ},uk_ cx n sl dsts tab fr0 os ancs vals recs C k=some r→VOk vals avs →
  ∃ tr V,tm_ P n sl dsts tab fr0 os ancs avs recs C tr∧VOk V (avs++tr.map (·.1))∧k V (ua_ C tr)=some r
 | [],ancs,vals,avs,recs,C,k,h,hv=>⟨[],vals,trivial,by simpa using hv,h⟩
 | o::os,[],vals,avs,recs,C,k,h,hv=>by cases h
 | o::os,anc::ancs,vals,avs,recs,C,k,h,hv=>by
  unfold uk_ at h
  have run:∀ (V:List AV),VOk V avs→at8 cx n sl dsts tab fr0 (fr0+vals.length) o anc V recs C (λav r ob=>uk_ cx n sl dsts tab fr0 os ancs (V++[av]) (recs++[r]) ob k)=some r →
    (∀ av rc C',Ran P n sl dsts tab fr0 (fr0+avs.length) o anc V recs C av rc C'→Good P n sl dsts tab fr0 (fr0+avs.length) o anc avs recs C av rc C') →
    ∃ tr V,tm_ P n sl dsts tab fr0 (o::os) (anc::ancs) avs recs C tr∧VOk V (avs++tr.map (·.1))∧k V (ua_ C tr)=some r:=λV hV h hg=>by
   obtain⟨av,rc,C',h1,h2⟩:=ci4 h
   obtain⟨tr,W,g1,g2,g3⟩:=aj2 h1 (hV.app av)
   rw[hv.1] at h2
   refine⟨(av,rc,C')::tr,W,⟨hg av rc C' h2,g1⟩,by simpa using g2,g3⟩
  have skip:∀ (V:List AV),VOk V avs→cond (ey_ n o.dst) (uk_ cx n sl dsts tab fr0 os ancs (V++[.tup []]) (recs++[⟨[],false⟩]) (fz_ (fr0+vals.length) C) k) none=some r →
    (ey_ n o.dst=true→Good P n sl dsts tab fr0 (fr0+avs.length) o anc avs recs C (.tup []) ⟨[],false⟩ (fz_ (fr0+avs.length) C)) →
    ∃ tr V,tm_ P n sl dsts tab fr0 (o::os) (anc::ancs) avs recs C tr∧VOk V (avs++tr.map (·.1))∧k V (ua_ C tr)=some r:=λV hV h hg=>by
   obtain⟨hd,h⟩:=bo_ h
   obtain⟨tr,W,g1,g2,g3⟩:=aj2 h (hV.app (.tup []))
   rw[hv.1] at g1 g3
   exact⟨(.tup [],⟨[],false⟩,fz_ (fr0+avs.length) C)::tr,W,⟨hg hd,g1⟩,by simpa using g2,g3⟩
  split at h
  ·rename_i hg
   exact run vals hv h λav rc C' hR=>⟨vals,hv,by rw[hg];exact hR⟩
  ·rename_i j b hg
   obtain⟨hj,h⟩:=bo_ h
   rw[a1_] at hj
   obtain⟨hj,hjd⟩:=hj
   obtain⟨vj,hvj,h⟩:=bnd h
   obtain⟨a0,ha0,hrel⟩:=hv.2 j vj hvj
   cases hun:unA vj with
   | true =>
    rw[hun] at h
    have hun0:unA a0=true:=by
     rcases hrel with rfl | ⟨c',h3,rfl⟩
     ·exact hun
     ·cases hun
    exact skip vals hv (show cond (ey_ n o.dst) _ none=some r from h) λhd=>⟨vals,hv,by rw[hg];exact⟨hj,hjd,a0,ha0,.inr ⟨.inr hun0,hd,rfl,rfl,rfl⟩⟩⟩
   | false =>
   rw[hun] at h
   obtain⟨c,hc,h⟩:=bnd (show Option.bind _ _=some r from h)
   have hc0:asD .bool a0=some c:=by
    rcases hrel with rfl | ⟨c',h3,rfl⟩
    ·exact hc
    ·have h4:asD .bool (bV c')=some c':=rfl
     rw[h4] at hc
     cases hc
     exact h3
   have hV:=hv.set hvj hc
   have go:∀ c',c'=c→c'=b→at8 cx n sl dsts tab fr0 (fr0+vals.length) o anc (vals.set j (bV c')) recs C (λav r ob=>uk_ cx n sl dsts tab fr0 os ancs (vals.set j (bV c')++[av]) (recs++[r]) ob k)=some r→_:=λc' e e2 h =>
    run (vals.set j (bV c')) (by rw[e];exact hV) h λav rc C' hR=>⟨vals.set j (bV c'),by rw[e];exact hV,by rw[hg];exact⟨hj,hjd,a0,ha0,.inl ⟨hc0.trans (congrArg some (e.symm.trans e2)),hR⟩⟩⟩
   have no:∀ c',c'=c→c' = !b→cond (ey_ n o.dst) (uk_ cx n sl dsts tab fr0 os ancs (vals.set j (bV c')++[.tup []]) (recs++[⟨[],false⟩]) (fz_ (fr0+vals.length) C) k) none=some r→_:=λc' e e2 h =>
    skip (vals.set j (bV c')) (by rw[e];exact hV) h λhd=>⟨vals.set j (bV c'),by rw[e];exact hV,by rw[hg];exact⟨hj,hjd,a0,ha0,.inr ⟨.inl (hc0.trans (congrArg some (e.symm.trans e2))),hd,rfl,rfl,rfl⟩⟩⟩
   cases c with
   | true=>cases b with
    | true=>exact go true rfl rfl h
    | false=>exact no true rfl rfl h
   | false=>cases b with
    | true=>exact no false rfl rfl h
    | false=>exact go false rfl rfl h
end
end
section
variable [Gb]
theorem qn_ {F:List Nat}:∀ {l m:List AO} {i j:Nat},l.length≤m.length→(jy_ F i l m)[j]?=cond (inL (i+j) F&&Nat.blt j l.length) (m[j]?) (l[j]?)
 | [],m,i,j,_=>by
  have h0:Nat.blt j ([]:List AO).length=false:=rfl
  rw[h0,f7_]
  simp[jy_]
 | a::l,[],i,j,h=>by simp at h
 | a::l,b::m,i,0,h=>by
  simp only[jy_,l5_,m6_,c4_]
  have:Nat.blt 0 (l.length+1)=true:=rfl
  rw[this,h1_]
  cases inL i F<;>rfl
 | a::l,b::m,i,j+1,h=>by
  simp only[jy_,h9_,c4_]
  rw[qn_ (l:=l) (m:=m) (i:=i+1) (j:=j) (by simpa using h),show i+1+j=i+(j+1) by omega]
  have:Nat.blt (j+1) (l.length+1)=Nat.blt j l.length:=rfl
  rw[this]
theorem nd_ {F:List Nat}:∀ {l m:List AO} {i:Nat},(jy_ F i l m).length=l.length
 | [],m,i=>by simp[jy_]
 | a::l,[],i=>by simp[jy_]
 | a::l,b::m,i=>by simp[jy_,nd_ (l:=l)]
theorem qx_ {fr:Nat} {C:List AO}:(fz_ fr C).length=C.length:=by
 unfold fz_
 split<;>simp
theorem tk_ {fr o:Nat} {C:List AO} (h:o≠fr):(fz_ fr C)[o]?=C[o]?:=by
 unfold fz_
 split
 ·exact b7_ (n5_ h)
 ·rfl
theorem ry_ {fr:Nat} {C:List AO} (h:fr<C.length):born (fz_ fr C) fr=true:=by
 unfold fz_
 split
 ·exact ax_.2 ⟨.gone,by simp[h],by simp⟩
 ·rename_i hne
  exact ax_.2 ⟨C[fr],a7_ h,λe=>hne (by rw[a7_ h,e])⟩
def tch (fr0 o t:Nat) (q:AV×DR×List AO):Bool:=Nat.beq o (fr0+t)||(q.2.1.wr&&inL o q.2.1.F)
def cAt (done:Nat→Bool) (fr0 o:Nat):Nat→List (AV×DR×List AO)→Option AO→Option AO
 | _,[],a=>a
 | t,q::tr,a=>cAt done fr0 o (t+1) tr (cond (done t&&tch fr0 o t q) (q.2.2[o]?) a)
theorem pv_ {done done':Nat→Bool} {fr0 o:Nat}:∀ {tr:List (AV×DR×List AO)} {t:Nat} {a:Option AO},(∀ i q,tr[i]?=some q→tch fr0 o (t+i) q=true→done (t+i)=done' (t+i))→cAt done fr0 o t tr a=cAt done' fr0 o t tr a
 | [],t,a,_=>rfl
 | q::tr,t,a,h=>by
  unfold cAt
  have e:(done t&&tch fr0 o t q)=(done' t&&tch fr0 o t q):=by
   cases ht:tch fr0 o t q with
   | false=>simp
   | true=>have:=h 0 q rfl (by simpa using ht);simpa using this
  rw[e]
  exact pv_ λi q' hq ht=>by
   have:=h (i+1) q' (by simpa using hq) (by rw[show t+(i+1)=t+1+i by omega];exact ht)
   rw[show t+1+i=t+(i+1) by omega]
   exact this
theorem ws_ {done:Nat→Bool} {fr0 o:Nat}:∀ {tr:List (AV×DR×List AO)} {t:Nat} {a:Option AO},(∀ i q,tr[i]?=some q→tch fr0 o (t+i) q=true→done (t+i)=false)→cAt done fr0 o t tr a=a
 | [],t,a,_=>rfl
 | q::tr,t,a,h=>by
  unfold cAt
  have e:(done t&&tch fr0 o t q)=false:=by
   cases ht:tch fr0 o t q with
   | false=>simp
   | true=>have:=h 0 q rfl (by simpa using ht);simpa using this
  rw[e]
  exact ws_ λi q' hq ht=>by
   have:=h (i+1) q' (by simpa using hq) (by rw[show t+(i+1)=t+1+i by omega];exact ht)
   rw[show t+1+i=t+(i+1) by omega]
   exact this
section
variable {P:Program} [Tb P] {n:Nat} {sl:Nat→AV} {dsts:List (Option Nat)} {tab:List (List Nat)} {fr0:Nat}
theorem Good.out {fr:Nat} {o:Oper} {anc:List Nat} {avs:List AV} {recs:List DR} {C C':List AO} {av:AV} {r:DR} (h:Good P n sl dsts tab fr0 fr o anc avs recs C av r C') :
  C'.length=C.length∧∀ p,p≠fr→(r.wr&&inL p r.F)=false→C'[p]?=C[p]?:=by
 have ran:∀ V,Ran P n sl dsts tab fr0 fr o anc V recs C av r C'→C'.length=C.length∧∀ p,p≠fr→(r.wr&&inL p r.F)=false→C'[p]?=C[p]?:=by
  rintro V ⟨_,_,_,_,⟨hw,ob,_,rfl,_,_,hl⟩ | ⟨hw,_,rfl⟩⟩
  ·refine⟨by rw[qx_,nd_],λp hp hn => ?_⟩
   rw[tk_ hp,qn_ hl,b0_]
   have hb:Nat.beq p fr=false:=by
    cases hb:Nat.beq p fr with
    | false=>rfl
    | true=>exact absurd (a3_ hb) hp
   rw[hw,c0_] at hn
   simp[inL,hb,hn]
  ·exact⟨qx_,λp hp _=>tk_ hp⟩
 obtain⟨V,_,hg⟩:=h.go
 split at hg
 ·exact ran V hg
 ·obtain⟨_,_,a0,_,⟨_,hR⟩ | ⟨_,_,_,_,rfl⟩⟩:=hg
  ·exact ran V hR
  ·exact⟨qx_,λp hp _=>tk_ hp⟩
def Cat (C:List AO) (tr:List (AV×DR×List AO)) (t:Nat):List AO:=ua_ C (tr.take t)
theorem nv_:∀ {os:List Oper} {ancs:List (List Nat)} {avs:List AV} {recs:List DR} {C:List AO} {tr:List (AV×DR×List AO)},tm_ P n sl dsts tab fr0 os ancs avs recs C tr →
  tr.length=os.length∧∀ (t:Nat) (o:Oper),os[t]?=some o→∃ anc q,ancs[t]?=some anc∧tr[t]?=some q∧Good P n sl dsts tab fr0 (fr0+(avs.length+t)) o anc (avs++(tr.take t).map (·.1)) (recs++(tr.take t).map (·.2.1)) (Cat C tr t) q.1 q.2.1 q.2.2
 | [],ancs,avs,recs,C,[],h=>⟨rfl,λt o ho=>by simp at ho⟩
 | [],ancs,avs,recs,C,_::_,h=>h.elim
 | o::os,[],avs,recs,C,tr,h=>by cases tr<;>exact h.elim
 | o::os,anc::ancs,avs,recs,C,[],h=>h.elim
 | o::os,anc::ancs,avs,recs,C,q::tr,h=>by
  obtain⟨h1,h2⟩:=h
  obtain⟨g1,g2⟩:=nv_ h2
  refine⟨by simp[g1],λt p hp => ?_⟩
  cases t with
  | zero =>
   simp at hp
   subst hp
   exact⟨anc,q,rfl,rfl,by simpa [Cat,ua_] using h1⟩
  | succ t =>
   obtain⟨anc',q',e1,e2,e3⟩:=g2 t p (by simpa using hp)
   refine⟨anc',q',by simpa using e1,by simpa using e2,?_⟩
   have e4:(avs++[q.1]).length+t=avs.length+(t+1):=by simp;omega
   rw[e4] at e3
   simpa [Cat,ua_] using e3
theorem bx2 {C:List AO}:∀ {a b:List (AV×DR×List AO)},ua_ C (a++b)=ua_ (ua_ C a) b:=by
 intro a
 induction a generalizing C with
 | nil=>intro b;rfl
 | cons q a ih=>intro b;exact ih (C:=q.2.2)
theorem wu_ {C:List AO} {tr:List (AV×DR×List AO)} {t:Nat} {q:AV×DR×List AO} (h:tr[t]?=some q):Cat C tr (t+1)=q.2.2:=by
 unfold Cat
 obtain⟨hl,e⟩:=a4_.1 h
 rw[List.take_succ_eq_append_getElem hl,bx2,e]
 rfl
end
end
section
variable [Gb]
theorem yf_ {i:Nat}:∀ {l:List Nat},inL i l=true↔i ∈ l
 | []=>by simp[inL]
 | a::l=>by
  simp only[inL,c8_,d8_,yf_ (l:=l)]
  exact⟨λh=>h.imp (λh=>a3_ h) id,λh=>h.imp (λh=>by rw[h];exact g0_ a) id⟩
theorem bk8 {acc:List (List Nat)} {p:Nat} {ps:List Nat} (h:p ∈ ps):inL p (aq0 acc ps)=true:=by
 rw[yf_]
 exact (xz_ acc ps []).2 (.inr ⟨p,h,.inl rfl⟩)
theorem bk9 {acc:List (List Nat)} {j:Nat} {ps:List Nat} (h:inL j (aq0 acc ps)=true):∃ p ∈ ps,j=p∨inL j ((acc[p]?).getD [])=true:=by
 rcases (xz_ acc ps []).1 (yf_.1 h) with h | ⟨p,h1,h2⟩
 ·cases h
 ·exact⟨p,h1,h2.imp id yf_.2⟩
theorem bh0 {j:Nat} (os:List Oper):∀ (acc:List (List Nat)),j<acc.length→(lt_ os acc)[j]?=acc[j]?:=by
 induction os with
 | nil=>intro acc h;rfl
 | cons o os ih =>
  intro acc h
  show (lt_ os (acc++[aq0 acc (cm_ o)]))[j]?=_
  rw[ih _ (by simp;omega),b1_ h]
theorem ancL_at (os:List Oper):∀ (acc:List (List Nat)) (t:Nat) (o:Oper),os[t]?=some o→∃ a2:List (List Nat),(∀ (p:Nat) (x:List Nat),a2[p]?=some x→(lt_ os acc)[p]?=some x)∧(lt_ os acc)[acc.length+t]?=some (aq0 a2 (cm_ o)):=by
 induction os with
 | nil=>intro acc t o h;simp at h
 | cons o' os ih =>
  intro acc t o h
  cases t with
  | zero =>
   have e:o'=o:=by simpa using h
   subst e
   refine⟨acc,λq x hq => ?_,?_⟩
   ·rw[bh0 _ _ (a4_.1 hq).1];exact hq
   ·show (lt_ os (acc++[aq0 acc (cm_ o')]))[acc.length+0]?=_
    rw[bh0 _ _ (by simp)]
    simp
  | succ t =>
   obtain⟨a2,h1,h2⟩:=ih (acc++[aq0 acc (cm_ o')]) t o (by simpa using h)
   refine⟨a2,λq x hq=>h1 q x hq,?_⟩
   rw[show acc.length+(t+1)=(acc++[aq0 acc (cm_ o')]).length+t by simp;omega]
   exact h2
theorem bg9 {os:List Oper} {i:Nat} {o:Oper} {anc:List Nat} (ho:os[i]?=some o) (ha:(lt_ os [])[i]?=some anc) :
  (∀ p ∈ cm_ o,inL p anc=true)∧∀ j,inL j anc=true→∃ p ∈ cm_ o,j=p∨∃ ap,(lt_ os [])[p]?=some ap∧inL j ap=true:=by
 obtain⟨a2,h1,h2⟩:=ancL_at os [] i o ho
 simp only[j7_,b0_] at h2
 rw[ha] at h2
 cases h2
 refine⟨λp hp=>bk8 hp,λj hj => ?_⟩
 obtain⟨p,hp,hpj⟩:=bk9 hj
 refine⟨p,hp,hpj.imp id λh => ?_⟩
 cases hq:a2[p]? with
 | none=>rw[hq] at h;simp[inL] at h
 | some x=>rw[hq] at h;exact⟨x,h1 p x hq,h⟩
theorem cd2 {done:Nat→Bool} {fr0 o:Nat}:∀ {a b:List (AV×DR×List AO)} {t:Nat} {x:Option AO},cAt done fr0 o t (a++b) x=cAt done fr0 o (t+a.length) b (cAt done fr0 o t a x)
 | [],b,t,x=>rfl
 | q::a,b,t,x=>by
  simp only[l6_,cAt,c4_]
  rw[cd2 (a:=a) (b:=b) (t:=t+1),show t+1+a.length=t+(a.length+1) by omega]
section
variable {P:Program} [Tb P] {n:Nat} {sl:Nat→AV} {dsts:List (Option Nat)} {tab:List (List Nat)} {fr0:Nat} {os:List Oper} {ancs:List (List Nat)} {C0:List AO} {tr:List (AV×DR×List AO)}
theorem rt_ (h:tm_ P n sl dsts tab fr0 os ancs [] [] C0 tr):∀ {t:Nat},t≤os.length→(Cat C0 tr t).length=C0.length:=by
 obtain⟨hl,hg⟩:=nv_ h
 intro t
 induction t with
 | zero=>intro _;rfl
 | succ t ih =>
  intro ht
  obtain⟨anc,q,_,h2,h3⟩:=hg t (os[t]'(by omega)) (a7_ _)
  rw[wu_ h2,h3.out.1,ih (by omega)]
theorem cc5 (h:tm_ P n sl dsts tab fr0 os ancs [] [] C0 tr) {o:Nat}:∀ {t:Nat},t≤os.length→(Cat C0 tr t)[o]?=cAt (λi=>Nat.blt i t) fr0 o 0 tr (C0[o]?):=by
 obtain⟨hl,hg⟩:=nv_ h
 have blt:∀ {a b:Nat},Nat.blt a b=true↔a<b:=λ{a b}=>⟨λh=>b6_ h,λh=>h5_ h⟩
 have nblt:∀ {a b:Nat},Nat.blt a b=false↔¬ a<b:=λ{a b}=>by
  cases hb:Nat.blt a b with
  | true=>simp[blt.1 hb]
  | false=>simp; (have:¬ a<b:=λh=>by rw[blt.2 h] at hb;cases hb);omega
 intro t
 induction t with
 | zero =>
  intro _
  rw[ws_ λi q _ _=>by rw[nblt];omega]
  rfl
 | succ t ih =>
  intro ht
  have ih:=ih (by omega)
  obtain⟨anc,q,_,h2,h3⟩:=hg t (os[t]'(by omega)) (a7_ _)
  rw[wu_ h2]
  obtain⟨htl,he⟩:=a4_.1 h2
  have e:tr=tr.take t++q::tr.drop (t+1):=by
   rw[← he,List.getElem_cons_drop htl,g1_]
  have el:(tr.take t).length=t:=by simp;omega
  rw[e,cd2,el,b0_] at ih ⊢
  simp only[cAt] at ih ⊢
  rw[ws_ (λi q' _ _=>by rw[nblt];omega)] at ih ⊢
  have b1:Nat.blt t t=false:=nblt.2 (by omega)
  have b2:Nat.blt t (t+1)=true:=blt.2 (by omega)
  rw[b1,e4_,a2_] at ih
  rw[b2,c0_]
  have e2:cAt (λi=>Nat.blt i (t+1)) fr0 o 0 (tr.take t) C0[o]?=cAt (λi=>Nat.blt i t) fr0 o 0 (tr.take t) C0[o]?:=pv_ λi q' hq _=>by
   have:=(a4_.1 hq).1
   rw[el] at this
   rw[b0_,blt.2 (show i<t+1 by omega),blt.2 this]
  rw[e2,← ih]
  cases htc:tch fr0 o t q with
  | true=>rfl
  | false =>
   simp only[a2_]
   unfold tch at htc
   rw[b8_] at htc
   have hne:o≠fr0+t:=by rintro rfl;simp at htc
   have:=h3.out.2 o (by simpa using hne) htc.2
   rw[this]
   have e3:Cat C0 tr t=Cat C0 (tr.take t++q::tr.drop (t+1)) t:=by rw[← e]
   rw[e3]
end
end
section
variable [Gb]
theorem mv_ {a b:Nat}:Nat.blt a b=true↔a<b:=⟨λh=>b6_ h,λh=>h5_ h⟩
theorem ak3 {a b:Nat}:Nat.blt a b=false↔¬ a<b:=by
 rw[← mv_,Bool.not_eq_true]
theorem za_ {a b:Nat} (h:a≠b):Nat.beq a b=false:=by
 cases hb:Nat.beq a b with
 | false=>rfl
 | true=>exact absurd (a3_ hb) h
theorem sn_:∀ {os:List Oper} {i t:Nat} {o:Oper},so_ os i=true→os[t]?=some o→∀ p ∈ cm_ o,p<i+t:=by
 intro os
 induction os with
 | nil=>intro i t o _ h;simp at h
 | cons o' os ih =>
  intro i t o h ht p hp
  unfold so_ at h
  rw[a1_] at h
  cases t with
  | zero =>
   have e:o'=o:=by simpa using ht
   subst e
   exact mv_.1 (bg_ h.1 p hp)
  | succ t =>
   have:=ih h.2 (show os[t]?=some o by simpa using ht) p hp
   omega
theorem ar8 {os:List Oper} (hp:so_ os 0=true):∀ {i:Nat} {o:Oper} {anc:List Nat},os[i]?=some o→(lt_ os [])[i]?=some anc→∀ {j:Nat},inL j anc=true→j<i:=by
 intro i
 induction i using Nat.strongRecOn with
 | _ i ih =>
  intro o anc ho ha j hj
  obtain⟨p,hpm,h⟩:=(bg9 ho ha).2 j hj
  have hpi:=sn_ hp ho p hpm
  rw[b0_] at hpi
  rcases h with rfl | ⟨ap,h1,h2⟩
  ·exact hpi
  ·have hl:p<os.length:=by have:=(a4_.1 ho).1;omega
   have:=ih p hpi (a7_ hl) h1 h2
   omega
def Cl (os:List Oper) (d:Nat→Bool):Prop:=∀ (i:Nat) (anc:List Nat),(lt_ os [])[i]?=some anc→d i=true→∀ j,inL j anc=true→d j=true
theorem Cl.step {os:List Oper} {d:Nat→Bool} (h:Cl os d) {i:Nat} {o:Oper} (ho:os[i]?=some o) (hpre:∀ p ∈ cm_ o,d p=true) :
  (∀ anc,(lt_ os [])[i]?=some anc→∀ j,inL j anc=true→d j=true)∧Cl os (λj=>Nat.beq j i||d j):=by
 have h1:∀ anc,(lt_ os [])[i]?=some anc→∀ j,inL j anc=true→d j=true:=by
  intro anc ha j hj
  obtain⟨p,hp,he⟩:=(bg9 ho ha).2 j hj
  rcases he with rfl | ⟨ap,h1,h2⟩
  ·exact hpre _ hp
  ·exact h p ap h1 (hpre p hp) j h2
 refine⟨h1,λk anc ha hk j hj => ?_⟩
 rw[c8_]
 rw[c8_] at hk
 rcases hk with hk | hk
 ·rw[a3_ hk] at ha
  exact .inr (h1 anc ha j hj)
 ·exact .inr (h k anc ha hk j hj)
theorem ao7 {o:Nat}:∀ {A B:List Nat},inL o A=true→inL o B=true→cm8 A B=true
 | a::A,B,h,k=>by
  unfold cm8
  rw[c8_]
  unfold inL at h
  rw[c8_] at h
  rcases h with h | h
  ·rw[a3_ h] at k;exact .inl k
  ·exact .inr (ao7 h k)
theorem okC_at {anc F:List Nat} {wr:Bool}:∀ {recs:List DR} {j t:Nat} {r:DR},okC anc F wr j recs=true→recs[t]?=some r→(r.wr||wr)=true→∀ {o:Nat},inL o r.F=true→inL o F=true→inL (j+t) anc=true:=by
 intro recs
 induction recs with
 | nil=>intro j t r _ h;simp at h
 | cons r' recs ih =>
  intro j t r h ht hw o h1 h2
  unfold okC at h
  rw[a1_] at h
  cases t with
  | zero =>
   have e:r'=r:=by simpa using ht
   subst e
   have h3:=h.1
   rw[hw,ao7 h1 h2] at h3
   exact h3
  | succ t =>
   have:=ih h.2 (show recs[t]?=some r by simpa using ht) hw h1 h2
   rwa [show j+1+t=j+(t+1) by omega] at this
theorem okF_at {fr0:Nat} {anc:List Nat} {C:List AO} {o:Nat}:∀ {F:List Nat},okF fr0 anc C F=true→inL o F=true→(o<fr0∨inL (o - fr0) anc=true)∧born C o=true:=by
 intro F
 induction F with
 | nil=>intro _ h;simp[inL] at h
 | cons i F ih =>
  intro h k
  simp only[okF,a1_] at h
  simp only[inL,c8_] at k
  rcases k with k | k
  ·rw[a3_ k]
   refine⟨?_,h.1.2⟩
   have h3:=h.1.1
   rw[c8_] at h3
   exact h3.imp mv_.1 id
  ·exact ih h.2 k
theorem ur_ {l:List AO} {o:Nat} {a:AO} (h:l[o]?=some a):born l o=true↔a≠.unborn:=by
 rw[ax_,h]
 exact⟨λ⟨b,e,hb⟩=>by cases e;exact hb,λhb=>⟨a,rfl,hb⟩⟩
theorem ak1 {l m:List AO} {o:Nat} (h:l[o]?=m[o]?):born l o=born m o:=by
 rw[j8_,ax_,ax_,h]
section
variable {P:Program} [Tb P] {n:Nat} {sl:Nat→AV} {dsts:List (Option Nat)} {tab:List (List Nat)} {fr0:Nat} {os:List Oper} {C0:List AO} {tr:List (AV×DR×List AO)}
theorem Good.foot {fr:Nat} {o:Oper} {anc:List Nat} {avs:List AV} {recs:List DR} {C C':List AO} {av:AV} {r:DR} (h:Good P n sl dsts tab fr0 fr o anc avs recs C av r C') :
  (∀ (t:Nat) (q:DR),recs[t]?=some q→(q.wr||r.wr)=true→∀ {p:Nat},inL p q.F=true→inL p r.F=true→inL t anc=true) ∧
  (∀ {p:Nat},inL p r.F=true→(p<fr0∨inL (p - fr0) anc=true)∧born C p=true) ∧
  (fr<C.length→∀ {p:Nat},(Nat.beq p fr||(r.wr&&inL p r.F))=true→born C' p=true):=by
 have ran:∀ V,Ran P n sl dsts tab fr0 fr o anc V recs C av r C'→_:=λV hR=>by
  refine (⟨λt q hq hw p h1 h2 => ?_,λ{p} hp => ?_,λhfr p hp => ?_⟩ :
   (∀ (t:Nat) (q:DR),recs[t]?=some q→(q.wr||r.wr)=true→∀ {p:Nat},inL p q.F=true→inL p r.F=true→inL t anc=true) ∧
   (∀ {p:Nat},inL p r.F=true→(p<fr0∨inL (p - fr0) anc=true)∧born C p=true) ∧
   (fr<C.length→∀ {p:Nat},(Nat.beq p fr||(r.wr&&inL p r.F))=true→born C' p=true))
  ·have:=okC_at hR.okc hq hw h1 h2
   rwa [b0_] at this
  ·have hs:=hR.oks
   unfold okS2 at hs
   rw[a1_,a1_] at hs
   exact okF_at hs.1.1 hp
  ·rcases hR.run with ⟨hw,ob,_,rfl,_,hb,_⟩ | ⟨hw,_,rfl⟩
   ·rw[c8_] at hp
    rcases hp with hp | hp
    ·rw[a3_ hp]
     exact ry_ (by rw[nd_];exact hfr)
    ·rw[hw,c0_] at hp
     exact bg_ hb p (yf_.1 hp)
   ·rw[hw,e4_,i0_] at hp
    rw[a3_ hp]
    exact ry_ hfr
 obtain⟨V,_,hg⟩:=h.go
 split at hg
 ·exact ran V hg
 ·obtain⟨_,_,a0,_,⟨_,hR⟩ | ⟨_,_,_,rfl,rfl⟩⟩:=hg
  ·exact ran V hR
  ·refine⟨λt q _ _ p _ h=>by simp[inL] at h,λ{p} h=>by simp[inL] at h,λhfr p hp => ?_⟩
   simp only[e4_,i0_] at hp
   rw[a3_ hp]
   exact ry_ hfr
structure At (P:Program) [Tb P] (n:Nat) (sl:Nat→AV) (dsts:List (Option Nat)) (fr0:Nat) (os:List Oper) (C0:List AO) (tr:List (AV×DR×List AO)) (i:Nat) (o:Oper) (anc:List Nat) (q:AV×DR×List AO):Prop where
 ho:os[i]?=some o
 ha:(lt_ os [])[i]?=some anc
 hq:tr[i]?=some q
 good:Good P n sl dsts (lt_ os []) fr0 (fr0+i) o anc ((tr.take i).map (·.1)) ((tr.take i).map (·.2.1)) (Cat C0 tr i) q.1 q.2.1 q.2.2
theorem cr0 (h:tm_ P n sl dsts (lt_ os []) fr0 os (lt_ os []) [] [] C0 tr) {i:Nat} {o:Oper} (ho:os[i]?=some o):∃ anc q,At P n sl dsts fr0 os C0 tr i o anc q:=by
 obtain⟨anc,q,h1,h2,h3⟩:=(nv_ h).2 i o ho
 simp only[j7_,b0_,g8_] at h3
 exact⟨anc,q,ho,h1,h2,h3⟩
theorem cd8 (h:tm_ P n sl dsts (lt_ os []) fr0 os (lt_ os []) [] [] C0 tr) {i:Nat} {q:AV×DR×List AO} (hq:tr[i]?=some q):∃ o anc,At P n sl dsts fr0 os C0 tr i o anc q:=by
 have hl:=(a4_.1 hq).1
 have e:=(nv_ h).1
 obtain⟨anc,q',A⟩:=cr0 h (a7_ (by omega:i<os.length))
 have:=A.hq
 rw[hq] at this
 cases this
 exact⟨_,anc,A⟩
theorem tj_ {d:Nat→Bool} {o:Nat}:∀ {tr:List (AV×DR×List AO)} {t:Nat} {a:Option AO},
  (cAt d fr0 o t tr a=a∧∀ i q,tr[i]?=some q→(d (t+i)&&tch fr0 o (t+i) q)=false) ∨
  ∃ i q,tr[i]?=some q∧d (t+i)=true∧tch fr0 o (t+i) q=true∧cAt d fr0 o t tr a=q.2.2[o]?∧∀ j q',i<j→tr[j]?=some q'→(d (t+j)&&tch fr0 o (t+j) q')=false:=by
 intro tr
 induction tr with
 | nil=>intro t a;exact .inl ⟨rfl,λi q h=>by simp at h⟩
 | cons p tr ih =>
  intro t a
  unfold cAt
  rcases ih (t:=t+1) (a:=cond (d t&&tch fr0 o t p) (p.2.2[o]?) a) with ⟨h1,h2⟩ | ⟨i,q,h1,h2,h3,h4,h5⟩
  ·cases hp:d t&&tch fr0 o t p with
   | false =>
    rw[hp] at h1
    refine .inl ⟨h1,λi q hq => ?_⟩
    cases i with
    | zero =>
     have e:p=q:=by simpa using hq
     subst e
     exact hp
    | succ i =>
     have:=h2 i q (by simpa using hq)
     rwa [show t+1+i=t+(i+1) by omega] at this
   | true =>
    rw[hp] at h1
    rw[a1_] at hp
    refine .inr ⟨0,p,rfl,hp.1,hp.2,h1,λj q hj hq => ?_⟩
    cases j with
    | zero=>omega
    | succ j =>
     have:=h2 j q (by simpa using hq)
     rwa [show t+1+j=t+(j+1) by omega] at this
  ·refine .inr ⟨i+1,q,by simpa using h1,?_,?_,h4,λj q' hj hq => ?_⟩
   ·rwa [show t+(i+1)=t+1+i by omega]
   ·rwa [show t+(i+1)=t+1+i by omega]
   ·cases j with
    | zero=>omega
    | succ j =>
     have:=h5 j q' (by omega) (by simpa using hq)
     rwa [show t+1+j=t+(j+1) by omega] at this
def cur (fr0:Nat) (C0:List AO) (tr:List (AV×DR×List AO)) (d:Nat→Bool):List AO:=(List.range C0.length).map λo=>(cAt d fr0 o 0 tr C0[o]?).getD .unborn
theorem ju_ {d:Nat→Bool}:(cur fr0 C0 tr d).length=C0.length:=by simp[cur]
variable (h:tm_ P n sl dsts (lt_ os []) fr0 os (lt_ os []) [] [] C0 tr)
include h
theorem cw5 {i:Nat} {o:Oper} {anc:List Nat} {q:AV×DR×List AO} (A:At P n sl dsts fr0 os C0 tr i o anc q):q.2.2.length=C0.length:=by
 rw[A.good.out.1,rt_ h (by have:=(a4_.1 A.ho).1;omega)]
theorem pq_ {d:Nat→Bool} {o:Nat} (ho:o<C0.length):(cur fr0 C0 tr d)[o]?=cAt d fr0 o 0 tr C0[o]?:=by
 unfold cur
 rw[d5_,m3_ ho]
 show some _=_
 have:∃ a,cAt d fr0 o 0 tr C0[o]?=some a:=by
  rcases tj_ (fr0:=fr0) (d:=d) (o:=o) (tr:=tr) (t:=0) (a:=C0[o]?) with ⟨e,_⟩ | ⟨i,q,hq,_,_,e,_⟩
  ·rw[e];exact⟨_,a7_ ho⟩
  ·obtain⟨p,anc,A⟩:=cd8 h hq
   rw[e]
   exact⟨_,a7_ (by rw[cw5 h A];exact ho)⟩
 obtain⟨a,e⟩:=this
 show some ((cAt d fr0 o 0 tr C0[o]?).getD AO.unborn)=_
 rw[e]
 rfl
end
end
section
variable [Gb]
structure Base (fr0:Nat) (os:List Oper) (C0:List AO):Prop where
 len:C0.length=fr0+os.length
 un:∀ o,fr0≤o→o<C0.length→C0[o]?=some .unborn
theorem jp_ {fr0 o t:Nat} {q:AV×DR×List AO}:tch fr0 o t q=true↔o=fr0+t∨(q.2.1.wr=true∧inL o q.2.1.F=true):=by
 unfold tch
 rw[c8_,a1_]
 exact⟨λh=>h.imp a3_ id,λh=>h.imp (λh=>by rw[h];exact g0_ _) id⟩
section
variable {P:Program} [Tb P] {n:Nat} {sl:Nat→AV} {dsts:List (Option Nat)} {fr0:Nat} {os:List Oper} {C0:List AO} {tr:List (AV×DR×List AO)}
variable (h:tm_ P n sl dsts (lt_ os []) fr0 os (lt_ os []) [] [] C0 tr) (hb:Base fr0 os C0) (hp:so_ os 0=true)
include h hb hp
theorem ac5 {i o:Nat} {p:Oper} {anc:List Nat} {q:AV×DR×List AO} (A:At P n sl dsts fr0 os C0 tr i p anc q) (ht:tch fr0 o i q=true):born q.2.2 o=true:=by
 have hi:=(a4_.1 A.ho).1
 refine A.good.foot.2.2 ?_ (by unfold tch at ht;exact ht)
 rw[rt_ h (by omega),hb.len]
 omega
theorem pw_ {o:Nat} (ho:o<fr0):∀ {t:Nat},t≤os.length→born (Cat C0 tr t) o=born C0 o:=by
 intro t
 induction t with
 | zero=>intro _;rfl
 | succ t ih =>
  intro ht
  obtain⟨anc,q,A⟩:=cr0 h (a7_ (by omega:t<os.length))
  rw[wu_ A.hq]
  have ih:=ih (by omega)
  cases htc:tch fr0 o t q with
  | true =>
   rw[ac5 h hb hp A htc]
   rcases jp_.1 htc with e | ⟨_,e⟩
   ·omega
   ·rw[← ih]
    exact (A.good.foot.2.1 e).2.symm
  | false =>
   rw[← ih]
   refine ak1 (A.good.out.2 o (by omega) ?_)
   unfold tch at htc
   rw[b8_] at htc
   exact htc.2
theorem td_ {d:Nat→Bool} {o:Nat} (ho:o<fr0):born (cur fr0 C0 tr d) o=born C0 o:=by
 have hl:o<C0.length:=by rw[hb.len];omega
 rcases tj_ (fr0:=fr0) (d:=d) (o:=o) (tr:=tr) (t:=0) (a:=C0[o]?) with ⟨e,_⟩ | ⟨i,q,hq,_,ht,e,_⟩
 ·exact ak1 (by rw[pq_ h hl,e])
 ·obtain⟨p,anc,A⟩:=cd8 h hq
  have hi:=(a4_.1 A.ho).1
  rw[← pw_ h hb hp ho (show i+1≤os.length by omega),wu_ hq]
  exact ak1 (by rw[pq_ h hl,e])
theorem bs4 {d:Nat→Bool} (hd:Cl os d) {j i:Nat} {p:Oper} {anc:List Nat} {q:AV×DR×List AO} (A:At P n sl dsts fr0 os C0 tr i p anc q) (hi:d i=true) (ht:tch fr0 (fr0+j) i q=true):d j=true:=by
 rcases jp_.1 ht with e | ⟨_,e⟩
 ·have:i=j:=by omega
  rw[← this];exact hi
 ·rcases (A.good.foot.2.1 e).1 with h1 | h1
  ·omega
  ·rw[show fr0+j - fr0=j by omega] at h1
   exact hd i anc A.ha hi j h1
theorem yv_ {d:Nat→Bool} (hd:Cl os d) {j:Nat} (hj:j<os.length):born (cur fr0 C0 tr d) (fr0+j)=d j:=by
 have hl:fr0+j<C0.length:=by rw[hb.len];omega
 rcases tj_ (fr0:=fr0) (d:=d) (o:=fr0+j) (tr:=tr) (t:=0) (a:=C0[fr0+j]?) with ⟨e,hn⟩ | ⟨i,q,hq,h1,ht,e,_⟩
 ·have hdj:d j=false:=by
   obtain⟨anc,q,A⟩:=cr0 h (a7_ hj)
   have:=hn j q A.hq
   rw[b0_,jp_.2 (.inl rfl),h1_] at this
   exact this
  rw[hdj]
  have:¬ born (cur fr0 C0 tr d) (fr0+j)=true:=by
   rw[ax_]
   rintro⟨a,h1,h2⟩
   rw[pq_ h hl,e,hb.un _ (by omega) hl] at h1
   cases h1
   exact h2 rfl
  simpa using this
 ·obtain⟨p,anc,A⟩:=cd8 h hq
  rw[b0_] at h1 ht
  rw[bs4 h hb hp hd A h1 ht]
  have:=ac5 h hb hp A ht
  rw[← this]
  exact ak1 (by rw[pq_ h hl,e])
theorem cl_text {t:Nat}:Cl os (λi=>Nat.blt i t):=by
 intro i anc ha hi j hj
 have hl:i<os.length:=by
  have:=(a4_.1 ha).1
  cases ho:os[i]? with
  | some o=>exact (a4_.1 ho).1
  | none =>
   exfalso
   have:∀ (os:List Oper) (acc:List (List Nat)),(lt_ os acc).length=acc.length+os.length:=by
    intro os
    induction os with
    | nil=>intro acc;rfl
    | cons o os ih=>intro acc;unfold lt_;rw[ih];simp;omega
   have h2:=this os []
   have h3:=o9_.1 ho
   simp at h2
   omega
 have:=ar8 hp (a7_ hl) ha hj
 rw[mv_] at hi ⊢
 omega
theorem cc4 {t:Nat} (ht:t≤os.length):Cat C0 tr t=cur fr0 C0 tr (λi=>Nat.blt i t):=by
 refine f1_ λo => ?_
 by_cases ho:o<C0.length
 ·rw[pq_ h ho,cc5 h ht]
 ·rw[b4_ (by rw[rt_ h ht];omega),b4_ (by rw[ju_];omega)]
theorem cc3 {i:Nat} (hi:i<os.length):(Cat C0 tr i)[fr0+i]?=some .unborn:=by
 have hl:fr0+i<(Cat C0 tr i).length:=by rw[rt_ h (by omega),hb.len];omega
 have:=yv_ h hb hp (cl_text h hb hp (t:=i)) hi
 rw[← cc4 h hb hp (by omega),show Nat.blt i i=false from ak3.2 (by omega)] at this
 rw[a7_ hl]
 congr 1
 by_cases e:(Cat C0 tr i)[fr0+i] = .unborn
 ·exact e
 ·rw[(ur_ (a7_ hl)).2 e] at this
  cases this
theorem av7 {i j:Nat} {q:AV×DR×List AO} (hj:j<i) (hq:tr[j]?=some q):((tr.take i).map (·.2.1))[j]?=some q.2.1:=by
 rw[d5_,p2_ hj,hq]
 rfl
theorem ready {d:Nat→Bool} (hd:Cl os d) {i o:Nat} {p:Oper} {anc:List Nat} {q:AV×DR×List AO} (A:At P n sl dsts fr0 os C0 tr i p anc q) (hi:d i=false) (hanc:∀ j,inL j anc=true→d j=true)
  (hF:inL o q.2.1.F=true) (ho:o<C0.length):(cur fr0 C0 tr d)[o]?=(Cat C0 tr i)[o]?:=by
 have hil:=(a4_.1 A.ho).1
 rw[pq_ h ho,cc5 h (by omega)]
 refine pv_ λj q' hq' ht => ?_
 rw[b0_] at ht ⊢
 obtain⟨p',anc',B⟩:=cd8 h hq'
 rcases jp_.1 ht with e | ⟨hw,e⟩
 ·rcases (A.good.foot.2.1 hF).1 with h1 | h1
  ·omega
  ·rw[e,show fr0+j - fr0=j by omega] at h1
   rw[hanc j h1,mv_.2 (ar8 hp A.ho A.ha h1)]
 ·rcases n6_ j i with hji | rfl | hji
  ·have:=A.good.foot.1 j q'.2.1 (av7 h hb hp hji hq') (by rw[hw];rfl) e hF
   rw[hanc j this,mv_.2 hji]
  ·rw[hi,ak3.2 (by omega)]
  ·have:=B.good.foot.1 i q.2.1 (av7 h hb hp hji A.hq) (by rw[hw,o2_]) hF e
   rw[ak3.2 (by omega)]
   cases hdj:d j with
   | false=>rfl
   | true=>have:=hd j anc' B.ha hdj i this;rw[hi] at this;cases this
theorem after {d:Nat→Bool} (hd:Cl os d) {i o:Nat} {p:Oper} {anc:List Nat} {q:AV×DR×List AO} (A:At P n sl dsts fr0 os C0 tr i p anc q) (hi:d i=false) (hanc:∀ j,inL j anc=true→d j=true) (ho:o<C0.length) :
  (cur fr0 C0 tr (λj=>Nat.beq j i||d j))[o]?=cond (tch fr0 o i q) (q.2.2[o]?) ((cur fr0 C0 tr d)[o]?):=by
 rw[pq_ h ho,pq_ h ho]
 cases htc:tch fr0 o i q with
 | true =>
  rcases tj_ (fr0:=fr0) (d:=λj=>Nat.beq j i||d j) (o:=o) (tr:=tr) (t:=0) (a:=C0[o]?) with ⟨_,hn⟩ | ⟨k,qk,hq,h1,ht,e,hlast⟩
  ·have:=hn i q A.hq
   rw[b0_,htc] at this
   simp at this
  ·rw[b0_] at h1 ht
   rcases n6_ k i with hki | rfl | hki
   ·have:=hlast i q hki A.hq
    rw[b0_,htc] at this
    simp at this
   ·rw[e]
    have:=A.hq
    rw[hq] at this
    cases this
    rfl
   ·exfalso
    obtain⟨p',anc',B⟩:=cd8 h hq
    have hdk:d k=true:=by
     rw[za_ (show k≠i by omega),k3_] at h1
     exact h1
    have bad:inL i anc'=true→False:=λhh=>by have:=hd k anc' B.ha hdk i hh;rw[hi] at this;cases this
    rcases jp_.1 ht with e1 | ⟨hw,e1⟩
    ·rcases jp_.1 htc with e2 | ⟨_,e2⟩
     ·omega
     ·rcases (A.good.foot.2.1 e2).1 with h3 | h3
      ·omega
      ·rw[e1,show fr0+k - fr0=k by omega] at h3
       have:=ar8 hp A.ho A.ha h3
       omega
    ·rcases jp_.1 htc with e2 | ⟨_,e2⟩
     ·rcases (B.good.foot.2.1 e1).1 with h3 | h3
      ·omega
      ·rw[e2,show fr0+i - fr0=i by omega] at h3
       exact bad h3
     ·exact bad (B.good.foot.1 i q.2.1 (av7 h hb hp hki A.hq) (by rw[hw,o2_]) e2 e1)
 | false =>
  refine pv_ λj q' hq' ht => ?_
  rw[b0_] at ht ⊢
  have hne:j≠i:=by
   rintro rfl
   have:=A.hq
   rw[hq'] at this
   cases this
   rw[htc] at ht
   cases ht
  rw[za_ hne,k3_]
end
end
section
variable [Gb]
def at0 (fr0:Nat) (anc F:List Nat) (i:Nat) (a:AO):AO:=cond (inL i F) a (cond (Nat.blt i fr0) (match a with
  | .unborn=>.unborn
  | _=>.gone) (cond (inL (i - fr0) anc) .gone .unborn))
theorem kb_ {fr0:Nat} {anc F:List Nat}:∀ {l:List AO} {i j:Nat},(qa_ fr0 anc F i l)[j]?=(l[j]?).map (at0 fr0 anc F (i+j)):=by
 intro l
 induction l with
 | nil=>intro i j;rfl
 | cons a l ih =>
  intro i j
  cases j with
  | zero=>rfl
  | succ j =>
   show (qa_ fr0 anc F (i+1) l)[j]?=_
   rw[ih,show i+1+j=i+(j+1) by omega]
   rfl
theorem vy_ {fr0:Nat} {anc F:List Nat}:∀ {l:List AO} {i:Nat},(qa_ fr0 anc F i l).length=l.length:=by
 intro l
 induction l with
 | nil=>intro i;rfl
 | cons a l ih=>intro i;show (qa_ fr0 anc F (i+1) l).length+1=_;rw[ih];rfl
theorem az3 {fr0:Nat} {anc F:List Nat} {i:Nat} {a:AO} (h:inL i F=true):at0 fr0 anc F i a=a:=by unfold at0;rw[h];rfl
theorem sf_ {fr0:Nat} {anc F:List Nat} {i:Nat} {a:AO} (h:inL i F=false) (hi:i<fr0):at0 fr0 anc F i a=match a with
  | .unborn=>.unborn
  | _=>.gone:=by unfold at0;rw[h,mv_.2 hi];rfl
theorem qb_ {fr0:Nat} {anc F:List Nat} {i:Nat} {a:AO} (h:inL i F=false) (hi:¬ i<fr0):at0 fr0 anc F i a=cond (inL (i - fr0) anc) .gone .unborn:=by unfold at0;rw[h,ak3.2 hi];rfl
theorem bm7 {fr0:Nat} {anc F:List Nat} {i:Nat} {a:AO} (h:inL i F=false):at0 fr0 anc F i a = .gone∨at0 fr0 anc F i a = .unborn:=by
 by_cases hi:i<fr0
 ·rw[sf_ h hi]
  cases a<;>simp
 ·rw[qb_ h hi]
  cases inL (i - fr0) anc<;>simp
theorem zt_ {fr0:Nat} {anc F:List Nat} {l m:List AO} (hl:l.length=m.length) (h1:∀ o,o<l.length→inL o F=true→l[o]?=m[o]?) (h2:∀ o,o<fr0→born l o=born m o):qa_ fr0 anc F 0 l=qa_ fr0 anc F 0 m:=by
 refine f1_ λo => ?_
 rw[kb_,kb_,b0_]
 by_cases ho:o<l.length
 ·have e1:l[o]?=some l[o]:=a7_ ho
  have e2:m[o]?=some (m[o]'(by omega)):=a7_ (by omega)
  cases hF:inL o F with
  | true=>rw[h1 o ho hF]
  | false =>
   rw[e1,e2]
   show some _=some _
   congr 1
   by_cases hi:o<fr0
   ·rw[sf_ hF hi,sf_ hF hi]
    have:=h2 o hi
    have b1:=ur_ e1
    have b2:=ur_ e2
    rw[this] at b1
    have b3:=b1.symm.trans b2
    generalize l[o]=a at b3
    generalize m[o]'(by omega)=b at b3
    cases a<;>cases b<;>first | rfl | simp at b3
   ·rw[qb_ hF hi,qb_ hF hi]
 ·rw[b4_ (by omega),b4_ (by omega)]
theorem ch3 {fr0:Nat} {anc F:List Nat} {l:List AO} {o:Nat} (h:born (qa_ fr0 anc F 0 l) o=true):o<l.length∧((inL o F=true∧born l o=true)∨(o<fr0∧born l o=true)∨(¬ o<fr0∧inL (o - fr0) anc=true)):=by
 obtain⟨b,h1,h2⟩:=ax_.1 h
 rw[kb_,b0_] at h1
 cases ha:l[o]? with
 | none=>rw[ha] at h1;cases h1
 | some a =>
  refine⟨(a4_.1 ha).1,?_⟩
  rw[ha] at h1
  have e:at0 fr0 anc F o a=b:=by simpa using h1
  cases hF:inL o F with
  | true =>
   rw[az3 hF] at e
   subst e
   exact .inl ⟨rfl,(ur_ ha).2 h2⟩
  | false =>
   by_cases hi:o<fr0
   ·rw[sf_ hF hi] at e
    refine .inr (.inl ⟨hi,(ur_ ha).2 ?_⟩)
    rintro rfl
    exact h2 e.symm
   ·rw[qb_ hF hi] at e
    refine .inr (.inr ⟨hi,?_⟩)
    cases hh:inL (o - fr0) anc with
    | true=>rfl
    | false=>rw[hh] at e;exact absurd e.symm h2
theorem ww_ {fr0:Nat} {anc F:List Nat} {l:List AO} {o:Nat} (hb:born l o=true) (h:inL o F=true∨o<fr0):born (qa_ fr0 anc F 0 l) o=true:=by
 obtain⟨a,h1,h2⟩:=ax_.1 hb
 refine ax_.2 ⟨at0 fr0 anc F o a,by rw[kb_,h1,b0_];rfl,?_⟩
 cases hF:inL o F with
 | true=>rw[az3 hF];exact h2
 | false =>
  rw[sf_ hF (h.resolve_left (by rw[hF];exact Bool.false_ne_true))]
  cases a<;>first | exact absurd rfl h2 | exact λe=>by cases e
theorem xv_ {hv:Nat→Value}:∀ {l:List AO} {i j:Nat},(OHs hv i l)[j]?=(l[j]?).map (OH hv (hv (i+j))):=by
 intro l
 induction l with
 | nil=>intro i j;rfl
 | cons a l ih =>
  intro i j
  cases j with
  | zero=>rfl
  | succ j =>
   show (OHs hv (i+1) l)[j]?=_
   rw[ih,show i+1+j=i+(j+1) by omega]
   rfl
theorem jq_ {hv:Nat→Value}:∀ {l:List AO} {i:Nat},(OHs hv i l).length=l.length:=by
 intro l
 induction l with
 | nil=>intro i;rfl
 | cons a l ih=>intro i;show (OHs hv (i+1) l).length+1=_;rw[ih];rfl
def cv1 (F:List Nat):Nat→List AO→List AO
 | _,[]=>[]
 | i,a::l=>cond (inL i F) .gone a::cv1 F (i+1) l
theorem ai4 {F:List Nat}:∀ {l:List AO} {i j:Nat},(cv1 F i l)[j]?=(l[j]?).map λa=>cond (inL (i+j) F) .gone a:=by
 intro l
 induction l with
 | nil=>intro i j;rfl
 | cons a l ih =>
  intro i j
  cases j with
  | zero=>rfl
  | succ j =>
   show (cv1 F (i+1) l)[j]?=_
   rw[ih,show i+1+j=i+(j+1) by omega]
   rfl
theorem ai3 {F:List Nat}:∀ {l:List AO} {i:Nat},(cv1 F i l).length=l.length:=by
 intro l
 induction l with
 | nil=>intro i;rfl
 | cons a l ih=>intro i;show (cv1 F (i+1) l).length+1=_;rw[ih];rfl
theorem sw_ {w:World} {S:PH} {O:List HP}:∀ {A:List HP},Inv w S (A++O)→Inv w S O:=by
 intro A
 induction A with
 | nil=>intro h;exact h
 | cons a A ih=>intro h;exact ih (Inv.drop (show Inv w S (a::(A++O)) from h))
theorem ap3 {w:World} {S:PH}:∀ {T A B O:List HP},T.length=A.length→T.length=B.length →
  (∀ (j:Nat) (t a b:HP),T[j]?=some t→A[j]?=some a→B[j]?=some b→(a=t∧b=HP.exact Hp.emp)∨(a=HP.exact Hp.emp∧b=t))→Inv w S (T++O)→Inv w S (A++(B++O)):=by
 intro T
 induction T with
 | nil =>
  intro A B O h1 h2 _ h
  cases A with
  | nil=>cases B with
   | nil=>exact h
   | cons b B=>simp at h2
  | cons a A=>simp at h1
 | cons t T ih =>
  intro A B O h1 h2 hp h
  cases A with
  | nil=>simp at h1
  | cons a A =>
   cases B with
   | nil=>simp at h2
   | cons b B =>
    have h3:Inv w S (T++(t::O)):=h.perm List.perm_middle.symm
    have h4:=ih (A:=A) (B:=B) (by simpa using h1) (by simpa using h2) (λj t a b e1 e2 e3=>hp (j+1) t a b (by simpa using e1) (by simpa using e2) (by simpa using e3)) h3
    have h5:Inv w S (t::(A++(B++O))):=h4.perm (by
     rw[← b3_,← b3_]
     exact c9_)
    have h6:=lf_ h5
    have e:(t::(A++(b::(B++O)))).Perm (t::b::(A++(B++O))):=List.Perm.cons _ c9_
    rcases hp 0 t a b rfl rfl rfl with ⟨rfl,rfl⟩ | ⟨rfl,rfl⟩
    ·exact (h6.perm (List.Perm.swap _ _ _)).perm e.symm
    ·exact h6.perm (List.Perm.cons _ List.perm_middle.symm)
theorem co1 {w:World} {S:PH}:∀ {T A B O:List HP},T.length≤A.length→T.length≤B.length →
  (∀ (j:Nat) (t a b:HP),T[j]?=some t→A[j]?=some a→B[j]?=some b→t=a∨t=b)→Inv w S (A++(B++O))→Inv w S (T++O):=by
 intro T
 induction T with
 | nil=>intro A B O _ _ _ h;exact sw_ (sw_ h)
 | cons t T ih =>
  intro A B O h1 h2 hp h
  cases A with
  | nil=>simp at h1
  | cons a A =>
   cases B with
   | nil=>simp at h2
   | cons b B =>
    have h3:Inv w S (A++(B++(a::b::O))):=h.perm (by
     show (a::(A++(b::(B++O)))).Perm _
     refine (List.Perm.cons _ c9_).trans ?_
     have e1:(A++(B++(a::b::O))).Perm (a::(A++(B++(b::O)))):=by
      rw[← b3_,← b3_]
      exact c9_
     have e2:(A++(B++(b::O))).Perm (b::(A++(B++O))):=by
      rw[← b3_,← b3_]
      exact c9_
     exact (e1.trans (List.Perm.cons _ e2)).symm)
    have h4:=ih (A:=A) (B:=B) (by simpa using h1) (by simpa using h2) (λj t a b e1 e2 e3=>hp (j+1) t a b (by simpa using e1) (by simpa using e2) (by simpa using e3)) h3
    have h5:Inv w S (a::b::(T++O)):=h4.perm (List.perm_middle.trans (List.Perm.cons _ c9_))
    rcases hp 0 t a b rfl rfl rfl with rfl | rfl
    ·exact (h5.perm (List.Perm.swap _ _ _)).drop
    ·exact h5.drop
theorem nh_ {x:Nat}:∀ {l:List (Option Nat)} {i j:Nat},go_ x l i=some j→∃ k,j=i+k∧l[k]?=some (some x):=by
 intro l
 induction l with
 | nil=>intro i j h;cases h
 | cons a l ih =>
  intro i j h
  cases a with
  | none =>
   obtain⟨k,e,hk⟩:=ih (show go_ x l (i+1)=some j from h)
   exact⟨k+1,by omega,by simpa using hk⟩
  | some e =>
   have h:cond (Nat.beq x e) (some i) (go_ x l (i+1))=some j:=h
   cases hb:Nat.beq x e with
   | true =>
    rw[hb] at h
    cases h
    rw[a3_ hb]
    exact⟨0,rfl,rfl⟩
   | false =>
    rw[hb] at h
    obtain⟨k,e,hk⟩:=ih h
    exact⟨k+1,by omega,by simpa using hk⟩
theorem ab0 {x:Nat}:∀ {l:List (Option Nat)} {i:Nat},go_ x l i=none→∀ (k:Nat),l[k]?≠some (some x):=by
 intro l
 induction l with
 | nil=>intro i h k;simp
 | cons a l ih =>
  intro i h k
  cases a with
  | none =>
   cases k with
   | zero=>simp
   | succ k=>simpa using ih (show go_ x l (i+1)=none from h) k
  | some e =>
   have h:cond (Nat.beq x e) (some i) (go_ x l (i+1))=none:=h
   cases hb:Nat.beq x e with
   | true=>rw[hb] at h;cases h
   | false =>
    rw[hb] at h
    cases k with
    | zero =>
     intro e2
     have:e=x:=by simpa using e2
     rw[this,g0_] at hb
     cases hb
    | succ k=>simpa using ih h k
theorem bb8 {x:Nat}:∀ {l:List (Option Nat)} {i j:Nat},tz_ l=true→l[i]?=some (some x)→l[j]?=some (some x)→i=j:=by
 intro l
 induction l with
 | nil=>intro i j _ h;simp at h
 | cons a l ih =>
  intro i j h hi hj
  have ho:tz_ l=true∧(a=some x→l.contains (some x)=false):=by
   cases a with
   | none=>exact⟨h,λe=>by cases e⟩
   | some d =>
    have h:(!(l.contains (some d))&&tz_ l)=true:=h
    rw[a1_] at h
    exact⟨h.2,λe=>by rw[← e];simpa using h.1⟩
  have bad:∀ (k:Nat),a=some x→l[k]?=some (some x)→False:=λk e hk=>by
   have:=ho.2 e
   rw[List.contains_eq_mem,p4_] at this
   exact this (b2_ hk)
  cases i with
  | zero=>cases j with
   | zero=>rfl
   | succ j=>exact (bad j (by simpa using hi) (by simpa using hj)).elim
  | succ i=>cases j with
   | zero=>exact (bad i (by simpa using hj) (by simpa using hi)).elim
   | succ j=>exact congrArg Nat.succ (ih ho.1 (by simpa using hi) (by simpa using hj))
theorem ai0 {x:Nat} {l:List (Option Nat)} {i:Nat} (h:tz_ l=true) (hi:l[i]?=some (some x)):go_ x l 0=some i:=by
 cases hx:go_ x l 0 with
 | none=>exact absurd hi (ab0 hx i)
 | some j =>
  obtain⟨k,e,hk⟩:=nh_ hx
  rw[bb8 h hi hk,e,b0_]
theorem okU_at {anc:List Nat} {vis:List AO}:∀ {V:List AV} {i j:Nat} {a:AV},okU anc vis i V=true→V[j]?=some a→inL (i+j) anc=true→a.lt vis=true:=by
 intro V
 induction V with
 | nil=>intro i j a _ h;simp at h
 | cons b V ih =>
  intro i j a h hj hi
  unfold okU at h
  rw[a1_] at h
  cases j with
  | zero =>
   have e:b=a:=by simpa using hj
   subst e
   have h1:=h.1
   rw[m6_] at hi
   rw[hi] at h1
   exact h1
  | succ j=>exact ih h.2 (by simpa using hj) (by rwa [show i+1+j=i+(j+1) by omega])
theorem okW_at {F:List Nat} {all:List AO}:∀ {l:List AO} {i j:Nat} {a:AO},okW F all i l=true→l[j]?=some a→inL (i+j) F=true→a.lt all=true:=by
 intro V
 induction V with
 | nil=>intro i j a _ h;simp at h
 | cons b V ih =>
  intro i j a h hj hi
  unfold okW at h
  rw[a1_] at h
  cases j with
  | zero =>
   have e:b=a:=by simpa using hj
   subst e
   have h1:=h.1
   rw[m6_] at hi
   rw[hi] at h1
   exact h1
  | succ j=>exact ih h.2 (by simpa using hj) (by rwa [show i+1+j=i+(j+1) by omega])
end
section
variable [Gb]
def bl7 (tr:List (AV×DR×List AO)) (j:Nat):AV:=((tr[j]?).map (·.1)).getD (.b .dead)
def oe_ (sl:Nat→AV) (dsts:List (Option Nat)) (tr:List (AV×DR×List AO)) (d:Nat→Bool) (x:Nat):AV:=match go_ x dsts 0 with
 | none=>sl x
 | some j=>cond (d j) (bl7 tr j) (sl x)
structure Dy (S0:PH) (hv0:Nat→Value) (ob0:List AO) (Fm:List HP) (D0:List Deferred) (sl:Nat→AV) (dsts:List (Option Nat)) (C0 cu:List AO) (cs:Nat→AV) (S:PH) (hv:Nat→Value) (f:Fr) (w:World):Prop where
 le:S0.Le S
 ag:Ag ob0 hv0 hv
 inv:Inv w S (OHs hv 0 cu++Fm)
 rel:∀ x,RA hv S (cs x) (f x)
 wfs:∀ x,(cs x).lt cu=true
 wfo:WfO cu
 keep:Keep C0 cu
 ds:f.ds=D0
 gl:GlS S
theorem ay3 {tr:List (AV×DR×List AO)} {i j:Nat} {a0:AV} (h:((tr.take i).map (·.1))[j]?=some a0):bl7 tr j=a0:=by
 rw[d5_] at h
 unfold bl7
 cases hq:(tr.take i)[j]? with
 | none=>rw[hq] at h;cases h
 | some q =>
  rw[hq] at h
  have hj:j<i:=by
   have:=(a4_.1 hq).1
   rw[c7_] at this
   omega
  rw[p2_ hj] at hq
  rw[hq]
  exact a6_ h
theorem az1 {V avs:List AV} (hV:VOk V avs) {j:Nat} {a a0:AV} (hj:V[j]?=some a) (h0:avs[j]?=some a0) {hv:Nat→Value} {S:PH} {v:Value} (hr:RA hv S a0 v):RA hv S a v:=by
 obtain⟨a1,h1,h2⟩:=hV.2 j a hj
 rw[h0] at h1
 cases h1
 rcases h2 with rfl | ⟨c,h3,rfl⟩
 ·exact hr
 ·rw[ep_ hr h3]
  exact qz_ c
theorem cr8 {V avs:List AV} (hV:VOk V avs) {j:Nat} {a a0:AV} (hj:V[j]?=some a) (h0:avs[j]?=some a0) {l:List AO} (hr:a0.lt l=true):a.lt l=true:=by
 obtain⟨a1,h1,h2⟩:=hV.2 j a hj
 rw[h0] at h1
 cases h1
 rcases h2 with rfl | ⟨c,h3,rfl⟩
 ·exact hr
 ·rfl
theorem az2 {V avs:List AV} (hV:VOk V avs) {j:Nat} {a:AV} (hj:V[j]?=some a):∃ a0,avs[j]?=some a0:=by
 obtain⟨a1,h1,_⟩:=hV.2 j a hj
 exact⟨a1,h1⟩
theorem env_ra {sl:Nat→AV} {dsts:List (Option Nat)} {tab:List (List Nat)} {tr:List (AV×DR×List AO)} {i:Nat} {anc:List Nat} {V:List AV} {d:Nat→Bool} {hv:Nat→Value} {S:PH} {f:Fr} (hV:VOk V ((tr.take i).map (·.1))) (hanc:∀ j,inL j anc=true→d j=true)
  (hlt:∀ j,inL V.length ((tab[j]?).getD [])=true→d j=false) (hrel:∀ x,RA hv S (oe_ sl dsts tr d x) (f x)) (x:Nat):RA hv S (cg7 sl dsts tab anc V x) (f x):=by
 have hx:=hrel x
 unfold cg7
 unfold oe_ at hx
 cases hi:go_ x dsts 0 with
 | none=>rw[hi] at hx;exact hx
 | some j =>
  rw[hi] at hx
  have hx:RA hv S (cond (d j) (bl7 tr j) (sl x)) (f x):=hx
  show RA hv S (cond (inL j anc) ((V[j]?).getD (.b .dead)) (cond (inL V.length ((tab[j]?).getD [])) (sl x) (.b .dead))) (f x)
  cases ha:inL j anc with
  | false =>
   cases hb:inL V.length ((tab[j]?).getD []) with
   | false=>trivial
   | true =>
    rw[hlt j hb] at hx
    exact hx
  | true =>
   rw[hanc j ha] at hx
   have hx:RA hv S (bl7 tr j) (f x):=hx
   show RA hv S ((V[j]?).getD (.b .dead)) (f x)
   cases hq:V[j]? with
   | none=>trivial
   | some a =>
    obtain⟨a0,h0⟩:=az2 hV hq
    rw[ay3 h0] at hx
    exact az1 hV hq h0 hx
theorem bc9 {os:List Oper} {d:Nat→Bool} (hd:Cl os d) {i:Nat} (hi:d i=false) (j:Nat) (h:inL i (((lt_ os [])[j]?).getD [])=true):d j=false:=by
 cases hj:d j with
 | false=>rfl
 | true =>
  cases ha:(lt_ os [])[j]? with
  | none=>rw[ha] at h;simp[inL] at h
  | some anc =>
   rw[ha] at h
   rw[hd j anc ha hj i h] at hi
   cases hi
theorem cq7 {l:List AO} {i o:Nat} (h:born l o=true):born (l.set i .gone) o=true:=by
 obtain⟨a,h1,h2⟩:=ax_.1 h
 by_cases e:i=o
 ·subst e
  exact ax_.2 ⟨.gone,by simp[(a4_.1 h1).1],by simp⟩
 ·exact ax_.2 ⟨a,by rw[b7_ e];exact h1,h2⟩
theorem vj_ {l:List AO} {i o:Nat} (h:born (l.set i .gone) o=true):o=i∨born l o=true:=by
 by_cases e:i=o
 ·exact .inl e.symm
 ·obtain⟨a,h1,h2⟩:=ax_.1 h
  rw[b7_ e] at h1
  exact .inr (ax_.2 ⟨a,h1,h2⟩)
theorem bg4 {l:List AO} {o:Nat} (h:born l o=true):o<l.length:=by
 obtain⟨a,h1,_⟩:=ax_.1 h
 exact (a4_.1 h1).1
theorem bx8 (b:AO):K1 .unborn b:=trivial
section
variable {P:Program} [Tb P] {n:Nat} {sl:Nat→AV} {dsts:List (Option Nat)} {fr0:Nat} {os:List Oper} {C0:List AO} {tr:List (AV×DR×List AO)}
variable (h:tm_ P n sl dsts (lt_ os []) fr0 os (lt_ os []) [] [] C0 tr) (hb:Base fr0 os C0) (hp:so_ os 0=true) (hds:dsts=os.map (·.dst)) (hon:tz_ dsts=true) (hw0:WfS sl C0)
include h hb hp hds hon hw0
theorem cur_ble {d:Nat→Bool} (hd:Cl os d) {i:Nat} (hd':Cl os (λj=>Nat.beq j i||d j)):BLe (cur fr0 C0 tr d) (cur fr0 C0 tr (λj=>Nat.beq j i||d j)):=by
 intro o ho
 have hl:=bg4 ho
 rw[ju_,hb.len] at hl
 by_cases h0:o<fr0
 ·rw[td_ h hb hp h0] at ho ⊢
  exact ho
 ·have e:o=fr0+(o - fr0):=by omega
  rw[e] at ho ⊢
  rw[yv_ h hb hp hd (by omega)] at ho
  rw[yv_ h hb hp hd' (by omega),ho,o2_]
theorem vis_ble {d:Nat→Bool} (hd:Cl os d) {i:Nat} {p:Oper} {anc:List Nat} {q:AV×DR×List AO} (A:At P n sl dsts fr0 os C0 tr i p anc q) (hanc:∀ j,inL j anc=true→d j=true)
  (hd':Cl os (λj=>Nat.beq j i||d j)):BLe ((qa_ fr0 anc q.2.1.F 0 (Cat C0 tr i)).set (fr0+i) .gone) (cur fr0 C0 tr (λj=>Nat.beq j i||d j)):=by
 intro o ho
 have hi:=(a4_.1 A.ho).1
 have hlc:=rt_ h (show i≤os.length by omega)
 have own:∀ j,j<os.length→(j=i∨d j=true)→born (cur fr0 C0 tr (λj=>Nat.beq j i||d j)) (fr0+j)=true:=λj hj hh=>by
  rw[yv_ h hb hp hd' hj]
  rcases hh with rfl | hh
  ·simp
  ·rw[hh,o2_]
 rcases vj_ ho with rfl | ho
 ·exact own i hi (.inl rfl)
 ·obtain⟨hl,hc⟩:=ch3 ho
  rw[hlc,hb.len] at hl
  have base:o<fr0→born (Cat C0 tr i) o=true→born (cur fr0 C0 tr (λj=>Nat.beq j i||d j)) o=true:=λh0 hbo=>by
   rw[td_ h hb hp h0,← pw_ h hb hp h0 (show i≤os.length by omega)]
   exact hbo
  have new:¬ o<fr0→inL (o - fr0) anc=true→born (cur fr0 C0 tr (λj=>Nat.beq j i||d j)) o=true:=λh0 ha=>by
   have:=own (o - fr0) (by omega) (.inr (hanc _ ha))
   rwa [show fr0+(o - fr0)=o by omega] at this
  rcases hc with ⟨hF,hbo⟩ | ⟨h0,hbo⟩ | ⟨h0,ha⟩
  ·rcases (A.good.foot.2.1 hF).1 with h0 | ha
   ·exact base h0 hbo
   ·by_cases h0:o<fr0
    ·exact base h0 hbo
    ·exact new h0 ha
  ·exact base h0 hbo
  ·exact new h0 ha
theorem ac1 {d:Nat→Bool} {i:Nat} {o:Oper} {q:AV×DR×List AO} (ho:os[i]?=some o) (hq:tr[i]?=some q) (x:Nat) :
  (o.dst=some x∧oe_ sl dsts tr (λj=>Nat.beq j i||d j) x=q.1)∨(o.dst≠some x∧oe_ sl dsts tr (λj=>Nat.beq j i||d j) x=oe_ sl dsts tr d x):=by
 have hdi:dsts[i]?=some o.dst:=by rw[hds,d5_,ho];rfl
 by_cases e:o.dst=some x
 ·refine .inl ⟨e,?_⟩
  rw[e] at hdi
  unfold oe_
  rw[ai0 hon hdi]
  simp[bl7,hq]
 ·refine .inr ⟨e,?_⟩
  unfold oe_
  cases hx:go_ x dsts 0 with
  | none=>rfl
  | some j =>
   obtain⟨k,e1,hk⟩:=nh_ hx
   rw[b0_] at e1
   subst e1
   have hne:j≠i:=by
    rintro rfl
    rw[hdi] at hk
    exact e (a6_ hk)
   show cond (Nat.beq j i||d j) _ _=_
   rw[za_ hne,k3_]
theorem cc2 {i:Nat} {p:Oper} {anc:List Nat} {q:AV×DR×List AO} (A:At P n sl dsts fr0 os C0 tr i p anc q):inL (fr0+i) q.2.1.F=false:=by
 cases hF:inL (fr0+i) q.2.1.F with
 | false=>rfl
 | true =>
  exfalso
  have hi:=(a4_.1 A.ho).1
  have hbo:=(A.good.foot.2.1 hF).2
  rw[ax_,cc3 h hb hp hi] at hbo
  obtain⟨a,h1,h2⟩:=hbo
  cases h1
  exact h2 rfl
theorem bz3 {d:Nat→Bool} (hd:Cl os d) {i:Nat} (hi:i<os.length) (hdi:d i=false):(cur fr0 C0 tr d)[fr0+i]?=some .unborn:=by
 have hl:fr0+i<(cur fr0 C0 tr d).length:=by rw[ju_,hb.len];omega
 have:=yv_ h hb hp hd hi
 rw[hdi] at this
 rw[a7_ hl]
 congr 1
 by_cases e:(cur fr0 C0 tr d)[fr0+i] = .unborn
 ·exact e
 ·rw[(ur_ (a7_ hl)).2 e] at this
  cases this
end
end
section
variable [Gb]
def hvN (fr:Nat) (hv hv'':Nat→Value) (o:Nat):Value:=cond (Nat.beq o fr) (hv'' o) (hv o)
theorem cu9 {fr:Nat} {hv hv'':Nat→Value}:hvN fr hv hv'' fr=hv'' fr:=by unfold hvN;rw[g0_];rfl
theorem ab1 {fr o:Nat} {hv hv'':Nat→Value} (h:o≠fr):hvN fr hv hv'' o=hv o:=by unfold hvN;rw[za_ h];rfl
theorem ar3 {l:List AO} {i:Nat} {a:AO} (h:a.lt l=true):a.lt (l.set i .gone)=true:=AO.lt_mono (λ_=>cq7) h
section
variable {P:Program} [Tb P] {n:Nat} {sl:Nat→AV} {dsts:List (Option Nat)} {fr0:Nat} {os:List Oper} {C0:List AO} {tr:List (AV×DR×List AO)}
variable (h:tm_ P n sl dsts (lt_ os []) fr0 os (lt_ os []) [] [] C0 tr) (hb:Base fr0 os C0) (hp:so_ os 0=true) (hds:dsts=os.map (·.dst)) (hon:tz_ dsts=true) (hw0:WfS sl C0)
variable {S0:PH} {hv0:Nat→Value} {ob0:List AO} {Fm:List HP} {D0:List Deferred} (hob:BLe ob0 C0)
include h hb hp hds hon hw0 hob
theorem ax6 {d:Nat→Bool} (hd:Cl os d) {i:Nat} {p:Oper} {anc:List Nat} {q:AV×DR×List AO} (A:At P n sl dsts fr0 os C0 tr i p anc q) (hi:d i=false) (hanc:∀ j,inL j anc=true→d j=true)
  (hd':Cl os (λj=>Nat.beq j i||d j)) {S S':PH} {hv hv'':Nat→Value} {f f':Fr} {w w':World} {ob:List AO}
  (D:Dy S0 hv0 ob0 Fm D0 sl dsts C0 (cur fr0 C0 tr d) (oe_ sl dsts tr d) S hv f w) (hle:S.Le S')
  (hlen:C0.length≤ob.length)
  (htc:∀ (j:Nat) (c b:AO),(tch fr0 j i q)=true→q.2.2[j]?=some c→ob[j]?=some b→(c=b∨(c = .gone∧b = .unborn))∧(j≠fr0+i→hv j=hv'' j)∧c.lt ((qa_ fr0 anc q.2.1.F 0 (Cat C0 tr i)).set (fr0+i) .gone)=true∧(j≠fr0+i→∀ a,(cur fr0 C0 tr d)[j]?=some a→K1 a c))
  (hnt:∀ (j:Nat) (c b:AO),(tch fr0 j i q)=false→inL j q.2.1.F=true→(cur fr0 C0 tr d)[j]?=some c→ob[j]?=some b→c=b∧hv j=hv'' j∧c.lt ((qa_ fr0 anc q.2.1.F 0 (Cat C0 tr i)).set (fr0+i) .gone)=true)
  (hag:Ag (qa_ fr0 anc q.2.1.F 0 (Cat C0 tr i)) hv hv'')
  (hinv:Inv w' S' (OHs hv'' 0 ob++(OHs hv 0 (cv1 q.2.1.F 0 (cur fr0 C0 tr d))++Fm)))
  (hdsf:f'.ds=f.ds)
  (hvs:∀ x,(p.dst=some x∧RA hv'' S' q.1 (f' x))∨(p.dst≠some x∧f' x=f x))
  (hlt:q.1.lt ((qa_ fr0 anc q.2.1.F 0 (Cat C0 tr i)).set (fr0+i) .gone)=true) :
  Dy S0 hv0 ob0 Fm D0 sl dsts C0 (cur fr0 C0 tr (λj=>Nat.beq j i||d j)) (oe_ sl dsts tr (λj=>Nat.beq j i||d j)) S' (hvN (fr0+i) hv hv'') f' w':=by
 have hil:=(a4_.1 A.ho).1
 have hun:=bz3 h hb hp hds hon hw0 hd hil hi
 have hble:=cur_ble h hb hp hds hon hw0 hd hd'
 have hvb:=vis_ble h hb hp hds hon hw0 hd A hanc hd'
 have ag1:Ag (cur fr0 C0 tr d) hv (hvN (fr0+i) hv hv''):=λo ho=>by
  by_cases e:o=fr0+i
  ·subst e
   rw[ax_,hun] at ho
   obtain⟨a,h1,h2⟩:=ho
   cases h1
   exact absurd rfl h2
  ·rw[ab1 e]
 have ag2:Ag ((qa_ fr0 anc q.2.1.F 0 (Cat C0 tr i)).set (fr0+i) .gone) hv'' (hvN (fr0+i) hv hv''):=λo ho=>by
  by_cases e:o=fr0+i
  ·subst e;rw[cu9]
  ·rw[ab1 e]
   exact (hag o ((vj_ ho).resolve_left e)).symm
 have ag2':Ag ((qa_ fr0 anc q.2.1.F 0 (Cat C0 tr i)).set (fr0+i) .gone) (hvN (fr0+i) hv hv'') hv'':=λo ho=>(ag2 o ho).symm
 have ag1':Ag (cur fr0 C0 tr d) (hvN (fr0+i) hv hv'') hv:=λo ho=>(ag1 o ho).symm
 have hF:inL (fr0+i) q.2.1.F=false:=cc2 h hb hp hds hon hw0 A
 have get:∀ j,j<C0.length→(cur fr0 C0 tr (λj=>Nat.beq j i||d j))[j]?=cond (tch fr0 j i q) (q.2.2[j]?) ((cur fr0 C0 tr d)[j]?):=λj hj=>after h hb hp hd A hi hanc hj
 have lenq:=cw5 h A
 refine⟨D.le.trans hle,λo ho => ?_,?_,λx => ?_,λx => ?_,λa ha => ?_,λo a ho => ?_,hdsf.trans D.ds,D.gl.mono hle⟩
 ·have hbo:=hob o ho
  have hlo:=bg4 hbo
  rw[hb.len] at hlo
  have:o≠fr0+i:=by
   rintro rfl
   rw[ax_,hb.un _ (by omega) (by rw[hb.len];omega)] at hbo
   obtain⟨a,h1,h2⟩:=hbo
   cases h1
   exact h2 rfl
  rw[ab1 this]
  exact D.ag o ho
 ·refine co1 (A:=OHs hv'' 0 ob) (B:=OHs hv 0 (cv1 q.2.1.F 0 (cur fr0 C0 tr d))) ?_ ?_ ?_ hinv
  ·rw[jq_,jq_,ju_];exact hlen
  ·rw[jq_,jq_,ai3,ju_,ju_];exact c3_ _
  ·intro j t a b e1 e2 e3
   rw[xv_,b0_] at e1 e2 e3
   have hj:j<C0.length:=by
    cases hc:(cur fr0 C0 tr (λj=>Nat.beq j i||d j))[j]? with
    | none=>rw[hc] at e1;cases e1
    | some c=>have:=(a4_.1 hc).1;rwa [ju_] at this
   rw[get j hj] at e1
   cases ht:tch fr0 j i q with
   | true =>
    rw[ht,a5_] at e1
    cases hc:q.2.2[j]? with
    | none=>rw[hc] at e1;cases e1
    | some c =>
     rw[hc] at e1
     cases hbb:ob[j]? with
     | none=>rw[hbb] at e2;cases e2
     | some b' =>
      rw[hbb] at e2
      obtain⟨g1,g2,g3,_⟩:=htc j c b' ht hc hbb
      left
      have e1:=a6_ e1
      have e2:=a6_ e2
      rw[← e1,← e2]
      have hh:hvN (fr0+i) hv hv'' j=hv'' j:=by
       by_cases e:j=fr0+i
       ·rw[e,cu9]
       ·rw[ab1 e];exact g2 e
      rw[hh]
      rcases g1 with rfl | ⟨rfl,rfl⟩
      ·exact OH.ag ag2' ag2 g3
      ·rfl
   | false =>
    rw[ht,a2_] at e1
    cases hc:(cur fr0 C0 tr d)[j]? with
    | none=>rw[hc] at e1;cases e1
    | some c =>
     rw[hc] at e1
     have e1:=a6_ e1
     have hne:j≠fr0+i:=by
      rintro rfl
      rw[jp_.2 (.inl rfl)] at ht
      cases ht
     cases hjF:inL j q.2.1.F with
     | true =>
      left
      cases hbb:ob[j]? with
      | none=>rw[hbb] at e2;cases e2
      | some b' =>
       rw[hbb] at e2
       have e2:=a6_ e2
       obtain⟨g1,g2,g3⟩:=hnt j c b' ht hjF hc hbb
       rw[← e1,← e2,ab1 hne,g2,← g1]
       exact OH.ag ag2' ag2 g3
     | false =>
      right
      rw[ai4,hc,b0_] at e3
      have e3:some (OH hv (hv j) (cond (inL j q.2.1.F) .gone c))=some b:=e3
      rw[hjF,a2_] at e3
      have e3:=a6_ e3
      rw[← e1,← e3,ab1 hne]
      exact OH.ag ag1' ag1 (D.wfo c (b2_ hc))
 ·rcases ac1 h hb hp hds hon hw0 (d:=d) A.ho A.hq x with ⟨e,es⟩ | ⟨e,es⟩
  ·rw[es]
   rcases hvs x with ⟨_,hr⟩ | ⟨e2,_⟩
   ·exact RA.ag ag2 hlt hr
   ·exact absurd e e2
  ·rw[es]
   rcases hvs x with ⟨e2,_⟩ | ⟨_,hr⟩
   ·exact absurd e2 e
   ·rw[hr]
    exact RA.ag ag1 (D.wfs x) (RA.mono hle (D.rel x))
 ·rcases ac1 h hb hp hds hon hw0 (d:=d) A.ho A.hq x with ⟨e,es⟩ | ⟨e,es⟩
  ·rw[es];exact AV.lt_mono hvb hlt
  ·rw[es];exact AV.lt_mono hble (D.wfs x)
 ·obtain⟨j,hj,e⟩:=q3_ ha
  have hj':j<C0.length:=by rwa [ju_] at hj
  have e2:(cur fr0 C0 tr (λj=>Nat.beq j i||d j))[j]?=some a:=by rw[a7_ hj,e]
  rw[get j hj'] at e2
  cases ht:tch fr0 j i q with
  | true =>
   rw[ht,a5_] at e2
   have hjo:j<ob.length:=by omega
   exact AO.lt_mono hvb (htc j a _ ht e2 (a7_ hjo)).2.2.1
  | false =>
   rw[ht,a2_] at e2
   exact AO.lt_mono hble (D.wfo a (b2_ e2))
 ·obtain⟨b,e1,k1⟩:=D.keep o a ho
  have hl:=(a4_.1 ho).1
  rw[get o hl]
  cases ht:tch fr0 o i q with
  | false=>exact⟨b,e1,k1⟩
  | true =>
   have hq2:q.2.2[o]?=some (q.2.2[o]'(by omega)):=a7_ _
   refine⟨_,hq2,?_⟩
   by_cases e:o=fr0+i
   ·subst e
    rw[hb.un _ (by omega) hl] at ho
    cases ho
    exact bx8 _
   ·have hjo:o<ob.length:=by omega
    exact k1.trans ((htc o _ _ ht hq2 (a7_ hjo)).2.2.2 e b e1)
end
section
variable {P:Program} [Tb P] {n:Nat} {sl:Nat→AV} {dsts:List (Option Nat)} {fr0:Nat} {os:List Oper} {C0:List AO} {tr:List (AV×DR×List AO)}
variable (h:tm_ P n sl dsts (lt_ os []) fr0 os (lt_ os []) [] [] C0 tr) (hb:Base fr0 os C0) (hp:so_ os 0=true) (hds:dsts=os.map (·.dst)) (hon:tz_ dsts=true) (hw0:WfS sl C0)
variable {S0:PH} {hv0:Nat→Value} {ob0:List AO} {Fm:List HP} {D0:List Deferred} (hob:BLe ob0 C0) {ro:Option Nat}
include h hb hp hds hon hw0 hob
theorem cw1 {d:Nat→Bool} (hd:Cl os d) {i:Nat} {p:Oper} {anc:List Nat} {q:AV×DR×List AO} (A:At P n sl dsts fr0 os C0 tr i p anc q) (hi:d i=false) (hanc:∀ j,inL j anc=true→d j=true)
  (hd':Cl os (λj=>Nat.beq j i||d j)) {S:PH} {hv:Nat→Value} {f:Fr} {w:World} {V:List AV} (hV:VOk V ((tr.take i).map (·.1)))
  (hR:Ran P n sl dsts (lt_ os []) fr0 (fr0+i) p anc V ((tr.take i).map (·.2.1)) (Cat C0 tr i) q.1 q.2.1 q.2.2)
  (D:Dy S0 hv0 ob0 Fm D0 sl dsts C0 (cur fr0 C0 tr d) (oe_ sl dsts tr d) S hv f w) :
  OP P n ro p f w λf' w'=>∃ S' hv',Dy S0 hv0 ob0 Fm D0 sl dsts C0 (cur fr0 C0 tr (λj=>Nat.beq j i||d j)) (oe_ sl dsts tr (λj=>Nat.beq j i||d j)) S' hv' f' w':=by
 have hil:=(a4_.1 A.ho).1
 have hlc:=rt_ h (show i≤os.length by omega)
 have hvis:qa_ fr0 anc q.2.1.F 0 (cur fr0 C0 tr d)=qa_ fr0 anc q.2.1.F 0 (Cat C0 tr i) :=
  zt_ (by rw[ju_,hlc]) (λo ho hF=>ready h hb hp hd A hi hanc hF (by rwa [ju_] at ho)) (λo ho=>by rw[td_ h hb hp ho,pw_ h hb hp ho (show i≤os.length by omega)])
 have hunF:=cc2 h hb hp hds hon hw0 A
 have hoks:=hR.oks
 unfold okS2 at hoks
 rw[a1_,a1_] at hoks
 have hfr:=cc3 h hb hp hil
 have visF:∀ j,inL j q.2.1.F=true→(qa_ fr0 anc q.2.1.F 0 (Cat C0 tr i))[j]?=(cur fr0 C0 tr d)[j]?:=λj hj=>by
  rw[← hvis,kb_,b0_]
  cases (cur fr0 C0 tr d)[j]? with
  | none=>rfl
  | some a=>show some _=_;rw[az3 hj]
 have bornF:∀ j,inL j q.2.1.F=true→born (qa_ fr0 anc q.2.1.F 0 (Cat C0 tr i)) j=true:=λj hj=>ww_ (A.good.foot.2.1 hj).2 (.inl hj)
 have hVl:V.length=i:=by
  have:=hV.1
  have htl:=(nv_ h).1
  rw[this,d3_,c7_]
  omega
 have hs:Sit S hv (OHs hv 0 (cv1 q.2.1.F 0 (cur fr0 C0 tr d))++Fm) (cg7 sl dsts (lt_ os []) anc V) (qa_ fr0 anc q.2.1.F 0 (Cat C0 tr i)) f w:=by
  refine⟨?_,env_ra hV hanc (λj hj=>bc9 hd hi j (by rw[hVl] at hj;exact hj)) D.rel,λx => ?_,λa ha=>bg_ hoks.1.2 a ha,D.gl⟩
  ·rw[← hvis]
   refine ap3 (T:=OHs hv 0 (cur fr0 C0 tr d)) (by rw[jq_,jq_,vy_]) (by rw[jq_,jq_,ai3]) ?_ D.inv
   intro j t a b e1 e2 e3
   rw[xv_,b0_] at e1 e2 e3
   cases hc:(cur fr0 C0 tr d)[j]? with
   | none=>rw[hc] at e1;cases e1
   | some c =>
    rw[hc] at e1
    rw[kb_,hc,b0_] at e2
    rw[ai4,hc,b0_] at e3
    have e1:some (OH hv (hv j) c)=some t:=e1
    have e2:some (OH hv (hv j) (at0 fr0 anc q.2.1.F j c))=some a:=e2
    have e3:some (OH hv (hv j) (cond (inL j q.2.1.F) .gone c))=some b:=e3
    have e1:=a6_ e1
    have e2:=a6_ e2
    have e3:=a6_ e3
    cases hF:inL j q.2.1.F with
    | true =>
     rw[hF] at e3
     rw[az3 hF] at e2
     exact .inl ⟨e2.symm.trans e1,e3.symm⟩
    | false =>
     rw[hF] at e3
     refine .inr ⟨?_,e3.symm.trans e1⟩
     rcases bm7 (fr0:=fr0) (anc:=anc) (a:=c) hF with e | e <;> (rw[e] at e2;exact e2.symm)
  ·unfold cg7
   have hold:(sl x).lt (qa_ fr0 anc q.2.1.F 0 (Cat C0 tr i))=true:=by
    refine AV.lt_mono (λo ho => ?_) (hw0 x)
    have hol:=bg4 ho
    have h0:o<fr0:=by
     apply Nat.lt_of_not_le
     intro hge
     rw[ax_,hb.un o hge hol] at ho
     obtain⟨a,h1,h2⟩:=ho
     cases h1
     exact h2 rfl
    exact ww_ (by rw[pw_ h hb hp h0 (show i≤os.length by omega)];exact ho) (.inr h0)
   cases hx:go_ x dsts 0 with
   | none=>exact hold
   | some j =>
    show (cond (inL j anc) ((V[j]?).getD (.b .dead)) (cond (inL V.length (((lt_ os [])[j]?).getD [])) (sl x) (.b .dead))).lt _=true
    cases hj:inL j anc with
    | false =>
     cases inL V.length (((lt_ os [])[j]?).getD []) with
     | false=>rfl
     | true=>exact hold
    | true =>
     show ((V[j]?).getD (.b .dead)).lt _=true
     cases hv:V[j]? with
     | none=>rfl
     | some a=>exact okU_at hoks.2 hv (by rw[b0_];exact hj)
 rcases hR.run with ⟨hw,ob,hop,hC,hokW,hbF,hl⟩ | ⟨hw,hop,hC⟩
 ·refine hop hs hR.dst λv S' hv'' w' hble hkeep hwfo hlt hle hag hra hinv=>⟨S',_,ax6 h hb hp hds hon hw0 hob hd A hi hanc hd' D hle (by rw[← hlc];exact hl) ?_ ?_ hag hinv tq_ ?_ hR.lt⟩
  ·intro j c b ht hc hbb
   have hC':=hc
   rw[hC] at hc
   have hlt2:inL j ((fr0+i)::q.2.1.F)=true→c.lt ((qa_ fr0 anc q.2.1.F 0 (Cat C0 tr i)).set (fr0+i) .gone)=true:=λhj=>okW_at hokW hC' (by rw[b0_];exact hj)
   have hjl:j<(Cat C0 tr i).length:=by
    have:=(a4_.1 hc).1
    rwa [qx_,nd_] at this
   rcases jp_.1 ht with rfl | ⟨_,hjF⟩
   ·have hin:inL (fr0+i) ((fr0+i)::q.2.1.F)=true:=by simp[inL]
    refine⟨?_,λhne=>absurd rfl hne,hlt2 hin,λhne=>absurd rfl hne⟩
    have e:(jy_ ((fr0+i)::q.2.1.F) 0 (Cat C0 tr i) ob)[fr0+i]?=some b:=by
     rw[qn_ hl,b0_,hin,mv_.2 hjl]
     exact hbb
    unfold fz_ at hc
    rw[e] at hc
    by_cases hub:b = .unborn
    ·subst hub
     right
     have hc:((jy_ ((fr0+i)::q.2.1.F) 0 (Cat C0 tr i) ob).set (fr0+i) .gone)[fr0+i]?=some c:=hc
     rw[e9_ (by rw[nd_];exact hjl)] at hc
     exact⟨(a6_ hc).symm,rfl⟩
    ·left
     have hc:(jy_ ((fr0+i)::q.2.1.F) 0 (Cat C0 tr i) ob)[fr0+i]?=some c:=by
      cases b<;>first | exact absurd rfl hub | exact hc
     rw[e] at hc
     exact (a6_ hc).symm
   ·have hne:j≠fr0+i:=by rintro rfl;rw[hunF] at hjF;cases hjF
    have hin:inL j ((fr0+i)::q.2.1.F)=true:=by
     show (Nat.beq j (fr0+i)||inL j q.2.1.F)=true
     rw[hjF,o2_]
    rw[tk_ hne,qn_ hl,b0_,hin,mv_.2 hjl] at hc
    have hc:ob[j]?=some c:=hc
    have ecb:c=b:=by rw[hbb] at hc;exact (a6_ hc).symm
    refine⟨.inl ecb,λ_=>hag j (bornF j hjF),hlt2 hin,λ_ a ha => ?_⟩
    obtain⟨b',h1,h2⟩:=hkeep j a (by rw[visF j hjF];exact ha)
    rw[hbb] at h1
    cases h1
    rw[ecb]
    exact h2
  ·intro j c b ht hjF
   rw[jp_.2 (.inr ⟨hw,hjF⟩)] at ht
   cases ht
  ·intro x
   cases hx:p.dst with
   | none=>exact .inr ⟨by simp,rfl⟩
   | some y =>
    by_cases e:y=x
    ·subst e;exact .inl ⟨rfl,by show RA hv'' S' q.1 (upd f y v y);rw[nm_];exact hra⟩
    ·exact .inr ⟨λh=>e (a6_ h),wx_ f y v (n5_ e)⟩
 ·refine hop hs hR.dst λv S' hv'' w' hble hkeep hwfo hlt hle hag hra hinv=>⟨S',_,ax6 h hb hp hds hon hw0 hob hd A hi hanc hd' D hle (by rw[vy_,hlc];exact c3_ _) ?_ ?_ hag hinv tq_ ?_ hR.lt⟩
  ·intro j c b ht hc hbb
   rcases jp_.1 ht with rfl | ⟨hw',_⟩
   ·rw[hC] at hc
    unfold fz_ at hc
    rw[hfr] at hc
    have hc:((Cat C0 tr i).set (fr0+i) .gone)[fr0+i]?=some c:=hc
    rw[e9_ (by rw[hlc,hb.len];omega)] at hc
    cases hc
    rw[kb_,hfr,b0_] at hbb
    have hbb:some (at0 fr0 anc q.2.1.F (fr0+i) .unborn)=some b:=hbb
    have hia:inL (fr0+i - fr0) anc=false:=by
     cases hia:inL (fr0+i - fr0) anc with
     | false=>rfl
     | true =>
      rw[show fr0+i - fr0=i by omega] at hia
      have:=ar8 hp A.ho A.ha hia
      omega
    rw[qb_ hunF (by omega),hia] at hbb
    cases hbb
    exact⟨.inr ⟨rfl,rfl⟩,λhne=>absurd rfl hne,rfl,λhne=>absurd rfl hne⟩
   ·rw[hw] at hw';cases hw'
  ·intro j c b ht hjF hc hbb
   rw[visF j hjF,hc] at hbb
   cases hbb
   refine⟨rfl,hag j (bornF j hjF),ar3 ?_⟩
   exact bg_ hoks.1.2 c (b2_ (by rw[visF j hjF];exact hc))
  ·intro x
   cases hx:p.dst with
   | none=>exact .inr ⟨by simp,rfl⟩
   | some y =>
    by_cases e:y=x
    ·subst e;exact .inl ⟨rfl,by show RA hv'' S' q.1 (upd f y v y);rw[nm_];exact hra⟩
    ·exact .inr ⟨λh=>e (a6_ h),wx_ f y v (n5_ e)⟩
theorem dy_op {d:Nat→Bool} (hd:Cl os d) {i:Nat} {p:Oper} (ho:os[i]?=some p) (hi:d i=false) (hpre:∀ j ∈ cm_ p,d j=true)
  {S:PH} {hv:Nat→Value} {f:Fr} {w:World} (D:Dy S0 hv0 ob0 Fm D0 sl dsts C0 (cur fr0 C0 tr d) (oe_ sl dsts tr d) S hv f w) :
  OPg P n ro os.toArray i f w λf' w'=>∃ S' hv',Dy S0 hv0 ob0 Fm D0 sl dsts C0 (cur fr0 C0 tr (λj=>Nat.beq j i||d j)) (oe_ sl dsts tr (λj=>Nat.beq j i||d j)) S' hv' f' w':=by
 obtain⟨anc,q,A⟩:=cr0 h ho
 obtain⟨hanc',hd'⟩:=hd.step ho hpre
 have hanc:=hanc' anc A.ha
 have hoa:os.toArray[i]?=some p:=by simpa using ho
 obtain⟨V,hV,hg⟩:=A.good.go
 split at hg
 ·rename_i hgd
  exact xs_ hoa hgd (cw1 h hb hp hds hon hw0 hob hd A hi hanc hd' hV hg D)
 ·rename_i j b hgd
  obtain⟨hja,hdg,a0,ha0,hg⟩:=hg
  unfold dstG at hdg
  split at hdg
  ·rename_i dd hdd
   have hdj:=hanc j hja
   have hrel:RA hv S a0 (f dd):=by
    have:=D.rel dd
    unfold oe_ at this
    rw[ai0 hon hdd] at this
    have this:RA hv S (cond (d j) (bl7 tr j) (sl dd)) (f dd):=this
    rw[hdj] at this
    have this:RA hv S (bl7 tr j) (f dd):=this
    rw[ay3 ha0] at this
    exact this
   have hjd:(os.toArray[j]?).bind (·.dst)=some dd:=by
    rw[hds,d5_] at hdd
    rw[e0_]
    cases hq:os[j]? with
    | none=>rw[hq] at hdd;cases hdd
    | some o=>rw[hq] at hdd;exact a6_ hdd
   rcases hg with ⟨hcb,hR⟩ | ⟨hcb,hdo,hav,hr,hC⟩
   ·exact an9 hoa hgd hjd hdg (ep_ hrel hcb) rfl (cw1 h hb hp hds hon hw0 hob hd A hi hanc hd' hV hR D)
   ·suffices hK:∃ S' hv',Dy S0 hv0 ob0 Fm D0 sl dsts C0 (cur fr0 C0 tr (λj=>Nat.beq j i||d j)) (oe_ sl dsts tr (λj=>Nat.beq j i||d j)) S' hv' (wy_ f p.dst undef) w by
     rcases hcb with hcb | hcb
     ·exact bb4 hoa hgd hjd hdg (ep_ hrel hcb) rfl hdo hK
     ·exact aa3 hoa hgd hjd hdg (bn4 hcb hrel) hdo hK
    refine⟨S,_,ax6 h hb hp hds hon hw0 hob hd A hi hanc hd' (hv'':=hv) (ob:=qa_ fr0 anc q.2.1.F 0 (Cat C0 tr i)) D (PH.Le.refl S) ?_ ?_ ?_ (λ_ _=>rfl) ?_ tq_ ?_ ?_⟩
    all_goals have hil:=(a4_.1 A.ho).1
    all_goals have hlc:=rt_ h (show i≤os.length by omega)
    ·rw[vy_,hlc];exact c3_ _
    ·intro k c' b' ht hc' hbb
     have hfr:=cc3 h hb hp hil
     rcases jp_.1 ht with rfl | ⟨hw',_⟩
     ·rw[hC] at hc'
      unfold fz_ at hc'
      rw[hfr] at hc'
      have hc':((Cat C0 tr i).set (fr0+i) .gone)[fr0+i]?=some c':=hc'
      rw[e9_ (by rw[hlc,hb.len];omega)] at hc'
      cases hc'
      have hunF:=cc2 h hb hp hds hon hw0 A
      rw[kb_,hfr,b0_] at hbb
      have hbb:some (at0 fr0 anc q.2.1.F (fr0+i) .unborn)=some b':=hbb
      have hia:inL (fr0+i - fr0) anc=false:=by
       cases hia:inL (fr0+i - fr0) anc with
       | false=>rfl
       | true =>
        rw[show fr0+i - fr0=i by omega] at hia
        have:=ar8 hp A.ho A.ha hia
        omega
      rw[qb_ hunF (by omega),hia] at hbb
      cases hbb
      exact⟨.inr ⟨rfl,rfl⟩,λhne=>absurd rfl hne,rfl,λhne=>absurd rfl hne⟩
     ·rw[hr] at hw';cases hw'
    ·intro k c' b' ht hjF
     rw[hr] at hjF
     simp[inL] at hjF
    ·
     have hvis:qa_ fr0 anc q.2.1.F 0 (cur fr0 C0 tr d)=qa_ fr0 anc q.2.1.F 0 (Cat C0 tr i) :=
      zt_ (by rw[ju_,hlc]) (λo ho hF=>ready h hb hp hd A hi hanc hF (by rwa [ju_] at ho)) (λo ho=>by rw[td_ h hb hp ho,pw_ h hb hp ho (show i≤os.length by omega)])
     rw[← hvis]
     refine ap3 (T:=OHs hv 0 (cur fr0 C0 tr d)) (by rw[jq_,jq_,vy_]) (by rw[jq_,jq_,ai3]) ?_ D.inv
     intro j t a b e1 e2 e3
     rw[xv_,b0_] at e1 e2 e3
     cases hc:(cur fr0 C0 tr d)[j]? with
     | none=>rw[hc] at e1;cases e1
     | some c =>
      rw[hc] at e1
      rw[kb_,hc,b0_] at e2
      rw[ai4,hc,b0_] at e3
      have hF:inL j q.2.1.F=false:=by rw[hr];rfl
      have e1:some (OH hv (hv j) c)=some t:=e1
      have e2:some (OH hv (hv j) (at0 fr0 anc q.2.1.F j c))=some a:=e2
      have e3:some (OH hv (hv j) (cond (inL j q.2.1.F) .gone c))=some b:=e3
      have e1:=a6_ e1
      have e2:=a6_ e2
      have e3:=a6_ e3
      rw[hF] at e3
      refine .inr ⟨?_,e3.symm.trans e1⟩
      rcases bm7 (fr0:=fr0) (anc:=anc) (a:=c) hF with e | e <;> (rw[e] at e2;exact e2.symm)
    ·intro x
     cases hx:p.dst with
     | none=>exact .inr ⟨by simp,rfl⟩
     | some y =>
      by_cases e:y=x
      ·subst e;exact .inl ⟨rfl,by rw[hav];show RA hv S (.tup []) (upd f y undef y);rw[nm_];exact un_ra⟩
      ·exact .inr ⟨λh=>e (a6_ h),wx_ f y undef (n5_ e)⟩
    ·rw[hav];rfl
  ·cases hdg
end
end
section
variable [Gb]
def OHeq (a b:AO):Prop:=∀ hv v,OH hv v a=OH hv v b
theorem OHeq.refl (a:AO):OHeq a a:=λ_ _=>rfl
theorem bc2 (a:AO):OHeq (pg_ a) a:=λhv v=>by cases a<;>rfl
def au6 (es:List Sp1) (mv:List Nat):Nat→List AO→List AO→List AO
 | _,[],l=>l
 | _,_::_,[]=>[]
 | i,a::ob,b::l=>(match a with
  | .unborn=>b
  | .gone=>b
  | _=>cond (listed es i||inL i mv) b .gone)::au6 es mv (i+1) ob l
theorem perm_a {α:Type} {b e:α} {A B X:List α}:(e::(A++(B++(b::X)))).Perm ((b::A)++((e::B)++X)):=by
 have h1:(A++(B++(b::X))).Perm (b::(A++(B++X))):=by
  rw[← b3_,← b3_]
  exact c9_
 have h2:((b::A)++((e::B)++X)).Perm (b::e::(A++(B++X))):=by
  simp only[l6_]
  exact List.Perm.cons b c9_
 exact (h1.cons e).trans ((List.Perm.swap b e _).trans h2.symm)
theorem bs2 {α:Type} {b e:α} {A B X:List α}:(e::(A++(B++(b::X)))).Perm ((e::A)++((b::B)++X)):=by
 have h1:(A++(B++(b::X))).Perm (A++((b::B)++X)):=l9_ A c9_
 simpa using h1.cons e
section
variable {w:World} {S:PH} {hv hvT:Nat→Value}
theorem al3 {mk:Bool} {es:List Sp1} {mv:List Nat}:∀ {ob l:List AO} {i:Nat} {X:List HP},ob.length≤l.length →
  (∀ (j:Nat) (a b:AO),ob[j]?=some a→l[j]?=some b→(listed es (i+j)||inL (i+j) mv)=false→a≠.unborn→a≠.gone→OHeq a b) →
  Inv w S (OHs hv i l++X)→Inv w S (OHs hv i (fo_ mk es mv i ob)++(OHs hv i (au6 es mv i ob l)++X))
 | [],l,i,X,_,_,h=>h
 | a::ob,[],i,X,hl,_,_=>by simp at hl
 | a::ob,b::l,i,X,hl,hf,h=>by
  simp only[c4_] at hl
  have h1:Inv w S (OHs hv (i+1) l++(OH hv (hv i) b::X)):=h.perm List.perm_middle.symm
  have h2:=lf_ (al3 (mk:=mk) (es:=es) (mv:=mv) (ob:=ob) (l:=l) (i:=i+1) (by omega) (λj a' b' ha hb hc hn hn2=>hf (j+1) a' b' (by simpa using ha) (by simpa using hb) (by rw[show i+(j+1)=i+1+j by omega];exact hc) hn hn2) h1)
  by_cases hu:a = .unborn
  ·subst hu
   exact h2.perm bs2
  by_cases hg:a = .gone
  ·subst hg
   exact h2.perm bs2
  ·cases hc:(listed es i||inL i mv) with
   | true =>
    have e1:fo_ mk es mv i (a::ob) = .gone::fo_ mk es mv (i+1) ob:=by
     cases a<;>first | exact absurd rfl hu | exact absurd rfl hg | simp[fo_,hc]
    have e2:au6 es mv i (a::ob) (b::l)=b::au6 es mv (i+1) ob l:=by
     cases a<;>first | exact absurd rfl hu | exact absurd rfl hg | simp[au6,hc]
    rw[e1,e2]
    exact h2.perm bs2
   | false =>
    have e1:fo_ mk es mv i (a::ob)=(cond mk (pg_ a) a)::fo_ mk es mv (i+1) ob:=by
     cases a<;>first | exact absurd rfl hu | exact absurd rfl hg | simp[fo_,hc]
    have e2:au6 es mv i (a::ob) (b::l) = .gone::au6 es mv (i+1) ob l:=by
     cases a<;>first | exact absurd rfl hu | exact absurd rfl hg | simp[au6,hc]
    rw[e1,e2]
    have e3:OH hv (hv i) (cond mk (pg_ a) a)=OH hv (hv i) b:=by
     have:=hf 0 a b rfl rfl hc hu hg hv (hv i)
     cases mk with
     | true=>rw[← this];exact bc2 a hv (hv i)
     | false=>exact this
    show Inv w S ((OH hv (hv i) (cond mk (pg_ a) a)::OHs hv (i+1) (fo_ mk es mv (i+1) ob))++((HP.exact Hp.emp::OHs hv (i+1) (au6 es mv (i+1) ob l))++X))
    rw[e3]
    exact h2.perm perm_a
theorem ly_ {rem:List AO} {o:Nat} {a:AO} {X Fm:List HP} (ho:rem[o]?=some a) (h:Inv w S (X++(OHs hv 0 rem++Fm))):Inv w S (OH hv (hv o) a::(X++(OHs hv 0 (rem.set o .gone)++Fm))):=by
 obtain⟨L,h1,h2⟩:=OHs.focus (hv:=hv) (i:=0) ho
 rw[b0_] at h1 h2
 have h3:Inv w S (OH hv (hv o) a::(X++(L++Fm))):=by
  refine h.perm ?_
  have:(X++(OHs hv 0 rem++Fm)).Perm (X++((OH hv (hv o) a::L)++Fm)):=l9_ X (h1.append_right Fm)
  exact this.trans (c9_ (l₁:=X) (a:=OH hv (hv o) a) (l₂:=L++Fm))
 have h4:=lf_ h3
 refine h4.perm ?_
 have h5:(OHs hv 0 (rem.set o .gone)).Perm (HP.exact Hp.emp::L):=h2 .gone
 have h6:(X++(OHs hv 0 (rem.set o .gone)++Fm)).Perm (HP.exact Hp.emp::(X++(L++Fm))) :=
  (l9_ X (h5.append_right Fm)).trans (c9_ (l₁:=X) (a:=HP.exact Hp.emp) (l₂:=L++Fm))
 exact (List.Perm.swap _ _ _).trans (h6.symm.cons _)
theorem az7 {t:Ty} {T:TypeId} {c:SV} {rem rem':List AO} {l:List t.den} {v:Value} {X Fm:List HP} (h:al2 t T c rem=some (l,rem')) (hr:RS hv S c v) (hI:Inv w S (X++(OHs hv 0 rem++Fm))) :
  Inv w S (@Row t.den t.enc T v l::(X++(OHs hv 0 rem'++Fm))):=by
 unfold al2 at h
 split at h
 ·cases h
  have e:v = .slice none 0 0:=hr.2
  rw[e]
  exact hI.rowNil
 ·rename_i o
  split at h
  ·rename_i t' T' l' ho
   obtain⟨hT,h⟩:=bo_ h
   obtain⟨m,hm,h⟩:=bnd h
   cases h
   obtain⟨e1,e2⟩:=hv_ hm
   subst e1
   have hT:=a3_ hT
   subst hT
   have e:v=hv o:=hr.2
   have:=ly_ ho hI
   rw[e]
   have e3:l=l':=e2
   rw[e3]
   exact this
  ·cases h
 ·cases h
theorem ch5 {k v:Ty} {c:SV} {rem rem':List AO} {l:List (k.den×v.den)} {u:Value} {X Fm:List HP} (h:at3 k v c rem=some (l,rem')) (hr:RS hv S c u) (hI:Inv w S (X++(OHs hv 0 rem++Fm))) :
  Inv w S (bm0 u k v l::(X++(OHs hv 0 rem'++Fm)))∧∀ hv' o,u=hv' o→RS hv' S (.map o) u:=by
 unfold at3 at h
 split at h
 ·rename_i o
  split at h
  ·rename_i k' v' l' ho
   obtain⟨m,hm,h⟩:=bnd h
   cases h
   obtain⟨e1,e2,e3⟩:=ac4 hm
   subst e1
   subst e2
   have e3:l=l':=e3
   subst e3
   have e:u=hv o:=hr.2
   have:=ly_ ho hI
   exact⟨by rw[e];exact this,λhv' o' e'=>⟨hr.1,e'⟩⟩
  ·cases h
 ·cases h
theorem ch7 {t:Ty} {T:TypeId} {c:SV} {rem rem':List AO} {x:t.den} {v:Value} {X Fm:List HP} (h:bo0 t T c rem=some (x,rem')) (hr:RS hv S c v) (hI:Inv w S (X++(OHs hv 0 rem++Fm))) :
  ∃ u,Inv w S (@Row t.den t.enc T u [x]::(X++(OHs hv 0 rem'++Fm)))∧(∃ a,v = .pointer (some a))∧v=ay_ (cr_ u 0 t.sz) 0:=by
 unfold bo0 at h
 split at h
 ·rename_i o i k z p
  split at h
  ·rename_i t' T' l' ho
   obtain⟨hT,h⟩:=bo_ h
   obtain⟨m,hm,h⟩:=bnd h
   simp only[a1_] at hT
   obtain⟨⟨⟨⟨c1,c2⟩,c3⟩,c4⟩,c5⟩:=hT
   unfold oneR at h
   split at h
   ·cases h
    obtain⟨e1,e2⟩:=hv_ hm
    subst e1
    have hT:=a3_ c1
    subst hT
    have hz:=a3_ c2
    have hk:=a3_ c3
    have hi:i=0:=by
     unfold ieq0 at c4
     split at c4
     ·rfl
     ·cases c4
    subst hz hk hi
    have:=ly_ ho hI
    have e3:[x]=l':=e2
    rw[e3]
    exact⟨hv o,this,hr.2.1,hr.2.2⟩
   ·cases h
  ·cases h
 ·cases h
def AgN (k:Nat) (a b:Nat→Value):Prop:=∀ i,i<k→a i=b i
theorem ud_ {k:Nat} {v:Value} {h:Nat→Value}:AgN k h (ins h k v):=λi hi=>by
 have hb:Nat.beq i k=false:=by
  cases hb:Nat.beq i k with
  | false=>rfl
  | true=>have:=a3_ hb;omega
 simp[ins,hb]
theorem AgN.trans {k:Nat} {a b c:Nat→Value} (h:AgN k a b) (g:AgN k b c):AgN k a c:=λi hi=>(h i hi).trans (g i hi)
theorem AgN.le {k m:Nat} {a b:Nat→Value} (h:AgN m a b) (hk:k≤m):AgN k a b:=λi hi=>h i (by omega)
theorem born_lt {l:List AO} {o:Nat} (h:born l o=true):o<l.length:=by
 obtain⟨a,h1,_⟩:=ax_.1 h
 exact (a4_.1 h1).1
theorem AgN.ag {l:List AO} {k:Nat} {a b:Nat→Value} (h:AgN k a b) (hl:l.length≤k):Ag l a b:=λi hi=>h i (f5_ (born_lt hi) hl)
def su_:List CK→List SV→List SV→Prop
 | [],[],[]=>True
 | .keep::ks,b::bs,c::cs=>c=b∧su_ ks bs cs
 | .val _::ks,_::bs,_::cs=>su_ ks bs cs
 | .row _ _::ks,_::bs,_::cs=>su_ ks bs cs
 | .map _ _::ks,_::bs,_::cs=>su_ ks bs cs
 | _,_,_=>False
theorem getC_ok {ob:List AO} {Fm:List HP}:∀ (ks:List CK) (bs cs:List SV) (us:List Value) (rem rem':List AO) (x:lr_ ks) (k:Nat) (hvT:Nat→Value) (X:List HP),bk7 ks cs rem=some (x,rem') →
  su_ ks bs cs→fb_ (SV.lt ob) bs=true→ob.length≤k→Ag ob hv hvT→Fa (RS hv S) cs us→Inv w S (X++(OHs hv 0 rem++Fm)) →
  ∃ hvT',AgN k hvT hvT'∧Fa (RS hvT' S) (lp_ ks bs x k).1 us∧Inv w S (OHs hvT' k (lp_ ks bs x k).2++(X++(OHs hv 0 rem'++Fm))):=by
 intro ks
 induction ks with
 | nil =>
  intro bs cs us rem rem' x k hvT X h hk hb hl ha hf hI
  cases cs with
  | cons c cs=>cases h
  | nil =>
   cases us with
   | cons u us=>exact hf.elim
   | nil =>
    cases h
    exact⟨hvT,λ_ _=>rfl,trivial,hI⟩
 | cons ck ks ih =>
  intro bs cs us rem rem' x k hvT X h hk hb hl ha hf hI
  cases cs with
  | nil=>cases ck<;>cases h
  | cons c cs =>
   cases us with
   | nil=>exact hf.elim
   | cons u us =>
    cases bs with
    | nil=>cases ck<;>exact hk.elim
    | cons b bs =>
     simp only[fb_,a1_] at hb
     cases ck with
     | keep =>
      obtain⟨hvT',g1,g2,g3⟩:=ih bs cs us rem rem' x k hvT X h hk.2 hb.2 hl ha hf.2 hI
      refine⟨hvT',g1,⟨?_,g2⟩,g3⟩
      have e:=hf.1
      rw[hk.1] at e
      exact RS.ag (ha.trans (g1.ag hl)) hb.1 e
     | val t =>
      have h:(cond t.agg none ((asC t c).bind λx=>(bk7 ks cs rem).bind λq=>some ((x,q.1),q.2)):Option (lr_ (.val t::ks)×List AO))=some (x,rem'):=h
      cases h0:t.agg with
      | true=>rw[h0] at h;cases h
      | false =>
       rw[h0] at h
       obtain⟨y,h1,h⟩:=bnd (show Option.bind _ _=some _ from h)
       obtain⟨q,h2,h⟩:=bnd h
       have h':=a6_ h
       obtain rfl:(y,q.1)=x:=congrArg Prod.fst h'
       obtain rfl:q.2=rem':=congrArg Prod.snd h'
       obtain⟨hvT',g1,g2,g3⟩:=ih bs cs us rem q.2 q.1 k hvT X h2 hk hb.2 hl ha hf.2 hI
       exact⟨hvT',g1,⟨⟨hf.1.1,h0,re_ h0 hf.1 h1⟩,g2⟩,g3⟩
     | row t T =>
      have h:((al2 t T c rem).bind λp=>(bk7 ks cs p.2).bind λq=>some ((p.1,q.1),q.2):Option (lr_ (.row t T::ks)×List AO))=some (x,rem'):=h
      obtain⟨p,h1,h⟩:=bnd h
      obtain⟨q,h2,h⟩:=bnd h
      have h':=a6_ h
      obtain rfl:(p.1,q.1)=x:=congrArg Prod.fst h'
      obtain rfl:q.2=rem':=congrArg Prod.snd h'
      have hI1:=az7 h1 hf.1 hI
      have e0:AgN k hvT (ins hvT k u):=ud_
      obtain⟨hvT',g1,g2,g3⟩:=ih bs cs us p.2 q.2 q.1 (k+1) (ins hvT k u) (@Row t.den t.enc T u p.1::X) h2 hk hb.2 (by omega) (ha.trans (e0.ag hl)) hf.2 hI1
      have e1:hvT' k=u:=by rw[← g1 k (by omega),cn_]
      refine⟨hvT',e0.trans (g1.le (by omega)),⟨⟨hf.1.1,e1.symm⟩,g2⟩,?_⟩
      have e2:OHs hvT' k (lp_ (.row t T::ks) (b::bs) (p.1,q.1) k).2=@Row t.den t.enc T u p.1::OHs hvT' (k+1) (lp_ ks bs q.1 (k+1)).2:=by
       show OH hvT' (hvT' k) _::_=_
       rw[e1]
       rfl
      show Inv w S (OHs hvT' k (lp_ (.row t T::ks) (b::bs) (p.1,q.1) k).2++_)
      rw[e2]
      exact g3.perm c9_
     | map kt vt =>
      have h:((at3 kt vt c rem).bind λp=>(bk7 ks cs p.2).bind λq=>some ((p.1,q.1),q.2):Option (lr_ (.map kt vt::ks)×List AO))=some (x,rem'):=h
      obtain⟨p,h1,h⟩:=bnd h
      obtain⟨q,h2,h⟩:=bnd h
      have h':=a6_ h
      obtain rfl:(p.1,q.1)=x:=congrArg Prod.fst h'
      obtain rfl:q.2=rem':=congrArg Prod.snd h'
      obtain⟨hI1,hrs⟩:=ch5 h1 hf.1 hI
      have e0:AgN k hvT (ins hvT k u):=ud_
      obtain⟨hvT',g1,g2,g3⟩:=ih bs cs us p.2 q.2 q.1 (k+1) (ins hvT k u) (bm0 u kt vt p.1::X) h2 hk hb.2 (by omega) (ha.trans (e0.ag hl)) hf.2 hI1
      have e1:hvT' k=u:=by rw[← g1 k (by omega),cn_]
      refine⟨hvT',e0.trans (g1.le (by omega)),⟨hrs hvT' k e1.symm,g2⟩,?_⟩
      have e2:OHs hvT' k (lp_ (.map kt vt::ks) (b::bs) (p.1,q.1) k).2=bm0 u kt vt p.1::OHs hvT' (k+1) (lp_ ks bs q.1 (k+1)).2:=by
       show OH hvT' (hvT' k) _::_=_
       rw[e1]
       rfl
      show Inv w S (OHs hvT' k (lp_ (.map kt vt::ks) (b::bs) (p.1,q.1) k).2++_)
      rw[e2]
      exact g3.perm c9_
end
end
section
variable [Gb]
structure Jn (w:World) (S:PH) (hvT hv:Nat→Value) (ob:List AO) (Fm:List HP) (t:A) (rem:List AO) (f:Fr):Prop where
 inv:Inv w S (OHs hvT 0 t.objs++(OHs hv 0 rem++Fm))
 rel:∀ d,RA hvT S (t.slot d) (f d)
 wfs:WfS t.slot t.objs
 wfo:WfO t.objs
 ble:BLe ob t.objs
 len:ob.length≤t.objs.length
 ag:Ag ob hv hvT
section
variable {w:World} {S:PH} {hv hvT:Nat→Value} {ob:List AO} {Fm:List HP} {t:A} {rem:List AO} {f:Fr}
theorem ar9 {k:Nat} {a b:Nat→Value} (h:AgN k a b) {l:List AO} (hk:l.length≤k) (hw:WfO l):OHs a 0 l=OHs b 0 l:=OHs.agS (h.ag hk) hw
theorem xc_ {o:Nat} {a:AO} {l:List AO} {X:List HP} (ho:o<l.length) (h:Inv w S (OH hvT (hvT o) a::(OHs hvT 0 l++X))):Inv w S (OHs hvT 0 (l.set o a)++X):=by
 obtain⟨L,h1,h2⟩:=OHs.focus (hv:=hvT) (i:=0) (a7_ ho)
 rw[b0_] at h1 h2
 have h3:=(h.perm ((h1.append_right X).cons _)).swap.drop
 exact h3.perm ((h2 a).symm.append_right X)
theorem putC_lt {n:List AO}:∀ (ks:List CK) (bs:List SV) (x:lr_ ks) (k:Nat),fb_ (SV.lt n) bs=true→(∀ i,k≤i→i<k+(lp_ ks bs x k).2.length→born n i=true)→fb_ (SV.lt n) (lp_ ks bs x k).1=true:=by
 intro ks
 induction ks with
 | nil=>intro bs x k _ _;rfl
 | cons ck ks ih =>
  intro bs x k hb hn
  cases bs with
  | nil=>cases ck<;>rfl
  | cons b bs =>
   simp only[fb_,a1_] at hb
   cases ck with
   | keep =>
    show (SV.lt n b&&fb_ (SV.lt n) (lp_ ks bs x k).1)=true
    rw[hb.1,ih bs x k hb.2 hn]
    rfl
   | val t =>
    show (true&&fb_ (SV.lt n) (lp_ ks bs x.2 k).1)=true
    rw[ih bs x.2 k hb.2 hn]
    rfl
   | row t T =>
    have hn':∀ i,k≤i→i<k+((lp_ ks bs x.2 (k+1)).2.length+1)→born n i=true:=hn
    show (born n k&&fb_ (SV.lt n) (lp_ ks bs x.2 (k+1)).1)=true
    rw[hn' k (by omega) (by omega),ih bs x.2 (k+1) hb.2 λi h1 h2=>hn' i (by omega) (by omega)]
    rfl
   | map kt vt =>
    have hn':∀ i,k≤i→i<k+((lp_ ks bs x.2 (k+1)).2.length+1)→born n i=true:=hn
    show (born n k&&fb_ (SV.lt n) (lp_ ks bs x.2 (k+1)).1)=true
    rw[hn' k (by omega) (by omega),ih bs x.2 (k+1) hb.2 λi h1 h2=>hn' i (by omega) (by omega)]
    rfl
theorem br6 {n:List AO}:∀ (ks:List CK) (bs:List SV) (x:lr_ ks) (k:Nat),∀ a ∈ (lp_ ks bs x k).2,a≠.unborn∧a.lt n=true:=by
 intro ks
 induction ks with
 | nil=>intro bs x k a ha;cases ha
 | cons ck ks ih =>
  intro bs x k a ha
  cases bs with
  | nil=>cases ck<;>cases ha
  | cons b bs =>
   cases ck with
   | keep=>exact ih bs x k a ha
   | val t=>exact ih bs x.2 k a ha
   | row t T =>
    rcases d8_.1 (show a ∈ .row t T x.1 false::(lp_ ks bs x.2 (k+1)).2 from ha) with rfl | h
    ·exact⟨by simp,rfl⟩
    ·exact ih bs x.2 (k+1) a h
   | map kt vt =>
    rcases d8_.1 (show a ∈ .map kt vt x.1 false::(lp_ ks bs x.2 (k+1)).2 from ha) with rfl | h
    ·exact⟨by simp,rfl⟩
    ·exact ih bs x.2 (k+1) a h
theorem io_ {l m:List AO} {o:Nat} (h:born l o=true):born (l++m) o=true:=by
 obtain⟨a,h1,h2⟩:=ax_.1 h
 refine ax_.2 ⟨a,?_,h2⟩
 rw[b1_ (a4_.1 h1).1]
 exact h1
def Ky (ob rem:List AO):Prop:=∀ (o:Nat) (Y:Yld) (st:YS) (ro:Bool) (Y':Yld) (st':YS) (ro':Bool),ob[o]?=some (AO.yld Y st ro)→rem[o]?=some (AO.yld Y' st' ro')→Y'=Y
theorem put1_ok {mk:Bool} {sl:Nat→AV} {e:Sp1} {x:e.den} {rem1:List AO} (hsl:∀ d,RA hv S (sl d) (f d)) (hwo:WfO ob) (hJ:Jn w S hvT hv ob Fm t rem f)
  (hb:∀ o ks T c ro T' c' ro',e = .b o ks→ob[o]?=some (AO.cells T c ro)→rem[o]?=some (AO.cells T' c' ro')→T'=T∧su_ ks c c') (hy:Ky ob rem) (h:get1 ob sl e rem=some (x,rem1)) :
  ∃ hvT',AgN t.objs.length hvT hvT'∧Jn w S hvT' hv ob Fm (fn_ mk ob e x t) rem1 f:=by
 cases e with
 | v d ty =>
  obtain⟨y,h1,h⟩:=bnd h
  cases h
  exact⟨hvT,λ_ _=>rfl,hJ.inv,λi=>by
   show RA hvT S (cond (Nat.beq i d) (ofD ty x) (t.slot i)) (f i)
   cases hi:Nat.beq i d with
   | true=>rw[a3_ hi];exact sr_ (gn_ (hsl d) h1)
   | false=>exact hJ.rel i,λi=>by
   show (cond (Nat.beq i d) (ofD ty x) (t.slot i)).lt t.objs=true
   cases Nat.beq i d with
   | true=>exact bc0
   | false=>exact hJ.wfs i,hJ.wfo,hJ.ble,hJ.len,hJ.ag⟩
 | r d ty T =>
  have h:getR sl d ty T rem=some (x,rem1):=h
  unfold getR at h
  split at h
  ·rename_i c hc
   have hr:=hsl d
   rw[hc] at hr
   have hI:=az7 h hr hJ.inv
   have e0:AgN t.objs.length hvT (ins hvT t.objs.length (f d)):=ud_
   have hb1:BLe t.objs (t.objs++[AO.row ty T x false]):=λ_=>io_
   have hnew:born (t.objs++[AO.row ty T x false]) t.objs.length=true:=ax_.2 ⟨.row ty T x false,by simp,by simp⟩
   refine⟨_,e0,⟨?_,λi => ?_,λi => ?_,λa ha => ?_,hJ.ble.trans hb1,by show _≤(t.objs++_).length;rw[a9_];have:=hJ.len;omega,hJ.ag.trans (e0.ag hJ.len)⟩⟩
   ·show Inv w S (OHs _ 0 (t.objs++[.row ty T x false])++_)
    rw[OHs.app,← ar9 e0 (c3_ _) hJ.wfo]
    show Inv w S ((OHs hvT 0 t.objs++[OH _ (ins hvT t.objs.length (f d) (0+t.objs.length)) _])++_)
    rw[b0_,cn_]
    refine hI.perm ?_
    simp only[b3_,p8_]
    exact List.perm_middle.symm
   ·show RA _ S (cond (Nat.beq i d) (zf_ t.objs.length) (t.slot i)) (f i)
    cases hi:Nat.beq i d with
    | true =>
     rw[a3_ hi]
     exact⟨hr.1,(cn_ hvT t.objs.length (f d)).symm⟩
    | false=>exact RA.ag (e0.ag (c3_ _)) (hJ.wfs i) (hJ.rel i)
   ·show (cond (Nat.beq i d) (zf_ t.objs.length) (t.slot i)).lt (t.objs++[AO.row ty T x false])=true
    cases Nat.beq i d with
    | true=>exact hnew
    | false=>exact AV.lt_mono hb1 (hJ.wfs i)
   ·rcases b5_.1 ha with h1 | h1
    ·exact AO.lt_mono hb1 (hJ.wfo a h1)
    ·simp at h1;subst h1;rfl
  ·cases h
 | a d ty T =>
  have h:getA sl d ty T rem=some (x,rem1):=h
  unfold getA at h
  split at h
  ·rename_i c hc
   have hr:=hsl d
   rw[hc] at hr
   obtain⟨u,hI,hp1,hp2⟩:=ch7 h hr hJ.inv
   have e0:AgN t.objs.length hvT (ins hvT t.objs.length u):=ud_
   have hb1:BLe t.objs (t.objs++[AO.row ty T [x] false]):=λ_=>io_
   have hnew:born (t.objs++[AO.row ty T [x] false]) t.objs.length=true:=ax_.2 ⟨.row ty T [x] false,by simp,by simp⟩
   refine⟨_,e0,⟨?_,λi => ?_,λi => ?_,λa ha => ?_,hJ.ble.trans hb1,by show _≤(t.objs++_).length;rw[a9_];have:=hJ.len;omega,hJ.ag.trans (e0.ag hJ.len)⟩⟩
   ·show Inv w S (OHs _ 0 (t.objs++[.row ty T [x] false])++_)
    rw[OHs.app,← ar9 e0 (c3_ _) hJ.wfo]
    show Inv w S ((OHs hvT 0 t.objs++[OH _ (ins hvT t.objs.length u (0+t.objs.length)) _])++_)
    rw[b0_,cn_]
    refine hI.perm ?_
    simp only[b3_,p8_]
    exact List.perm_middle.symm
   ·show RA _ S (cond (Nat.beq i d) (.b (.one (.ptrE t.objs.length 0 0 ty.sz []))) (t.slot i)) (f i)
    cases hi:Nat.beq i d with
    | true =>
     rw[a3_ hi]
     exact⟨hr.1,hp1,by rw[cn_];exact hp2⟩
    | false=>exact RA.ag (e0.ag (c3_ _)) (hJ.wfs i) (hJ.rel i)
   ·show (cond (Nat.beq i d) (.b (.one (.ptrE t.objs.length 0 0 ty.sz []))) (t.slot i)).lt (t.objs++[AO.row ty T [x] false])=true
    cases Nat.beq i d with
    | true=>exact hnew
    | false=>exact AV.lt_mono hb1 (hJ.wfs i)
   ·rcases b5_.1 ha with h1 | h1
    ·exact AO.lt_mono hb1 (hJ.wfo a h1)
    ·simp at h1;subst h1;rfl
  ·cases h
 | o o ty =>
  have h:getO ob o ty rem=some (x,rem1):=h
  unfold getO at h
  split at h
  ·rename_i t0 T l0 r0 ho
   split at h
   ·rename_i t' T' l hr
    obtain⟨hT,h⟩:=bo_ h
    obtain⟨m,hm,h⟩:=bnd h
    cases h
    obtain⟨e1,e2⟩:=hv_ hm
    subst e1
    have hT:=a3_ hT
    subst hT
    have e3:x=l:=e2
    subst e3
    have hlt:o<ob.length:=(a4_.1 ho).1
    have hbo:born ob o=true:=ax_.2 ⟨_,ho,by simp⟩
    have hI:=ly_ hr hJ.inv
    have e4:OH hv (hv o) (.row t' T' x false)=OH hvT (hvT o) (.row t' T' x false):=by
     show @Row t'.den t'.enc T' (hv o) x=@Row t'.den t'.enc T' (hvT o) x
     rw[hJ.ag o hbo]
    rw[e4] at hI
    have hn:AO.row t' T' x false≠.unborn:=by simp
    have e5:fn_ mk ob (.o o t') x t=⟨t.slot,t.objs.set o (.row t' T' x false)⟩:=by simp[fn_,ho]
    rw[e5]
    exact⟨hvT,λ_ _=>rfl,xc_ (f5_ hlt hJ.len) hI,hJ.rel,λi=>AV.lt_mono (be_ hn) (hJ.wfs i),dx_ hn hJ.wfo rfl,hJ.ble.trans (be_ hn),by simpa using hJ.len,hJ.ag⟩
   ·cases h
  ·cases h
 | m o k v =>
  have h:getM ob o k v rem=some (x,rem1):=h
  unfold getM at h
  split at h
  ·rename_i k0 v0 l0 r0 ho
   split at h
   ·rename_i k' v' l hr
    obtain⟨m,hm,h⟩:=bnd h
    cases h
    obtain⟨e1,e2,e3⟩:=ac4 hm
    subst e1
    subst e2
    have e3:x=l:=e3
    subst e3
    have hlt:o<ob.length:=(a4_.1 ho).1
    have hbo:born ob o=true:=ax_.2 ⟨_,ho,by simp⟩
    have hI:=ly_ hr hJ.inv
    have e4:OH hv (hv o) (.map k' v' x false)=OH hvT (hvT o) (.map k' v' x false):=by
     show bm0 (hv o) k' v' x=bm0 (hvT o) k' v' x
     rw[hJ.ag o hbo]
    rw[e4] at hI
    have hn:AO.map k' v' x false≠.unborn:=by simp
    have e5:fn_ mk ob (.m o k' v') x t=⟨t.slot,t.objs.set o (.map k' v' x false)⟩:=by simp[fn_,ho]
    rw[e5]
    exact⟨hvT,λ_ _=>rfl,xc_ (f5_ hlt hJ.len) hI,hJ.rel,λi=>AV.lt_mono (be_ hn) (hJ.wfs i),dx_ hn hJ.wfo rfl,hJ.ble.trans (be_ hn),by simpa using hJ.len,hJ.ag⟩
   ·cases h
  ·cases h
 | x o =>
  have h:some ((),rem)=some (x,rem1):=h
  cases h
  exact⟨hvT,λ_ _=>rfl,hJ⟩
 | y o =>
  have h:getY ob o rem=some (x,rem1):=h
  unfold getY at h
  split at h
  ·rename_i Y0 st0 r0 ho
   split at h
   ·rename_i Y hr
    cases h
    obtain rfl:=hy o Y0 st0 r0 Y .rdy false ho hr
    have hlt:o<ob.length:=(a4_.1 ho).1
    have hbo:born ob o=true:=ax_.2 ⟨_,ho,by simp⟩
    have hI:=ly_ hr hJ.inv
    have hlt2:(AO.yld Y .rdy false).lt ob=true:=(show (AO.yld Y st0 r0).lt ob=true from hwo _ (b2_ ho))
    have e4:OH hv (hv o) (.yld Y .rdy false)=OH hvT (hvT o) (.yld Y .rdy false):=by
     rw[hJ.ag o hbo]
     exact OH.ag hJ.ag (λi hi=>(hJ.ag i hi).symm) hlt2
    rw[e4] at hI
    have hn:AO.yld Y .rdy false≠.unborn:=by simp
    have e5:fn_ mk ob (.y o) () t=⟨t.slot,t.objs.set o (.yld Y .rdy false)⟩:=by simp[fn_,ho]
    rw[e5]
    exact⟨hvT,λ_ _=>rfl,xc_ (f5_ hlt hJ.len) hI,hJ.rel,λi=>AV.lt_mono (be_ hn) (hJ.wfs i),dx_ hn hJ.wfo (AO.lt_mono (hJ.ble.trans (be_ hn)) hlt2),hJ.ble.trans (be_ hn),by simpa using hJ.len,hJ.ag⟩
   ·cases h
  ·cases h
 | g o t0 =>
  have h:by7 ob o t0 rem=some (x,rem1):=h
  unfold by7 at h
  split at h
  ·rename_i G0 l0 h0 r0 ho
   split at h
   ·rename_i G l hr
    obtain⟨hc,h⟩:=bo_ h
    simp only[a1_] at hc
    obtain⟨m,hm,h⟩:=bnd h
    cases h
    obtain⟨e2,e3⟩:=hv_ hm
    have eG:G=G0.at_ t0:=by
     obtain⟨t1,u1,q1,T1,i1⟩:=G
     obtain⟨t2,u2,q2,T2,i2⟩:=G0
     have:=Ty.eqb_eq hc.1.1.1.2
     have:=cv8 hc.1.1.2
     have:=a3_ hc.1.2
     have:=a3_ hc.2
     simp only at *
     subst_vars
     rfl
    subst eG
    have e3:x=l:=e3
    subst e3
    have hlt:o<ob.length:=(a4_.1 ho).1
    have hbo:born ob o=true:=ax_.2 ⟨_,ho,by simp⟩
    have hI:=ly_ hr hJ.inv
    have e4:OH hv (hv o) (.grid (G0.at_ t0) x none false)=OH hvT (hvT o) (.grid (G0.at_ t0) x none false):=by
     rw[hJ.ag o hbo]
     exact OH.ag (n:=[]) (λi h=>by cases h) (λi h=>by cases h) rfl
    rw[e4] at hI
    have hn:AO.grid (G0.at_ t0) x none false≠.unborn:=by simp
    have e5:fn_ mk ob (.g o t0) x t=⟨t.slot,t.objs.set o (.grid (G0.at_ t0) x none false)⟩:=by simp[fn_,ho]
    rw[e5]
    exact⟨hvT,λ_ _=>rfl,xc_ (f5_ hlt hJ.len) hI,hJ.rel,λi=>AV.lt_mono (be_ hn) (hJ.wfs i),dx_ hn hJ.wfo rfl,hJ.ble.trans (be_ hn),by simpa using hJ.len,hJ.ag⟩
   ·cases h
  ·cases h
 | b o ks =>
  have h:getB ob o ks rem=some (x,rem1):=h
  unfold getB at h
  split at h
  ·rename_i T c ro ho
   split at h
   ·rename_i T' c' ro' hr
    obtain⟨rfl,hk⟩:=hb o ks T c ro T' c' ro' rfl ho hr
    have hlt:o<ob.length:=(a4_.1 ho).1
    have hbo:born ob o=true:=ax_.2 ⟨_,ho,by simp⟩
    obtain⟨g,cs,e1,hf,hI⟩:=wr_ (ly_ hr hJ.inv)
    obtain⟨hvT',g1,g2,g3⟩:=getC_ok (ob:=ob) ks c c' cs (rem.set o .gone) rem1 x t.objs.length hvT (lu_ g T' cs.toArray::OHs hvT 0 t.objs) h hk (hwo _ (b2_ ho)) hJ.len hJ.ag hf hI
    have e5:fn_ mk ob (.b o ks) x t=⟨t.slot,t.objs.set o (.cells T' (lp_ ks c x t.objs.length).1 (cond mk (roC ks 0) ro))++(lp_ ks c x t.objs.length).2⟩:=by simp[fn_,ho]
    rw[e5]
    generalize hrows:(lp_ ks c x t.objs.length).2=rows at *
    have hn:AO.cells T' (lp_ ks c x t.objs.length).1 (cond mk (roC ks 0) ro)≠.unborn:=by simp
    have hb1:BLe t.objs (t.objs.set o (.cells T' (lp_ ks c x t.objs.length).1 (cond mk (roC ks 0) ro))++rows):=λi hi=>io_ (be_ hn i hi)
    have hrow:=br6 (n:=t.objs.set o (.cells T' (lp_ ks c x t.objs.length).1 (cond mk (roC ks 0) ro))++rows) ks c x t.objs.length
    rw[hrows] at hrow
    have hcell:fb_ (SV.lt (t.objs.set o (.cells T' (lp_ ks c x t.objs.length).1 (cond mk (roC ks 0) ro))++rows)) (lp_ ks c x t.objs.length).1=true:=by
     refine putC_lt ks c x t.objs.length (hn_ λs hs=>SV.lt_mono (hJ.ble.trans hb1) (bg_ (hwo _ (b2_ ho)) s hs)) λi h1 h2 => ?_
     rw[hrows] at h2
     have h3:i - t.objs.length<rows.length:=by omega
     refine ax_.2 ⟨rows[i - t.objs.length],?_,(hrow _ (List.getElem_mem h3)).1⟩
     rw[c6_ (by simpa using h1)]
     simp only[f6_]
     exact a7_ h3
    refine⟨hvT',g1,⟨?_,λi=>RA.ag (g1.ag (c3_ _)) (hJ.wfs i) (hJ.rel i),λi=>AV.lt_mono hb1 (hJ.wfs i),λa ha => ?_,hJ.ble.trans hb1,by simp;have:=hJ.len;omega,hJ.ag.trans (g1.ag hJ.len)⟩⟩
    ·show Inv w S (OHs hvT' 0 (t.objs.set o _++rows)++_)
     rw[OHs.app]
     simp only[f6_,b0_]
     have e6:hvT' o = .pointer (some ⟨g,0,none⟩):=by
      rw[← g1 o (f5_ hlt hJ.len),← hJ.ag o hbo,e1]
     rw[ar9 g1 (c3_ _) hJ.wfo] at g3
     have g4:Inv w S (lu_ g T' cs.toArray::(OHs hvT' 0 t.objs++(OHs hvT' t.objs.length rows++(OHs hv 0 rem1++Fm)))):=by
      refine g3.perm ?_
      simp only[l6_]
      refine List.perm_middle.trans (List.Perm.cons _ ?_)
      rw[← b3_,← b3_ (as:=OHs hvT' 0 t.objs)]
      exact List.perm_append_comm.append_right _
     have g5:Inv w S (OH hvT' (hvT' o) (.cells T' (lp_ ks c x t.objs.length).1 (cond mk (roC ks 0) ro))::(OHs hvT' 0 t.objs++(OHs hvT' t.objs.length rows++(OHs hv 0 rem1++Fm)))) :=
      Inv.shut (A:=as2 _ _ _ _) g4 ⟨g,cs,e6,g2,rfl⟩
     have g6:=xc_ (f5_ hlt hJ.len) g5
     rw[b3_]
     exact g6
    ·rcases b5_.1 ha with h1 | h1
     ·rcases o8_ h1 with h2 | rfl
      ·exact AO.lt_mono hb1 (hJ.wfo a h2)
      ·exact hcell
     ·exact (hrow a h1).2
   ·cases h
  ·cases h
end
end
section
variable [Gb]
def Sub (l m:List AO):Prop:=∀ (o:Nat) (a:AO),l[o]?=some a→a = .gone∨m[o]?=some a
theorem Sub.refl (l:List AO):Sub l l:=λ_ _ h=>.inr h
theorem Sub.trans {a b c:List AO} (h:Sub a b) (k:Sub b c):Sub a c:=λo x e=>by
 rcases h o x e with h | h
 ·exact .inl h
 ·exact k o x h
theorem ot_ {l:List AO} {o:Nat}:Sub (l.set o .gone) l:=λp a h=>by
 by_cases e:o=p
 ·subst e
  by_cases hl:o<l.length
  ·simp[hl] at h;exact .inl h.symm
  ·simp[hl] at h
 ·rw[b7_ e] at h;exact .inr h
theorem al1 {t:Ty} {T:TypeId} {c:SV} {rem rem':List AO} {l:List t.den} (h:al2 t T c rem=some (l,rem')):Sub rem' rem:=by
 unfold al2 at h
 split at h
 ·cases h;exact Sub.refl _
 ·split at h
  ·obtain⟨_,h⟩:=bo_ h
   obtain⟨m,_,h⟩:=bnd h
   cases h
   exact ot_
  ·cases h
 ·cases h
theorem bn8 {k v:Ty} {c:SV} {rem rem':List AO} {l:List (k.den×v.den)} (h:at3 k v c rem=some (l,rem')):Sub rem' rem:=by
 unfold at3 at h
 split at h
 ·split at h
  ·obtain⟨m,_,h⟩:=bnd h
   cases h
   exact ot_
  ·cases h
 ·cases h
theorem bn9 {t:Ty} {T:TypeId} {c:SV} {rem rem':List AO} {x:t.den} (h:bo0 t T c rem=some (x,rem')):Sub rem' rem:=by
 unfold bo0 at h
 split at h
 ·split at h
  ·obtain⟨_,h⟩:=bo_ h
   obtain⟨m,_,h⟩:=bnd h
   unfold oneR at h
   split at h
   ·cases h;exact ot_
   ·cases h
  ·cases h
 ·cases h
theorem co3:∀ (ks:List CK) (cs:List SV) (rem rem':List AO) (x:lr_ ks),bk7 ks cs rem=some (x,rem')→Sub rem' rem:=by
 intro ks
 induction ks with
 | nil =>
  intro cs rem rem' x h
  cases cs with
  | nil=>cases h;exact Sub.refl _
  | cons c cs=>cases h
 | cons ck ks ih =>
  intro cs rem rem' x h
  cases cs with
  | nil=>cases ck<;>cases h
  | cons c cs =>
   cases ck with
   | keep=>exact ih cs rem rem' x h
   | val t =>
    have h:(cond t.agg none ((asC t c).bind λx=>(bk7 ks cs rem).bind λq=>some ((x,q.1),q.2)):Option (lr_ (.val t::ks)×List AO))=some (x,rem'):=h
    cases h0:t.agg with
    | true=>rw[h0] at h;cases h
    | false =>
     rw[h0] at h
     obtain⟨y,h1,h⟩:=bnd (show Option.bind _ _=some _ from h)
     obtain⟨q,h2,h⟩:=bnd h
     obtain rfl:q.2=rem':=congrArg Prod.snd (a6_ h)
     exact ih cs rem q.2 q.1 h2
   | row t T =>
    have h:((al2 t T c rem).bind λp=>(bk7 ks cs p.2).bind λq=>some ((p.1,q.1),q.2):Option (lr_ (.row t T::ks)×List AO))=some (x,rem'):=h
    obtain⟨p,h1,h⟩:=bnd h
    obtain⟨q,h2,h⟩:=bnd h
    obtain rfl:q.2=rem':=congrArg Prod.snd (a6_ h)
    exact (ih cs p.2 q.2 q.1 h2).trans (al1 h1)
   | map kt vt =>
    have h:((at3 kt vt c rem).bind λp=>(bk7 ks cs p.2).bind λq=>some ((p.1,q.1),q.2):Option (lr_ (.map kt vt::ks)×List AO))=some (x,rem'):=h
    obtain⟨p,h1,h⟩:=bnd h
    obtain⟨q,h2,h⟩:=bnd h
    obtain rfl:q.2=rem':=congrArg Prod.snd (a6_ h)
    exact (ih cs p.2 q.2 q.1 h2).trans (bn8 h1)
theorem co4 {ob:List AO} {sl:Nat→AV} {e:Sp1} {rem rem':List AO} {x:e.den} (h:get1 ob sl e rem=some (x,rem')):Sub rem' rem:=by
 cases e with
 | v d t=>obtain⟨y,_,h⟩:=bnd h;cases h;exact Sub.refl _
 | r d t T =>
  have h:getR sl d t T rem=some (x,rem'):=h
  unfold getR at h
  split at h
  ·exact al1 h
  ·cases h
 | a d t T =>
  have h:getA sl d t T rem=some (x,rem'):=h
  unfold getA at h
  split at h
  ·exact bn9 h
  ·cases h
 | o o t =>
  have h:getO ob o t rem=some (x,rem'):=h
  unfold getO at h
  split at h
  ·split at h
   ·obtain⟨_,h⟩:=bo_ h
    obtain⟨m,_,h⟩:=bnd h
    cases h
    exact ot_
   ·cases h
  ·cases h
 | m o k v =>
  have h:getM ob o k v rem=some (x,rem'):=h
  unfold getM at h
  split at h
  ·split at h
   ·obtain⟨m,_,h⟩:=bnd h
    cases h
    exact ot_
   ·cases h
  ·cases h
 | x o =>
  have h:some ((),rem)=some (x,rem'):=h
  cases h
  exact Sub.refl _
 | y o =>
  have h:getY ob o rem=some (x,rem'):=h
  unfold getY at h
  split at h
  ·split at h
   ·cases h
    exact ot_
   ·cases h
  ·cases h
 | g o t0 =>
  have h:by7 ob o t0 rem=some (x,rem'):=h
  unfold by7 at h
  split at h
  ·split at h
   ·obtain⟨_,h⟩:=bo_ h
    obtain⟨m,_,h⟩:=bnd h
    cases h
    exact ot_
   ·cases h
  ·cases h
 | b o ks =>
  have h:getB ob o ks rem=some (x,rem'):=h
  unfold getB at h
  split at h
  ·split at h
   ·exact (co3 _ _ _ _ _ h).trans ot_
   ·cases h
  ·cases h
def Kp (es:List Sp1) (ob rem:List AO):Prop:=(∀ (o:Nat) (ks:List CK) (T:TypeId) (c:List SV) (ro:List Nat) (T':TypeId) (c':List SV) (ro':List Nat),.b o ks ∈ es→ob[o]?=some (AO.cells T c ro)→rem[o]?=some (AO.cells T' c' ro')→T'=T∧su_ ks c c')∧Ky ob rem
section
variable {w:World} {S:PH} {hv:Nat→Value} {ob:List AO} {Fm:List HP} {f:Fr}
theorem ck3 {mk:Bool} {sl:Nat→AV} (hsl:∀ d,RA hv S (sl d) (f d)) (hwo:WfO ob):∀ (es:List Sp1) (x:br_ es) (t:A) (rem:List AO) (hvT:Nat→Value),Jn w S hvT hv ob Fm t rem f→Kp es ob rem →
  getS ob sl es rem=some x→∃ hvT' rem',AgN t.objs.length hvT hvT'∧Jn w S hvT' hv ob Fm (qy_ mk ob es x t) rem' f:=by
 intro es
 induction es with
 | nil=>intro x t rem hvT hJ _ h;exact⟨hvT,rem,λ_ _=>rfl,hJ⟩
 | cons e es ih =>
  intro x t rem hvT hJ hk h
  obtain⟨p,h1,h⟩:=bnd h
  obtain⟨y,h2,h⟩:=bnd h
  obtain rfl:(p.1,y)=x:=a6_ h
  obtain⟨hv1,a1,J1⟩:=put1_ok (mk:=mk) hsl hwo hJ (λo ks T c ro T' c' ro' he=>hk.1 o ks T c ro T' c' ro' (by rw[he];simp)) hk.2 h1
  have hs:=co4 h1
  obtain⟨hv2,rem2,a2,J2⟩:=ih y (fn_ mk ob e p.1 t) p.2 hv1 J1 ⟨λo ks T c ro T' c' ro' hm ho hr=>by
   rcases hs o _ hr with h | h
   ·cases h
   ·exact hk.1 o ks T c ro T' c' ro' (by simp[hm]) ho h,λo Y st ro Y' st' ro' ho hr=>by
   rcases hs o _ hr with h | h
   ·cases h
   ·exact hk.2 o Y st ro Y' st' ro' ho h⟩ h2
  have hle:t.objs.length≤(fn_ mk ob e p.1 t).objs.length:=by
   cases e with
   | v d t=>exact c3_ _
   | r d t T=>simp[fn_]
   | a d t T=>simp[fn_]
   | o o t=>simp only[fn_];split<;>simp
   | b o ks=>simp only[fn_];split<;>simp
   | m o k v=>simp only[fn_];split<;>simp
   | g o t=>simp only[fn_];split<;>simp
   | x o=>exact c3_ _
   | y o=>simp only[fn_];split<;>simp
  exact⟨hv2,rem2,a1.trans (a2.le hle),J2⟩
theorem ld_ {mk:Bool} {es:List Sp1} {mv:List Nat}:∀ {l:List AO} {i j:Nat},(fo_ mk es mv i l)[j]?=(l[j]?).map λa=>match a with
  | .unborn=>.unborn
  | .gone=>.gone
  | a=>cond (listed es (i+j)||inL (i+j) mv) .gone (cond mk (pg_ a) a)
 | [],i,j=>rfl
 | a::l,i,0=>by cases a<;>simp[fo_]
 | a::l,i,j+1=>by
  simp only[fo_,h9_]
  rw[ld_ (l:=l) (i:=i+1) (j:=j),show i+1+j=i+(j+1) by omega]
theorem ph_ {mk:Bool} {es:List Sp1} {mv:List Nat}:∀ {l:List AO} {i:Nat},(fo_ mk es mv i l).length=l.length
 | [],i=>rfl
 | a::l,i=>by simp[fo_,ph_ (l:=l)]
theorem ya_ {mk:Bool} {es:List Sp1} {mv:List Nat} {l:List AO} {i:Nat}:BLe l (fo_ mk es mv i l):=by
 intro o ho
 obtain⟨a,h1,h2⟩:=ax_.1 ho
 rw[ax_,ld_,h1]
 refine⟨_,rfl,?_⟩
 cases a<;>first | exact absurd rfl h2 | (simp;done) | (cases (listed es (i+o)||inL (i+o) mv)<;>cases mk<;>simp[pg_])
theorem bv7 {mk:Bool} {es:List Sp1} {mv:List Nat} {l:List AO} {i:Nat} (h:WfO l):WfO (fo_ mk es mv i l):=by
 intro a ha
 obtain⟨j,hj⟩:=f2_ ha
 rw[ld_] at hj
 obtain⟨b,hb,rfl⟩:=f4_.1 hj
 have hw:=AO.lt_mono (ya_ (mk:=mk) (es:=es) (mv:=mv) (i:=i)) (h b (b2_ hb))
 cases b<;>first | rfl | (cases (listed es (i+j)||inL (i+j) mv)<;>cases mk<;>first | rfl | exact hw | (rename_i G l q r;cases q<;>first | rfl | exact hw))
theorem cp5 {A B:List HP} (h:Inv w S (A++(B++Fm))):Inv w S (A++Fm):=by
 have h1:Inv w S (B++(A++Fm)):=h.perm (by rw[← b3_,← b3_];exact List.perm_append_comm.append_right _)
 exact h1.drops
theorem put_ok {mk:Bool} {asg:List Nat} {es:List Sp1} {mv:List Nat} {s:A} {x:br_ es} {sl sl2:Nat→AV} {objs:List AO} (hs:Sit S hv Fm sl objs f w) (hs2:∀ d,RA hv S (sl2 d) (f d)) (hws:WfS s.slot s.objs) (hwo:WfO s.objs)
  (h4:∀ d,inL d asg=false→sl d=s.slot d)
  (h5:∀ (j:Nat) (a b:AO),s.objs[j]?=some a→objs[j]?=some b→(listed es j||inL j mv)=false→a≠.unborn→a≠.gone→OHeq a b)
  (hl:s.objs.length≤objs.length) (h6:Kp es s.objs objs) (hg:getS s.objs sl2 es (au6 es mv 0 s.objs objs)=some x) :
  ∃ hv',Ag s.objs hv hv'∧Sit S hv' Fm (gp_ mk asg es mv s x).slot (gp_ mk asg es mv s x).objs f w∧BLe s.objs (gp_ mk asg es mv s x).objs:=by
 have hI:=al3 (mk:=mk) (es:=es) (mv:=mv) (ob:=s.objs) (l:=objs) (i:=0) hl (λj a b ha hb hc=>h5 j a b ha hb (by rw[b0_] at hc;exact hc)) hs.inv
 have hsub:∀ (i:Nat) (ob l:List AO),Sub (au6 es mv i ob l) l:=by
  intro i ob
  induction ob generalizing i with
  | nil=>intro l;exact Sub.refl _
  | cons a ob ih =>
   intro l
   cases l with
   | nil=>exact Sub.refl _
   | cons b l =>
    intro o c hc
    cases o with
    | zero =>
     simp only[au6,l5_,p0_] at hc
     cases a<;>first | exact .inr (by simpa using hc) | (cases hq:(listed es i||inL i mv)<;>rw[hq] at hc<;>first | exact .inr (by simpa using hc) | exact .inl hc.symm)
    | succ o =>
     simp only[au6,h9_] at hc ⊢
     exact ih (i+1) l o c hc
 have hJ:Jn w S hv hv s.objs Fm ⟨λd=>cond (inL d asg) (.b .dead) (s.slot d),fo_ mk es mv 0 s.objs⟩ (au6 es mv 0 s.objs objs) f :=
  ⟨hI,λd=>by
   show RA hv S (cond (inL d asg) (.b .dead) (s.slot d)) (f d)
   cases hd:inL d asg with
   | true=>trivial
   | false=>show RA hv S (s.slot d) (f d);rw[← h4 d hd];exact hs.rel d,λd=>by
   show (cond (inL d asg) (.b .dead) (s.slot d)).lt (fo_ mk es mv 0 s.objs)=true
   cases inL d asg with
   | true=>rfl
   | false=>exact AV.lt_mono ya_ (hws d),bv7 hwo,ya_,by simp[ph_],λ_ _=>rfl⟩
 obtain⟨hvT',rem',a1,J⟩:=ck3 (mk:=mk) hs2 hwo es x _ _ hv hJ ⟨λo ks T c ro T' c' ro' hm ho hr=>by
  rcases hsub 0 s.objs objs o _ hr with h | h
  ·cases h
  ·exact h6.1 o ks T c ro T' c' ro' hm ho h,λo Y st ro Y' st' ro' ho hr=>by
  rcases hsub 0 s.objs objs o _ hr with h | h
  ·cases h
  ·exact h6.2 o Y st ro Y' st' ro' ho h⟩ hg
 exact⟨hvT',J.ag,⟨cp5 J.inv,J.rel,J.wfs,J.wfo,hs.gl⟩,J.ble⟩
end
end
section
variable [Gb]
theorem cf4 {a b:AO} (h:K1 (pg_ a) b) (h1:a≠.unborn) (h2:a≠.gone):OHeq a b:=by
 intro hv v
 cases a with
 | unborn=>exact absurd rfl h1
 | gone=>exact absurd rfl h2
 | row t T l ro=>have h:b = .row t T l true:=h;subst h;rfl
 | map k w m ro=>have h:b = .map k w m true:=h;subst h;rfl
 | fn f x y=>have h:b = .fn f x y:=h;subst h;rfl
 | froz t x=>have h:b = .froz t x:=h;subst h;rfl
 | grid G ls p ro=>have h:b = .grid G ls p true:=h;subst h;rfl
 | yld Y st ro =>
  obtain⟨st',hb,e⟩:=(show ∃ st',b = .yld Y st' true∧(true=true→st'=st) from h)
  obtain rfl:=e rfl
  subst hb
  rfl
 | cells T c ro =>
  obtain⟨c',rfl,hl,hc⟩:=(show ∃ c':List SV,b = .cells T c' (List.range c.length)∧c'.length=c.length∧∀ j ∈ List.range c.length,c'[j]?=c[j]? from h)
  have e:c'=c:=by
   apply f1_
   intro j
   by_cases hj:j<c.length
   ·exact hc j (by simpa using hj)
   ·rw[b4_ (by omega),b4_ (by omega)]
  subst e
  rfl
theorem ae9:∀ (ks:List CK) (bs:List SV) (x:lr_ ks) (k:Nat),ks.length=bs.length→(lp_ ks bs x k).1.length=bs.length:=by
 intro ks
 induction ks with
 | nil=>intro bs x k h;cases bs with
  | nil=>rfl
  | cons b bs=>simp at h
 | cons ck ks ih =>
  intro bs x k h
  cases bs with
  | nil=>simp at h
  | cons b bs =>
   simp only[c4_,m7_] at h
   cases ck with
   | keep=>show (lp_ ks bs x k).1.length+1=_;rw[ih bs x k h];rfl
   | val t=>show (lp_ ks bs x.2 k).1.length+1=_;rw[ih bs x.2 k h];rfl
   | row t T=>show (lp_ ks bs x.2 (k+1)).1.length+1=_;rw[ih bs x.2 (k+1) h];rfl
   | map kt vt=>show (lp_ ks bs x.2 (k+1)).1.length+1=_;rw[ih bs x.2 (k+1) h];rfl
theorem bx7:∀ (ks:List CK) (bs cs:List SV) (x:lr_ ks) (k i:Nat),ks.length=bs.length→cs.length=bs.length→(∀ j ∈ roC ks i,i≤j→cs[j - i]?=(lp_ ks bs x k).1[j - i]?)→su_ ks bs cs:=by
 intro ks
 induction ks with
 | nil=>intro bs cs x k i h1 h2 _;cases bs with
  | nil=>cases cs with
   | nil=>trivial
   | cons c cs=>simp at h2
  | cons b bs=>simp at h1
 | cons ck ks ih =>
  intro bs cs x k i h1 h2 h
  cases bs with
  | nil=>simp at h1
  | cons b bs =>
   cases cs with
   | nil=>simp at h2
   | cons c cs =>
    simp only[c4_,m7_] at h1 h2
    have e:∀ j,i+1≤j→j - i=(j - (i+1))+1:=λj hj=>by omega
    cases ck with
    | keep =>
     refine⟨?_,ih bs cs x k (i+1) h1 h2 λj hj hij => ?_⟩
     ·have:=h i (by simp[roC]) (c3_ _)
      rw[l2_] at this
      exact a6_ this
     ·have:=h j (by simp[roC,hj]) (by omega)
      rw[e j hij] at this
      exact this
    | val t =>
     refine ih bs cs x.2 k (i+1) h1 h2 λj hj hij => ?_
     have:=h j hj (by omega)
     rw[e j hij] at this
     exact this
    | row t T =>
     refine ih bs cs x.2 (k+1) (i+1) h1 h2 λj hj hij => ?_
     have:=h j hj (by omega)
     rw[e j hij] at this
     exact this
    | map kt vt =>
     refine ih bs cs x.2 (k+1) (i+1) h1 h2 λj hj hij => ?_
     have:=h j hj (by omega)
     rw[e j hij] at this
     exact this
section
variable {mk:Bool} {ob:List AO}
theorem ql_ {e:Sp1} {x:e.den} {t:A}:t.objs.length≤(fn_ mk ob e x t).objs.length:=by
 cases e with
 | v d t=>exact c3_ _
 | r d t T=>simp[fn_]
 | a d t T=>simp[fn_]
 | o o t=>simp only[fn_];split<;>simp
 | b o ks=>simp only[fn_];split<;>simp
 | m o k v=>simp only[fn_];split<;>simp
 | g o t=>simp only[fn_];split<;>simp
 | x o=>exact c3_ _
 | y o=>simp only[fn_];split<;>simp
theorem ck4 {e:Sp1} {x:e.den} {t:A} {j:Nat} (h:listed [e] j=false) (hj:j<t.objs.length):(fn_ mk ob e x t).objs[j]?=t.objs[j]?:=by
 cases e with
 | v d t=>rfl
 | r d t T=>simp only[fn_];rw[b1_ hj]
 | a d t T=>simp only[fn_];rw[b1_ hj]
 | o o t =>
  simp only[listed,i0_] at h
  have hne:o≠j:=by rintro rfl;simp at h
  simp only[fn_]
  split
  ·exact b7_ hne
  ·rfl
 | m o k v =>
  simp only[listed,i0_] at h
  have hne:o≠j:=by rintro rfl;simp at h
  simp only[fn_]
  split
  ·exact b7_ hne
  ·rfl
 | x o=>rfl
 | y o =>
  simp only[listed,i0_] at h
  have hne:o≠j:=by rintro rfl;simp at h
  simp only[fn_]
  split
  ·exact b7_ hne
  ·rfl
 | g o t =>
  simp only[listed,i0_] at h
  have hne:o≠j:=by rintro rfl;simp at h
  simp only[fn_]
  split
  ·exact b7_ hne
  ·rfl
 | b o ks =>
  simp only[listed,i0_] at h
  have hne:o≠j:=by rintro rfl;simp at h
  simp only[fn_]
  split
  ·rw[b1_ (by simpa using hj)]
   exact b7_ hne
  ·rfl
theorem le_ {e:Sp1} {es:List Sp1} {j:Nat}:listed (e::es) j=(listed [e] j||listed es j):=by
 cases e<;>simp[listed]
theorem nc_:∀ (es:List Sp1) (x:br_ es) (t:A) (j:Nat),listed es j=false→j<t.objs.length→(qy_ mk ob es x t).objs[j]?=t.objs[j]?:=by
 intro es
 induction es with
 | nil=>intro x t j _ _;rfl
 | cons e es ih =>
  intro x t j h hj
  rw[le_,b8_] at h
  show (qy_ mk ob es x.2 (fn_ mk ob e x.1 t)).objs[j]?=_
  rw[ih x.2 _ j h.2 (f5_ hj ql_),ck4 h.1 hj]
theorem an3:∀ (es:List Sp1) (x:br_ es) (t:A),t.objs.length≤(qy_ mk ob es x t).objs.length:=by
 intro es
 induction es with
 | nil=>intro x t;exact c3_ _
 | cons e es ih=>intro x t;exact c5_ ql_ (ih x.2 _)
theorem xm_:∀ (es:List Sp1) (x:br_ es) (t:A) (o:Nat) (ks:List CK) (T:TypeId) (c:List SV) (ro:List Nat),okS ob es=true→.b o ks ∈ es→ob[o]?=some (AO.cells T c ro)→o<t.objs.length →
  ks.length=c.length∧∃ (y:lr_ ks) (k:Nat),(qy_ mk ob es x t).objs[o]?=some (.cells T (lp_ ks c y k).1 (cond mk (roC ks 0) ro)):=by
 intro es
 induction es with
 | nil=>intro x t o ks T c ro _ h;cases h
 | cons e es ih =>
  intro x t o ks T c ro hok hm ho hlt
  have hok2:okS ob es=true:=by
   cases e<;>simp only[okS,a1_] at hok<;>first | exact hok | exact hok.2
  rcases d8_.1 hm with rfl | hm
  ·simp only[okS,ho,a1_,l1_] at hok
   obtain⟨⟨⟨h1,h2⟩,h3⟩,h4⟩:=hok
   refine⟨a3_ h1,x.1,t.objs.length,?_⟩
   show (qy_ mk ob es x.2 (fn_ mk ob (.b o ks) x.1 t)).objs[o]?=_
   rw[nc_ es x.2 _ o h3 (f5_ hlt ql_)]
   simp only[fn_,ho]
   rw[b1_ (by simpa using hlt)]
   simp[hlt]
  ·exact ih x.2 _ o ks T c ro hok2 hm ho (f5_ hlt ql_)
theorem av8 {o:Nat} {Y:Yld} {st:YS} {ro:Bool} (ho:ob[o]?=some (AO.yld Y st ro)):∀ (es:List Sp1) (x:br_ es) (t:A),okS ob es=true→listed es o=true→o<t.objs.length→(qy_ mk ob es x t).objs[o]?=some (.yld Y .rdy false):=by
 intro es
 induction es with
 | nil=>intro x t _ h;cases h
 | cons e es ih =>
  intro x t hok hl hlt
  have hok2:okS ob es=true:=by
   cases e<;>simp only[okS,a1_] at hok<;>first | exact hok | exact hok.2
  rw[le_,c8_] at hl
  have key:listed [e] o=true→listed es o=false∧e = .y o:=by
   intro h1
   cases e with
   | v d t=>cases h1
   | r d t T=>cases h1
   | a d t T=>cases h1
   | _ =>
    simp only[listed,i0_] at h1
    obtain rfl:=a3_ h1
    simp only[okS,ho,a1_,l1_,Bool.false_eq_true,false_and] at hok
    try exact⟨hok.1.2,rfl⟩
  rcases hl with h1 | h1
  ·obtain⟨h2,rfl⟩:=key h1
   show (qy_ mk ob es x.2 (fn_ mk ob (.y o) x.1 t)).objs[o]?=_
   rw[nc_ es x.2 _ o h2 (f5_ hlt ql_)]
   simp[fn_,ho,hlt]
  ·exact ih x.2 _ hok2 h1 (f5_ hlt ql_)
end
theorem bd0 {asg:List Nat} {es:List Sp1} {mv:List Nat} {s:A} {x:br_ es} {objs:List AO} (hok:okS s.objs es=true) (hmv:∀ (j:Nat) (Y:Yld) (st:YS) (ro:Bool),inL j mv=true→s.objs[j]?≠some (.yld Y st ro)) (hk:Keep (gp_ true asg es mv s x).objs objs) :
  (∀ (j:Nat) (a b:AO),s.objs[j]?=some a→objs[j]?=some b→(listed es j||inL j mv)=false→a≠.unborn→a≠.gone→OHeq a b)∧s.objs.length≤objs.length∧Kp es s.objs objs:=by
 have hlen:(⟨λd=>cond (inL d asg) (.b .dead) (s.slot d),fo_ true es mv 0 s.objs⟩:A).objs.length=s.objs.length:=ph_
 refine⟨λj a b ha hb hc h1 h2 => ?_,?_,λo ks T c ro T' c' ro' hm ho hr => ?_,λo Y st ro Y' st' ro' ho hr => ?_⟩
 ·rw[b8_] at hc
  have hj:=(a4_.1 ha).1
  have e:(gp_ true asg es mv s x).objs[j]?=some (pg_ a):=by
   unfold gp_
   rw[nc_ es x _ j hc.1 (by rw[hlen];exact hj)]
   show (fo_ true es mv 0 s.objs)[j]?=_
   rw[ld_,ha,b0_,hc.1,hc.2]
   cases a<;>first | exact absurd rfl h1 | exact absurd rfl h2 | rfl
  obtain⟨b',e2,hK⟩:=hk j _ e
  rw[hb] at e2
  cases e2
  exact cf4 hK h1 h2
 ·have h1:s.objs.length≤(gp_ true asg es mv s x).objs.length:=by
   have:=an3 (mk:=true) (ob:=s.objs) es x ⟨λd=>cond (inL d asg) (.b .dead) (s.slot d),fo_ true es mv 0 s.objs⟩
   rw[hlen] at this
   exact this
  by_cases h0:s.objs.length=0
  ·omega
  ·have hj:s.objs.length - 1<(gp_ true asg es mv s x).objs.length:=by omega
   obtain⟨b,e2,_⟩:=hk _ _ (a7_ hj)
   have:=(a4_.1 e2).1
   omega
 ·have hlt:=(a4_.1 ho).1
  obtain⟨hl,y,k,e⟩:=xm_ (mk:=true) es x ⟨λd=>cond (inL d asg) (.b .dead) (s.slot d),fo_ true es mv 0 s.objs⟩ o ks T c ro hok hm ho (by rw[hlen];exact hlt)
  obtain⟨b',e2,hK⟩:=hk o _ e
  rw[hr] at e2
  cases e2
  obtain⟨c2,e3,h3,h4⟩:=(show ∃ c2:List SV,AO.cells T' c' ro' = .cells T c2 (roC ks 0)∧c2.length=(lp_ ks c y k).1.length∧∀ j ∈ roC ks 0,c2[j]?=(lp_ ks c y k).1[j]? from hK)
  cases e3
  exact⟨rfl,bx7 ks c c' y k 0 hl (by rw[h3,ae9 _ _ _ _ hl]) λj hj _=>by simpa using h4 j hj⟩
 ·have hlt:=(a4_.1 ho).1
  have e:∃ st1 r1,(gp_ true asg es mv s x).objs[o]?=some (.yld Y st1 r1):=by
   cases hls:listed es o with
   | true=>exact⟨_,_,av8 ho es x _ hok hls (by rw[hlen];exact hlt)⟩
   | false =>
    have hm:inL o mv=false:=by
     cases hm:inL o mv with
     | false=>rfl
     | true=>exact absurd ho (hmv o Y st ro hm)
    refine⟨st,true,?_⟩
    unfold gp_
    rw[nc_ es x _ o hls (by rw[hlen];exact hlt)]
    show (fo_ true es mv 0 s.objs)[o]?=_
    rw[ld_,ho,b0_,hls,hm]
    rfl
  obtain⟨st1,r1,e⟩:=e
  obtain⟨b',e2,hK⟩:=hk o _ e
  rw[hr] at e2
  cases e2
  obtain⟨st2,e3,_⟩:=(show ∃ st2,AO.yld Y' st' ro' = .yld Y st2 r1∧(r1=true→st2=st1) from hK)
  cases e3
  rfl
end
section
variable [Gb]
def mskA (a:AV):AV:=cond (a.lt []) a (.b .dead)
def envQ (sl:Nat→AV) (dsts:List (Option Nat)) (tab:List (List Nat)) (anc:List Nat) (vals:List AV) (d:Nat):AV:=mskA (cg7 sl dsts tab anc vals d)
section
variable {ρ:Type} {P:Program} [Tb P]
def at7 (cx:Cx P) (n:Nat) (sl:Nat→AV) (dsts:List (Option Nat)) (tab:List (List Nat)) (o:Oper) (anc:List Nat) (vals:List AV) (k:AV→Option ρ):Option ρ :=
 cond (ey_ n o.dst) (bo6 cx o (envQ sl dsts tab anc vals) [] 0 λav _=>cond (av.lt []) (frcA av k) none) none
def uj_ (cx:Cx P) (n:Nat) (sl:Nat→AV) (dsts:List (Option Nat)) (tab:List (List Nat)):List Oper→List (List Nat)→List AV→(List AV→Option ρ)→Option ρ
 | [],_,vals,k=>k vals
 | o::os,anc::ancs,vals,k=>match o.guard with
  | none=>at7 cx n sl dsts tab o anc vals λav=>uj_ cx n sl dsts tab os ancs (vals++[av]) k
  | some (j,b)=>cond (inL j anc&&dstG n dsts j) ((vals[j]?).bind λvj=>cond (unA vj) (cond (ey_ n o.dst) (uj_ cx n sl dsts tab os ancs (vals++[.tup []]) k) none) ((asD .bool vj).bind λc =>
    cond c (cond b (at7 cx n sl dsts tab o anc (vals.set j (bV true)) λav=>uj_ cx n sl dsts tab os ancs (vals.set j (bV true)++[av]) k)
      (cond (ey_ n o.dst) (uj_ cx n sl dsts tab os ancs (vals.set j (bV true)++[.tup []]) k) none))
     (cond b (cond (ey_ n o.dst) (uj_ cx n sl dsts tab os ancs (vals.set j (bV false)++[.tup []]) k) none)
      (at7 cx n sl dsts tab o anc (vals.set j (bV false)) λav=>uj_ cx n sl dsts tab os ancs (vals.set j (bV false)++[av]) k)))) none
 | _::_,[],_,_=>none
def regQ (cx:Cx P) (n:Nat) (ops:List Oper) (s:A) (k:A→Option ρ):Option ρ :=
 cond (P.follows .mixedOrders&&tz_ (ops.map (·.dst))&&so_ ops 0) (cw7 ops [] λancs=>uj_ cx n s.slot (ops.map (·.dst)) ancs ops ancs [] λvals =>
  k ⟨λd=>match go_ d (ops.map (·.dst)) 0 with
   | none=>s.slot d
   | some j=>(vals[j]?).getD (.b .dead),s.objs⟩) none
end
end
section
def WA (P:Program) (n:Nat) (ro:Option Nat) (l:List Oper) (N:Fr→World→Prop) (f:Fr) (w:World):Prop :=
 ∀ (Q:Exit→Act→World→Prop) (a:Act),Fits n a f→∃ I:Array Bool→Act→World→Prop,I (Array.replicate l.length false) a { w with drawn:=w.drawn+1 } ∧
  (∀ listed a w i,listed.size=l.length→I listed a w→i ∈ Region.ready .any l.toArray listed→wpOpIn (FW ro) 0 P l.toArray Q i (I (listed.setIfInBounds i true)) a w) ∧
  (∀ listed a w,listed.size=l.length→I listed a w→Region.ready .any l.toArray listed=[]→∃ f',Fits n a f'∧N f' w)
theorem bm6 {P:Program} {n:Nat} {ro:Option Nat} {l:List Oper} {N R:Fr→World→Prop} {X:Nat→Fr→World→Prop} {f:Fr} {w:World} {id:Nat} (hm:P.follows .mixedOrders=true) (h:WA P n ro l N f w):WP P n ro (.region id l.toArray true) N R X f w:=by
 intro a ha
 obtain⟨I,h0,h1,h2⟩:=h (Pad.Ends n N R X) a ha
 refine wpIn_region_any hm ?_
 have e:l.toArray.size=l.length:=by simp
 rw[e]
 refine op_ I (λlisted a w i hs=>h1 listed a w i (by rw[hs,e])) (λlisted a w hs hI hr => ?_) _ _ _ _ (by simp) ?_ h0
 ·obtain⟨f',hf,hN⟩:=h2 listed a w (by rw[hs,e]) hI hr
  exact⟨f',hf,hN⟩
 ·rw[e]
  exact c5_ k2_ (by simp)
theorem sk_ {ops:List Oper} {listed:Array Bool} {i:Nat}:i ∈ Region.ready .any ops.toArray listed↔∃ o,ops[i]?=some o∧listed.getD i true=false∧∀ p ∈ cm_ o,listed.getD p false=true:=by
 unfold Region.ready
 rw[d0_,n9_,a1_]
 constructor
 ·rintro⟨h1,h2,h3⟩
  have hi:i<ops.length:=by simpa using h1
  have ho:ops[i]?=some ops[i]:=a7_ hi
  refine⟨ops[i],ho,by simpa using h2,λp hp => ?_⟩
  simp only[e0_,ho,g3_,g2_] at h3
  unfold cm_ at hp
  obtain⟨e,he,rfl⟩:=d2_.1 hp
  obtain⟨he1,he2⟩:=d0_.1 he
  rw[i9_] at h3
  have:=h3 e (by simpa using he1)
  rw[he2] at this
  simpa using this
 ·rintro⟨o,ho,h2,h3⟩
  have hi:=(a4_.1 ho).1
  refine⟨by simpa using hi,by rw[h2];rfl,?_⟩
  simp only[e0_,ho,g3_,g2_]
  rw[i9_]
  intro e he
  cases hb:Region.binds .any e with
  | false=>simp
  | true =>
   have:=h3 e.on (d2_.2 ⟨e,d0_.2 ⟨by simpa using he,hb⟩,rfl⟩)
   simp[this]
def ch8 (anc:List (List Nat)) (k:Nat):Nat→Bool
 | 0=>true
 | i+1=>ch8 anc k i&&(Nat.blt i k||match anc[i]? with
  | some a=>fb_ (λj=>inL j a) (List.range i)
  | none=>false)
def gdB (k:Nat):List Oper→Bool
 | []=>true
 | o::os=>(match o.guard with
  | some (j,_)=>Nat.blt j k
  | none=>true)&&gdB k os
theorem at6 {anc:List (List Nat)} {k:Nat}:∀ {n:Nat},ch8 anc k n=true→∀ {i:Nat},i<n→k≤i→∃ a,anc[i]?=some a∧∀ j,j<i→inL j a=true
 | n+1,h,i,hi,hk=>by
  unfold ch8 at h
  rw[a1_,c8_] at h
  by_cases e:i=n
  ·subst e
   rcases h.2 with h2 | h2
   ·have:=b6_ h2
    omega
   ·cases ha:anc[i]? with
    | none=>rw[ha] at h2;cases h2
    | some a =>
     rw[ha] at h2
     exact⟨a,rfl,λj hj=>bg_ h2 j (n9_.2 hj)⟩
  ·exact at6 h.1 (by omega) hk
theorem gdB_at {k:Nat} {l:List Oper}:∀ {i:Nat} {o:Oper},gdB k l=true→l[i]?=some o→∀ j b,o.guard=some (j,b)→j<k:=by
 induction l with
 | nil=>intro i o _ ho;cases ho
 | cons x l ih =>
  intro i o h ho j b hg
  have h2:((match x.guard with
   | some (j,_)=>Nat.blt j k
   | none=>true)&&gdB k l)=true:=h
  rw[a1_] at h2
  cases i with
  | zero =>
   obtain rfl:x=o:=a6_ ho
   have h3:=h2.1
   rw[hg] at h3
   exact b6_ h3
  | succ i=>exact ih h2.2 ho j b hg
theorem bh8 {l1 l2:List Oper} {k:Nat} (hk:l1.length=k) (hg:gdB k l1=true) {i:Nat} {o:Oper} (ho:l1[i]?=some o) (tm:Array Value):Region.wanted o (yielded (l1++l2).toArray tm)=Region.wanted o (yielded l1.toArray tm):=by
 unfold Region.wanted
 split
 ·rfl
 ·rename_i j b hgo
  have hj:=gdB_at hg ho j b hgo
  have e:(l1++l2).toArray[j]?=l1.toArray[j]?:=by
   simp only[e0_]
   exact b1_ (by omega)
  unfold yielded
  rw[e]
theorem az0 [Gb] {P:Program} {n:Nat} {ro:Option Nat} {l1 l2:List Oper} {N R:Fr→World→Prop} {X:Nat→Fr→World→Prop} {f:Fr} {w:World} {id:Nat} (hm:P.follows .mixedOrders=true)
  (hsuf:ch8 (lt_ (l1++l2) []) l1.length (l1++l2).length=true) (hpre:so_ (l1++l2) 0=true) (hg:gdB l1.length l1=true)
  (h:WA P n ro l1 (λf w=>WL P n ro (l1++l2).toArray N l2 f w) f w):WP P n ro (.region id (l1++l2).toArray true) N R X f w:=by
 intro a ha
 obtain⟨I,i0,i1,i2⟩:=h (Pad.Ends n N R X) a ha
 refine wpIn_region_any hm ?_
 generalize hops:l1++l2=ops at *
 generalize hk:l1.length=k at *
 have hlen:ops.length=k+l2.length:=by rw[← hops,a9_,hk]
 have hsz:ops.toArray.size=ops.length:=by simp
 rw[hsz]
 have h1:∀ i,i<k→ops[i]?=l1[i]?:=λi hi=>by rw[← hops];exact b1_ (by omega)
 let J:Array Bool→Act→World→Prop:=λlisted a w=>Cl ops (λi=>listed.getD i false) ∧
  ((∃ lp:Array Bool,lp.size=k∧(∀ i b,i<k→listed.getD i b=lp.getD i b)∧(∀ i,k≤i→i<ops.length→listed.getD i false=false)∧(∃ i,i<k∧lp.getD i true=false)∧I lp a w) ∨
   ∃ t,k≤t∧t≤ops.length∧(∀ i,i<ops.length→listed.getD i false=decide (i<t))∧wpListIn (FW ro) 0 P ops.toArray (Pad.Ends n N R X) (ops.drop t) a w)
 have whole:∀ (listed lp:Array Bool) (a:Act) (w:World),lp.size=k→(∀ i b,i<k→listed.getD i b=lp.getD i b)→(∀ i,k≤i→i<ops.length→listed.getD i false=false)→(∀ i,i<k→lp.getD i true=true)→I lp a w →
   ∃ t,k≤t∧t≤ops.length∧(∀ i,i<ops.length→listed.getD i false=decide (i<t))∧wpListIn (FW ro) 0 P ops.toArray (Pad.Ends n N R X) (ops.drop t) a w:=by
  intro listed lp a w s1 s2 s3 s4 s5
  have hr:Region.ready .any l1.toArray lp=[]:=by
   rw[List.eq_nil_iff_forall_not_mem]
   intro i hi
   obtain⟨o,ho,hf,_⟩:=sk_.1 hi
   have hi:=(a4_.1 ho).1
   rw[s4 i (by omega)] at hf
   cases hf
  obtain⟨f',hf,hN⟩:=i2 lp a w s1 s5 hr
  refine⟨k,c3_ _,by omega,λi hi => ?_,?_⟩
  ·by_cases hik:i<k
   ·rw[s2 i false hik,b9_ hik]
    have:=s4 i hik
    simpa [a8_,d1_ (show i<lp.size by omega)] using this
   ·rw[s3 i (by omega) hi,c2_ hik]
  ·have:ops.drop k=l2:=by rw[← hops,← hk];simp
   rw[this]
   exact hN R X a hf
 have gset:∀ (l:Array Bool) (i j:Nat) (b:Bool),i<l.size→(l.setIfInBounds i true).getD j b=(Nat.beq j i||l.getD j b):=by
  intro l i j b hi
  by_cases hj:j=i
  ·subst hj
   rw[g0_]
   simp[a8_,j5_,hi]
  ·have:Nat.beq j i=false:=by
    cases hb:Nat.beq j i with
    | false=>rfl
    | true=>exact absurd (a3_ hb) hj
   rw[this]
   simp[a8_,h2_ (n5_ hj)]
 have dflt:∀ (l:Array Bool) (i:Nat) (b c:Bool),i<l.size→l.getD i b=l.getD i c:=by
  intro l i b c hi
  simp[a8_,d1_ hi]
 refine op_ J ?_ ?_ _ _ _ _ (by simp) (c5_ k2_ (by simp)) ?_
 ·rintro listed a w i hs ⟨hcl,hJ⟩ hi
  rw[hsz] at hs
  obtain⟨o,ho,hun,hpr⟩:=sk_.1 hi
  have hil:=(a4_.1 ho).1
  have hst:=hcl.step ho hpr
  have hcl':Cl ops (λj=>(listed.setIfInBounds i true).getD j false):=by
   have e:(λj=>(listed.setIfInBounds i true).getD j false)=λj=>Nat.beq j i||listed.getD j false:=funext λj=>gset listed i j false (by omega)
   rw[e]
   exact hst.2
  rcases hJ with ⟨lp,s1,s2,s3,⟨q,hq,hqf⟩,hI⟩ | ⟨t,t1,t2,t3,hW⟩
  ·have hik:i<k:=by
    refine k6_ λhn => ?_
    obtain⟨an,e1,e2⟩:=at6 hsuf hil (by omega)
    have:=hst.1 an e1 q (e2 q (by omega))
    rw[s2 q false hq,dflt lp q false true (by omega),hqf] at this
    cases this
   have ho1:l1[i]?=some o:=by rw[← h1 i hik];exact ho
   have hrd:i ∈ Region.ready .any l1.toArray lp:=sk_.2 ⟨o,ho1,by rw[← s2 i true hik];exact hun,λp hp=>by
    have:=sn_ hpre ho p hp
    rw[← s2 p false (by omega)]
    exact hpr p hp⟩
   have h3:=i1 lp a w i s1 hI hrd
   have h4:wpOpIn (FW ro) 0 P ops.toArray (Pad.Ends n N R X) i (I (lp.setIfInBounds i true)) a w:=by
    unfold wpOpIn at h3 ⊢
    simp only[e0_,ho1] at h3
    simp only[e0_,ho]
    have:=bh8 (l1:=l1) (l2:=l2) rfl (by rw[hk];exact hg) ho1 a.tmps
    rw[hops] at this
    rw[this]
    exact h3
   refine wpOpIn_mono (λa' w' hI'=>⟨hcl',?_⟩) h4
   have s2':∀ j b,j<k→(listed.setIfInBounds i true).getD j b=(lp.setIfInBounds i true).getD j b:=λj b hj=>by
    rw[gset listed i j b (by omega),gset lp i j b (by omega),s2 j b hj]
   have s3':∀ j,k≤j→j<ops.length→(listed.setIfInBounds i true).getD j false=false:=λj hj hjl=>by
    rw[gset listed i j false (by omega),s3 j hj hjl]
    cases hb:Nat.beq j i with
    | false=>rfl
    | true=>have:=a3_ hb;omega
   by_cases hall:∀ j,j<k→(lp.setIfInBounds i true).getD j true=true
   ·exact .inr (whole _ _ a' w' (by simpa using s1) s2' s3' hall hI')
   ·refine .inl ⟨_,by simpa using s1,s2',s3',?_,hI'⟩
    refine k6_ λhn=>hall λj hj => ?_
    cases hb:(lp.setIfInBounds i true).getD j true with
    | true=>rfl
    | false=>exact absurd ⟨j,hj,hb⟩ hn
  ·have hit:i=t:=by
    have hit1:t≤i:=by
     refine k6_ λhn => ?_
     have:=t3 i hil
     rw[b9_ (by omega),dflt listed i false true (by omega),hun] at this
     cases this
    refine k6_ λhn => ?_
    obtain⟨an,e1,e2⟩:=at6 hsuf hil (by omega)
    have:=hst.1 an e1 t (e2 t (by omega))
    rw[t3 t (by omega),c2_ (by omega)] at this
    cases this
   subst hit
   have hd:ops.drop i=o::ops.drop (i+1):=by
    rw[i5_ hil]
    congr 1
    rw[a7_ hil] at ho
    exact a6_ ho
   rw[hd] at hW
   have h4:wpOpIn (FW ro) 0 P ops.toArray (Pad.Ends n N R X) i (wpListIn (FW ro) 0 P ops.toArray (Pad.Ends n N R X) (ops.drop (i+1))) a w:=by
    unfold wpOpIn
    simp only[e0_,ho]
    exact hW
   refine wpOpIn_mono (λa' w' hW'=>⟨hcl',.inr ⟨i+1,by omega,by omega,λj hj => ?_,hW'⟩⟩) h4
   rw[gset listed i j false (by omega),t3 j hj]
   cases hb:Nat.beq j i with
   | true =>
    have hji:=a3_ hb
    rw[Bool.true_or,b9_ (show j<i+1 by omega)]
   | false =>
    have hne:j≠i:=by rintro rfl;rw[g0_] at hb;cases hb
    by_cases hji:j<i
    ·rw[k3_,b9_ hji,b9_ (show j<i+1 by omega)]
    ·rw[k3_,c2_ hji,c2_ (show ¬ j<i+1 by omega)]
 ·rintro listed a w hs ⟨hcl,hJ⟩ hr
  rw[hsz] at hs
  have hall:∀ i,i<ops.length→listed.getD i false=true:=by
   intro i
   induction i using Nat.strongRecOn with
   | _ i ih =>
    intro hil
    cases hd:listed.getD i false with
    | true=>rfl
    | false =>
     exfalso
     have ho:ops[i]?=some (ops[i]'hil):=a7_ hil
     have:i ∈ Region.ready .any ops.toArray listed:=sk_.2 ⟨_,ho,by rw[dflt listed i true false (by omega)];exact hd,λp hp=>by
      have:=sn_ hpre ho p hp
      exact ih p (by omega) (by omega)⟩
     rw[hr] at this
     cases this
  rcases hJ with ⟨lp,s1,s2,s3,⟨q,hq,hqf⟩,hI⟩ | ⟨t,t1,t2,t3,hW⟩
  ·have:=hall q (by omega)
   rw[s2 q false hq,dflt lp q false true (by omega),hqf] at this
   cases this
  ·have ht:t=ops.length:=by
    refine k6_ λhn => ?_
    have:=hall t (by omega)
    rw[t3 t (by omega),c2_ (by omega)] at this
    cases this
   subst ht
   rw[o3_] at hW
   exact hW
 ·have hz:∀ m i b,i<m→(Array.replicate m false).getD i b=false:=λm i b hi=>by simp[a8_,hi]
  have e:(λi=>(Array.replicate ops.length false).getD i false)=λ_=>false:=funext λi=>by
   simp only[a8_,g7_]
   split<;>rfl
  refine⟨by rw[e];exact λi anc _ h=>(by cases h),?_⟩
  have s2:∀ i b,i<k→(Array.replicate ops.length false).getD i b=(Array.replicate k false).getD i b:=λi b hi=>by rw[hz _ i b (by omega),hz _ i b hi]
  by_cases h0:k=0
  ·exact .inr (whole _ (Array.replicate k false) _ _ (by simp) s2 (λi _ hi=>hz _ i false hi) (λi hi=>by omega) i0)
  ·exact .inl ⟨Array.replicate k false,by simp,s2,λi _ hi=>hz _ i false hi,⟨0,by omega,hz _ 0 true (by omega)⟩,i0⟩
end
end Go.Proofs.YtgeehfnbhbibeaaGreatDoor.Rex
