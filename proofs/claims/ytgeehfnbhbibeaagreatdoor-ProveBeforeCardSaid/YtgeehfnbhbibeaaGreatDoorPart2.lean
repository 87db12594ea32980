/- A part of the proof: what the functions of the program compute, shown over the model. -/
import Derived.Test.YtgeehfnbhbibeaaGreatDoorPart1
set_option linter.unusedSectionVars false
set_option linter.unusedVariables false
set_option linter.unusedSimpArgs false
namespace Go.Proofs.YtgeehfnbhbibeaaGreatDoor.Rex
open Go Pad
section
variable [Gb]
theorem oy_ (s:Str):(⟨s.toArray⟩:ByteArray).toList=s:=by rw[ByteArray.toList_eq]
theorem mk_ (s:Str):(⟨s.toArray⟩:ByteArray).size=s.length:=by simp[ByteArray.size]
def cat? (a b:Str):Option Str:=cond (Nat.ble (a.length+b.length) 2147483648) (some (a++b)) none
def sV (s:Str):AV:=.b (.one (.val .str s))
theorem bf0 {hv:Nat→Value} {S:PH} (s:Str):RA hv S (sV s) (.string ⟨s.toArray⟩):=⟨rfl,rfl,[.string ⟨s.toArray⟩],rfl,rfl⟩
def uV (n:Int):AV:=.b (.one (.val .u8 n))
theorem uV_ra {hv:Nat→Value} {S:PH} (n:Int):RA hv S (uV n) (.int .u8 n):=⟨rfl,rfl,[.int .u8 n],rfl,rfl⟩
section
variable {ρ:Type}
def binS (op:BinOp) (a b:Str) (k:AV→Option ρ):Option ρ:=match op with
  | .add=>(cat? a b).bind λc=>k (sV c)
  | .eql=>k (bV (a==b))
  | .neq=>k (bV (!(a==b)))
  | _=>none
def binB (op:BinOp) (a b:Bool) (k:AV→Option ρ):Option ρ:=match op with
  | .eql=>k (bV (a==b))
  | .neq=>k (bV (a != b))
  | _=>none
def binQ (op:BinOp) (c:Bool) (k:AV→Option ρ):Option ρ:=match op with
  | .eql=>k (bV c)
  | .neq=>k (bV (!c))
  | _=>none
def binN (op:BinOp) (a b:AV) (objs:List AO) (k:AV→Option ρ):Option ρ:=match op,b with
  | .eql,.b (.one .nilp)=>match a with
    | .b (.one .nilp)=>k (bV true)
    | .b (.one (.ptr _ _))=>k (bV false)
    | .b (.one (.val (.ref _) _))=>k (bV false)
    | _=>none
  | .neq,.b (.one .nilp)=>match a with
    | .b (.one .nilp)=>k (bV false)
    | .b (.one (.ptr _ _))=>k (bV true)
    | .b (.one (.val (.ref _) _))=>k (bV true)
    | _=>none
  | _,_=>none
def binA (P:Program) [Tb P] (op:BinOp) (T:TypeId) (a b:AV) (objs:List AO) (k:AV→Option ρ):Option ρ:=match und P T with
  | some (.int .i64)=>(asD .int a).bind λx=>(asD .int b).bind λy=>binI op x y k
  | some (.int .u8)=>(asD .u8 a).bind λx=>(asD .u8 b).bind λy=>(cmpA op x y).bind λc=>k (bV c)
  | some .bool=>(asD .bool a).bind λx=>(asD .bool b).bind λy=>binB op x y k
  | some .string=>(asD .str a).bind λx=>(asD .str b).bind λy=>binS op x y k
  | some (.pointer _)=>binN op a b objs k
  | some (.struct _)=>(be6 P 20 T).bind λt=>cond (eqB P t T&&Nat.ble (nr_ t) 10000) ((asD t a).bind λx=>(asD t b).bind λy=>binQ op (yc_ t x y) k) none
  | _=>none
end
section
variable {ρ:Type} {P:Program} [Tb P] {objs:List AO} {k:AV→Option ρ} {r:ρ} {T:TypeId} {op:BinOp}
theorem gc_ {w:World} {v u:Value} {X Y:Operand} (h:match v with | .agg _=>False | .nilIface=>False | _=>True):(eqGuard op T X Y v u).run P w = .ok () w:=by
  unfold eqGuard
  cases v<;>first | exact h.elim | (cases op<;>rfl)
theorem run_bq {w:World} {x y:Bool} (hT:P.underlying T=some .bool):(binOp .eql T (.bool x) (.bool y)).run P w = .ok (.bool (x==y)) w:=by
  show ((do pure (.bool (← Op.equal T (.bool x) (.bool y))):Sem Value)).run P w=_
  simp only[Sem.run_bind,bm8 hT,Result.andThen_ok,Sem.run_pure]
theorem run_bn {w:World} {x y:Bool} (hT:P.underlying T=some .bool):(binOp .neq T (.bool x) (.bool y)).run P w = .ok (.bool (x != y)) w:=by
  show ((do pure (.bool (!(← Op.equal T (.bool x) (.bool y)))):Sem Value)).run P w=_
  simp only[Sem.run_bind,bm8 hT,Result.andThen_ok,Sem.run_pure]
  rfl
theorem run_sq {w:World} {x y:Str}:(binOp .eql T (.string ⟨x.toArray⟩) (.string ⟨y.toArray⟩)).run P w = .ok (.bool (x==y)) w:=by
  simp[binOp,Op.stringOp,oy_]
theorem run_sn {w:World} {x y:Str}:(binOp .neq T (.string ⟨x.toArray⟩) (.string ⟨y.toArray⟩)).run P w = .ok (.bool (!(x==y))) w:=by
  simp[binOp,Op.stringOp,oy_]
theorem bm6 {w:World} {a b c:Str} (h:cat? a b=some c):(binOp .add T (.string ⟨a.toArray⟩) (.string ⟨b.toArray⟩)).run P w = .ok (.string ⟨c.toArray⟩) w:=by
  unfold cat? at h
  cases hc:Nat.ble (a.length+b.length) 2147483648 with
  | false=>rw[hc] at h;cases h
  | true =>
    rw[hc] at h
    cases h
    have hc:=b7_ hc
    have e:(⟨a.toArray⟩:ByteArray)++⟨b.toArray⟩=⟨(a++b).toArray⟩:=by
      apply ByteArray.ext
      rw[ByteArray.data_append]
      simp
    have hn:¬ ((((⟨a.toArray⟩:ByteArray).size+(⟨b.toArray⟩:ByteArray).size:Nat):Int) > IntKind.i64.max):=by
      rw[mk_,mk_]
      have:IntKind.i64.max=9223372036854775807:=by decide
      omega
    show (Op.stringOp .add _ _).run P w=_
    unfold Op.stringOp
    simp only[hn,i0_,e]
    rfl
theorem binA_ok {a b:AV} (h:binA P op T a b objs k=some r):∃ av,k av=some r∧(∀ n,av.lt n=true)∧∀ {S:PH} {hv:Nat→Value} {w:World} {v u:Value},
    RA hv S a v→RA hv S b u→∃ c,(∀ X Y,(eqGuard op T X Y v u).run P w = .ok () w)∧(binOp op T v u).run P w = .ok c w∧RA hv S av c:=by
  unfold binA at h
  split at h
  · obtain⟨x,hx,h⟩:=bnd h
    obtain⟨y,hy,h⟩:=bnd h
    unfold binI at h
    split at h
    · rename_i c hc
      refine⟨_,h,λ_=>rfl,λ{S hv w v u} ha hb=>⟨_,?_,?_,px_ c⟩⟩
      · rw[dp_ ha hx,dp_ hb hy];exact λ_ _=>gc_ trivial
      · rw[dp_ ha hx,dp_ hb hy];exact bm7 hc
    · obtain⟨c,hc,h⟩:=bnd h
      refine⟨_,h,λ_=>rfl,λ{S hv w v u} ha hb=>⟨_,?_,?_,ae1 c⟩⟩
      · rw[dp_ ha hx,dp_ hb hy];exact λ_ _=>gc_ trivial
      · rw[dp_ ha hx,dp_ hb hy];exact run_ar hc
  · obtain⟨x,hx,h⟩:=bnd h
    obtain⟨y,hy,h⟩:=bnd h
    obtain⟨c,hc,h⟩:=bnd h
    refine⟨_,h,λ_=>rfl,λ{S hv w v u} ha hb=>⟨_,?_,?_,px_ c⟩⟩
    · rw[ch1 ha hx,ch1 hb hy];exact λ_ _=>gc_ trivial
    · rw[ch1 ha hx,ch1 hb hy];exact bm7 hc
  · rename_i hT
    have hT:=cq_ hT
    obtain⟨x,hx,h⟩:=bnd h
    obtain⟨y,hy,h⟩:=bnd h
    unfold binB at h
    split at h
    · refine⟨_,h,λ_=>rfl,λ{S hv w v u} ha hb=>⟨_,?_,?_,px_ _⟩⟩
      · rw[eb_ ha hx,eb_ hb hy];exact λ_ _=>gc_ trivial
      · rw[eb_ ha hx,eb_ hb hy];exact run_bq hT
    · refine⟨_,h,λ_=>rfl,λ{S hv w v u} ha hb=>⟨_,?_,?_,px_ _⟩⟩
      · rw[eb_ ha hx,eb_ hb hy];exact λ_ _=>gc_ trivial
      · rw[eb_ ha hx,eb_ hb hy];exact run_bn hT
    · cases h
  · obtain⟨x,hx,h⟩:=bnd h
    obtain⟨y,hy,h⟩:=bnd h
    unfold binS at h
    split at h
    · obtain⟨c,hc,h⟩:=bnd h
      refine⟨_,h,λ_=>rfl,λ{S hv w v u} ha hb=>⟨_,?_,?_,bf0 c⟩⟩
      · rw[ig_ ha hx,ig_ hb hy];exact λ_ _=>gc_ trivial
      · rw[ig_ ha hx,ig_ hb hy];exact bm6 hc
    · refine⟨_,h,λ_=>rfl,λ{S hv w v u} ha hb=>⟨_,?_,?_,px_ _⟩⟩
      · rw[ig_ ha hx,ig_ hb hy];exact λ_ _=>gc_ trivial
      · rw[ig_ ha hx,ig_ hb hy];exact run_sq
    · refine⟨_,h,λ_=>rfl,λ{S hv w v u} ha hb=>⟨_,?_,?_,px_ _⟩⟩
      · rw[ig_ ha hx,ig_ hb hy];exact λ_ _=>gc_ trivial
      · rw[ig_ ha hx,ig_ hb hy];exact run_sn
    · cases h
  · rename_i el hT
    have hT:=cq_ hT
    have hptr:∀ {a:AV} {S:PH} {hv:Nat→Value} {v:Value},RA hv S a v→((∃ o i,a = .b (.one (.ptr o i)))∨∃ t x,a = .b (.one (.val (.ref t) x)))→∃ q,v = .pointer (some q):=by
      rintro a S hv v ha (⟨o,i,rfl⟩ | ⟨t,x,rfl⟩)
      · exact ha.2.1
      · exact PtS.ptr (pa_ ha.2.2)
    have eqn:∀ {w:World} {v:Value} {c:Bool},((v = .pointer none∧c=true)∨((∃ q,v = .pointer (some q))∧c=false))→(Op.equal T v (.pointer none)).run P w = .ok c w:=by
      rintro w v c (⟨rfl,rfl⟩ | ⟨⟨q,rfl⟩,rfl⟩) <;>
      · show (Op.equalIn (9999+1) T _ _).run P w=_
        unfold Op.equalIn
        rw[Sem.run_bind,run_underlying hT]
        rfl
    have fin:∀ {av:AV} {c:Bool},av=bV c→(op = .eql∨op = .neq)→(∀ {S:PH} {hv:Nat→Value} {v:Value},RA hv S a v→(v = .pointer none∧(c==(op==.eql))=true)∨((∃ q,v = .pointer (some q))∧(c==(op==.eql))=false)) →
        b = .b (.one .nilp)→∀ {S:PH} {hv:Nat→Value} {w:World} {v u:Value},RA hv S a v→RA hv S b u→∃ c,(∀ X Y,(eqGuard op T X Y v u).run P w = .ok () w)∧(binOp op T v u).run P w = .ok c w∧RA hv S av c:=by
      rintro av c rfl ho hc rfl S hv w v u ha hb
      have hu:u = .pointer none:=hb.2
      subst hu
      refine⟨.bool c,?_,?_,px_ c⟩
      · rcases hc ha with ⟨rfl,_⟩ | ⟨⟨q,rfl⟩,_⟩<;>exact λ_ _=>gc_ trivial
      · rcases ho with rfl | rfl
        · have e:=eqn (w:=w) (v:=v) (c:=c) (by
            rcases hc ha with ⟨h1,h2⟩ | ⟨h1,h2⟩
            · exact .inl ⟨h1,by simpa using h2⟩
            · exact .inr ⟨h1,by simpa using h2⟩)
          have:binOp .eql T v (.pointer none)=(do pure (.bool (← Op.equal T v (.pointer none))):Sem Value):=by
            rcases hc ha with ⟨rfl,_⟩ | ⟨⟨q,rfl⟩,_⟩<;>rfl
          rw[this]
          simp only[Sem.run_bind,e,Result.andThen_ok,Sem.run_pure]
        · have e:=eqn (w:=w) (v:=v) (c:=!c) (by
            rcases hc ha with ⟨h1,h2⟩ | ⟨h1,h2⟩
            · exact .inl ⟨h1,by revert h2;cases c<;>decide⟩
            · exact .inr ⟨h1,by revert h2;cases c<;>decide⟩)
          have:binOp .neq T v (.pointer none)=(do pure (.bool (!(← Op.equal T v (.pointer none)))):Sem Value):=by
            rcases hc ha with ⟨rfl,_⟩ | ⟨⟨q,rfl⟩,_⟩<;>rfl
          rw[this]
          simp only[Sem.run_bind,e,Result.andThen_ok,Sem.run_pure,Bool.not_not]
    unfold binN at h
    split at h
    · split at h
      · exact⟨_,h,λ_=>rfl,fin rfl (.inl rfl) (λha=>.inl ⟨ha.2,rfl⟩) rfl⟩
      · exact⟨_,h,λ_=>rfl,fin rfl (.inl rfl) (λha=>.inr ⟨hptr ha (.inl ⟨_,_,rfl⟩),rfl⟩) rfl⟩
      · exact⟨_,h,λ_=>rfl,fin rfl (.inl rfl) (λha=>.inr ⟨hptr ha (.inr ⟨_,_,rfl⟩),rfl⟩) rfl⟩
      · cases h
    · split at h
      · exact⟨_,h,λ_=>rfl,fin rfl (.inr rfl) (λha=>.inl ⟨ha.2,rfl⟩) rfl⟩
      · exact⟨_,h,λ_=>rfl,fin rfl (.inr rfl) (λha=>.inr ⟨hptr ha (.inl ⟨_,_,rfl⟩),rfl⟩) rfl⟩
      · exact⟨_,h,λ_=>rfl,fin rfl (.inr rfl) (λha=>.inr ⟨hptr ha (.inr ⟨_,_,rfl⟩),rfl⟩) rfl⟩
      · cases h
    · cases h
  · rename_i fs hT
    obtain⟨t,_,h⟩:=bnd h
    obtain⟨hc,h⟩:=bm_ h
    simp only[a1_] at hc
    obtain⟨x,hx,h⟩:=bnd h
    obtain⟨y,hy,h⟩:=bnd h
    obtain⟨hH,hag⟩:=eqB_h hT hc.1
    have key:∀ {S:PH} {hv:Nat→Value} {w:World} {v u:Value},RA hv S a v→RA hv S b u→∃ c1 c2:Array Value,v = .agg c1∧u = .agg c2∧(∀ op X Y,(eqGuard op T X Y (.agg c1) (.agg c2)).run P w = .ok () w)∧(Op.equal T (.agg c1) (.agg c2)).run P w = .ok (yc_ t x y) w:=by
      intro S hv w v u ha hb
      have h1:=fx_ ha hx
      have h2:=fx_ hb hy
      have h3:=an0 (w:=w) t T hc.1 10000 (b7_ hc.2) h1 h2
      obtain⟨c1,rfl,_⟩:=pg_ (cs:=[]) hag h1
      obtain⟨c2,rfl,_⟩:=pg_ (cs:=[]) hag h2
      refine⟨_,_,rfl,rfl,λop X Y => ?_,h3⟩
      have hg:=(bx6 hH).2
      cases op<;>simp[eqGuard,hg]
    unfold binQ at h
    split at h
    · refine⟨_,h,λ_=>rfl,λ{S hv w v u} ha hb => ?_⟩
      obtain⟨c1,c2,rfl,rfl,g1,g2⟩:=key (w:=w) ha hb
      refine⟨.bool (yc_ t x y),g1 _,?_,px_ _⟩
      show (do pure (.bool (← Op.equal T (.agg c1) (.agg c2))):Sem Value).run P w=_
      simp only[Sem.run_bind,g2,Result.andThen_ok,Sem.run_pure]
    · refine⟨_,h,λ_=>rfl,λ{S hv w v u} ha hb => ?_⟩
      obtain⟨c1,c2,rfl,rfl,g1,g2⟩:=key (w:=w) ha hb
      refine⟨.bool (!(yc_ t x y)),g1 _,?_,px_ _⟩
      show (do pure (.bool (!(← Op.equal T (.agg c1) (.agg c2)))):Sem Value).run P w=_
      simp only[Sem.run_bind,g2,Result.andThen_ok,Sem.run_pure]
    · cases h
  · cases h
end
end
section
variable [Gb]
def bu2 (P:Program) [Tb P] (T:TypeId):Ty→Bool
  | .int=>match und P T with
    | some (.int .i64)=>true
    | _=>false
  | .str=>match und P T with
    | some .string=>true
    | _=>false
  | _=>false
theorem vr_ {S:PH} {v:Value} {s:Str} (h:RVt .str S v s):v = .string ⟨s.toArray⟩:=by
  obtain⟨cs,hr,rfl⟩:=h
  have hr:cs=[.string ⟨s.toArray⟩]:=hr
  subst hr
  rfl
theorem ca6 (x y:Str):(x==y)=@decide (x=y) (Ty.deq .str x y):=by
  rw[k3_]
  exact beq_iff_eq.trans (@decide_eq_true_iff _ (Ty.deq .str x y)).symm
theorem cu1 (a b:ByteArray):(a==b)=(a.toList==b.toList):=by
  rw[ByteArray.toList_eq,ByteArray.toList_eq]
  obtain⟨⟨x⟩⟩:=a
  obtain⟨⟨y⟩⟩:=b
  show ((⟨x⟩:Array UInt8)==⟨y⟩)=(x==y)
  simp
theorem keyStr {P:Program} [Tb P] {T:TypeId} (hT:P.underlying T=some .string):@KeyT P (Ty.den .str) (Ty.enc .str) (Ty.deq .str) T where
  eq w S v u a b hv hu:=by
    rw[vr_ hv,vr_ hu]
    show (Op.equalIn (9999+1) T _ _).run P w=_
    rw[run_equalIn_string w 9999 T _ _ hT]
    have e1:=oy_ a
    have e2:=oy_ b
    exact congrArg (λz=>Result.ok z w) (((congrArg (λz=>z==_) e1).trans (congrArg (λz=>_==z) e2)).trans (ca6 a b))
  now:=⟨_,hT,.inr λS v u a b hv hu=>by
    rw[vr_ hv,vr_ hu]
    show some (_==_)=_
    rw[cu1]
    have e1:=oy_ a
    have e2:=oy_ b
    exact congrArg some (((congrArg (λz=>z==_) e1).trans (congrArg (λz=>_==z) e2)).trans (ca6 a b))⟩
  check w e S v a hv:=by
    rw[vr_ hv]
    show (Instr.checkKey e (9999+1) T _).run P w=_
    unfold Instr.checkKey
    rw[Sem.run_bind,run_underlying hT]
    rfl
  bits S v u a hv hu:=by
    rw[vr_ hv,vr_ hu]
    show Instr.sameBits (9999+1) _ _=true
    have:∀ b:ByteArray,(b==b)=true:=λb=>by rw[cu1];exact e0_ _
    simp[Instr.sameBits,this]
theorem ad4 {P:Program} [Tb P] {T:TypeId} {t:Ty} (h:bu2 P T t=true):@KeyT P t.den t.enc t.deq T:=by
  unfold bu2 at h
  split at h
  · split at h
    · rename_i e;exact keyInt (cq_ e)
    · cases h
  · split at h
    · rename_i e;exact keyStr (cq_ e)
    · cases h
  · cases h
def bh0 (P:Program) [Tb P] (T:TypeId):Option (TypeId×TypeId):=match und P T with
  | some (.map k v)=>some (k,v)
  | _=>none
theorem ac9 {P:Program} [Tb P] {T k v:TypeId} (h:bh0 P T=some (k,v)):P.underlying T=some (.map k v):=by
  unfold bh0 at h
  split at h
  · rename_i e;cases h;exact cq_ e
  · cases h
abbrev ck3 {k v:Ty} (z:v.den) (m:List (k.den×v.den)) (x:k.den):v.den:=@eh_ k.den v.den k.deq z m x
abbrev hasD {k v:Ty} (m:List (k.den×v.den)) (x:k.den):Bool:=@bg9 k.den v.den k.deq m x
abbrev setD {k v:Ty} (m:List (k.den×v.den)) (x:k.den) (y:v.den):List (k.den×v.den):=@fj_ k.den v.den k.deq m x y
abbrev delD {k v:Ty} (m:List (k.den×v.den)) (x:k.den):List (k.den×v.den):=@zc_ k.den v.den k.deq m x
def ofB (t:Ty) (x:t.den):BV:=cond t.agg (.val t x) (.one (.val t x))
theorem ofB_eq {t:Ty} {x:t.den}:ofD t x = .b (ofB t x):=by unfold ofD ofB;cases t.agg<;>rfl
theorem ak6 {hv:Nat→Value} {S:PH} {t:Ty} {x:t.den} {v:Value} (h:RVt t S v x):RB hv S (ofB t x) v:=by
  have:=rr_ (hv:=hv) h
  rw[ofB_eq] at this
  exact this
theorem ak7 {n:List AO} {t:Ty} {x:t.den}:(ofB t x).lt n=true:=by unfold ofB;cases t.agg<;>rfl
section
variable {P:Program} [Tb P] {w:World} {T E:TypeId} {a:Option Addr} {len cap:Nat} {lo hi:Int} {ag:Bool} {sz:Nat}
theorem cq4 (hT:P.underlying T=some (.slice E)) (hE:Shape P E ag sz) (h0:0≤lo) (h1:lo≤len) :
    (Instr.sliceAt T (.slice a len cap) (some (.int .i64 lo)) none none).run P w = .ok (sliced a lo.toNat len cap sz) w:=by
  have hel:P.elem T=E:=by simp[Program.elem,hT]
  have hT':P.underlying T=some (.slice (P.elem T)):=by rw[hel];exact hT
  have:=run_slice_l (P:=P) w T a len cap hT' .i64 lo h0 h1
  rw[hel] at this
  simp[run_sliceAt_slice w T _ _ _ _ hT',this,hE.size w,Result.andThen]
theorem cq5 (hT:P.underlying T=some (.slice E)) (hE:Shape P E ag sz) (h0:0≤hi) (h1:hi≤cap) :
    (Instr.sliceAt T (.slice a len cap) none (some (.int .i64 hi)) none).run P w = .ok (sliced a 0 hi.toNat cap sz) w:=by
  have hel:P.elem T=E:=by simp[Program.elem,hT]
  have hT':P.underlying T=some (.slice (P.elem T)):=by rw[hel];exact hT
  have:=run_slice_h (P:=P) w T a len cap hT' .i64 hi h0 h1
  rw[hel] at this
  simp[run_sliceAt_slice w T _ _ _ _ hT',this,hE.size w,Result.andThen]
theorem part_lh (hT:P.underlying T=some (.slice E)) (hE:Shape P E ag sz) (h0:0≤lo) (h1:lo≤hi) (h2:hi≤cap) :
    (Instr.sliceAt T (.slice a len cap) (some (.int .i64 lo)) (some (.int .i64 hi)) none).run P w = .ok (sliced a lo.toNat hi.toNat cap sz) w:=by
  have hel:P.elem T=E:=by simp[Program.elem,hT]
  have hT':P.underlying T=some (.slice (P.elem T)):=by rw[hel];exact hT
  have:=run_slice_lh (P:=P) w T a len cap hT' .i64 .i64 lo hi h0 h1 h2
  rw[hel] at this
  simp[run_sliceAt_slice w T _ _ _ _ hT',this,hE.size w,Result.andThen]
end
end
section
variable [Gb]
def zq_:AV→Option (List SV)
  | .b (.one s)=>some [s]
  | .b (.val t x)=>some (exp t x)
  | .b (.agg l)=>some l
  | _=>none
def bp0:AV→Option (List SV)
  | .b (.val t x)=>some (exp t x)
  | .b (.agg l)=>some l
  | _=>none
theorem ch9 {hv:Nat→Value} {S:PH} {a:AV} {v:Value} {l:List SV} (h:RA hv S a v) (hl:bp0 a=some l):∃ cs:List Value,v = .agg cs.toArray∧Fa (RS hv S) l cs:=by
  unfold bp0 at hl
  split at hl
  · rename_i t x
    cases hl
    obtain⟨h1,cs,h2,h3⟩:=h
    refine⟨cs,?_,xi_ h2⟩
    rw[h3]
    have:Enc.agg t.den=true:=by rw[iv_];exact h1
    rw[this]
    rfl
  · cases hl
    exact h
  · cases hl
theorem ci0 {n:List AO} {a:AV} {l:List SV} (h:a.lt n=true) (hl:bp0 a=some l):em_ (SV.lt n) l=true:=by
  unfold bp0 at hl
  split at hl
  · cases hl;exact am9
  · cases hl;exact h
  · cases hl
def capD:List AV→Option DV
  | []=>some ⟨.unit,()⟩
  | .b (.one (.val t x))::l=>(capD l).bind λd=>some ⟨.pair t d.t,(x,d.x)⟩
  | _=>none
def ci1 {α ρ:Type} (sl:Nat→AV) (lo hi:Option Operand) (l:List α) (k:List α→Option ρ):Option ρ:=match lo,hi with
  | some y,none=>(asD .int (evA sl y)).bind λ(a:Int)=>(sub? l a (l.length:Nat)).bind k
  | none,some z=>(asD .int (evA sl z)).bind λ(b:Int)=>(sub? l 0 b).bind k
  | some y,some z=>(asD .int (evA sl y)).bind λ(a:Int)=>(asD .int (evA sl z)).bind λ(b:Int)=>(sub? l a b).bind k
  | none,none=>none
def idxS {ρ:Type} (s:Str) (i:Int) (k:AV→Option ρ):Option ρ:=(at? s i).bind λc=>k (uV (c.toNat:Int))
def stepP {ρ:Type} (P:Program) [Tb P] (o:Oper) (sl:Nat→AV) (objs:List AO) (k:AV→Option ρ):Option ρ:=match o.op with
  | .move x=>k (evA sl x)
  | .assign x=>k (evA sl x)
  | .pick c a b=>(asD .bool (evA sl c)).bind λq=>cond q (k (evA sl a)) (k (evA sl b))
  | .binOp op T x y _=>binA P op T (evA sl x) (evA sl y) objs k
  | .unOp .not _ x=>(asD .bool (evA sl x)).bind λb=>k (bV (!b))
  | .unOp .neg _ x=>(asD .int (evA sl x)).bind λ(b:Int)=>k (iV (w64 (0 - b)))
  | .extract x i=>match evA sl x with
    | .tup l=>(l[i]?).bind λb=>k (.b b)
    | _=>none
  | .nilCheck x=>match evA sl x with
    | .b (.one (.ptr p i))=>k (.b (.one (.ptr p i)))
    | .b (.one (.val (.ref t) y))=>k (.b (.one (.val (.ref t) y)))
    | .b (.one (.ptrE p i n z q))=>k (.b (.one (.ptrE p i n z q)))
    | _=>none
  | .fieldAddr T x i=>(offOf P T i).bind λoff=>fldA off i (evA sl x) k
  | .field T x i=>(bw6 P T i).bind λoff=>(bp0 (evA sl x)).bind λl=>(l[off]?).bind λs=>k (.b (.one s))
  | .indexAddr T x y=>match und P T with
    | some (.array n E)=>(asD .int (evA sl y)).bind λi=>arrX P E n i (evA sl x) objs k
    | _=>(elemOf P T).bind λE=>(asD .int (evA sl y)).bind λi=>idxA P E i (evA sl x) objs k
  | .load T x=>bt0 P T (evA sl x) objs k
  | .index T x y=>match und P T with
    | some .string=>(asD .str (evA sl x)).bind λs=>(asD .int (evA sl y)).bind λi=>idxS s i k
    | _=>none
  | .makeFunc (.func f) ⟨[]⟩ ⟨ca⟩=>(capD (ca.map (evA sl))).bind λd=>k (.b (.one (.val (.clo f d.t) d.x)))
  | .call ⟨.builtin .len,⟨[x]⟩,⟨[T]⟩⟩=>match und P T with
    | some .string=>(asD .str (evA sl x)).bind λs=>k (iV (s.length:Nat))
    | some (.slice _)=>lenA (evA sl x) objs k
    | _=>none
  | .call ⟨.builtin .max,⟨[x,y]⟩,_⟩=>(asD .int (evA sl x)).bind λa=>(asD .int (evA sl y)).bind λb=>k (iV (maxI a b))
  | .call ⟨.builtin .min,⟨[x,y]⟩,_⟩=>(asD .int (evA sl x)).bind λa=>(asD .int (evA sl y)).bind λb=>k (iV (minI a b))
  | .lookup T x y ok=>(bh0 P T).bind λq=>match evA sl x with
    | .b (.one (.map o))=>match objs[o]? with
      | some (.map kt vt m _)=>cond (bu2 P q.1 kt) ((qy_ P q.2 vt).bind λz=>(asD kt (evA sl y)).bind λkey=>cond ok (k (.tup [ofB vt (ck3 z m key),.one (.val .bool (hasD m key))])) (k (ofD vt (ck3 z m key)))) none
      | _=>none
    | _=>none
  | .slice T x lo hi none=>match und P T with
    | some .string=>(asD .str (evA sl x)).bind λs=>ci1 sl lo hi (show List UInt8 from s) λm=>k (sV m)
    | _=>(elemOf P T).bind λE=>match evA sl x with
    | .b (.one (.val (.list t) l))=>cond (au3 P E t) (ci1 sl lo hi l λm=>k (.b (.one (.val (.list t) m)))) none
    | _=>none
  | _=>none
section
variable {ρ:Type} {P:Program} [Tb P] {objs:List AO} {k:AV→Option ρ} {r:ρ} {sl:Nat→AV}
theorem ag6 {hv:Nat→Value} {S:PH}:∀ {l:List AV} {vs:List Value} {d:DV},capD l=some d→Fa (RA hv S) l vs→d.t.enc.rep S vs d.x
  | [],[],d,h,_=>by cases h;rfl
  | a::l,v::vs,d,h,hf=>by
    unfold capD at h
    split at h
    · rename_i e;cases e
    · rename_i t x l' e
      cases e
      obtain⟨d',h1,h⟩:=bnd h
      cases h
      have hv1:=hf.1
      exact⟨[v],vs,rfl,ni_ hv1.2.1 hv1.2.2,ag6 h1 hf.2⟩
    · cases h
theorem ae8 {hv:Nat→Value} {S:PH} {Fm:List HP} {f:Fr} {w:World} (hs:Sit S hv Fm sl objs f w):∀ (ca:List Operand),Fa (RA hv S) (ca.map (evA sl)) (ca.map (ev f))
  | []=>trivial
  | x::ca=>⟨hs.ev x,ae8 hs ca⟩
theorem str_ext (s:Str) (a b:Int) (h0:0≤a) (h1:a≤b) (h2:b≤(s.length:Nat)):((⟨s.toArray⟩:ByteArray).extract a.toNat b.toNat)=⟨((s.take b.toNat).drop a.toNat).toArray⟩:=by
  apply ByteArray.ext
  rw[ByteArray.data_extract]
  simp
  show (s.drop a.toNat).take (b.toNat - a.toNat)=_
  rw[List.drop_take]
theorem zy_ {o:Oper} (h:stepP P o sl objs k=some r):∃ av,k av=some r∧OpOk P o sl objs av objs:=by
  obtain⟨dd,op,ty,pos,af,gd⟩:=o
  unfold stepP at h
  simp only at h
  split at h
  · rename_i x
    exact⟨_,h,.pure (λhs _=>hj_ hs x) λhs=>⟨_,by simp[execOp],hs.ev x⟩⟩
  · rename_i x
    exact⟨_,h,.pure (λhs _=>hj_ hs x) λhs=>⟨_,by simp[execOp],hs.ev x⟩⟩
  · rename_i c a b
    obtain⟨q,hq,h⟩:=bnd h
    cases q with
    | true=>exact⟨_,h,.pure (λhs _=>hj_ hs a) λ{S hv Fm f w} hs=>⟨_,by simp[execOp,eb_ (hs.ev c) hq,asBool],hs.ev a⟩⟩
    | false=>exact⟨_,h,.pure (λhs _=>hj_ hs b) λ{S hv Fm f w} hs=>⟨_,by simp[execOp,eb_ (hs.ev c) hq,asBool],hs.ev b⟩⟩
  · rename_i op T x y T2
    obtain⟨av,h1,h2,h3⟩:=binA_ok h
    refine⟨_,h1,.pure (λ_ _=>h2 _) λ{S hv Fm f w} hs => ?_⟩
    obtain⟨c,g1,g2,g3⟩:=h3 (w:=w) (hs.ev x) (hs.ev y)
    exact⟨c,by simp[execOp,Sem.run_bind,g1,g2,Result.andThen],g3⟩
  · rename_i T x
    obtain⟨b,hb,h⟩:=bnd h
    exact⟨_,h,.pure (λ_ _=>rfl) λ{S hv Fm f w} hs=>⟨_,by simp[execOp,eb_ (hs.ev x) hb,Op.unary],px_ _⟩⟩
  · rename_i T x
    obtain⟨b,hb,h⟩:=bnd h
    exact⟨_,h,.pure (λ_ _=>rfl) λ{S hv Fm f w} hs=>⟨_,by simp[execOp,dp_ (hs.ev x) hb,Op.unary,Op.intArith];rfl,ae1 _⟩⟩
  · rename_i x i
    split at h
    · rename_i l hl
      obtain⟨b,hb,h⟩:=bnd h
      refine⟨_,h,.pure (λhs _ => ?_) λ{S hv Fm f w} hs => ?_⟩
      · have:=hj_ hs x
        rw[hl] at this
        exact bg_ this b (b2_ hb)
      · have:=hs.ev x
        rw[hl] at this
        obtain⟨vs,e,hf⟩:=this
        obtain⟨v,h1,h2⟩:=hf.get hb
        exact⟨v,by simp[execOp,e,Instr.extract,h1],h2⟩
    · cases h
  · rename_i x
    have key:∀ {av:AV},evA sl x=av→(∀ {hv:Nat→Value} {S:PH} {v:Value},RA hv S av v→∃ a,v = .pointer (some a))→OpOk P ⟨dd,.nilCheck x,ty,pos,af,gd⟩ sl objs av objs:=λ{av} e hp=>by
      refine .pure (λhs _=>by rw[← e];exact hj_ hs x) λ{S hv Fm f w} hs => ?_
      have:=hs.ev x
      rw[e] at this
      obtain⟨a,ha⟩:=hp this
      exact⟨ev f x,by simp[execOp,ha],this⟩
    split at h
    · rename_i p i e
      exact⟨_,h,key e λhr=>hr.2.1⟩
    · rename_i t y e
      exact⟨_,h,key e λhr=>PtS.ptr (pa_ hr.2.2)⟩
    · rename_i p i n z q e
      exact⟨_,h,key e λhr=>hr.2.1⟩
    · cases h
  · rename_i T x i
    obtain⟨off,hoff,h⟩:=bnd h
    obtain⟨av,h1,h2,h3⟩:=fldA_ok (objs:=objs) (cj0 hoff) h
    refine⟨_,h1,.pure (λhs _=>h2 (hj_ hs x)) λ{S hv Fm f w} hs => ?_⟩
    obtain⟨u,g1,g2⟩:=h3 (w:=w) (hs.ev x)
    exact⟨u,by simp[execOp,g1],g2⟩
  · rename_i T x i
    obtain⟨off,hoff,h⟩:=bnd h
    obtain⟨l,hl,h⟩:=bnd h
    obtain⟨s,hs1,h⟩:=bnd h
    refine⟨_,h,.pure (λhs _=>bg_ (ci0 (hj_ hs x) hl) s (b2_ hs1)) λ{S hv Fm f w} hs => ?_⟩
    obtain⟨cs,e,hf⟩:=ch9 (hs.ev x) hl
    obtain⟨v,h1,h2⟩:=hf.get hs1
    exact⟨v,by simp[execOp,e,bw5 hoff h1],h2⟩
  · rename_i T x y
    split at h
    · rename_i n E hT
      obtain⟨i,hi,h⟩:=bnd h
      obtain⟨av,h1,h2,h3⟩:=arrX_ok (cq_ hT) h
      refine⟨_,h1,.pure (λhs _=>h2 (hj_ hs x)) λ{S hv Fm f w} hs => ?_⟩
      obtain⟨u,g1,g2⟩:=h3 hs (hs.ev x)
      exact⟨u,by simp[execOp,dp_ (hs.ev y) hi,g1],g2⟩
    · obtain⟨E,hE,h⟩:=bnd h
      obtain⟨i,hi,h⟩:=bnd h
      obtain⟨av,h1,h2,h3⟩:=idxA_ok (fh_ hE) h
      refine⟨_,h1,.pure (λhs _=>h2 (hj_ hs x)) λ{S hv Fm f w} hs => ?_⟩
      obtain⟨u,g1,g2⟩:=h3 hs (hs.ev x)
      exact⟨u,by simp[execOp,dp_ (hs.ev y) hi,g1],g2⟩
  · rename_i T x
    obtain⟨av,h1,h2,h3⟩:=az4 h
    refine⟨_,h1,.pure (λ_ hw=>h2 hw) λ{S hv Fm f w} hs => ?_⟩
    obtain⟨u,g1,g2⟩:=h3 hs (hs.ev x)
    exact⟨u,by simp[execOp,g1],g2⟩
  · rename_i T x y
    split at h
    · rename_i hT
      have hT:=cq_ hT
      obtain⟨s,hs1,h⟩:=bnd h
      obtain⟨i,hi,h⟩:=bnd h
      obtain⟨c,hc,h⟩:=bnd h
      refine⟨_,h,.pure (λ_ _=>rfl) λ{S hv Fm f w} hs=>⟨_,?_,uV_ra _⟩⟩
      obtain⟨h0,hlt,hc⟩:=da_ hc
      have e:(⟨(show Str from s).toArray⟩:ByteArray)[(show Int from i).toNat]?=some c:=by
        have hlt2:(show Int from i).toNat<(⟨(show Str from s).toArray⟩:ByteArray).size:=by rw[mk_];exact hlt
        have h1:=getElem?_pos (⟨(show Str from s).toArray⟩:ByteArray) (show Int from i).toNat hlt2
        rw[h1]
        rw[a7_ hlt] at hc
        exact hc
      have h0':(0:Int)≤i:=h0
      simp[execOp,ig_ (hs.ev x) hs1,dp_ (hs.ev y) hi,Instr.index,asIntOf,run_underlying hT,h0',e]
    · cases h
  · rename_i f0 ca
    obtain⟨d,hd,h⟩:=bnd h
    refine⟨_,h,.pure (λ_ _=>rfl) λ{S hv Fm f w} hs=>⟨.func (.func f0) #[] (ca.map (ev f)).toArray,by simp[execOp,Instr.makeFunc],rfl,rfl,[.func (.func f0) #[] (ca.map (ev f)).toArray],⟨_,rfl,ag6 hd (ae8 hs ca)⟩,rfl⟩⟩
  · rename_i x T
    split at h
    · rename_i hT
      have hT:=cq_ hT
      obtain⟨s,hs1,h⟩:=bnd h
      refine⟨_,h,.pure (λ_ _=>rfl) λ{S hv Fm f w} hs=>⟨_,?_,ae1 _⟩⟩
      have e:=ig_ (hs.ev x) hs1
      have e2:=mk_ s
      simp[execOp,e,resolve,invoke,builtin,Builtin.len_,run_underlying hT,goInt]
      exact congrArg (λn:Nat=>(n:Int)) e2
    · rename_i E hT
      have hT:=cq_ hT
      obtain⟨av,h1,h2,h3⟩:=lenA_ok hT h
      refine⟨_,h1,.pure (λ_ _=>h2) λ{S hv Fm f w} hs => ?_⟩
      obtain⟨n,g1,a,c,e⟩:=h3 hs (hs.ev x)
      exact⟨_,by simp[execOp,e,resolve,invoke,builtin,Builtin.len_,run_underlying hT,goInt],g1⟩
    · cases h
  · rename_i x y ct
    obtain⟨a,ha,h⟩:=bnd h
    obtain⟨b,hb,h⟩:=bnd h
    refine⟨_,h,.pure (λ_ _=>rfl) λ{S hv Fm f w} hs=>⟨_,?_,ae1 _⟩⟩
    simp[execOp,dp_ (hs.ev x) ha,dp_ (hs.ev y) hb,resolve,invoke,builtin,Builtin.max_,Builtin.max2,maxI]
  · rename_i x y ct
    obtain⟨a,ha,h⟩:=bnd h
    obtain⟨b,hb,h⟩:=bnd h
    refine⟨_,h,.pure (λ_ _=>rfl) λ{S hv Fm f w} hs=>⟨_,?_,ae1 _⟩⟩
    simp[execOp,dp_ (hs.ev x) ha,dp_ (hs.ev y) hb,resolve,invoke,builtin,Builtin.min_,Builtin.min2,minI]
  · rename_i T x y ok
    obtain⟨⟨kT,vT⟩,hq,h⟩:=bnd h
    have hT:=ac9 hq
    split at h
    · rename_i o hx
      split at h
      · rename_i kt vt m ro ho
        obtain⟨hk,h⟩:=bm_ h
        obtain⟨z,hz,h⟩:=bnd h
        obtain⟨key,hkey,h⟩:=bnd h
        have hK:=ad4 hk
        obtain⟨bytes,zv,⟨ei,hE⟩,_,hzr⟩:=ks_ hz
        have main:∀ {S:PH} {hv:Nat→Value} {Fm:List HP} {f:Fr} {w:World},Sit S hv Fm sl objs f w→∃ q,RVt vt S q (ck3 z m key)∧(Instr.lookup T (ev f x) (ev f y) ok).run P w = .ok (if ok then .tuple #[q,.bool (hasD m key)] else q) w:=λ{S hv Fm f w} hs=>by
          obtain⟨L,hI,_⟩:=hs.at ho
          obtain⟨hh,⟨g,e1,e2⟩,hI2⟩:=hI.open_
          have hI3:Inv w S (MapB g m::(L++Fm)):=hI2.shut e2
          have hxv:=hs.ev x
          rw[hx] at hxv
          have e3:ev f x = .map (some g):=hxv.2.trans e1
          rw[e3]
          exact @bf2 P w _ T kT vT kt.den vt.den kt.enc vt.enc kt.deq S _ m g key zv z hT hK (λw=>by simp[zeroValue,typeInfo,hE.hi,hE.hz]) hzr hI3 (fx_ (hs.ev y) hkey) ok
        cases ok with
        | true =>
          refine⟨_,h,.pure (λ_ _ => ?_) λ{S hv Fm f w} hs => ?_⟩
          · show (BV.lt objs (ofB vt (ck3 z m key))&&(true&&true))=true
            rw[ak7]
            rfl
          · obtain⟨q,h1,h2⟩:=main hs
            exact⟨_,by simp[execOp,h2],[q,.bool (hasD m key)],rfl,ak6 h1,⟨rfl,rfl,aa8 _⟩,trivial⟩
        | false =>
          refine⟨_,h,.pure (λ_ _=>ay8) λ{S hv Fm f w} hs => ?_⟩
          obtain⟨q,h1,h2⟩:=main hs
          exact⟨q,by simp[execOp,h2],rr_ h1⟩
      · cases h
    · cases h
  · rename_i T x lo hi
    split at h
    case h_1 =>
      rename_i hT
      have hT:=cq_ hT
      obtain⟨s,hs1,h⟩:=bnd h
      unfold ci1 at h
      have ext:=λa b h0 h1 h2=>str_ext (show Str from s) a b h0 h1 h2
      split at h
      · rename_i y _
        obtain⟨a,ha,h⟩:=bnd h
        obtain⟨m,hm,h⟩:=bnd h
        refine⟨_,h,.pure (λ_ _=>rfl) λ{S hv Fm f w} hs => ?_⟩
        obtain⟨h0,h1,h2,rfl⟩:=jt_ hm
        refine⟨_,?_,bf0 _⟩
        have e:=ig_ (hs.ev x) hs1
        have e2:(⟨(show Str from s).toArray⟩:ByteArray).size=(show Str from s).length:=mk_ _
        have h1':(show Int from a)≤((show Str from s).length:Nat):=h1
        have h0':0≤(show Int from a):=h0
        simp[execOp,e,dp_ (hs.ev y) ha,Instr.sliceAt,Instr.slice,run_underlying hT,Instr.sliceBounds,Instr.sliceBound,asIntOf,e2,h0',h1']
        have:=ext a ((show Str from s).length:Nat) h0' h1' (m4_ _)
        simpa using this
      · rename_i y _
        obtain⟨b,hb,h⟩:=bnd h
        obtain⟨m,hm,h⟩:=bnd h
        refine⟨_,h,.pure (λ_ _=>rfl) λ{S hv Fm f w} hs => ?_⟩
        obtain⟨h0,h1,h2,rfl⟩:=jt_ hm
        refine⟨_,?_,bf0 _⟩
        have e:=ig_ (hs.ev x) hs1
        have e2:(⟨(show Str from s).toArray⟩:ByteArray).size=(show Str from s).length:=mk_ _
        have h1':0≤(show Int from b):=h1
        have h2':(show Int from b)≤((show Str from s).length:Nat):=h2
        simp[execOp,e,dp_ (hs.ev y) hb,Instr.sliceAt,Instr.slice,run_underlying hT,Instr.sliceBounds,Instr.sliceBound,asIntOf,e2,h1',h2']
        have:=ext 0 b (m4_ _) h1' h2'
        simpa using this
      · rename_i y z _
        obtain⟨a,ha,h⟩:=bnd h
        obtain⟨b,hb,h⟩:=bnd h
        obtain⟨m,hm,h⟩:=bnd h
        refine⟨_,h,.pure (λ_ _=>rfl) λ{S hv Fm f w} hs => ?_⟩
        obtain⟨h0,h1,h2,rfl⟩:=jt_ hm
        refine⟨_,?_,bf0 _⟩
        have e:=ig_ (hs.ev x) hs1
        have e2:(⟨(show Str from s).toArray⟩:ByteArray).size=(show Str from s).length:=mk_ _
        have h0':0≤(show Int from a):=h0
        have h1':(show Int from a)≤(show Int from b):=h1
        have h2':(show Int from b)≤((show Str from s).length:Nat):=h2
        have hb0:0≤(show Int from b):=Int.le_trans h0' h1'
        have hmx:(show Int from a)≤(((show Int from b).toNat:Nat):Int):=by omega
        simp[execOp,e,dp_ (hs.ev y) ha,dp_ (hs.ev z) hb,Instr.sliceAt,Instr.slice,run_underlying hT,Instr.sliceBounds,Instr.sliceBound,asIntOf,e2,h0',h1',h2',hb0,hmx]
        have:=ext a b h0' h1' h2'
        simpa using this
      · cases h
    obtain⟨E,hE,h⟩:=bnd h
    split at h
    · rename_i t l hx
      obtain⟨hf,h⟩:=bm_ h
      have hS:=hu_ hf
      have hlist:∀ {S:PH} {hv:Nat→Value} {Fm:List HP} {f:Fr} {w:World},Sit S hv Fm sl objs f w→RVt (.list t) S (ev f x) l:=λhs=>by
        have:=hs.ev x
        rw[hx] at this
        exact this.2.2
      unfold ci1 at h
      split at h
      · rename_i y _ _
        obtain⟨a,ha,h⟩:=bnd h
        obtain⟨m,hm,h⟩:=bnd h
        refine⟨_,h,.pure (λ_ _=>rfl) λ{S hv Fm f w} hs => ?_⟩
        obtain⟨h0,h1,h2,rfl⟩:=jt_ hm
        obtain⟨ad,cap,e,hc,hp⟩:=@RV.part t.den t.enc S _ l a.toNat l.length (hlist hs) (by omega) (c3_ _)
        refine⟨_,?_,rr_ (t:=.list t) (x:=(l.take ((l.length:Nat):Int).toNat).drop a.toNat) (v:=sliced ad a.toNat l.length cap (Enc.sz t.den)) ?_⟩
        · simp[execOp,e,dp_ (hs.ev y) ha,cq4 (fh_ hE) hS h0 h1]
        · exact hp
      · rename_i y _ _
        obtain⟨b,hb,h⟩:=bnd h
        obtain⟨m,hm,h⟩:=bnd h
        refine⟨_,h,.pure (λ_ _=>rfl) λ{S hv Fm f w} hs => ?_⟩
        obtain⟨h0,h1,h2,rfl⟩:=jt_ hm
        obtain⟨ad,cap,e,hc,hp⟩:=@RV.part t.den t.enc S _ l 0 b.toNat (hlist hs) (by omega) (by omega)
        refine⟨_,?_,rr_ (t:=.list t) (x:=(l.take b.toNat).drop (0:Int).toNat) (v:=sliced ad 0 b.toNat cap (Enc.sz t.den)) ?_⟩
        · have hc2:(show Int from b)≤(cap:Int):=Int.le_trans h2 (Int.ofNat_le.2 hc)
          simp[execOp,e,dp_ (hs.ev y) hb,cq5 (fh_ hE) hS h1 hc2]
        · exact hp
      · rename_i y z _ _
        obtain⟨a,ha,h⟩:=bnd h
        obtain⟨b,hb,h⟩:=bnd h
        obtain⟨m,hm,h⟩:=bnd h
        refine⟨_,h,.pure (λ_ _=>rfl) λ{S hv Fm f w} hs => ?_⟩
        obtain⟨h0,h1,h2,rfl⟩:=jt_ hm
        obtain⟨ad,cap,e,hc,hp⟩:=@RV.part t.den t.enc S _ l a.toNat b.toNat (hlist hs) (by omega) (by omega)
        refine⟨_,?_,rr_ (t:=.list t) (x:=(l.take b.toNat).drop a.toNat) (v:=sliced ad a.toNat b.toNat cap (Enc.sz t.den)) ?_⟩
        · have hc2:(show Int from b)≤(cap:Int):=Int.le_trans h2 (Int.ofNat_le.2 hc)
          simp[execOp,e,dp_ (hs.ev y) ha,dp_ (hs.ev z) hb,part_lh (fh_ hE) hS h0 h1 hc2]
        · exact hp
      · cases h
    · cases h
  · cases h
end
end
section
variable [Gb]
theorem ay_:∀ {l:List AO} {o:Nat},born l o=true↔∃ a,l[o]?=some a∧a≠.unborn
  | [],_=>by simp[born]
  | a::l,0=>by
    cases a<;>simp[born]
  | a::l,o+1=>by
    have:=ay_ (l:=l) (o:=o)
    cases a<;>simpa [born] using this
theorem bi_ {l:List AO} {i:Nat} {b:AO} (hb:b≠.unborn):BLe l (l.set i b):=by
  intro o ho
  obtain⟨a,h1,h2⟩:=ay_.1 ho
  refine ay_.2 ?_
  by_cases e:i=o
  · subst e
    have hl:=(a3_.1 h1).1
    exact⟨b,by simp[hl],hb⟩
  · exact⟨a,by rw[b6_ e];exact h1,h2⟩
theorem du_ {l:List AO} {i:Nat} {b:AO} (hb:b≠.unborn) (hw:WfO l) (hl:b.lt (l.set i b)=true):WfO (l.set i b):=by
  intro a ha
  rcases p1_ ha with h | rfl
  · exact AO.lt_mono (bi_ hb) (hw a h)
  · exact hl
def ins (hv:Nat→Value) (i:Nat) (v:Value):Nat→Value:=λj=>cond (Nat.beq j i) v (hv j)
theorem ci_ (hv:Nat→Value) (i:Nat) (v:Value):ins hv i v i=v:=by simp[ins]
theorem mz_ {hv:Nat→Value} {l:List AO} {i:Nat} {v:Value} (h:l[i]?=some .unborn):Ag l hv (ins hv i v):=by
  intro j hj
  obtain⟨a,h1,h2⟩:=ay_.1 hj
  have:j≠i:=by rintro rfl;rw[h] at h1;cases h1;exact h2 rfl
  have hb:Nat.beq j i=false:=by
    cases hb:Nat.beq j i with
    | false=>rfl
    | true=>exact absurd (a4_ hb) this
  simp[ins,hb]
theorem OHs.agS {hv hv':Nat→Value} {l:List AO} (ha:Ag l hv hv') (hw:WfO l):OHs hv 0 l=OHs hv' 0 l :=
  OHs.ag ha (λo ho=>by rw[b0_];exact ho) hw
theorem hn_ {S:PH} {hv:Nat→Value} {Fm:List HP} {objs:List AO} {w:World} {fr:Nat} {v:Value} {a:AO} (hw:WfO objs) (hu:objs[fr]?=some .unborn)
    (hI:Inv w S (OH (ins hv fr v) v a::(OHs hv 0 objs++Fm))):Inv w S (OHs (ins hv fr v) 0 (objs.set fr a)++Fm):=by
  rw[OHs.agS (mz_ hu) hw] at hI
  obtain⟨L,h1,h2⟩:=OHs.focus (hv:=ins hv fr v) (i:=0) hu
  rw[b0_,ci_] at h1 h2
  have h3:=hI.perm ((h1.append_right Fm).cons _)
  have h4:Inv w S (OH (ins hv fr v) v a::(L++Fm)):=(h3.swap).drop
  exact h4.perm ((h2 a).symm.append_right Fm)
theorem ab2 {S:PH} {hv:Nat→Value} {Fm:List HP} {objs:List AO} {w:World} {o:Nat} {L:List HP} {a:AO} (h2:∀ b,(OHs hv 0 (objs.set o b)).Perm (OH hv (hv o) b::L))
    (hI:Inv w S (OH hv (hv o) a::(L++Fm))):Inv w S (OHs hv 0 (objs.set o a)++Fm):=hI.perm ((h2 a).symm.append_right Fm)
section
variable {hv:Nat→Value} {S:PH}
theorem sg_ {a:AV} {v:Value} {l:List SV} (h:RA hv S a v) (hl:zq_ a=some l):Fa (RS hv S) l v.cells.toList:=by
  cases a with
  | tup l=>cases hl
  | b a =>
    cases a with
    | dead=>cases hl
    | one s =>
      cases hl
      have:v.cells = #[v]:=by
        have h1:=h.1
        cases v<;>first | rfl | (simp[Value.oneCell'] at h1)
      rw[this]
      exact⟨h,trivial⟩
    | val t x =>
      cases hl
      exact xi_ (RV.cells h.2)
    | agg l =>
      cases hl
      obtain⟨cs,rfl,hf⟩:=h
      exact hf
theorem sh_ {n:List AO} {a:AV} {l:List SV} (h:a.lt n=true) (hl:zq_ a=some l):em_ (SV.lt n) l=true:=by
  cases a with
  | tup l=>cases hl
  | b a =>
    cases a with
    | dead=>cases hl
    | one s=>cases hl;simp only[em_,i3_];exact h
    | val t x=>cases hl;exact am9
    | agg l=>cases hl;exact h
theorem fa_ag {n:List AO} {hv':Nat→Value} (ha:Ag n hv hv') {l:List SV} {cs:List Value} (hl:em_ (SV.lt n) l=true) (h:Fa (RS hv S) l cs):Fa (RS hv' S) l cs :=
  h.imp' λa hm _ k=>RS.ag ha (bg_ hl a hm) k
theorem fa_one {l:List SV} {cs:List Value} (h:Fa (RS hv S) l cs):∀ u ∈ cs,u.oneCell'=true:=by
  intro u hu
  obtain⟨i,hi⟩:=f8_ hu
  obtain⟨a,_,h2⟩:=h.get' hi
  exact h2.1
end
def putL {α:Type}:List α→Nat→List α→List α
  | l,_,[]=>l
  | [],_,_=>[]
  | a::l,0,b::m=>b::putL l 0 m
  | a::l,i+1,b::m=>a::putL l i (b::m)
theorem ab5 {α:Type}:∀ (l:List α) (i:Nat) (m:List α),i+m.length≤l.length→putL l i m=l.take i++m++l.drop (i+m.length)
  | l,i,[],_=>by unfold putL;simp
  | [],i,b::m,h=>by simp at h
  | a::l,0,b::m,h=>by
    simp only[c4_] at h
    unfold putL
    rw[ab5 l 0 m (by omega)]
    simp only[b0_,k9_,h3_,c4_,List.drop_succ_cons,m0_]
  | a::l,i+1,b::m,h=>by
    simp only[c4_] at h
    unfold putL
    rw[ab5 l i (b::m) (by simp;omega)]
    simp only[List.take_succ_cons,m0_,c4_,b4_]
    rw[show i+1+(m.length+1)=(i+(m.length+1))+1 by omega,List.drop_succ_cons]
theorem Fa.putL {α β:Type} {R:α→β→Prop}:∀ {l:List α} {cs:List β} {i:Nat} {m:List α} {ds:List β},Fa R l cs→Fa R m ds→Fa R (Rex.putL l i m) (Rex.putL cs i ds)
  | l,cs,i,[],[],h,_=>by unfold Rex.putL;exact h
  | [],[],i,b::m,d::ds,_,_=>by unfold Rex.putL;trivial
  | a::l,c::cs,0,b::m,d::ds,h,k=>by unfold Rex.putL;exact⟨k.1,Fa.putL h.2 k.2⟩
  | a::l,c::cs,i+1,b::m,d::ds,h,k=>by unfold Rex.putL;exact⟨h.1,Fa.putL h.2 k⟩
theorem ab4 {α:Type}:∀ {l:List α} {i:Nat} {m:List α},(putL l i m).length=l.length
  | l,i,[]=>by unfold putL;rfl
  | [],i,b::m=>by unfold putL;rfl
  | a::l,0,b::m=>by unfold putL;simp[ab4 (l:=l)]
  | a::l,i+1,b::m=>by unfold putL;simp[ab4 (l:=l)]
theorem ab3 {α:Type}:∀ {l:List α} {i:Nat} {m:List α} {j:Nat},(Nat.blt j i||Nat.ble (i+m.length) j)=true→(putL l i m)[j]?=l[j]?
  | l,i,[],j,h=>by unfold putL;rfl
  | [],i,b::m,j,h=>by unfold putL;rfl
  | a::l,0,b::m,j,h=>by
    simp only[c8_] at h
    unfold putL
    cases j with
    | zero =>
      rcases h with h | h
      · cases h
      · have:=b7_ h;simp at this
    | succ j =>
      simp only[i8_]
      refine ab3 ?_
      rcases h with h | h
      · cases h
      · have:=b7_ h
        simp only[c4_] at this
        simp only[c8_]
        exact .inr (i4_ (by omega))
  | a::l,i+1,b::m,j,h=>by
    simp only[c8_] at h
    unfold putL
    cases j with
    | zero=>rfl
    | succ j =>
      simp only[i8_]
      refine ab3 ?_
      simp only[c8_]
      rcases h with h | h
      · have:j+1<i+1:=b7_ h
        exact .inl (i4_ (by omega:j.succ≤i))
      · have:=b7_ h
        exact .inr (i4_ (by omega))
theorem cg_ {l:List AO} {o:Nat} {a b:AO} (ho:l[o]?=some a) (h:K1 a b):Keep l (l.set o b):=by
  intro p c hp
  by_cases e:o=p
  · subst e
    rw[ho] at hp
    cases hp
    have hl:=(a3_.1 ho).1
    exact⟨b,by simp[hl],h⟩
  · exact⟨c,by rw[b6_ e];exact hp,K1.refl c⟩
theorem bo2 {n:List AO} {l m:List SV} (h:em_ (SV.lt n) l=true) (k:em_ (SV.lt n) m=true):∀ {i:Nat},em_ (SV.lt n) (putL l i m)=true:=by
  intro i
  induction l generalizing i m with
  | nil=>cases m<;>exact h
  | cons a l ih =>
    cases m with
    | nil=>exact h
    | cons b m =>
      simp only[em_,a1_] at h k
      cases i with
      | zero=>simp only[putL,em_,a1_];exact⟨k.1,ih h.2 k.2⟩
      | succ i=>simp only[putL,em_,a1_];exact⟨h.1,ih h.2 (by simp only[em_,a1_];exact k)⟩
section
variable {ρ:Type}
def be3 (P:Program) [Tb P] (T:TypeId):Option (List SV):=(inf P T).bind λi=>i.zero.bind λz=>cond (z.cells.toList.all (·.oneCell')) (some (z.cells.toList.map ofC)) none
def as2 (P:Program) [Tb P]:List Field→Option (List (Nat×Nat))
  | []=>some []
  | f::fs=>(inf P f.type).bind λi=>(as2 P fs).bind λr=>some ((f.offset,i.size)::r)
def cm0 (pl:List (Nat×Nat)) (l:List SV):List (Nat×AV)→Option (List SV)
  | []=>some l
  | (i,a)::ps=>(pl[i]?).bind λq=>(zq_ a).bind λm=>cond (Nat.beq m.length q.2&&Nat.ble (q.1+m.length) l.length) (cm0 pl (putL l q.1 m) ps) none
def ca3 (P:Program) [Tb P] (T:TypeId) (ps:List (Nat×AV)) (k:AV→Option ρ):Option ρ:=match und P T with
  | some (.struct fs)=>(as2 P fs.toList).bind λpl=>(be3 P T).bind λz=>(cm0 pl z ps).bind λl=>k (.b (.agg l))
  | _=>none
def cp0 (P:Program) [Tb P] (T:TypeId) (p v:AV) (objs:List AO) (k:List AO→Option ρ):Option ρ:=match p with
  | .b (.one (.ptr o i))=>match objs[o]? with
    | some (.cells B l ro)=>(zq_ v).bind λm=>(shp P T).bind λsh=>cond (Nat.beq sh.2 m.length&&Nat.ble (i+m.length) l.length&&em_ (λj=>Nat.blt j i||Nat.ble (i+m.length) j) ro) (k (objs.set o (.cells B (putL l i m) ro))) none
    | _=>none
  | _=>none
end
section
variable {ρ:Type} {P:Program} [Tb P] {objs:List AO} {r:ρ} {T:TypeId}
theorem qz_ {hv:Nat→Value} {S:PH} {l:List SV} (h:be3 P T=some l):∃ z,(∀ w,(zeroValue T).run P w = .ok z w)∧Fa (RS hv S) l z.cells.toList∧∀ n,em_ (SV.lt n) l=true:=by
  obtain⟨i,h1,h⟩:=bnd h
  obtain⟨z,h2,h⟩:=bnd h
  have h1:=wt_ h1
  obtain⟨hc,h⟩:=bm_ h
  cases h
  refine⟨z,λw=>by simp[zeroValue,typeInfo,h1,h2],cs8 λv hv=>f0_.1 hc v hv,λn=>gq_ λs hs => ?_⟩
  obtain⟨v,_,rfl⟩:=d0_.1 hs
  exact bq3 v
theorem yw_:∀ {fs:List Field} {pl:List (Nat×Nat)},as2 P fs=some pl→∀ w,(fs.mapM λf=>do pure (f.offset,← sizeOf f.type):Sem (List (Nat×Nat))).run P w = .ok pl w
  | [],pl,h,w=>by cases h;rfl
  | f::fs,pl,h,w=>by
    obtain⟨i,h1,h⟩:=bnd h
    obtain⟨r,h2,h⟩:=bnd h
    have h1:=wt_ h1
    cases h
    have:=yw_ h2 w
    have hs:(sizeOf f.type).run P w = .ok i.size w:=by simp[sizeOf,typeInfo,h1]
    rw[List.mapM_cons]
    simp only[Sem.run_bind,hs,Result.andThen_ok,Sem.run_pure] at this ⊢
    rw[this]
    rfl
theorem bb8 {hv:Nat→Value} {S:PH} {pl:List (Nat×Nat)}:∀ {ps:List (Nat×AV)} {vs:List (Nat×Value)} {l l':List SV} {cs:List Value},cm0 pl l ps=some l'→Fa (λp q=>p.1=q.1∧RA hv S p.2 q.2) ps vs→Fa (RS hv S) l cs →
    ∃ cs',am7 (pl[·]?) cs.toArray (vs.map λp=>(p.1,p.2.cells))=some cs'.toArray∧Fa (RS hv S) l' cs'
  | [],[],l,l',cs,h,_,hf=>by cases h;exact⟨cs,rfl,hf⟩
  | (i,a)::ps,(j,v)::vs,l,l',cs,h,hp,hf=>by
    obtain⟨q,h1,h⟩:=bnd h
    obtain⟨m,h2,h⟩:=bnd h
    obtain⟨hc,h⟩:=bm_ h
    simp only[a1_] at hc
    have c1:=a4_ hc.1
    have c2:=b7_ hc.2
    obtain⟨⟨e1,e2⟩,e3⟩:=hp
    simp only at e1 e2
    subst e1
    have hm:=sg_ e2 h2
    obtain⟨cs',g1,g2⟩:=bb8 h e3 (hf.putL (i:=q.1) hm)
    refine⟨cs',?_,g2⟩
    have hl:=hm.len
    have hl2:=hf.len
    simp only[g6_]
    unfold am7
    simp only[h1]
    have hn:¬ (v.cells.size≠q.2∨q.1+v.cells.size > cs.toArray.size):=by
      have e:v.cells.size=m.length:=by rw[hl];simp
      rw[e]
      simp
      omega
    have:(decide (v.cells.size≠q.2)||decide (q.1+v.cells.size > cs.toArray.size))=false:=by
      simpa using hn
    rw[if_neg (by rw[this];decide)]
    rw[← mm_ v.cells.toList cs.toArray q.1 (by simp; (have e:v.cells.size=m.length:=by rw[hl];simp);omega)]
    have e4:(cs.toArray.toList.take q.1++v.cells.toList++cs.toArray.toList.drop (q.1+v.cells.toList.length))=putL cs q.1 v.cells.toList:=by
      rw[ab5]
      · rw[← hl];omega
    rw[e4]
    exact g1
  | [],_::_,_,_,_,_,hp,_=>hp.elim
  | _::_,[],_,_,_,_,hp,_=>hp.elim
theorem bb9 {pl:List (Nat×Nat)} {n:List AO}:∀ {ps:List (Nat×AV)} {l l':List SV},cm0 pl l ps=some l'→(∀ p ∈ ps,p.2.lt n=true)→em_ (SV.lt n) l=true→em_ (SV.lt n) l'=true
  | [],l,l',h,_,hl=>by cases h;exact hl
  | (i,a)::ps,l,l',h,hp,hl=>by
    obtain⟨q,h1,h⟩:=bnd h
    obtain⟨m,h2,h⟩:=bnd h
    obtain⟨hc,h⟩:=bm_ h
    exact bb9 h (λp hm=>hp p (by simp[hm])) (bo2 hl (sh_ (hp (i,a) (by simp)) h2))
theorem ca2 {ps:List (Nat×AV)} {k:AV→Option ρ} (h:ca3 P T ps k=some r):∃ av,k av=some r∧(∀ n,(∀ p ∈ ps,p.2.lt n=true)→av.lt n=true)∧∀ {S:PH} {hv:Nat→Value} {w:World} {vs:List (Nat×Value)},
    Fa (λp q=>p.1=q.1∧RA hv S p.2 q.2) ps vs→∃ u,(Instr.build T vs.toArray).run P w = .ok u w∧RA hv S av u:=by
  unfold ca3 at h
  split at h
  · rename_i fs hT
    have hT:=cq_ hT
    obtain⟨pl,h1,h⟩:=bnd h
    obtain⟨z,h2,h⟩:=bnd h
    obtain⟨l,h3,h⟩:=bnd h
    refine⟨_,h,λn hn => ?_,λ{S hv w vs} hp => ?_⟩
    · obtain⟨zv,_,_,hz⟩:=qz_ (hv:=λ_=>undef) (S:=⟨Hp.emp,default,#[]⟩) h2
      exact bb9 h3 hn (hz n)
    · obtain⟨zv,z1,z2,_⟩:=qz_ (hv:=hv) (S:=S) h2
      obtain⟨cs',g1,g2⟩:=bb8 h3 hp z2
      have hst:StructT P T zv.cells pl.toArray:=⟨fs,⟨λw=>by simp[Sem.run_bind,z1 w],hT,λw=>by
        rw[Array.mapM_eq_mapM_toList,map_eq_pure_bind,Sem.run_bind,yw_ h1 w]
        rfl⟩⟩
      refine⟨.agg cs'.toArray,hst.run w vs.toArray (c:=cs'.toArray) ?_,cs',rfl,g2⟩
      rw[ae7]
      simpa using g1
  · cases h
end
end
section
variable [Gb]
def setF:(t:Ty)→t.den→Nat→((u:Ty)→u.den→Option u.den)→Option t.den
  | .one t,x,0,f=>f t x
  | .pair a b,x,0,f=>(f a x.1).bind λy=>some (y,x.2)
  | .pair a b,x,k+1,f=>(setF b x.2 k f).bind λy=>some (x.1,y)
  | _,_,_,_=>none
def setP:(p:List Nat)→(t:Ty)→t.den→AV→Option t.den
  | [],t,_,a=>asD t a
  | k::p,t,x,a=>setF t x k λu y=>setP p u y a
def tyP:Ty→List Nat→Option Ty
  | t,[]=>some t
  | t,k::p=>(cl8 t k).bind λu=>tyP u p
theorem ax0 {S:PH} {f:(u:Ty)→u.den→Option u.den} {us:List Value} {off:Ty→Nat} (hf:∀ u (y y':u.den) ds,f u y=some y'→u.enc.rep S ds y→∃ A B C,ds=A++(B++C)∧A.length=off u∧B.length=us.length∧u.enc.rep S (A++(us++C)) y') :
    ∀ {t:Ty} {x x':t.den} {k:Nat} {cs:List Value},setF t x k f=some x'→t.enc.rep S cs x →
    ∃ A B C,cs=A++(B++C)∧A.length=(bw7 t k+match cl8 t k with | some u=>off u | none=>0)∧B.length=us.length∧t.enc.rep S (A++(us++C)) x'
  | .one t,x,x',0,cs,h,hr=>by
    obtain⟨A,B,C,e,h1,h2,h3⟩:=hf t x x' cs h hr
    exact⟨A,B,C,e,by simp[bw7,cl8,h1],h2,h3⟩
  | .pair a b,x,x',0,cs,h,⟨c1,c2,e,r1,r2⟩=>by
    obtain⟨y,h1,h⟩:=bnd h
    cases h
    obtain⟨A,B,C,e1,h2,h3,h4⟩:=hf a x.1 y c1 h1 r1
    refine⟨A,B,C++c2,by rw[e,e1];simp,by simp[bw7,cl8,h2],h3,A++(us++C),c2,by simp,h4,r2⟩
  | .pair a b,x,x',k+1,cs,h,⟨c1,c2,e,r1,r2⟩=>by
    obtain⟨y,h1,h⟩:=bnd h
    cases h
    obtain⟨A,B,C,e1,h2,h3,h4⟩:=ax0 hf (t:=b) h1 r2
    have hl:=Enc.len (α:=a.den) r1
    rw[cc_] at hl
    refine⟨c1++A,B,C,by rw[e,e1];simp,?_,h3,c1,A++(us++C),by simp,r1,h4⟩
    simp only[a8_,h2,hl,bw7,cl8]
    omega
  | .one t,_,_,k+1,_,h,_=>by cases h
  | .int,_,_,_,_,h,_=>by cases h
  | .bool,_,_,_,_,h,_=>by cases h
  | .u8,_,_,_,_,h,_=>by cases h
  | .str,_,_,_,_,h,_=>by cases h
  | .unit,_,_,_,_,h,_=>by cases h
  | .list _,_,_,_,_,h,_=>by cases h
  | .ref _,_,_,_,_,h,_=>by cases h
  | .clo _ _,_,_,_,_,h,_=>by cases h
theorem aw9 {hv:Nat→Value} {S:PH} {a:AV} {u:Value} (ha:RA hv S a u):∀ {p:List Nat} {t:Ty} {x x':t.den} {cs:List Value},setP p t x a=some x'→t.enc.rep S cs x →
    ∃ A B C,cs=A++(B++C)∧A.length=ci9 t p∧B.length=u.cells.toList.length∧t.enc.rep S (A++(u.cells.toList++C)) x'
  | [],t,x,x',cs,h,hr=>by
    have h1:=RV.cells (fx_ ha h)
    have l1:=Enc.len (α:=t.den) h1
    have l2:=Enc.len (α:=t.den) hr
    exact⟨[],cs,[],by simp,rfl,by rw[l1,l2],by simpa using h1⟩
  | k::p,t,x,x',cs,h,hr=>by
    obtain⟨A,B,C,e,h1,h2,h3⟩:=ax0 (us:=u.cells.toList) (off:=λu=>ci9 u p) (λu y y' ds hy hr=>aw9 ha (p:=p) hy hr) h hr
    refine⟨A,B,C,e,?_,h2,h3⟩
    rw[h1]
    rfl
theorem bm2 {f:(u:Ty)→u.den→Option u.den}:∀ {t:Ty} {x x':t.den} {k:Nat},setF t x k f=some x'→∃ u y y',cl8 t k=some u∧f u y=some y'
  | .one t,x,x',0,h=>⟨t,x,x',rfl,h⟩
  | .pair a b,x,x',0,h=>by
    obtain⟨y,h1,h⟩:=bnd h
    exact⟨a,x.1,y,rfl,h1⟩
  | .pair a b,x,x',k+1,h=>by
    obtain⟨y,h1,h⟩:=bnd h
    exact bm2 (t:=b) h1
  | .one t,_,_,k+1,h=>by cases h
  | .int,_,_,_,h=>by cases h
  | .bool,_,_,_,h=>by cases h
  | .u8,_,_,_,h=>by cases h
  | .str,_,_,_,h=>by cases h
  | .unit,_,_,_,h=>by cases h
  | .list _,_,_,_,h=>by cases h
  | .ref _,_,_,_,h=>by cases h
  | .clo _ _,_,_,_,h=>by cases h
theorem bm1 {hv:Nat→Value} {S:PH} {a:AV} {u:Value} (ha:RA hv S a u):∀ {p:List Nat} {t t':Ty} {x x':t.den},setP p t x a=some x'→tyP t p=some t'→u.cells.size=t'.sz
  | [],t,t',x,x',h,hp=>by
    cases hp
    have l1:=Enc.len (α:=t.den) (RV.cells (fx_ ha h))
    rw[cc_] at l1
    simpa using l1
  | k::p,t,t',x,x',h,hp=>by
    obtain⟨u1,y,y',h1,h2⟩:=bm2 h
    obtain⟨u2,h3,h4⟩:=bnd hp
    rw[h1] at h3
    cases h3
    exact bm1 ha h2 h4
structure LV where
  t:Ty
  l:List t.den
def srcA (y:AV) (objs:List AO):Option LV:=match y with
  | .b (.one (.val (.list t) l))=>some ⟨t,l⟩
  | .b (.one (.row o))=>match objs[o]? with
    | some (.row t _ l _)=>some ⟨t,l⟩
    | _=>none
  | _=>none
def yl_ (a b:Ty) (x:List a.den):Option (List b.den):=if h:a.eqb b=true then some (Ty.eqb_eq h ▸ x) else none
theorem gz_ {a b:Ty} {x:List a.den} {y:List b.den} (h:yl_ a b x=some y):∃ e:a=b,y=e ▸ x:=by
  unfold yl_ at h
  split at h
  · rename_i e;exact⟨Ty.eqb_eq e,(a6_ h).symm⟩
  · cases h
theorem bl7 {S:PH} {hv:Nat→Value} {Fm:List HP} {sl:Nat→AV} {objs:List AO} {f:Fr} {w:World} (hs:Sit S hv Fm sl objs f w) {y:AV} {d:LV} {u:Value} (h:srcA y objs=some d) (hr:RA hv S y u) :
    @Src d.t.den d.t.enc w S u d.l:=by
  unfold srcA at h
  split at h
  · rename_i t l
    cases h
    exact @RV.src t.den t.enc w S u l hr.2.2 hs.inv.in_
  · rename_i o
    split at h
    · rename_i t B l rr ho
      cases h
      obtain⟨L,hI,_⟩:=hs.at ho
      have e:u=hv o:=hr.2
      rw[e]
      exact @Inv.rowSrc t.den t.enc w S (L++Fm) B (hv o) l hI
    · cases h
  · cases h
def lits (t:Ty):List AV→Option (List t.den)
  | []=>some []
  | a::l=>(asD t a).bind λx=>(lits t l).bind λr=>some (x::r)
def wu_:Nat→List (Nat×Operand)→Bool
  | _,[]=>true
  | i,p::ps=>Nat.beq i p.1&&wu_ (i+1) ps
end
section
variable [Gb]
def isUn (objs:List AO) (i:Nat):Bool:=match objs[i]? with
  | some .unborn=>true
  | _=>false
theorem cm_ {objs:List AO} {i:Nat} (h:isUn objs i=true):objs[i]?=some .unborn:=by
  unfold isUn at h
  split at h
  · assumption
  · cases h
def cg0:Operand→Operand→Bool
  | .tmp i,.tmp j=>Nat.beq i j
  | .const (.int .i64 a),.const (.int .i64 b)=>decide (a=b)
  | _,_=>false
theorem ax1 {x y:Operand} (h:cg0 x y=true):x=y:=by
  unfold cg0 at h
  split at h
  · rw[a4_ h]
  · rw[f3_ h]
  · cases h
abbrev yd_ (o:Nat):AV:=.b (.one (.row o))
abbrev ptrV (o k:Nat):AV:=.b (.one (.ptr o k))
section
variable {ρ:Type}
def xy_ (objs:List AO) (fr:Nat) (a:AO) (v:AV) (k:AV→List AO→Option ρ):Option ρ:=cond (isUn objs fr) (k v (objs.set fr a)) none
def bl2 (P:Program) [Tb P] (T:TypeId) (p v:AV) (objs:List AO) (k:List AO→Option ρ):Option ρ:=match p with
  | .b (.one (.ptrE o e n z q))=>match objs[o]? with
    | some (.row t B l false)=>(at? l e).bind λx=>(setP q t x v).bind λx'=>(tyP t q).bind λt'=>cond (Nat.beq n (ci9 t q)&&Nat.beq z t.sz&&au3 P T t') (k (objs.set o (.row t B (l.set e.toNat x') false))) none
    | _=>none
  | _=>cp0 P T p v objs k
def appA (P:Program) [Tb P] (T:TypeId) (x y:AV) (objs:List AO) (fr:Nat) (k:AV→List AO→Option ρ):Option ρ:=(elemOf P T).bind λE=>match x with
  | .b (.one .nils)=>(srcA y objs).bind λd=>cond (Nat.blt 0 d.t.sz) ((qy_ P E d.t).bind λ_=>(push? [] d.l).bind λr=>xy_ objs fr (.row d.t E r false) (yd_ fr) k) none
  | .b (.one (.row o))=>match objs[o]? with
    | some (.row t B l false) => (srcA y objs).bind fun d => (yl_ d.t t d.l).bind fun m => cond (Nat.beq B E && Nat.blt 0 t.sz) ((qy_ P E t).bind fun _ => (push? l m).bind fun r =>
          cond (isUn objs fr) (k (yd_ fr) ((objs.set o .gone).set fr (.row t E r false))) none) none
    | _=>none
  | _=>none
def cutA (P:Program) [Tb P] (T:TypeId) (o:Nat) (a:Int) (objs:List AO) (fr:Nat) (k:AV→List AO→Option ρ):Option ρ:=(elemOf P T).bind λE=>match objs[o]? with
  | some (.row t B l false)=>cond (Nat.beq B E&&au3 P E t&&isUn objs fr) ((sub? l a (l.length:Nat)).bind λm=>k (yd_ fr) ((objs.set o .gone).set fr (.row t E m false))) none
  | _=>none
def cq1 {α:Type}:Nat→α→List α→List α
  | 0,_,l=>l
  | j+1,z,l=>z::cq1 j z l
def cs6:List (Nat×Operand)→Nat
  | []=>0
  | p::_=>p.1
def isRB (o:Oper):Bool:=match o.op,o.dst with
  | .alloc T,some d=>Gb.fz (cdN T d 2047) o.pos
  | _,_=>false
def bl4 (P:Program) [Tb P] (o:Oper) (sl:Nat→AV) (objs:List AO) (fr:Nat) (k:AV→List AO→Option ρ):Option ρ:=match o.op with
  | .box T x=>(zq_ (evA sl x)).bind λl=>xy_ objs fr (.cells T l []) (ptrV fr 0) k
  | .alloc T=>cond (isRB o) ((be6 P 20 T).bind λt=>(qy_ P T t).bind λz=>cond (Nat.blt 0 t.sz) (xy_ objs fr (.row t T [z] false) (.b (.one (.ptrE fr 0 0 t.sz []))) k) none) <| match und P T with
    | some (.array _ E)=>(be6 P 20 E).bind λt=>(be3 P T).bind λcs=>(lits t (cs.map λs=>.b (.one s))).bind λl=>cond (Nat.ble l.length 65536) (xy_ objs fr (.row t T l false) (.b (.one (.arr fr))) k) none
    | _=>(be3 P T).bind λl=>xy_ objs fr (.cells T l []) (ptrV fr 0) k
  | .build T ⟨ps⟩=>ca3 P T (ps.map λp=>(p.1,evA sl p.2)) λa=>k a objs
  | .buildSlice T n ⟨ps⟩=>match o.dst with
    | some _=>(elemOf P T).bind λE=>(be6 P 20 E).bind λt=>(qy_ P E t).bind λzd=>cond (wu_ (cs6 ps) ps&&Nat.beq (cs6 ps+ps.length) n&&Nat.ble n 65536&&Nat.ble (n * t.sz) 65536)
        ((lits t (ps.map λp=>evA sl p.2)).bind λl=>cond (Nat.beq (cs6 ps) 0) (xy_ objs fr (.row t E l false) (yd_ fr) k) (cond (Nat.beq (cs6 ps) 1) (xy_ objs fr (.row t E (zd::l) false) (yd_ fr) k) none)) none
    | none=>none
  | .makeSlice T x y=>match o.dst with
    | some _=>(elemOf P T).bind λE=>(be6 P 20 E).bind λt=>(qy_ P E t).bind λzd=>(asD .int (evA sl x)).bind λc=>cond (cg0 x y) ((mk? c zd).bind λl=>xy_ objs fr (.row t E l false) (yd_ fr) k) none
    | none=>none
  | .store T p v=>match o.dst with
    | none=>bl2 P T (evA sl p) (evA sl v) objs λobjs'=>k (.b .dead) objs'
    | some _=>none
  | .slice T x lo hi none=>match evA sl x,lo,hi,o.dst with
    | .b (.one (.row p)),some y,none,some _=>(asD .int (evA sl y)).bind λa=>cutA P T p a objs fr k
    | _,_,_,_=>stepP P o sl objs λa=>k a objs
  | .call ⟨.builtin .append,⟨[x,y]⟩,⟨[T,T2]⟩⟩=>match o.dst with
    | some _=>cond (Nat.beq T T2) (appA P T (evA sl x) (evA sl y) objs fr k) none
    | none=>none
  | _=>none
end
section
variable {ρ:Type} {P:Program} [Tb P] {objs:List AO} {r:ρ} {sl:Nat→AV} {fr:Nat} {k:AV→List AO→Option ρ}
theorem ax5 {α:Type} [Enc α] {S:PH} {zc:List Value} {z:α} (hz:Enc.rep S zc z):∀ (j:Nat) {cs:List Value} {l:List α},RepL S cs l→RepL S ((List.replicate j zc).flatten++cs) (cq1 j z l)
  | 0,cs,l,h=>h
  | j+1,cs,l,h=>⟨zc,(List.replicate j zc).flatten++cs,by simp[l8_],hz,ax5 hz j h⟩
theorem ax6 {α:Type} {z:α}:∀ (j:Nat) {l:List α},(cq1 j z l).length=j+l.length
  | 0,l=>by simp[cq1]
  | j+1,l=>by simp[cq1,ax6 j];omega
theorem yh_ {α:Type} [Enc α] {n d:Nat} {f:Fr} {w:World} {K:Fr→World→Prop} {ro:Option Nat} {ty:TypeId} {pos:String} {af:Array Edge} {gd:Option (Nat×Bool)} {T E:TypeId} {S:PH} {O:List HP} {bytes:Nat} {zv:Value} {zd:α} {ps:List (Nat×Operand)} {vs:List Value} {ln j:Nat} {r:List α} (hd:Nat.blt d n=true) (hT:P.underlying T=some (.slice E)) (hE0:Elem P α E bytes zv zd)
    (hps:(ps.map λp=>(p.1,ev f p.2))=(vs.zipIdx j).map λp=>(p.2,p.1)) (hln:j+vs.length=ln) (hsm:ln * Enc.sz α≤65536) (hsl:ln≤65536) (hr:RVs S vs r) (hI:Inv w S O) (k:∀ u w',Inv w' S (Row E u (cq1 j zd r)::O)→K (upd f d u) w') :
    OP P n ro ⟨some d,.buildSlice T ln ps.toArray,ty,pos,af,gd⟩ f w K:=by
  obtain⟨ei,hE⟩:=hE0
  obtain⟨h1,h2⟩:=hr.repL
  have hmap:(ps.toArray.map λ(i,x)=>(i,ev f x))=(ps.map λp=>(p.1,ev f p.2)).toArray:=by simp
  have hzs:zv.cells.size=ei.size:=by rw[hE.hzs,hE.hs]
  have hsplit:(madeCells zv.cells (ln * ei.size)).toList=(List.replicate j zv.cells.toList).flatten++(List.replicate vs.length zv.cells.toList).flatten:=by
    rw[← hzs,nu_,← hln,← List.replicate_append_replicate,List.flatten_append]
  have hf:Instr.fill (λi=>some (i * ei.size,ei.size)) (madeCells zv.cells (ln * ei.size)) ((vs.zipIdx j).map λp=>(p.2,p.1))=some ((List.replicate j zv.cells.toList).flatten++vs.flatMap λv=>v.cells.toList).toArray:=by
    rw[ae7]
    have hl0:∀ q,((List.replicate q zv.cells.toList).flatten).length=q * ei.size:=λq=>by
      rw[List.length_flatten,List.map_replicate,List.sum_replicate_nat];simp[hzs]
    have:=xd_ (Enc.sz α) vs j (List.replicate j zv.cells.toList).flatten (List.replicate vs.length zv.cells.toList).flatten (by rw[hl0,hE.hs]) (by rw[hl0,hE.hs]) hr.size
    rw[← hsplit] at this
    rw[l2_] at this
    rw[hE.hs] at this ⊢
    rw[← this,List.map_map]
    rfl
  have hmade:((Array.range (ln * ei.size)).map ((if ln * ei.size=0 then #[] else zv.cells)[· % (if ln * ei.size=0 then #[] else zv.cells).size]!))=madeCells zv.cells (ln * ei.size):=by
    split
    · rename_i h0;rw[h0];simp[madeCells]
    · rfl
  have hbig:¬ (ln * ei.size > 2 ^ 24):=by rw[hE.hs];omega
  have hrun:(Instr.buildSlice T ln ((vs.zipIdx j).map λp=>(p.2,p.1)).toArray).run P w = .ok (.slice (some ⟨w.heap.size,0,none⟩) ln ln) (w.alloc (.cells ((List.replicate j zv.cells.toList).flatten++vs.flatMap λv=>v.cells.toList).toArray E)):=by
    unfold Instr.buildSlice
    have hsz:∀ w,(sizeOf E).run P w = .ok ei.size w:=λw=>by simp[sizeOf,typeInfo,hE.hi]
    simp only[Sem.run_bind,run_underlying hT,Result.andThen_ok,hsz]
    rw[if_neg hbig]
    have hzv:(zeroValue E).run P w = .ok zv w:=by simp[zeroValue,typeInfo,hE.hi,hE.hz]
    by_cases h0:ln * ei.size=0
    · rw[if_pos h0]
      rw[if_pos h0] at hmade
      simp only[Sem.run_bind,Sem.run_pure,Result.andThen_ok,hmade,hf]
      simp[newRow]
    · rw[if_neg h0]
      rw[if_neg h0] at hmade
      simp only[Sem.run_bind,Sem.run_pure,Result.andThen_ok,hzv,hmade,hf]
      simp[newRow]
  have hlen:(cq1 j zd r).length=ln:=by rw[ax6,← h2,hln]
  refine db_ hd (v:=.slice (some ⟨w.heap.size,0,none⟩) ln ln) (w':=w.alloc (.cells ((List.replicate j zv.cells.toList).flatten++vs.flatMap λv=>v.cells.toList).toArray E)) ?_ (k _ _ ?_)
  · have e:(execOp (ev f) ⟨some d,.buildSlice T ln ps.toArray,ty,pos,af,gd⟩)=(do pure (.value (← Instr.buildSlice T ln ((vs.zipIdx j).map λp=>(p.2,p.1)).toArray))):=by
      simp only[execOp,hmap,hps]
    rw[e]
    simp only[Sem.run_bind,hrun,Result.andThen_ok,Sem.run_pure]
  · refine (hI.new _).shut (A:=Row E _ _) ?_
    refine .inr ⟨w.heap.size,ln,[],_,[],by simp[hlen],?_,ax5 (hE.rep S) j h1,by omega,?_,?_⟩
    · simp
    · simp only[maxLen]
      omega
    · rw[hlen];simp
theorem OpOk.new {o:Oper} {a:AO} {v:AV} (hu:isUn objs fr=true) (ha:a≠.unborn) (hlt:WfS sl objs→WfO objs→a.lt objs=true) (hv0:v.lt (objs.set fr a)=true)
    (hrun:∀ {S:PH} {hv:Nat→Value} {Fm:List HP} {f:Fr} {w:World} {n:Nat} {ro:Option Nat} {K:Fr→World→Prop},Sit S hv Fm sl objs f w→ei_ n o.dst=true →
      (∀ u w',u.oneCell'=true→Inv w' S (OH (ins hv fr u) u a::(OHs hv 0 objs++Fm))→RA (ins hv fr u) S v u→K (vl_ f o.dst u) w')→OP P n ro o f w K) :
    OpOk P o sl objs v (objs.set fr a) where
  ble:=bi_ ha
  keep:=cg_ (cm_ hu) trivial
  wfo hs hw:=du_ ha hw (AO.lt_mono (bi_ ha) (hlt hs hw))
  lt _ _:=hv0
  run hs hd k:=hrun hs hd λu w' h1 hI hr=>k u _ _ _ (PH.Le.refl _) (mz_ (cm_ hu)) hr (hn_ hs.wfo (cm_ hu) hI)
theorem OpOk.new2 {o:Oper} {a:AO} {v:AV} (hu:isUn objs fr=true) (ha:a≠.unborn) (hlt:WfS sl objs→WfO objs→a.lt objs=true) (hv0:v.lt (objs.set fr a)=true)
    (hrun:∀ {S:PH} {hv:Nat→Value} {Fm:List HP} {f:Fr} {w:World} {n:Nat} {ro:Option Nat} {K:Fr→World→Prop},Sit S hv Fm sl objs f w→ei_ n o.dst=true →
      (∀ u z w',Inv w' S (OH (ins hv fr u) u a::(OHs hv 0 objs++Fm))→RA (ins hv fr u) S v z→K (vl_ f o.dst z) w')→OP P n ro o f w K) :
    OpOk P o sl objs v (objs.set fr a) where
  ble:=bi_ ha
  keep:=cg_ (cm_ hu) trivial
  wfo hs hw:=du_ ha hw (AO.lt_mono (bi_ ha) (hlt hs hw))
  lt _ _:=hv0
  run hs hd k:=hrun hs hd λu z w' hI hr=>k z _ _ _ (PH.Le.refl _) (mz_ (cm_ hu)) hr (hn_ hs.wfo (cm_ hu) hI)
theorem bb3:∀ {vs:List Value},(∀ v ∈ vs,v.oneCell'=true)→(vs.flatMap λv=>v.cells.toList)=vs
  | [],_=>rfl
  | v::vs,h=>by
    rw[p5_,bb3 λu hu=>h u (by simp[hu])]
    have h1:=h v (by simp)
    have e:v.cells.toList=[v]:=by
      cases v<;>first | rfl | (simp[Value.oneCell'] at h1)
    rw[e]
    rfl
theorem fl_ {a:AO} {v:AV} (h:xy_ objs fr a v k=some r):isUn objs fr=true∧k v (objs.set fr a)=some r:=bm_ h
theorem ih_ {a:AO} (hu:isUn objs fr=true) (ha:a≠.unborn):born (objs.set fr a) fr=true:=by
  have h:=cm_ hu
  have hl:=(a3_.1 h).1
  exact ay_.2 ⟨a,by simp[hl],ha⟩
theorem an6 {S:PH} {hv:Nat→Value} {Fm:List HP} {w:World} {g:Nat} {T:TypeId} {l:List SV} {cs:Array Value} (hu:isUn objs fr=true) (hlt:em_ (SV.lt objs) l=true) (hf:Fa (RS hv S) l cs.toList)
    (hI:Inv w S (kr_ g T cs::(OHs hv 0 objs++Fm))):Inv w S (OH (ins hv fr (.pointer (some ⟨g,0,none⟩))) (.pointer (some ⟨g,0,none⟩)) (.cells T l [])::(OHs hv 0 objs++Fm)) :=
  Inv.shut (A:=ao7 _ _ _ _) hI ⟨g,cs.toList,rfl,fa_ag (mz_ (cm_ hu)) hlt hf,by simp⟩
theorem bo5 {S:PH} {hv:Nat→Value} {g:Nat}:RA (ins hv fr (.pointer (some ⟨g,0,none⟩))) S (ptrV fr 0) (.pointer (some ⟨g,0,none⟩)) :=
  ⟨rfl,⟨_,rfl⟩,by rw[ci_];simp[az_,Addr.add]⟩
theorem qg_ {S:PH} {hv:Nat→Value} {O:List HP} {w:World} {t:Ty} {E:TypeId} {l:List t.den} {u:Value} (hI:Inv w S (@Row t.den t.enc E u l::O)):u.oneCell'=true∧RA (ins hv fr u) S (yd_ fr) u:=by
  obtain⟨a,cap,e,_⟩:=@Inv.rowForm t.den t.enc w S O E u l hI
  have h1:u.oneCell'=true:=by rw[e];rfl
  exact⟨h1,h1,(ci_ hv fr u).symm⟩
theorem at0 {hv:Nat→Value} {S:PH} {t:Ty}:∀ {as:List AV} {vs:List Value} {l:List t.den},lits t as=some l→Fa (RA hv S) as vs→@RVs t.den t.enc S vs l
  | [],[],l,h,_=>by cases h;trivial
  | a::as,v::vs,l,h,hf=>by
    obtain⟨x,h1,h⟩:=bnd h
    obtain⟨m,h2,h⟩:=bnd h
    cases h
    exact⟨fx_ hf.1 h1,at0 h2 hf.2⟩
theorem sz_ {f:Fr}:∀ {ps:List (Nat×Operand)} {i:Nat},wu_ i ps=true→(ps.map λp=>(p.1,ev f p.2))=((ps.map λp=>ev f p.2).zipIdx i).map λp=>(p.2,p.1)
  | [],_,_=>rfl
  | p::ps,i,h=>by
    simp only[wu_,a1_] at h
    simp only[g6_,List.zipIdx_cons]
    rw[sz_ h.2,← a4_ h.1]
theorem bx2 {hv:Nat→Value} {S:PH} {Fm:List HP} {f:Fr} {w:World} (hs:Sit S hv Fm sl objs f w):∀ (ps:List (Nat×Operand)),Fa (RA hv S) (ps.map λp=>evA sl p.2) (ps.map λp=>ev f p.2)
  | []=>trivial
  | x::ps=>⟨hs.ev x.2,bx2 hs ps⟩
theorem cs9 {hv:Nat→Value} {S:PH} {Fm:List HP} {f:Fr} {w:World} (hs:Sit S hv Fm sl objs f w):∀ (ps:List (Nat×Operand)),Fa (λp q=>p.1=q.1∧RA hv S p.2 q.2) (ps.map λp=>(p.1,evA sl p.2)) (ps.map λp=>(p.1,ev f p.2))
  | []=>trivial
  | x::ps=>⟨⟨rfl,hs.ev x.2⟩,cs9 hs ps⟩
theorem ce2 {o:Nat} {a b:AO} (ho:objs[o]?=some a) (hb:b≠.unborn) (hw:WfO objs) (hl:b.lt objs=true):WfO (objs.set o b):=du_ hb hw (AO.lt_mono (bi_ hb) hl)
theorem bl1 {T:TypeId} {px vx:Operand} {ty:TypeId} {pos:String} {af:Array Edge} {gd:Option (Nat×Bool)} {k:List AO→Option ρ} (h:bl2 P T (evA sl px) (evA sl vx) objs k=some r) :
    ∃ objs',k objs'=some r∧OpOk P ⟨none,.store T px vx,ty,pos,af,gd⟩ sl objs (.b .dead) objs':=by
  unfold bl2 at h
  split at h
  · rename_i o e n z q hp
    split at h
    · rename_i t B l ho
      obtain⟨x,hx,h⟩:=bnd h
      obtain⟨x',hx',h⟩:=bnd h
      obtain⟨t',ht',h⟩:=bnd h
      obtain⟨hc,h⟩:=bm_ h
      simp only[a1_] at hc
      obtain⟨⟨c1,c2⟩,c3⟩:=hc
      have c1:=a4_ c1
      have c2:=a4_ c2
      refine⟨_,h,⟨bi_ (by simp),cg_ ho trivial,λhs hw=>ce2 ho (by simp) hw rfl,λ_ _=>rfl,λ{S hv Fm f w nn ro K} hs hd kk => ?_⟩⟩
      obtain⟨L,hI,h2⟩:=hs.at ho
      have hpv:=hs.ev px
      rw[hp] at hpv
      have hv1:ev f px=az_ (co_ (hv o) e z) n:=hpv.2.2
      have hu:=hs.ev vx
      have hS:=hu_ c3
      refine @qa_ ro P nn f w K ty pos af gd px vx (hv o) (ev f vx) T B t.den t.enc S (L++Fm) l e _ n _ x x' [] [] [] hS hI (by rw[hv1,cc_,← c2]) rfl hx (λcs hcs => ?_) ?_ λw' hI' => ?_
      · obtain⟨A,B1,C,e1,e2,e3,e4⟩:=aw9 hu hx' hcs
        exact⟨A,B1,C,e1,by rw[e2,c1],e3,e4⟩
      · rw[cc_];exact bm1 hu hx' ht'
      · exact kk undef S hv w' (PH.Le.refl _) (λ_ _=>rfl) trivial (ab2 (a:=.row t B (l.set e.toNat x') false) h2 hI')
    · cases h
  · unfold cp0 at h
    split at h
    · rename_i o i hp
      split at h
      · rename_i B l ro1 ho
        obtain⟨m,hm,h⟩:=bnd h
        obtain⟨⟨ag,sz⟩,hsh,h⟩:=bnd h
        obtain⟨hc,h⟩:=bm_ h
        simp only[a1_] at hc
        have c1:=a4_ hc.1.1
        have c2:=b7_ hc.1.2
        refine⟨_,h,⟨bi_ (by simp),cg_ ho ⟨_,rfl,ab4,λj hj=>ab3 (bg_ hc.2 j hj)⟩,λhs hw=>ce2 ho (by simp) hw (bo2 (hw _ (b2_ ho)) (sh_ (hj_ hs vx) hm)),λ_ _=>rfl,λ{S hv Fm f w nn ro K} hs hd kk => ?_⟩⟩
        obtain⟨L,hI,h2⟩:=hs.at ho
        obtain⟨g,cs,e1,hf,hI⟩:=ve_ hI
        have hpv:=hs.ev px
        rw[hp] at hpv
        have hv1:ev f px=az_ (hv o) i:=hpv.2.2
        rw[e1] at hv1
        simp only[az_,fw_,b0_] at hv1
        have hmv:=sg_ (hs.ev vx) hm
        have hl:=hmv.len
        have hl2:=hf.len
        have hsz:(ev f vx).cells.size=sz:=by
          have:(ev f vx).cells.size=m.length:=by rw[hl];simp
          rw[this,← c1]
        refine ci4 (cs:=cs.toArray) (yp_ hsh) hI hv1 rfl hsz (by simp;omega) (f0_.2 λu hu=>fa_one hmv u hu) λw' hI' => ?_
        refine kk undef S hv w' (PH.Le.refl _) (λ_ _=>rfl) trivial (ab2 (a:=.cells B (putL l i m) ro1) h2 (Inv.shut (A:=ao7 _ _ _ _) hI' ⟨g,putL cs i (ev f vx).cells.toList,e1,hf.putL hmv,?_⟩))
        rw[← mm_ _ _ _ (by simp;omega)]
        have e4:(cs.toArray.toList.take i++(ev f vx).cells.toList++cs.toArray.toList.drop (i+(ev f vx).cells.toList.length))=putL cs i (ev f vx).cells.toList:=by
          rw[ab5]
          · rw[← hl];omega
        rw[e4]
      · cases h
    · cases h
end
end
section
variable [Gb]
def capS:List AV→Option (List SV)
  | []=>some []
  | .b (.one s)::l=>(capS l).bind λr=>some (s::r)
  | _=>none
abbrev mapV (o:Nat):AV:=.b (.one (.map o))
section
variable {ρ:Type}
def updM (P:Program) [Tb P] (T:TypeId) (m x y:AV) (objs:List AO) (k:List AO→Option ρ):Option ρ:=(bh0 P T).bind λq=>match m with
  | .b (.one (.map o))=>match objs[o]? with
    | some (.map kt vt l false)=>cond (bu2 P q.1 kt) ((asD kt x).bind λa=>(asD vt y).bind λb=>k (objs.set o (.map kt vt (setD l a b) false))) none
    | _=>none
  | _=>none
def delM (P:Program) [Tb P] (T:TypeId) (m x:AV) (objs:List AO) (k:List AO→Option ρ):Option ρ:=(bh0 P T).bind λq=>match m with
  | .b (.one (.map o))=>match objs[o]? with
    | some (.map kt vt l false)=>cond (bu2 P q.1 kt) ((asD kt x).bind λa=>k (objs.set o (.map kt vt (delD l a) false))) none
    | _=>none
  | _=>none
def isX:Op→Bool
  | .makeFunc _ _ _ | .makeMap _ _ | .mapUpdate _ _ _ _ | .insert _ _ _ _=>true
  | .call ⟨.builtin .delete,_,_⟩=>true
  | _=>false
def cf2 (P:Program) [Tb P] (o:Oper) (sl:Nat→AV) (objs:List AO) (fr:Nat) (k:AV→List AO→Option ρ):Option ρ:=match o.op with
  | .makeFunc (.func f) ⟨[]⟩ ⟨ca⟩=>match capD (ca.map (evA sl)) with
    | some d=>k (.b (.one (.val (.clo f d.t) d.x))) objs
    | none=>(capS (ca.map (evA sl))).bind λl=>xy_ objs fr (.fn (.func f) [] l) (.b (.one (.fn fr))) k
  | .makeMap T none=>match o.dst with
    | some _=>(bh0 P T).bind λq=>(be6 P 20 q.1).bind λkt=>(be6 P 20 q.2).bind λvt=>xy_ objs fr (.map kt vt [] false) (mapV fr) k
    | none=>none
  | .mapUpdate T x y z=>match o.dst with
    | none=>updM P T (evA sl x) (evA sl y) (evA sl z) objs λob=>k (.b .dead) ob
    | some _=>none
  | .insert T x y z=>match o.dst with
    | none=>updM P T (evA sl x) (evA sl y) (evA sl z) objs λob=>k (.b .dead) ob
    | some _=>none
  | .call ⟨.builtin .delete,⟨[x,y]⟩,⟨[T,_]⟩⟩=>delM P T (evA sl x) (evA sl y) objs λob=>k (.b .dead) ob
  | _=>none
end
section
variable {ρ:Type} {P:Program} [Tb P] {objs:List AO} {r:ρ} {sl:Nat→AV} {fr:Nat} {k:AV→List AO→Option ρ}
theorem inv_add {w:World} {S:PH} {O:List HP} {A:HP} (h:Inv w S O) (hA:A.p S Hp.emp):Inv w S (A::O) :=
  ⟨h.os,h.out,Hp.emp,hA,λb=>.inl rfl,by
    have e:Hp.un Hp.emp S.m=S.m:=by funext b;simp[Hp.un,Hp.emp]
    rw[e]
    exact h.own⟩
theorem au6 {hv:Nat→Value} {S:PH}:∀ {l:List AV} {vs:List Value} {cs:List SV},capS l=some cs→Fa (RA hv S) l vs→Fa (RS hv S) cs vs∧∀ n,(∀ a ∈ l,a.lt n=true)→em_ (SV.lt n) cs=true
  | [],[],cs,h,_=>by cases h;exact⟨trivial,λ_ _=>rfl⟩
  | a::l,v::vs,cs,h,hf=>by
    unfold capS at h
    split at h
    · rename_i e;cases e
    · rename_i s l' e
      cases e
      obtain⟨q,h1,h⟩:=bnd h
      cases h
      obtain⟨g1,g2⟩:=au6 h1 hf.2
      refine⟨⟨hf.1,g1⟩,λn hn => ?_⟩
      simp only[em_,a1_]
      exact⟨hn (.b (.one s)) (by simp),g2 n λa ha=>hn a (by simp[ha])⟩
    · cases h
theorem bj9 {m x y:Operand} {T:TypeId} {kk:List AO→Option ρ} (h:updM P T (evA sl m) (evA sl x) (evA sl y) objs kk=some r):∃ ob,kk ob=some r∧BLe objs ob∧Keep objs ob∧(WfO objs→WfO ob) ∧
    ∀ {S:PH} {hv:Nat→Value} {Fm:List HP} {f:Fr} {w:World},Sit S hv Fm sl objs f w→∃ w',(Instr.mapUpdate T (ev f m) (ev f x) (ev f y)).run P w = .ok () w'∧Inv w' S (OHs hv 0 ob++Fm):=by
  obtain⟨⟨kT,vT⟩,hq,h⟩:=bnd h
  have hT:=ac9 hq
  split at h
  · rename_i o hm
    split at h
    · rename_i kt vt l ho
      obtain⟨hk,h⟩:=bm_ h
      obtain⟨a,ha,h⟩:=bnd h
      obtain⟨b,hb,h⟩:=bnd h
      refine⟨_,h,bi_ (by simp),cg_ ho trivial,λhw=>ce2 ho (by simp) hw rfl,λ{S hv Fm f w} hs => ?_⟩
      obtain⟨L,hI,h2⟩:=hs.at ho
      obtain⟨hh,⟨g,e1,e2⟩,hI2⟩:=hI.open_
      have hI3:Inv w S (MapB g l::(L++Fm)):=hI2.shut e2
      have hxv:=hs.ev m
      rw[hm] at hxv
      have e3:ev f m = .map (some g):=hxv.2.trans e1
      obtain⟨w',g1,g2⟩:=@ab0 P w _ _ T kT vT kt.den vt.den kt.enc vt.enc kt.deq S _ l g a b hT (ad4 hk) hI3 (fx_ (hs.ev x) ha) (fx_ (hs.ev y) hb)
      refine⟨w',by rw[e3];exact g1,ab2 (a:=.map kt vt (setD l a b) false) h2 ?_⟩
      obtain⟨hh2,q1,q2⟩:=g2.open_
      exact q2.shut (A:=bi8 _ _ _ _) ⟨g,e1,q1⟩
    · cases h
  · cases h
theorem cf1 {o:Oper} (h:cf2 P o sl objs fr k=some r):∃ av objs',k av objs'=some r∧OpOk P o sl objs av objs':=by
  obtain⟨dd,op,ty,pos,af,gd⟩:=o
  unfold cf2 at h
  simp only at h
  split at h
  · rename_i f0 ca
    split at h
    · rename_i d hd
      exact⟨_,_,h,.pure (λ_ _=>rfl) λ{S hv Fm f w} hs=>⟨.func (.func f0) #[] (ca.map (ev f)).toArray,by simp[execOp,Instr.makeFunc],rfl,rfl,[.func (.func f0) #[] (ca.map (ev f)).toArray],⟨_,rfl,ag6 hd (ae8 hs ca)⟩,rfl⟩⟩
    · obtain⟨l,hl,h⟩:=bnd h
      obtain⟨hu,h⟩:=fl_ h
      refine⟨_,_,h,OpOk.new hu (by simp) (λhs _ => ?_) (ih_ hu (by simp)) λ{S hv Fm f w n ro K} hs hd kk => ?_⟩
      · have e:em_ (SV.lt objs) l=true:=by
          have hx:Fa (RA (λ_=>undef) ⟨Hp.emp,default,#[]⟩) (ca.map (evA sl)) (ca.map (evA sl) |>.map λ_=>undef)→True:=λ_=>trivial
          have gen:∀ {as:List AV} {cs:List SV},capS as=some cs→(∀ a ∈ as,a.lt objs=true)→em_ (SV.lt objs) cs=true:=by
            intro as
            induction as with
            | nil=>intro cs h _;cases h;rfl
            | cons a as ih =>
              intro cs h hn
              unfold capS at h
              split at h
              · rename_i e;cases e
              · rename_i s l' e
                cases e
                obtain⟨q,h1,h⟩:=bnd h
                cases h
                simp only[em_,a1_]
                exact⟨hn (.b (.one s)) (by simp),ih h1 λa ha=>hn a (by simp[ha])⟩
              · cases h
          exact gen hl λa ha=>by
            obtain⟨x,_,rfl⟩:=d0_.1 ha
            exact hj_ hs x
        simp only[AO.lt,em_,e,Bool.and_self]
      · have hf:=(au6 hl (ae8 hs ca)).1
        refine jz_ hd (w':=w) (v:=.func (.func f0) #[] (ca.map (ev f)).toArray) (by simp[execOp,Instr.makeFunc]) (kk _ w rfl ?_ ⟨rfl,(ci_ hv fr _).symm⟩)
        refine inv_add hs.inv ⟨rfl,[],ca.map (ev f),rfl,trivial,?_⟩
        refine fa_ag (mz_ (cm_ hu)) ?_ hf
        exact (au6 hl (ae8 hs ca)).2 objs λa ha=>by
          obtain⟨x,_,rfl⟩:=d0_.1 ha
          exact hj_ hs.wfs x
  · rename_i T
    split at h
    · rename_i d
      obtain⟨⟨kT,vT⟩,hq,h⟩:=bnd h
      obtain⟨kt,hkt,h⟩:=bnd h
      obtain⟨vt,hvt,h⟩:=bnd h
      obtain⟨hu,h⟩:=fl_ h
      refine⟨_,_,h,OpOk.new hu (by simp) (λ_ _=>rfl) (ih_ hu (by simp)) λ{S hv Fm f w n ro K} hs hd kk => ?_⟩
      refine @bg8 ro P n f w K d ty pos af gd T kt.den vt.den kt.enc vt.enc S _ hd hs.inv λg w' hI => ?_
      refine kk (.map (some g)) w' rfl ?_ ⟨rfl,(ci_ hv fr _).symm⟩
      obtain⟨hh2,q1,q2⟩:=hI.open_
      exact q2.shut (A:=bi8 _ _ _ _) ⟨g,rfl,q1⟩
    · cases h
  · rename_i T x y z
    split at h
    · obtain⟨ob,h1,g1,g2,g3,g4⟩:=bj9 h
      refine⟨_,_,h1,⟨g1,g2,λ_ hw=>g3 hw,λ_ _=>rfl,λ{S hv Fm f w n ro K} hs hd kk => ?_⟩⟩
      obtain⟨w',q1,q2⟩:=g4 hs
      exact ab9 (by simp[execOp,q1]) (kk undef S hv w' (PH.Le.refl _) (λ_ _=>rfl) trivial q2)
    · cases h
  · rename_i T x y z
    split at h
    · obtain⟨ob,h1,g1,g2,g3,g4⟩:=bj9 h
      refine⟨_,_,h1,⟨g1,g2,λ_ hw=>g3 hw,λ_ _=>rfl,λ{S hv Fm f w n ro K} hs hd kk => ?_⟩⟩
      obtain⟨w',q1,q2⟩:=g4 hs
      exact ab9 (by simp[execOp,q1]) (kk undef S hv w' (PH.Le.refl _) (λ_ _=>rfl) trivial q2)
    · cases h
  · rename_i x y T T2
    obtain⟨⟨kT,vT⟩,hq,h⟩:=bnd h
    have hT:=ac9 hq
    split at h
    · rename_i o hm
      split at h
      · rename_i kt vt l ho
        obtain⟨hk,h⟩:=bm_ h
        obtain⟨a,ha,h⟩:=bnd h
        refine⟨_,_,h,⟨bi_ (by simp),cg_ ho trivial,λ_ hw=>ce2 ho (by simp) hw rfl,λ_ _=>rfl,λ{S hv Fm f w n ro K} hs hd kk => ?_⟩⟩
        obtain⟨L,hI,h2⟩:=hs.at ho
        obtain⟨hh,⟨g,e1,e2⟩,hI2⟩:=hI.open_
        have hI3:Inv w S (MapB g l::(L++Fm)):=hI2.shut e2
        have hxv:=hs.ev x
        rw[hm] at hxv
        have e3:ev f x = .map (some g):=hxv.2.trans e1
        obtain⟨w',g1,g2⟩:=@bf3 P w _ T kT vT kt.den vt.den kt.enc vt.enc kt.deq S _ l g a T2 ty hT (ad4 hk) hI3 (fx_ (hs.ev y) ha)
        refine jz_ hd (w':=w') (v:=.tuple #[]) (by simp[execOp,e3,resolve,invoke,builtin,g1]) ?_
        refine kk (.tuple #[]) S hv w' (PH.Le.refl _) (λ_ _=>rfl) trivial (ab2 (a:=.map kt vt (delD l a) false) h2 ?_)
        obtain⟨hh2,q1,q2⟩:=g2.open_
        exact q2.shut (A:=bi8 _ _ _ _) ⟨g,e1,q1⟩
      · cases h
    · cases h
  · cases h
end
end
section
variable [Gb]
def zNil (P:Program) [Tb P] (E:TypeId) (off:Nat):Bool:=match inf P E with
  | some i=>match i.zero with
    | some z=>match z.cells.toList[off]? with
      | some (.slice none 0 0)=>true
      | _=>false
    | none=>false
  | none=>false
def tidQ (P:Program) [Tb P]:TypeId→List Nat→Option TypeId
  | E,[]=>elemOf P E
  | E,k::q=>match und P E with
    | some (.struct fs)=>(fs[k]?).bind λf=>tidQ P f.type q
    | _=>none
def isE {α:Type}:Option (List α)→Bool
  | some []=>true
  | _=>false
def nilAt (off:Nat) (a:AV):Bool:=match zq_ a with
  | some l=>match l[off]? with
    | some .nils=>true
    | _=>false
  | none=>false
def unL:Ty→Option Ty
  | .list u=>some u
  | _=>none
def isGn (o:Oper):Option (List Nat):=match o.op,o.dst with
  | .makeSlice T _ _,some d=>Gb.gd (cdN T d 0)
  | .buildSlice T _ _,some d=>Gb.gd (cdN T d 0)
  | _,_=>none
def cl0 (o:Oper):Bool:=match o.op with
  | .load T (.tmp t)=>match o.dst with
    | some d=>Gb.gl (cdN T d t)
    | none=>false
  | .store T (.tmp p) (.tmp v)=>Gb.gl (cdN T p v)
  | _=>false
section
variable {ρ:Type}
def newG (P:Program) [Tb P] (q:List Nat) (o:Oper) (sl:Nat→AV) (objs:List AO) (fr:Nat) (k:AV→List AO→Option ρ):Option ρ:=match o.op with
  | .makeSlice T x y=>match o.dst with
    | some _=>(elemOf P T).bind λE=>(be6 P 20 E).bind λt=>(qy_ P E t).bind λzd=>(asD .int (evA sl x)).bind λc=>((tyP t q).bind unL).bind λu=>(tidQ P E q).bind λTi =>
        cond (cg0 x y&&zNil P E (ka_ t q)&&Nat.blt (ka_ t q) t.sz&&isE (xz_ u t q zd)) ((mk? c zd).bind λl=>xy_ objs fr (.grid ⟨t,u,q,E,Ti⟩ l none false) (yd_ fr) k) none
    | none=>none
  | .buildSlice T n ⟨ps⟩=>match o.dst with
    | some _=>(elemOf P T).bind λE=>(be6 P 20 E).bind λt=>(qy_ P E t).bind λzd=>((tyP t q).bind unL).bind λu=>(tidQ P E q).bind λTi =>
        cond (wu_ 0 ps&&Nat.beq ps.length n&&Nat.ble n 65536&&Nat.ble (n * t.sz) 65536&&t.agg&&Nat.blt (ka_ t q) t.sz&&em_ (nilAt (ka_ t q)) (ps.map λp=>evA sl p.2))
        ((lits t (ps.map λp=>evA sl p.2)).bind λl=>cond (em_ (λx=>isE (xz_ u t q x)) l) (xy_ objs fr (.grid ⟨t,u,q,E,Ti⟩ l none false) (yd_ fr) k) none) none
    | none=>none
  | _=>none
def takeG (P:Program) [Tb P] (T:TypeId) (p:AV) (objs:List AO) (fr:Nat) (k:AV→List AO→Option ρ) (els:Option ρ):Option ρ:=match p with
  | .b (.one (.ptrE o i n z q))=>match objs[o]? with
    | some (.grid G ls none false)=>cond (eqL q G.q&&Nat.beq n (ka_ G.t G.q)&&Nat.beq z G.t.sz&&au3 P T (.list G.u)&&isUn objs fr) ((at? ls i).bind λx=>(xz_ G.u G.t G.q x).bind λl =>
        k (yd_ fr) (((objs.set o .gone).set fr (.row G.u G.Ti l false)).set o (.grid G ls (some (i,fr,x)) false))) none
    | _=>els
  | _=>els
def cs3 (G:GD) (h:G.Hole) (i:Int) (objs:List AO):Bool:=match h with
  | none=>true
  | some p=>(i==p.1)&&(match objs[p.2.1]? with
    | some .gone=>true
    | _=>false)
def putG (P:Program) [Tb P] (T:TypeId) (p v:AV) (objs:List AO) (k:AV→List AO→Option ρ) (els:Option ρ):Option ρ:=match p with
  | .b (.one (.ptrE o i n z q))=>match objs[o]? with
    | some (.grid G ls h false)=>match v with
      | .b (.one (.row o2))=>match objs[o2]? with
        | some (.row t2 T2 l2 false)=>cond (eqL q G.q&&Nat.beq n (ka_ G.t G.q)&&Nat.beq z G.t.sz&&au3 P T (.list G.u)&&Nat.beq T2 G.Ti&&cs3 G h i objs) ((ag5 t2 G.u l2).bind λm=>(at? ls i).bind λx=>(tn_ G.u G.t G.q x m).bind λx' =>
            k (.b .dead) ((objs.set o2 .gone).set o (.grid G (ls.set i.toNat x') none false))) none
        | _=>none
      | _=>none
    | _=>els
  | _=>els
def ai6 (ob:List AO) (o:Nat):List AO:=match ob[o]? with
  | some (.grid G ls (some (i,o2,x)) false)=>match ob[o2]? with
    | some (.row t2 T2 l2 false)=>cond (Nat.beq T2 G.Ti) (match ag5 t2 G.u l2 with
      | some m=>match tn_ G.u G.t G.q x m with
        | some x'=>(ob.set o2 .gone).set o (.grid G (ls.set i.toNat x') none false)
        | none=>ob
      | none=>ob) ob
    | _=>ob
  | _=>ob
def vu_ (ob:List AO):Nat→List AO
  | 0=>ob
  | k+1=>ai6 (vu_ ob k) k
end
theorem rc_of {S:PH} {t:Ty} {cs:List Value} {x:t.den} (h:t.enc.rep S cs x):∃ e:RC t.sz,e.cs=cs:=⟨⟨cs,by rw[← cc_];exact Enc.len (α:=t.den) h,Enc.cell1 (α:=t.den) h⟩,rfl⟩
theorem cd9 {P:Program} [Tb P] {E:TypeId} {t:Ty} {zd:t.den} {off:Nat} (h:qy_ P E t=some zd) (hn:zNil P E off=true) :
    ∃ bytes z,∃ e:RC t.sz,Elem P (RC t.sz) E bytes z e∧bytes≤65536∧e.cs[off]?=some (.slice none 0 0)∧∀ S,t.enc.rep S e.cs zd:=by
  obtain⟨i,h1,h⟩:=bnd h
  obtain⟨z,h2,h⟩:=bnd h
  unfold zNil at hn
  rw[h1] at hn
  simp only[h2] at hn
  have h1:=wt_ h1
  cases hc:Nat.beq i.size t.sz&&Nat.ble i.bytes 65536 with
  | false=>rw[hc] at h;cases h
  | true =>
    rw[hc] at h
    simp only[a1_] at hc
    have hr:∀ S,RVt t S z zd:=λS=>fx_ (hv:=λ_=>undef) (ay7 z) h
    have hs:i.size=t.sz:=a4_ hc.1
    have hrep:∀ S,t.enc.rep S z.cells.toList zd:=λS=>(hr S).cells
    obtain⟨e,he⟩:=rc_of (hrep ⟨Hp.emp,default,#[]⟩)
    refine⟨i.bytes,z,e,⟨i,h1,h2,hs,rfl,?_,λS=>he.symm⟩,b7_ hc.2,?_,λS=>by rw[he];exact hrep S⟩
    · have:=e.len
      rw[he] at this
      show z.cells.size=t.sz
      simpa using this
    · rw[he]
      split at hn
      · rename_i e2;exact e2
      · cases hn
theorem at6 {G:GD} {x:G.t.den} (h:isE (xz_ G.u G.t G.q x)=true):xz_ G.u G.t G.q x=some (G.get x)∧G.get x=[]:=by
  unfold GD.get
  unfold isE at h
  split at h
  · rename_i e;rw[e];exact⟨rfl,rfl⟩
  · cases h
theorem ct5 {S:PH} {G:GD} {e:RC G.t.sz} {x:G.t.den} (hlt:ka_ G.t G.q<G.t.sz) (hr:G.t.enc.rep S e.cs x) (hg:xz_ G.u G.t G.q x=some (G.get x)):ElR S G e x :=
  ⟨elOk_of G.t G.q x _ hg e.cs hr,by rw[e.len];exact hlt,hg⟩
theorem bc9 {G:GD} {e:RC G.t.sz} (h:e.cs[ka_ G.t G.q]?=some (.slice none 0 0)):G.cell e = .slice none 0 0:=by
  unfold GD.cell
  rw[h8_,h]
  rfl
theorem aq7 {α β:Type} {R:β→α→Prop} {y:β} {x:α} (h:R y x):∀ k,Rel R (List.replicate k y) (List.replicate k x)
  | 0=>trivial
  | k+1=>⟨h,aq7 h k⟩
section
variable {S:PH} {hv:Nat→Value} {off:Nat} {t:Ty}
theorem bt2 (hag:t.agg=true) {p:t.den→Bool}:∀ {as:List AV} {vs:List Value} {l:List t.den},lits t as=some l→Fa (RA hv S) as vs→em_ (nilAt off) as=true →
    ∃ es:List (RC t.sz),RVs S vs es∧Rel (λe x=>t.enc.rep S e.cs x∧e.cs[off]?=some (.slice none 0 0)) es l
  | [],[],_,h,_,_=>by cases h;exact⟨[],trivial,trivial⟩
  | a::as,v::vs,l,h,hf,hn=>by
    obtain⟨x,hx,h⟩:=bnd h
    obtain⟨r,hr,h⟩:=bnd h
    cases h
    simp only[em_,a1_] at hn
    obtain⟨es,g1,g2⟩:=bt2 hag (p:=p) hr hf.2 hn.2
    have hv1:=fx_ hf.1 hx
    obtain⟨e,he⟩:=rc_of hv1.cells
    have hnil:e.cs[off]?=some (.slice none 0 0):=by
      rw[he]
      have h2:=hn.1
      unfold nilAt at h2
      split at h2
      · rename_i l2 hl2
        have hf2:=sg_ hf.1 hl2
        split at h2
        · rename_i e3
          obtain⟨c,hc,hrs⟩:=hf2.get e3
          rw[hc]
          exact congrArg some hrs.2
        · cases h2
      · cases h2
    have hvm:v=mkV true e.cs:=by
      obtain⟨cs,hc1,hc2⟩:=hv1
      have e1:Enc.agg t.den=true:=by rw[iv_];exact hag
      rw[e1] at hc2
      rw[hc2]
      rw[hc2] at he
      have:(mkV true cs).cells.toList=cs:=by simp[mkV,Value.cells]
      rw[this] at he
      rw[he]
    exact⟨e::es,⟨⟨e.cs,rfl,hvm⟩,g1⟩,⟨by rw[he];exact hv1.cells,hnil⟩,g2⟩
end
theorem bn4 {α β:Type} {R R':β→α→Prop} {p:α→Bool} (h:∀ y x,R y x→p x=true→R' y x):∀ {m:List β} {l:List α},Rel R m l→em_ p l=true→Rel R' m l
  | [],[],_,_=>trivial
  | _::_,_::_,hr,hp=>by
    simp only[em_,a1_] at hp
    exact⟨h _ _ hr.1 hp.1,bn4 h hr.2 hp.2⟩
section
variable {ρ:Type} {P:Program} [Tb P] {objs:List AO} {r:ρ} {sl:Nat→AV} {fr:Nat} {k:AV→List AO→Option ρ}
theorem grid_new {S:PH} {hv:Nat→Value} {O:List HP} {w:World} {G:GD} {l:List G.t.den} {u:Value} (hI:Inv w S (jo_ hv u G l none::O)):u.oneCell'=true∧RA (ins hv fr u) S (yd_ fr) u∧Inv w S (OH (ins hv fr u) u (.grid G l none false)::O):=by
  obtain⟨a,cap,e,_⟩:=Inv.gridForm hI
  have h1:u.oneCell'=true:=by rw[e];rfl
  refine⟨h1,⟨h1,(ci_ hv fr u).symm⟩,?_⟩
  have:OH (ins hv fr u) u (.grid G l none false)=OH hv u (.grid G l none false):=OH.ag (n:=[]) (λi h=>by cases h) (λi h=>by cases h) rfl
  rw[this]
  exact hI
theorem newG_ok {q:List Nat} {o:Oper} (h:newG P q o sl objs fr k=some r):∃ av objs',k av objs'=some r∧OpOk P o sl objs av objs':=by
  obtain⟨dd,op,ty,pos,af,gd⟩:=o
  unfold newG at h
  simp only at h
  split at h
  · rename_i T x y
    split at h
    · rename_i d
      obtain⟨E,hE,h⟩:=bnd h
      obtain⟨t,ht,h⟩:=bnd h
      obtain⟨zd,hz,h⟩:=bnd h
      obtain⟨c,hc,h⟩:=bnd h
      obtain⟨u,hu0,h⟩:=bnd h
      obtain⟨Ti,hTi,h⟩:=bnd h
      obtain⟨hb,h⟩:=bm_ h
      simp only[a1_] at hb
      obtain⟨⟨⟨b1,b2⟩,b3⟩,b4⟩:=hb
      have exy:=ax1 b1
      have hlt:ka_ t q<t.sz:=b7_ b3
      obtain⟨l,hl,h⟩:=bnd h
      obtain⟨hu,h⟩:=fl_ h
      refine⟨_,_,h,OpOk.new hu (by simp) (λ_ _=>rfl) (ih_ hu (by simp)) λ{S hv Fm f w nn ro K} hs hd kk => ?_⟩
      obtain⟨bytes,zv,e,h1,h2,h3,h4⟩:=cd9 hz b2
      obtain⟨g1,g2,g3⟩:=ac7 hl
      refine @tw_ ro P nn f w K d ty pos af gd x y T E (RC t.sz) _ S _ bytes zv e c (List.replicate c.toNat e) hd (fh_ hE) h1 h2 (dp_ (hs.ev x) hc) (by rw[← exy];exact dp_ (hs.ev x) hc) hs.inv (by unfold mk?; rw[if_pos ⟨g1,g2⟩]) λv w' hI => ?_
      have hg:=at6 (G:=⟨t,u,q,E,Ti⟩) b4
      have hI2:Inv w' S (jo_ hv v ⟨t,u,q,E,Ti⟩ l none::(OHs hv 0 objs++Fm)):=by
        subst g3
        exact Inv.gridFresh (G:=⟨t,u,q,E,Ti⟩) (aq7 (ct5 (G:=⟨t,u,q,E,Ti⟩) hlt (h4 S) hg.1) _) (aq7 ⟨bc9 (G:=⟨t,u,q,E,Ti⟩) h3,hg.2⟩ _) hI
      obtain⟨k1,k2,k3⟩:=grid_new (fr:=fr) hI2
      exact kk v w' k1 k3 k2
    · cases h
  · rename_i T n ps
    split at h
    · rename_i d
      obtain⟨E,hE,h⟩:=bnd h
      obtain⟨t,ht,h⟩:=bnd h
      obtain⟨zd,hz,h⟩:=bnd h
      obtain⟨u,hu0,h⟩:=bnd h
      obtain⟨Ti,hTi,h⟩:=bnd h
      obtain⟨hb,h⟩:=bm_ h
      simp only[a1_] at hb
      obtain⟨⟨⟨⟨⟨⟨b1,b2⟩,b3⟩,b4⟩,b5⟩,b6⟩,b7⟩:=hb
      have hlt:ka_ t q<t.sz:=b7_ b6
      obtain⟨l,hl,h⟩:=bnd h
      obtain⟨b8,h⟩:=bm_ h
      obtain⟨hu,h⟩:=fl_ h
      refine⟨_,_,h,OpOk.new hu (by simp) (λ_ _=>rfl) (ih_ hu (by simp)) λ{S hv Fm f w nn ro K} hs hd kk => ?_⟩
      obtain⟨i,i1,hz⟩:=bnd hz
      obtain⟨z,i2,hz⟩:=bnd hz
      cases hc:Nat.beq i.size t.sz&&Nat.ble i.bytes 65536 with
      | false=>rw[hc] at hz;cases hz
      | true =>
      rw[hc] at hz
      simp only[a1_] at hc
      have hzr:t.enc.rep S z.cells.toList zd:=(fx_ (hv:=λ_=>undef) (S:=S) (ay7 z) hz).cells
      obtain⟨ze,hze⟩:=rc_of hzr
      have hEl:Elem P (RC t.sz) E i.bytes z ze:=⟨i,wt_ i1,i2,a4_ hc.1,rfl,by have:=ze.len;rw[hze] at this;show z.cells.size=t.sz;simpa using this,λS=>hze.symm⟩
      obtain⟨es,e1,e2⟩:=bt2 (S:=S) (hv:=hv) (off:=ka_ t q) b5 (p:=λ_=>true) hl (bx2 hs ps) b7
      have hlen:=a4_ b2
      refine @rq_ ro P nn f w K d ty pos af gd T E (RC t.sz) _ S _ i.bytes z ze ps (ps.map λp=>ev f p.2) n es hd (fh_ hE) hEl (by rw[sz_ b1]) (by simpa using hlen) (b7_ b4) (b7_ b3) e1 hs.inv λv w' hI => ?_
      have hI2:Inv w' S (jo_ hv v ⟨t,u,q,E,Ti⟩ l none::(OHs hv 0 objs++Fm)) :=
        Inv.gridFresh (G:=⟨t,u,q,E,Ti⟩) (bn4 (p:=λx=>isE (xz_ u t q x)) (λe x hR hp=>ct5 (G:=⟨t,u,q,E,Ti⟩) hlt hR.1 (at6 (G:=⟨t,u,q,E,Ti⟩) hp).1) e2 b8)
          (bn4 (p:=λx=>isE (xz_ u t q x)) (λe x hR hp=>⟨bc9 (G:=⟨t,u,q,E,Ti⟩) hR.2,(at6 (G:=⟨t,u,q,E,Ti⟩) hp).2⟩) e2 b8) hI
      obtain⟨k1,k2,k3⟩:=grid_new (fr:=fr) hI2
      exact kk v w' k1 k3 k2
    · cases h
  · cases h
theorem vb_ {l:List AO} (hw:WfO l) {o:Nat} {a:AO} (ho:l[o]?=some a):WfO (l.set o .gone):=du_ (by simp) hw rfl
theorem OHs.at2 {hv:Nat→Value} {S:PH} {w:World} {Fm:List HP} {ob:List AO} {o:Nat} {a b:AO} (ho:ob[o]?=some a) (h:Inv w S (OHs hv 0 ob++Fm)):∃ L,Inv w S (OH hv (hv o) a::(L++Fm))∧∀ b,(OHs hv 0 (ob.set o b)).Perm (OH hv (hv o) b::L):=by
  obtain⟨L,h1,h2⟩:=OHs.focus (hv:=hv) (i:=0) ho
  rw[b0_] at h1 h2
  exact⟨L,h.perm (h1.append_right Fm),h2⟩
theorem ce7 {T:TypeId} {x:Operand} {d:Option Nat} {ty:TypeId} {pos:String} {af:Array Edge} {gd:Option (Nat×Bool)} {els:Option ρ} (h:takeG P T (evA sl x) objs fr k els=some r) :
    els=some r∨∃ av objs',k av objs'=some r∧OpOk P ⟨d,.load T x,ty,pos,af,gd⟩ sl objs av objs':=by
  unfold takeG at h
  split at h
  · rename_i o i n z q hp
    split at h
    · rename_i G ls ho
      right
      obtain⟨hc,h⟩:=bm_ h
      simp only[a1_] at hc
      obtain⟨⟨⟨⟨c0,c1⟩,c2⟩,c3⟩,hu⟩:=hc
      have c1:=a4_ c1
      have c2:=a4_ c2
      obtain⟨y,hy,h⟩:=bnd h
      obtain⟨l,hl,h⟩:=bnd h
      have hun:=cm_ hu
      have hne:o≠fr:=by
        rintro rfl
        rw[hun] at ho
        cases ho
      have hlt:=(a3_.1 ho).1
      have hun2:(objs.set o .gone)[fr]?=some .unborn:=by rw[b6_ hne];exact hun
      have hog:((objs.set o AO.gone).set fr (.row G.u G.Ti l false))[o]?=some .gone:=by rw[b6_ (o1_ hne),e3_ hlt]
      have hbf:born (((objs.set o AO.gone).set fr (.row G.u G.Ti l false)).set o (.grid G ls (some (i,fr,y)) false)) fr=true:=by
        have hf:fr<(objs.set o AO.gone).length:=(a3_.1 hun2).1
        exact ay_.2 ⟨.row G.u G.Ti l false,by rw[b6_ hne,e3_ hf],by simp⟩
      refine⟨_,_,h,⟨(bi_ (by simp)).trans ((bi_ (by simp)).trans (bi_ (by simp))),(cg_ ho trivial).trans ((cg_ hun2 trivial).trans (cg_ hog trivial)),λ_ hw => ?_,λ_ _=>hbf,λ{S hv Fm f w nn ro K} hs hd kk => ?_⟩⟩
      · exact du_ (by simp) (du_ (by simp) (vb_ hw ho) rfl) hbf
      · obtain⟨L,hI,h2⟩:=hs.at ho
        have hI:Inv w S (jo_ hv (hv o) G ls none::(L++Fm)):=hI
        obtain⟨u,u1,u2,⟨b,cap,u3⟩,u4⟩:=Inv.gridTake (fr:=fr) hI hy
        have hpv:=hs.ev x
        rw[hp] at hpv
        have hv1:ev f x=az_ (co_ (hv o) i z) n:=hpv.2.2
        rw[c1,c2] at hv1
        obtain⟨v0,e1,e2⟩:=pb_ (P:=P) (T:=T) (α:=Raw) (w:=w) (hu_ c3) u2
        have e3:v0=u:=rv_raw e2
        subst e3
        have hI2:=u4 (ins hv fr v0) (ci_ hv fr v0)
        have hg:G.get y=l:=by unfold GD.get;rw[hl];rfl
        rw[hg] at hI2
        refine jz_ hd (w':=w) (v:=v0) ?_ (kk v0 S (ins hv fr v0) w (PH.Le.refl _) (mz_ hun) ⟨u1,(ci_ hv fr v0).symm⟩ ?_)
        · simp only[execOp]
          rw[hv1]
          simp only[Sem.run_bind,e1,Result.andThen_ok,Sem.run_pure]
        · have hE:=uz_ hI2
          have hJ:Inv w S (@Row G.u.den G.u.enc G.Ti v0 l::(OHs hv 0 (objs.set o .gone)++(jo_ (ins hv fr v0) (hv o) G ls (some (i,fr,y))::Fm))):=by
            refine hE.perm ?_
            refine (List.Perm.swap _ _ _).trans (List.Perm.cons _ ?_)
            refine List.Perm.trans ?_ ((h2 .gone).symm.append_right _)
            exact List.Perm.cons _ List.perm_middle.symm
          have hA:=hn_ (a:=.row G.u G.Ti l false) (vb_ hs.wfo ho) hun2 (show Inv w S (OH (ins hv fr v0) v0 (.row G.u G.Ti l false)::(OHs hv 0 (objs.set o .gone)++(jo_ (ins hv fr v0) (hv o) G ls (some (i,fr,y))::Fm))) from hJ)
          obtain⟨L2,hL,h3⟩:=OHs.at2 (b:=.gone) hog hA
          have ho2:ins hv fr v0 o=hv o:=by
            show cond (Nat.beq o fr) v0 (hv o)=hv o
            rw[bd4 hne]
            rfl
          have hL2:Inv w S (jo_ (ins hv fr v0) (hv o) G ls (some (i,fr,y))::(L2++Fm)):=(hL.drop).perm d2_
          refine Inv.perm ?_ ((h3 (.grid G ls (some (i,fr,y)) false)).symm.append_right Fm)
          rw[ho2]
          exact hL2
    · exact .inl h
  · exact .inl h
theorem putG_ok {T:TypeId} {px vx:Operand} {ty:TypeId} {pos:String} {af:Array Edge} {gd:Option (Nat×Bool)} {els:Option ρ} (h:putG P T (evA sl px) (evA sl vx) objs k els=some r) :
    els=some r∨∃ av objs',k av objs'=some r∧OpOk P ⟨none,.store T px vx,ty,pos,af,gd⟩ sl objs av objs':=by
  unfold putG at h
  split at h
  · rename_i o i n z q hp
    split at h
    · rename_i G ls hh ho
      right
      split at h
      · rename_i o2 hv2
        split at h
        · rename_i t2 T2 l2 ho2
          obtain⟨hc,hz⟩:=bm_ h
          clear h
          simp only[a1_] at hc
          obtain⟨⟨⟨⟨⟨c0,c1⟩,c2⟩,c3⟩,c4⟩,c5⟩:=hc
          have c1:=a4_ c1
          have c2:=a4_ c2
          have c4:=a4_ c4
          subst c4
          obtain⟨m,hm,h⟩:=bnd hz
          clear hz
          obtain⟨e,hm⟩:=tg_ hm
          subst e
          have hm:m=l2:=hm
          subst hm
          obtain⟨y,hy,h⟩:=bnd h
          obtain⟨x',hx',h⟩:=bnd h
          obtain⟨hi0,hyn⟩:=cb0 hy
          have hne:o≠o2:=by
            rintro rfl
            rw[ho] at ho2
            cases ho2
          have hog:(objs.set o2 AO.gone)[o]?=some (.grid G ls hh false):=by rw[b6_ (o1_ hne)];exact ho
          refine⟨_,_,h,⟨(bi_ (by simp)).trans (bi_ (by simp)),(cg_ ho2 trivial).trans (cg_ hog trivial),λ_ hw=>du_ (by simp) (vb_ hw ho2) rfl,λ_ _=>rfl,λ{S hv Fm f w nn ro K} hs hd kk => ?_⟩⟩
          obtain⟨L1,hI1,p1⟩:=hs.at ho2
          have hE:Inv w S (OHs hv 0 (objs.set o2 .gone)++(@Row G.u.den G.u.enc G.Ti (hv o2) m::Fm)):=by
            refine (uz_ hI1).perm ?_
            refine List.Perm.trans ?_ ((p1 .gone).symm.append_right _)
            refine List.Perm.cons _ ?_
            exact List.perm_middle.symm
          obtain⟨L,hI,p2⟩:=OHs.at2 (b:=.gone) hog hE
          have hI:Inv w S (jo_ hv (hv o) G ls hh::(L++(@Row G.u.den G.u.enc G.Ti (hv o2) m::Fm))):=hI
          have hvx:=hs.ev vx
          rw[hv2] at hvx
          have hu1:(ev f vx).oneCell'=true:=hvx.1
          have hue:ev f vx=hv o2:=hvx.2
          have hI:Inv w S (jo_ hv (hv o) G ls hh::(L++(@Row G.u.den G.u.enc G.Ti (ev f vx) m::Fm))):=by rw[hue];exact hI
          obtain⟨es,r1,r2,r3⟩:=Inv.gridOpenA hI
          obtain⟨e,he,hR⟩:=Rel.get r1 hyn
          have hat:at? es i=some e:=by unfold at?; rw[if_pos hi0];exact he
          have hpv:=hs.ev px
          rw[hp] at hpv
          have hv1:ev f px=az_ (co_ (hv o) i z) n:=hpv.2.2
          rw[c1,c2] at hv1
          obtain⟨b,cap,eform⟩:=@Inv.rowForm G.u.den G.u.enc _ _ _ _ _ _ hI1
          have hcs:(ev f vx).cells.toList=[ev f vx]:=by rw[hue,eform.1];rfl
          refine @qa_ ro P nn f w K ty pos af gd px vx (hv o) (ev f vx) T G.T (RC G.t.sz) _ S _ es i (Enc.sz (Ty.list G.u).den) (ka_ G.t G.q) _ e (e.put (ka_ G.t G.q) (ev f vx) hu1) [] [] [] (hu_ c3) r3 hv1 rfl hat (λcs hcs' => ?_) ?_ λw' hI' => ?_
          · have hcs':cs=e.cs:=hcs'
            subst hcs'
            refine⟨e.cs.take (ka_ G.t G.q),[G.cell e],e.cs.drop (ka_ G.t G.q+1),?_,?_,by rw[hcs];rfl,?_⟩
            · have hd:e.cs.drop (ka_ G.t G.q)=G.cell e::e.cs.drop (ka_ G.t G.q+1):=by
                rw[j1_ hR.lt]
                congr 1
                exact a6_ ((a7_ hR.lt).symm.trans (ag4 hR.lt))
              rw[q0_,← hd,g5_]
            · rw[c9_]
              exact Nat.min_eq_left (g2_ hR.lt)
            · rw[hcs]
              show e.cs.take _++([ev f vx]++e.cs.drop _)=e.cs.set _ _
              rw[List.set_eq_take_append_cons_drop,if_pos hR.lt]
              rfl
          · have:(ev f vx).cells.size=(ev f vx).cells.toList.length:=by simp
            rw[this,hcs]
            rfl
          · have hI2:Inv w' S (Row G.T (hv o) (es.set i.toNat (e.put (ka_ G.t G.q) (ev f vx) hu1))::(inn G hh 0 es ls++(@Row G.u.den G.u.enc G.Ti (ev f vx) m::(L++Fm)))):=by
              exact hI'.perm (List.Perm.cons _ (m3_ _ d2_))
            have hI3:=Inv.gridPut (hv:=hv) r1 he hyn (λkx hk=>by
              cases hh with
              | none=>rfl
              | some p =>
                simp only[cs3,a1_,f4_] at c5
                show Nat.beq kx p.1.toNat=false
                rw[← c5.1]
                exact bd4 hk) hx' hI2
            refine kk undef S hv w' (PH.Le.refl _) (λ_ _=>rfl) trivial ?_
            exact Inv.perm hI3 ((p2 (.grid G (ls.set i.toNat x') none false)).symm.append_right Fm)
        · cases h
      · cases h
    · exact .inl h
  · exact .inl h
theorem ai5 {ob:List AO} {o:Nat}:ai6 ob o=ob∨∃ (G:GD) (ls:List G.t.den) (i:Int) (o2:Nat) (x x':G.t.den) (m:List G.u.den),ob[o]?=some (.grid G ls (some (i,o2,x)) false)∧ob[o2]?=some (.row G.u G.Ti m false)∧tn_ G.u G.t G.q x m=some x'∧ai6 ob o=(ob.set o2 .gone).set o (.grid G (ls.set i.toNat x') none false):=by
  unfold ai6
  split
  · rename_i G ls i o2 x ho
    split
    · rename_i t2 T2 l2 ho2
      cases hc:Nat.beq T2 G.Ti with
      | false=>exact .inl rfl
      | true =>
        have:=a4_ hc
        subst this
        cases hm:ag5 t2 G.u l2 with
        | none=>exact .inl rfl
        | some m =>
          obtain⟨e,hm⟩:=tg_ hm
          subst e
          have hm:m=l2:=hm
          subst hm
          cases hs:tn_ G.u G.t G.q x m with
          | none=>exact .inl (by simp only[a5_,hs])
          | some x'=>exact .inr ⟨G,ls,i,o2,x,x',m,ho,ho2,hs,by simp only[a5_,hs]⟩
    · exact .inl rfl
  · exact .inl rfl
theorem cg7 {S:PH} {hv:Nat→Value} {Fm:List HP} {w:World} {ob:List AO} {o:Nat} (hI:Inv w S (OHs hv 0 ob++Fm)):Inv w S (OHs hv 0 (ai6 ob o)++Fm):=by
  rcases ai5 (ob:=ob) (o:=o) with e | ⟨G,ls,i,o2,x,x',m,ho,ho2,hs,e⟩
  · rw[e];exact hI
  · rw[e]
    have hne:o≠o2:=by
      rintro rfl
      rw[ho] at ho2
      cases ho2
    have hog:(ob.set o2 AO.gone)[o]?=some (.grid G ls (some (i,o2,x)) false):=by rw[b6_ (o1_ hne)];exact ho
    obtain⟨L1,hI1,p1⟩:=OHs.at2 (b:=.gone) ho2 hI
    have hE:Inv w S (OHs hv 0 (ob.set o2 .gone)++(@Row G.u.den G.u.enc G.Ti (hv o2) m::Fm)):=by
      refine (uz_ hI1).perm ?_
      refine List.Perm.trans ?_ ((p1 .gone).symm.append_right _)
      refine List.Perm.cons _ ?_
      exact List.perm_middle.symm
    obtain⟨L,hI2,p2⟩:=OHs.at2 (b:=.gone) hog hE
    have hI3:Inv w S (@Row G.u.den G.u.enc G.Ti (hv o2) m::jo_ hv (hv o) G ls (some (i,o2,x))::(L++Fm)):=hI2.perm ((List.Perm.cons _ d2_).trans (List.Perm.swap _ _ _))
    exact Inv.perm (Inv.gridBack hI3 hs hv) ((p2 (.grid G (ls.set i.toNat x') none false)).symm.append_right Fm)
theorem bf5 {ob:List AO} {o:Nat}:BLe ob (ai6 ob o)∧Keep ob (ai6 ob o)∧(WfO ob→WfO (ai6 ob o)):=by
  rcases ai5 (ob:=ob) (o:=o) with e | ⟨G,ls,i,o2,x,x',m,ho,ho2,hs,e⟩
  · rw[e];exact⟨BLe.refl _,Keep.refl _,λh=>h⟩
  · rw[e]
    have hne:o≠o2:=by
      rintro rfl
      rw[ho] at ho2
      cases ho2
    have hog:(ob.set o2 AO.gone)[o]?=some (.grid G ls (some (i,o2,x)) false):=by rw[b6_ (o1_ hne)];exact ho
    exact⟨(bi_ (by simp)).trans (bi_ (by simp)),(cg_ ho2 trivial).trans (cg_ hog trivial),λhw=>du_ (by simp) (vb_ hw ho2) rfl⟩
theorem uv_ {S:PH} {hv:Nat→Value} {Fm:List HP} {w:World} {ob:List AO} (hI:Inv w S (OHs hv 0 ob++Fm)):∀ n,Inv w S (OHs hv 0 (vu_ ob n)++Fm)
  | 0=>hI
  | n+1=>cg7 (uv_ hI n)
theorem pd_ {ob:List AO}:∀ n,BLe ob (vu_ ob n)∧Keep ob (vu_ ob n)∧(WfO ob→WfO (vu_ ob n))
  | 0=>⟨BLe.refl _,Keep.refl _,λh=>h⟩
  | n+1=>by
    obtain⟨a,b,c⟩:=pd_ (ob:=ob) n
    obtain⟨a',b',c'⟩:=bf5 (ob:=vu_ ob n) (o:=n)
    exact⟨a.trans a',b.trans b',λh=>c' (c h)⟩
end
end
section
variable [Gb]
section
variable {ρ:Type} {P:Program} [Tb P] {objs:List AO} {r:ρ} {sl:Nat→AV} {fr:Nat} {k:AV→List AO→Option ρ} {ty:TypeId} {pos:String} {af:Array Edge} {gd:Option (Nat×Bool)}
theorem ae4 {o:Nat} (hw:WfO objs) {a:AO} (ho:objs[o]?=some a):WfO (objs.set o .gone):=du_ (by simp) hw rfl
theorem appA_ok {T:TypeId} {x y:Operand} {d:Nat} (h:appA P T (evA sl x) (evA sl y) objs fr k=some r) :
    ∃ av objs',k av objs'=some r∧OpOk P ⟨some d,.call ⟨.builtin .append,#[x,y],#[T,T]⟩,ty,pos,af,gd⟩ sl objs av objs':=by
  obtain⟨E,hE,h⟩:=bnd h
  have hE:=fh_ hE
  split at h
  · rename_i hx
    obtain⟨q,hq,h⟩:=bnd h
    obtain⟨c1,h⟩:=bm_ h
    obtain⟨zd,hz,h⟩:=bnd h
    obtain⟨m,hm,h⟩:=bnd h
    obtain⟨hu,h⟩:=fl_ h
    refine⟨_,_,h,OpOk.new hu (by simp) (λ_ _=>rfl) (ih_ hu (by simp)) λ{S hv Fm f w n ro K} hs hd kk => ?_⟩
    obtain⟨bytes,zv,h1,h2,_⟩:=ks_ hz
    have hxv:=hs.ev x
    rw[hx] at hxv
    have hxv:ev f x = .slice none 0 0:=hxv.2
    refine @wf_ ro P n f w K d ty pos af gd x y _ (ev f y) T E q.t.den q.t.enc S _ [] bytes zv zd q.l m #[T,T] hd rfl hE h1 h2 (by rw[cc_];exact b7_ c1) hxv rfl (hs.inv.rowNil) (bl7 hs hq (hs.ev y)) hm λu w' hI => ?_
    obtain⟨g1,g2⟩:=qg_ hI
    exact kk u w' g1 hI g2
  · rename_i o hx
    split at h
    · rename_i t B l ho
      obtain⟨q,hq,h⟩:=bnd h
      obtain⟨m,hm,h⟩:=bnd h
      obtain⟨c1,h⟩:=bm_ h
      simp only[a1_] at c1
      obtain rfl:=a4_ c1.1
      obtain⟨zd,hz,h⟩:=bnd h
      obtain⟨m2,hm2,h⟩:=bnd h
      obtain⟨hu,h⟩:=bm_ h
      have hne:o≠fr:=by rintro rfl;rw[cm_ hu] at ho;cases ho
      have hu2:isUn (objs.set o .gone) fr=true:=by
        unfold isUn
        rw[b6_ hne,cm_ hu]
      refine⟨_,_,h,⟨(bi_ (by simp)).trans (bi_ (by simp)),(cg_ ho trivial).trans (cg_ (cm_ hu2) trivial),λhs hw=>du_ (by simp) (ae4 hw ho) rfl,λ_ _=>ih_ hu2 (by simp),λ{S hv Fm f w n ro K} hs hd kk => ?_⟩⟩
      obtain⟨bytes,zv,h1,h2,_⟩:=ks_ hz
      obtain⟨L,hI,hp⟩:=hs.at ho
      have hxv:=hs.ev x
      rw[hx] at hxv
      have hxv:ev f x=hv o:=hxv.2
      have hsrc:=bl7 hs hq (hs.ev y)
      obtain⟨e1,e2⟩:=gz_ hm
      have hsrc2:@Src t.den t.enc w S (ev f y) m:=by
        obtain⟨qt,ql⟩:=q
        simp only at e1
        subst e1
        rw[e2]
        exact hsrc
      refine @wf_ ro P n f w K d ty pos af gd x y (hv o) (ev f y) T B t.den t.enc S (L++Fm) l bytes zv zd m m2 #[T,T] hd rfl hE h1 h2 (by rw[cc_];exact b7_ c1.2) hxv rfl hI hsrc2 hm2 λu w' hI' => ?_
      obtain⟨g1,g2⟩:=qg_ (hv:=hv) (fr:=fr) hI'
      refine kk u S (ins hv fr u) w' (PH.Le.refl _) (mz_ (cm_ hu)) g2 ?_
      refine hn_ (ae4 hs.wfo ho) (cm_ hu2) ?_
      refine Inv.swap (B:=OH (ins hv fr u) u (.row t B m2 false)) (A:=HP.exact Hp.emp) (O:=L++Fm) ?_ |>.perm ?_
      · exact⟨hI'.os,hI'.out,Hp.emp,rfl,λb=>.inl rfl,by
          have e:Hp.un Hp.emp S.m=S.m:=by funext b;simp[Hp.un,Hp.emp]
          rw[e]
          exact hI'.own⟩
      · have:=(hp .gone).symm
        exact (this.append_right Fm).cons _
    · cases h
  · cases h
theorem cutA_ok {T:TypeId} {x y:Operand} {d o:Nat} {a:Int} (hx:evA sl x = .b (.one (.row o))) (hy:asD .int (evA sl y)=some a) (h:cutA P T o a objs fr k=some r) :
    ∃ av objs',k av objs'=some r∧OpOk P ⟨some d,.slice T x (some y) none none,ty,pos,af,gd⟩ sl objs av objs':=by
  obtain⟨E,hE,h⟩:=bnd h
  have hE:=fh_ hE
  split at h
  · rename_i t B l ho
    obtain⟨c1,h⟩:=bm_ h
    simp only[a1_] at c1
    obtain⟨⟨c1,c2⟩,hu⟩:=c1
    obtain rfl:=a4_ c1
    obtain⟨m,hm,h⟩:=bnd h
    have hne:o≠fr:=by rintro rfl;rw[cm_ hu] at ho;cases ho
    have hu2:isUn (objs.set o .gone) fr=true:=by
      unfold isUn
      rw[b6_ hne,cm_ hu]
    refine⟨_,_,h,⟨(bi_ (by simp)).trans (bi_ (by simp)),(cg_ ho trivial).trans (cg_ (cm_ hu2) trivial),λhs hw=>du_ (by simp) (ae4 hw ho) rfl,λ_ _=>ih_ hu2 (by simp),λ{S hv Fm f w n ro K} hs hd kk => ?_⟩⟩
    obtain⟨L,hI,hp⟩:=hs.at ho
    have hxv:=hs.ev x
    rw[hx] at hxv
    have hxv:ev f x=hv o:=hxv.2
    refine @ac0 ro P n f w K d ty pos af gd x y (hv o) T B t.den t.enc S (L++Fm) l m a hd hE (hu_ c2) hxv hI (dp_ (hs.ev y) hy) hm λu hI' => ?_
    obtain⟨g1,g2⟩:=qg_ (hv:=hv) (fr:=fr) hI'
    refine kk u S (ins hv fr u) w (PH.Le.refl _) (mz_ (cm_ hu)) g2 ?_
    refine hn_ (ae4 hs.wfo ho) (cm_ hu2) ?_
    refine Inv.swap (B:=OH (ins hv fr u) u (.row t B m false)) (A:=HP.exact Hp.emp) (O:=L++Fm) ?_ |>.perm ?_
    · exact⟨hI'.os,hI'.out,Hp.emp,rfl,λb=>.inl rfl,by
        have e:Hp.un Hp.emp S.m=S.m:=by funext b;simp[Hp.un,Hp.emp]
        rw[e]
        exact hI'.own⟩
    · have:=(hp .gone).symm
      exact (this.append_right Fm).cons _
  · cases h
theorem cf4 {o:Oper} (h:bl4 P o sl objs fr k=some r):∃ av objs',k av objs'=some r∧OpOk P o sl objs av objs':=by
  obtain⟨dd,op,ty,pos,af,gd⟩:=o
  unfold bl4 at h
  simp only at h
  split at h
  · rename_i T x
    obtain⟨l,hl,h⟩:=bnd h
    obtain⟨hu,h⟩:=fl_ h
    refine⟨_,_,h,OpOk.new hu (by simp) (λhs _=>sh_ (hj_ hs x) hl) (ih_ hu (by simp)) λ{S hv Fm f w n ro K} hs hd kk => ?_⟩
    exact jz_ hd (w':=w.alloc (.cells (ev f x).cells T)) (by simp[execOp,Instr.box,newVar,newRow]) (kk _ _ rfl (an6 hu (sh_ (hj_ hs.wfs x) hl) (sg_ (hs.ev x) hl) (hs.inv.alloc T _)) bo5)
  · rename_i T
    cases hrb:isRB ⟨dd,.alloc T,ty,pos,af,gd⟩ with
    | true =>
      rw[hrb] at h
      obtain⟨t,ht,h⟩:=bnd (show Option.bind _ _=some _ from h)
      obtain⟨zd,hz,h⟩:=bnd h
      obtain⟨hsz,h⟩:=bm_ h
      obtain⟨hu,h⟩:=fl_ h
      obtain⟨bytes,zv,⟨ei,hE⟩,_,_⟩:=ks_ hz
      refine⟨_,_,h,OpOk.new2 hu (by simp) (λ_ _=>rfl) (ih_ hu (by simp)) λ{S hv Fm f w n ro K} hs hd kk => ?_⟩
      have z1:∀ w,(zeroValue T).run P w = .ok zv w:=λw=>by simp[zeroValue,typeInfo,hE.hi,hE.hz]
      refine jz_ hd (w':=w.alloc (.cells zv.cells T)) (v:=.pointer (some ⟨w.heap.size,0,none⟩)) (by simp[execOp,Instr.alloc,z1 w,newVar,newRow]) (kk (.slice (some ⟨w.heap.size,0,none⟩) 1 1) _ _ ?_ ?_)
      · refine Inv.shut (A:=@Row t.den t.enc T _ [zd]) (hs.inv.alloc T _) (.inr ⟨w.heap.size,1,[],zv.cells.toList,[],rfl,by simp,⟨zv.cells.toList,[],by simp,hE.rep S,rfl⟩,c3_ _,by simp[maxLen],by simp⟩)
      · exact⟨rfl,⟨_,rfl⟩,by rw[ci_];simp[co_,az_,Addr.add]⟩
    | false =>
    rw[hrb] at h
    replace h:=(show (match und P T with
      | some (.array _ E)=>(be6 P 20 E).bind λt=>(be3 P T).bind λcs=>(lits t (cs.map λs=>.b (.one s))).bind λl=>cond (Nat.ble l.length 65536) (xy_ objs fr (.row t T l false) (.b (.one (.arr fr))) k) none
      | _=>(be3 P T).bind λl=>xy_ objs fr (.cells T l []) (ptrV fr 0) k)=some r from h)
    split at h
    case h_1 =>
      rename_i n0 E hT
      obtain⟨t,ht,h⟩:=bnd h
      obtain⟨cs,hcs,h⟩:=bnd h
      obtain⟨l,hl,h⟩:=bnd h
      obtain⟨hsz,h⟩:=bm_ h
      obtain⟨hu,h⟩:=fl_ h
      refine⟨_,_,h,OpOk.new2 hu (by simp) (λ_ _=>rfl) (ih_ hu (by simp)) λ{S hv Fm f w n ro K} hs hd kk => ?_⟩
      obtain⟨z,z1,z2,_⟩:=qz_ (hv:=hv) (S:=S) hcs
      have hra:∀ {m:List SV} {ys:List Value},Fa (RS hv S) m ys→Fa (RA hv S) (m.map λs=>AV.b (.one s)) ys:=by
        intro m
        induction m with
        | nil=>intro ys h;cases ys with
          | nil=>trivial
          | cons _ _=>exact h.elim
        | cons s m ih=>intro ys h;cases ys with
          | nil=>exact h.elim
          | cons y ys=>exact⟨h.1,ih h.2⟩
      have hone:∀ {m:List SV} {ys:List Value},Fa (RS hv S) m ys→∀ y ∈ ys,y.oneCell'=true:=by
        intro m
        induction m with
        | nil=>intro ys h;cases ys with
          | nil=>intro y hy;cases hy
          | cons _ _=>exact h.elim
        | cons s m ih=>intro ys h;cases ys with
          | nil=>exact h.elim
          | cons y ys=>intro x hx;rcases d1_.1 hx with rfl | hx;exact h.1.1;exact ih h.2 x hx
      obtain⟨hrep,hlen⟩:=@RVs.repL t.den t.enc S z.cells.toList l (at0 hl (hra z2))
      rw[bb3 (hone z2)] at hrep
      refine jz_ hd (w':=w.alloc (.cells z.cells T)) (v:=.pointer (some ⟨w.heap.size,0,none⟩)) (by simp[execOp,Instr.alloc,z1 w,newVar,newRow]) (kk (.slice (some ⟨w.heap.size,0,none⟩) l.length l.length) _ _ ?_ ?_)
      · refine Inv.shut (A:=@Row t.den t.enc T _ l) (hs.inv.alloc T _) (.inr ⟨w.heap.size,l.length,[],z.cells.toList,[],rfl,by simp,hrep,c3_ _,?_,by simp⟩)
        have:=b7_ hsz
        unfold maxLen
        omega
      · exact⟨rfl,⟨_,rfl⟩,by rw[ci_];simp[co_,Addr.add]⟩
    obtain⟨l,hl,h⟩:=bnd h
    obtain⟨hu,h⟩:=fl_ h
    have hl3:∀ n,em_ (SV.lt n) l=true:=by
      obtain⟨_,_,_,h3⟩:=qz_ (hv:=λ_=>undef) (S:=⟨Hp.emp,default,#[]⟩) hl
      exact h3
    refine⟨_,_,h,OpOk.new hu (by simp) (λhs _=>hl3 _) (ih_ hu (by simp)) λ{S hv Fm f w n ro K} hs hd kk => ?_⟩
    obtain⟨z,z1,z2,_⟩:=qz_ (hv:=hv) (S:=S) hl
    exact jz_ hd (w':=w.alloc (.cells z.cells T)) (by simp[execOp,Instr.alloc,z1 w,newVar,newRow]) (kk _ _ rfl (an6 hu (hl3 _) z2 (hs.inv.alloc T _)) bo5)
  · rename_i T ps
    obtain⟨av,h1,h2,h3⟩:=ca2 h
    refine⟨_,_,h1,.pure (λhs _=>h2 _ λp hp => ?_) λ{S hv Fm f w} hs => ?_⟩
    · obtain⟨q,_,rfl⟩:=d0_.1 hp
      exact hj_ hs q.2
    · obtain⟨u,g1,g2⟩:=h3 (w:=w) (cs9 hs ps)
      refine⟨u,?_,g2⟩
      have e:(List.toArray ps).map (λ(x:Nat×Operand)=>(x.1,ev f x.2))=(ps.map λp=>(p.1,ev f p.2)).toArray:=by simp
      have g1':(Instr.build T ((List.toArray ps).map λ(i,x)=>(i,ev f x))).run P w = .ok u w:=by
        rw[← g1]
        exact congrArg (λz=>(Instr.build T z).run P w) e
      have e2:(execOp (ev f) ⟨dd,.build T ⟨ps⟩,ty,pos,af,gd⟩)=(do pure (.value (← Instr.build T ((List.toArray ps).map λ(i,x)=>(i,ev f x))))):=by
        simp only[execOp]
      rw[e2]
      simp only[Sem.run_bind,g1',Result.andThen_ok,Sem.run_pure]
  · rename_i T n ps
    split at h
    · rename_i d
      obtain⟨E,hE,h⟩:=bnd h
      obtain⟨t,ht,h⟩:=bnd h
      obtain⟨zd,hz,h⟩:=bnd h
      obtain⟨hc,h⟩:=bm_ h
      simp only[a1_] at hc
      obtain⟨l,hl,h⟩:=bnd h
      have main:xy_ objs fr (.row t E (cq1 (cs6 ps) zd l) false) (yd_ fr) k=some r→∃ av objs',k av objs'=some r∧OpOk P ⟨some d,.buildSlice T n ⟨ps⟩,ty,pos,af,gd⟩ sl objs av objs':=by
        intro h
        obtain⟨hu,h⟩:=fl_ h
        refine⟨_,_,h,OpOk.new hu (by simp) (λ_ _=>rfl) (ih_ hu (by simp)) λ{S hv Fm f w nn ro K} hs hd kk => ?_⟩
        obtain⟨bytes,zv,h1,h2,_⟩:=ks_ hz
        have hlen:=a4_ hc.1.1.2
        refine @yh_ _ P _ t.den t.enc nn d f w K ro ty pos af gd T E S _ bytes zv zd ps (ps.map λp=>ev f p.2) n (cs6 ps) l hd (fh_ hE) h1 (by rw[sz_ hc.1.1.1]) (by simpa using hlen) (by rw[cc_];exact b7_ hc.2) (b7_ hc.1.2) (at0 hl (bx2 hs ps)) hs.inv λu w' hI => ?_
        obtain⟨g1,g2⟩:=qg_ hI
        exact kk u w' g1 hI g2
      cases h0:Nat.beq (cs6 ps) 0 with
      | true =>
        rw[h0] at h
        rw[a4_ h0] at main
        exact main h
      | false =>
        rw[h0] at h
        obtain⟨h1,h⟩:=bm_ (show cond (Nat.beq (cs6 ps) 1) (xy_ objs fr (.row t E (zd::l) false) (yd_ fr) k) none=some r from h)
        rw[a4_ h1] at main
        exact main h
    · cases h
  · rename_i T x y
    split at h
    · rename_i d
      obtain⟨E,hE,h⟩:=bnd h
      obtain⟨t,ht,h⟩:=bnd h
      obtain⟨zd,hz,h⟩:=bnd h
      obtain⟨c,hc,h⟩:=bnd h
      obtain⟨hxy,h⟩:=bm_ h
      have exy:=ax1 hxy
      obtain⟨l,hl,h⟩:=bnd h
      obtain⟨hu,h⟩:=fl_ h
      refine⟨_,_,h,OpOk.new hu (by simp) (λ_ _=>rfl) (ih_ hu (by simp)) λ{S hv Fm f w nn ro K} hs hd kk => ?_⟩
      obtain⟨bytes,zv,h1,h2,_⟩:=ks_ hz
      refine @tw_ ro P nn f w K d ty pos af gd x y T E t.den t.enc S _ bytes zv zd c l hd (fh_ hE) h1 h2 (dp_ (hs.ev x) hc) (by rw[← exy];exact dp_ (hs.ev x) hc) hs.inv hl λu w' hI => ?_
      obtain⟨g1,g2⟩:=qg_ hI
      exact kk u w' g1 hI g2
    · cases h
  · rename_i T p v
    split at h
    · obtain⟨objs',h1,h2⟩:=bl1 h
      exact⟨_,_,h1,h2⟩
    · cases h
  · rename_i T x lo hi
    split at h
    · rename_i p y d hx
      obtain⟨a,ha,h⟩:=bnd h
      exact cutA_ok hx ha h
    · obtain⟨av,h1,h2⟩:=zy_ h
      exact⟨_,_,h1,h2⟩
  · rename_i x y T T2
    split at h
    · rename_i d
      obtain⟨hc,h2⟩:=bm_ h
      obtain rfl:=a4_ hc
      exact appA_ok h2
    · cases h
  · cases h
def isM:Op→Bool
  | .box _ _ | .alloc _ | .build _ _ | .buildSlice _ _ _ | .makeSlice _ _ _ | .store _ _ _ | .slice _ _ _ _ _=>true
  | .call ⟨.builtin .append,_,_⟩=>true
  | _=>false
def isZ (o:Oper):Bool:=match o.op,o.dst with
  | .box T (.tmp t),some d=>Gb.fz (cdN T d t) o.pos
  | _,_=>false
def ftA (o:Oper):Option Ty:=match o.op,o.dst with
  | .box T (.tmp t),some d=>Gb.ft (cdN T d t)
  | _,_=>none
def stepZ (o:Oper) (sl:Nat→AV) (objs:List AO) (k:AV→List AO→Option ρ):Option ρ:=match o.op with
  | .box _ x=>match evA sl x with
    | .b (.one (.val t y))=>cond t.agg none (k (.b (.one (.val (.ref t) y))) objs)
    | .b (.val t y)=>k (.b (.one (.val (.ref t) y))) objs
    | .b (.agg l)=>(ftA o).bind λt=>(asD t (.b (.agg l))).bind λy=>k (.b (.one (.val (.ref t) y))) objs
    | _=>none
  | _=>none
theorem cf0 {o:Oper} (h:stepZ o sl objs k=some r):∃ av objs',k av objs'=some r∧OpOk P o sl objs av objs':=by
  obtain⟨dd,op,ty,pos,af,gd⟩:=o
  unfold stepZ at h
  simp only at h
  split at h
  · rename_i T x
    split at h
    · rename_i t y he
      cases ht:t.agg with
      | true=>rw[ht] at h;cases h
      | false =>
        rw[ht] at h
        refine⟨_,_,h,⟨BLe.refl _,Keep.refl _,λ_ hw=>hw,λ_ _=>rfl,λ{S hv Fm f w n ro K} hs hd kk => ?_⟩⟩
        have h1:=hs.ev x
        rw[he] at h1
        have h2:RVt t S (Go.Proofs.YtgeehfnbhbibeaaGreatDoor.Pad.ev f x) y:=h1.2.2
        obtain⟨U,g1,g2,g3⟩:=@Inv.boxFreeze _ S _ T t.den t.enc _ (Go.Proofs.YtgeehfnbhbibeaaGreatDoor.Pad.ev f x) y (hs.inv.alloc T _) h2
        have g4:RVt (.ref t) U _ y:=ly_ g3
        exact jz_ hd (w':=w.alloc (.cells (Go.Proofs.YtgeehfnbhbibeaaGreatDoor.Pad.ev f x).cells T)) (by simp[execOp,Instr.box,newVar,newRow]) (kk _ U hv _ g1 (λ_ _=>rfl) ⟨rfl,rfl,g4⟩ g2)
    · rename_i t y he
      refine⟨_,_,h,⟨BLe.refl _,Keep.refl _,λ_ hw=>hw,λ_ _=>rfl,λ{S hv Fm f w n ro K} hs hd kk => ?_⟩⟩
      have h1:=hs.ev x
      rw[he] at h1
      have h2:RVt t S (Go.Proofs.YtgeehfnbhbibeaaGreatDoor.Pad.ev f x) y:=h1.2
      obtain⟨U,g1,g2,g3⟩:=@Inv.boxFreeze _ S _ T t.den t.enc _ (Go.Proofs.YtgeehfnbhbibeaaGreatDoor.Pad.ev f x) y (hs.inv.alloc T _) h2
      have g4:RVt (.ref t) U _ y:=ly_ g3
      exact jz_ hd (w':=w.alloc (.cells (Go.Proofs.YtgeehfnbhbibeaaGreatDoor.Pad.ev f x).cells T)) (by simp[execOp,Instr.box,newVar,newRow]) (kk _ U hv _ g1 (λ_ _=>rfl) ⟨rfl,rfl,g4⟩ g2)
    · rename_i l he
      obtain⟨t,_,h⟩:=bnd h
      obtain⟨y,hy,h⟩:=bnd h
      refine⟨_,_,h,⟨BLe.refl _,Keep.refl _,λ_ hw=>hw,λ_ _=>rfl,λ{S hv Fm f w n ro K} hs hd kk => ?_⟩⟩
      have h1:=hs.ev x
      rw[he] at h1
      have h2:RVt t S (Go.Proofs.YtgeehfnbhbibeaaGreatDoor.Pad.ev f x) y:=fx_ h1 hy
      obtain⟨U,g1,g2,g3⟩:=@Inv.boxFreeze _ S _ T t.den t.enc _ (Go.Proofs.YtgeehfnbhbibeaaGreatDoor.Pad.ev f x) y (hs.inv.alloc T _) h2
      have g4:RVt (.ref t) U _ y:=ly_ g3
      exact jz_ hd (w':=w.alloc (.cells (Go.Proofs.YtgeehfnbhbibeaaGreatDoor.Pad.ev f x).cells T)) (by simp[execOp,Instr.box,newVar,newRow]) (kk _ U hv _ g1 (λ_ _=>rfl) ⟨rfl,rfl,g4⟩ g2)
    · cases h
  · cases h
def bl6 (P:Program) [Tb P] (o:Oper) (sl:Nat→AV) (objs:List AO) (fr:Nat) (k:AV→List AO→Option ρ):Option ρ :=
  cond (isZ o) (stepZ o sl objs k) (cond (isX o.op) (cf2 P o sl objs fr k) (cond (isM o.op) (bl4 P o sl objs fr k) (stepP P o sl objs λa=>k a objs)))
theorem aa1 {o:Oper} (h:bl6 P o sl objs fr k=some r):∃ av objs',k av objs'=some r∧OpOk P o sl objs av objs':=by
  unfold bl6 at h
  cases hz:isZ o with
  | true=>rw[hz] at h;exact cf0 h
  | false =>
  rw[hz] at h
  have h:cond (isX o.op) (cf2 P o sl objs fr k) (cond (isM o.op) (bl4 P o sl objs fr k) (stepP P o sl objs λa=>k a objs))=some r:=h
  cases hx:isX o.op with
  | true=>rw[hx] at h;exact cf1 h
  | false =>
    rw[hx] at h
    have h:cond (isM o.op) (bl4 P o sl objs fr k) (stepP P o sl objs λa=>k a objs)=some r:=h
    cases hm:isM o.op with
    | true=>rw[hm] at h;exact cf4 h
    | false =>
      rw[hm] at h
      obtain⟨av,h1,h2⟩:=zy_ (show stepP P o sl objs (λa=>k a objs)=some r from h)
      exact⟨av,objs,h1,h2⟩
def stepG (P:Program) [Tb P] (o:Oper) (sl:Nat→AV) (objs:List AO) (fr:Nat) (k:AV→List AO→Option ρ):Option ρ:=match o.op with
  | .load T x=>takeG P T (evA sl x) objs fr k (bl6 P o sl objs fr k)
  | .store T p v=>match o.dst with
    | none=>putG P T (evA sl p) (evA sl v) objs k (bl6 P o sl objs fr k)
    | some _=>none
  | _=>none
def cf7 (P:Program) [Tb P] (o:Oper) (sl:Nat→AV) (objs:List AO) (fr:Nat) (k:AV→List AO→Option ρ):Option ρ:=match isGn o with
  | some q=>newG P q o sl objs fr k
  | none=>cond (cl0 o) (stepG P o sl objs fr k) (bl6 P o sl objs fr k)
theorem cf6 {o:Oper} (h:cf7 P o sl objs fr k=some r):∃ av objs',k av objs'=some r∧OpOk P o sl objs av objs':=by
  unfold cf7 at h
  split at h
  · exact newG_ok h
  · cases hg:cl0 o with
    | false=>rw[hg] at h;exact aa1 h
    | true =>
      rw[hg] at h
      have h:stepG P o sl objs fr k=some r:=h
      obtain⟨dd,op,ty,pos,af,gd⟩:=o
      unfold stepG at h
      simp only at h
      split at h
      · rcases ce7 h with h | h
        · exact aa1 h
        · exact h
      · split at h
        · rcases putG_ok h with h | h
          · exact aa1 h
          · exact h
        · cases h
      · cases h
end
end
section
variable [Gb]
def OpUn (P:Program) [Tb P] (o:Oper) (sl:Nat→AV) (objs:List AO) (av:AV) (objs':List AO):Prop :=
  ∀ {S:PH} {hv:Nat→Value} {Fm:List HP} {f:Fr} {w:World} {n:Nat} {ro:Option Nat} {K:Fr→World→Prop},Sit S hv Fm sl objs f w→ei_ n o.dst=true →
    (∀ v S' hv' w',BLe objs objs'→Keep objs objs'→WfO objs'→av.lt objs'=true→S.Le S'→Ag objs hv hv'→RA hv' S' av v→Inv w' S' (OHs hv' 0 objs'++Fm)→K (vl_ f o.dst v) w')→OP P n ro o f w K
theorem OpOk.un {P:Program} [Tb P] {o:Oper} {sl:Nat→AV} {objs:List AO} {av:AV} {objs':List AO} (h:OpOk P o sl objs av objs'):OpUn P o sl objs av objs' :=
  λhs hd kk=>h.run hs hd λv S' hv' w' a b c d=>kk v S' hv' w' h.ble h.keep (h.wfo hs.wfs hs.wfo) (h.lt hs.wfs hs.wfo) a b c d
theorem ke_ {w:World} {S:PH} {O:List HP} (h:Inv w S O):Inv w S (HP.exact Hp.emp::O) :=
  ⟨h.os,h.out,Hp.emp,rfl,λb=>.inl rfl,by
    have e:Hp.un Hp.emp S.m=S.m:=by funext b;simp[Hp.un,Hp.emp]
    rw[e]
    exact h.own⟩
def rsF (ob:List AO) (o:Nat) (s:SV):SV:=match ob[o]? with
  | some (.froz t x)=>.val t x
  | _=>s
def rsS (ob:List AO):SV→SV
  | .row o=>rsF ob o (.row o)
  | .ptr o 0=>rsF ob o (.ptr o 0)
  | s=>s
def rsB (ob:List AO):BV→BV
  | .one s=>.one (rsS ob s)
  | .agg l=>.agg (l.map (rsS ob))
  | x=>x
def rsA (ob:List AO):AV→AV
  | .b x=>.b (rsB ob x)
  | .tup l=>.tup (l.map (rsB ob))
def rsl (ob:List AO) (sl:Nat→AV) (d:Nat):AV:=rsA ob (sl d)
theorem Fa.map {α β γ:Type} {R:α→γ→Prop} {R':β→γ→Prop} {f:α→β} (h:∀ a c,R a c→R' (f a) c):∀ {l:List α} {m:List γ},Fa R l m→Fa R' (l.map f) m
  | [],[],_=>trivial
  | _::_,_::_,k=>⟨h _ _ k.1,Fa.map h k.2⟩
theorem sc_ {v:Value} {a:Addr} (h:v=az_ (.pointer (some a)) 0):v = .pointer (some a):=by
  rw[h]
  simp[az_,Addr.add]
section
variable {S:PH} {hv:Nat→Value} {Fm:List HP} {ob:List AO} {w:World}
theorem bw0 (hI:Inv w S (OHs hv 0 ob++Fm)) {o:Nat} {t:Ty} {x:t.den} (ho:ob[o]?=some (.froz t x)):t.agg=false∧(hv o).oneCell'=true∧RVt t S (hv o) x:=by
  obtain⟨L,h1,_⟩:=OHs.focus (hv:=hv) (i:=0) ho
  rw[b0_] at h1
  obtain⟨k,⟨_,h2,h3,h4⟩,_⟩:=(hI.perm (h1.append_right Fm)).open_
  exact⟨h2,h3,h4⟩
theorem cp7 (hI:Inv w S (OHs hv 0 ob++Fm)) {s:SV} {v:Value} (h:RS hv S s v):RS hv S (rsS ob s) v:=by
  have gen:∀ o s',v.oneCell'=true→(∀ t x,ob[o]?=some (AO.froz t x)→v=hv o)→RS hv S s' v→RS hv S (rsF ob o s') v:=λo s' h1 h2 h3=>by
    unfold rsF
    split
    · rename_i t x ho
      obtain⟨g1,g2,g3⟩:=bw0 hI ho
      exact⟨h1,g1,by rw[h2 t x ho];exact g3⟩
    · exact h3
  unfold rsS
  split
  · rename_i o
    exact gen o _ h.1 (λ_ _ _=>h.2) h
  · rename_i o
    refine gen o _ h.1 (λt x ho => ?_) h
    obtain⟨g1,g2,g3⟩:=bw0 hI ho
    have h2:(∃ a,v = .pointer (some a))∧v=az_ (hv o) 0:=h.2
    obtain⟨⟨a,rfl⟩,h3⟩:=h2
    cases hh:hv o with
    | pointer p =>
      cases p with
      | none=>rw[hh] at h3;simp[az_] at h3
      | some b =>
        rw[hh] at h3
        exact sc_ h3
    | _=>rw[hh] at h3;simp[az_] at h3
  · exact h
theorem cp9 (hI:Inv w S (OHs hv 0 ob++Fm)) {s:BV} {v:Value} (h:RB hv S s v):RB hv S (rsB ob s) v:=by
  cases s with
  | dead=>trivial
  | one s=>exact cp7 hI h
  | val t x=>exact h
  | agg l=>obtain⟨cs,e,h⟩:=h;exact⟨cs,e,Fa.map (f:=rsS ob) (λ_ _=>cp7 hI) h⟩
theorem ax2 (hI:Inv w S (OHs hv 0 ob++Fm)) {s:AV} {v:Value} (h:RA hv S s v):RA hv S (rsA ob s) v:=by
  cases s with
  | b x=>exact cp9 hI h
  | tup l=>obtain⟨cs,e,h⟩:=h;exact⟨cs,e,Fa.map (f:=rsB ob) (λ_ _=>cp9 hI) h⟩
theorem cp8 {n:List AO} {s:SV} (h:s.lt n=true):(rsS ob s).lt n=true:=by
  unfold rsS rsF
  split
  · split
    · rfl
    · exact h
  · split
    · rfl
    · exact h
  · exact h
theorem bd9 {α:Type} {p:α→Bool} {f:α→α} (hf:∀ a,p a=true→p (f a)=true) {l:List α} (h:em_ p l=true):em_ p (l.map f)=true:=by
  refine gq_ λa ha => ?_
  obtain⟨b,hb,rfl⟩:=d0_.1 ha
  exact hf b (bg_ h b hb)
theorem cq0 {n:List AO} {s:BV} (h:s.lt n=true):(rsB ob s).lt n=true:=by
  cases s with
  | dead=>rfl
  | one s=>exact cp8 h
  | val t x=>rfl
  | agg l=>exact bd9 (f:=rsS ob) (p:=SV.lt n) (λ_=>cp8) h
theorem rsA_lt {n:List AO} {s:AV} (h:s.lt n=true):(rsA ob s).lt n=true:=by
  cases s with
  | b x=>exact cq0 h
  | tup l=>exact bd9 (f:=rsB ob) (p:=BV.lt n) (λ_=>cq0) h
theorem Sit.rs {sl:Nat→AV} {f:Fr} (h:Sit S hv Fm sl ob f w):Sit S hv Fm (rsl ob sl) ob f w :=
  ⟨h.inv,λd=>ax2 h.inv (h.rel d),λd=>rsA_lt (h.wfs d),h.wfo,h.gl⟩
end
def ap0 (ob:List AO) (o:Nat):List AO:=match ob[o]? with
  | some (.row t _ l false)=>ob.set o (.froz (.list t) l)
  | some (.grid G l none false)=>ob.set o (.froz (.list G.t) l)
  | _=>ob
def vc_:List AO→List Nat→List AO
  | ob,[]=>ob
  | ob,o::os=>vc_ (ap0 ob o) os
section
variable {Fm:List HP} {ob:List AO} {w:World} {hv:Nat→Value}
theorem yr_ {t:Ty} {S:PH} {v:Value} {x:t.den} (h0:t.agg=false) (h:RVt t S v x):v.oneCell'=true:=lq_ (ni_ h0 h)
theorem bv9 {S:PH} {o:Nat} (hI:Inv w S (OHs hv 0 ob++Fm)):∃ S',S.Le S'∧Inv w S' (OHs hv 0 (ap0 ob o)++Fm):=by
  unfold ap0
  split
  · rename_i t T l ho
    obtain⟨L,h1,h2⟩:=OHs.focus (hv:=hv) (i:=0) ho
    rw[b0_] at h1 h2
    obtain⟨U,g1,g2,g3⟩:=Inv.rowFreeze (hI.perm (h1.append_right Fm))
    refine⟨U,g1,?_⟩
    have h3:RVt (.list t) U (hv o) l:=g3
    have h4:=ke_ g2
    refine Inv.perm (O:=OH hv (hv o) (.froz (.list t) l)::(L++Fm)) ?_ ((h2 (.froz (.list t) l)).symm.append_right Fm)
    obtain⟨k,hk,hI'⟩:=h4.open_
    refine Inv.shut hI' ?_
    exact⟨hk,rfl,yr_ rfl h3,h3⟩
  · rename_i G l ho
    obtain⟨L,h1,h2⟩:=OHs.focus (hv:=hv) (i:=0) ho
    rw[b0_] at h1 h2
    obtain⟨U,g1,g2,h3⟩:=Inv.gridDone (show Inv w S (jo_ hv (hv o) G l none::(L++Fm)) from hI.perm (h1.append_right Fm))
    refine⟨U,g1,?_⟩
    have h4:=ke_ g2
    refine Inv.perm (O:=OH hv (hv o) (.froz (.list G.t) l)::(L++Fm)) ?_ ((h2 (.froz (.list G.t) l)).symm.append_right Fm)
    obtain⟨k,hk,hI'⟩:=h4.open_
    refine Inv.shut hI' ?_
    exact⟨hk,rfl,yr_ rfl h3,h3⟩
  · exact⟨S,PH.Le.refl S,hI⟩
theorem frz1_ble {o:Nat}:BLe ob (ap0 ob o):=by
  unfold ap0
  split
  · exact bi_ (by simp)
  · exact bi_ (by simp)
  · exact BLe.refl _
theorem frz1_keep {o:Nat}:Keep ob (ap0 ob o):=by
  unfold ap0
  split
  · rename_i t T l ho
    exact cg_ ho trivial
  · rename_i G l ho
    exact cg_ ho trivial
  · exact Keep.refl _
theorem bb0 {o:Nat} (h:WfO ob):WfO (ap0 ob o):=by
  unfold ap0
  split
  · exact du_ (by simp) h rfl
  · exact du_ (by simp) h rfl
  · exact h
theorem cl5 {o:Nat}:(ap0 ob o).length=ob.length:=by
  unfold ap0
  split
  · simp
  · simp
  · rfl
end
section
variable {Fm:List HP} {w:World} {hv:Nat→Value}
theorem wz_:∀ {os:List Nat} {ob:List AO} {S:PH},Inv w S (OHs hv 0 ob++Fm)→∃ S',S.Le S'∧Inv w S' (OHs hv 0 (vc_ ob os)++Fm)
  | [],ob,S,h=>⟨S,PH.Le.refl S,h⟩
  | o::os,ob,S,h=>by
    obtain⟨S1,a,b⟩:=bv9 (o:=o) h
    obtain⟨S2,c,d⟩:=wz_ (os:=os) b
    exact⟨S2,a.trans c,d⟩
theorem frzL_ble:∀ {os:List Nat} {ob:List AO},BLe ob (vc_ ob os)
  | [],ob=>BLe.refl _
  | o::os,ob=>frz1_ble.trans (frzL_ble (os:=os))
theorem frzL_keep:∀ {os:List Nat} {ob:List AO},Keep ob (vc_ ob os)
  | [],ob=>Keep.refl _
  | o::os,ob=>frz1_keep.trans (frzL_keep (os:=os))
theorem sa_:∀ {os:List Nat} {ob:List AO},WfO ob→WfO (vc_ ob os)
  | [],ob,h=>h
  | o::os,ob,h=>sa_ (os:=os) (bb0 h)
theorem ba9:∀ {os:List Nat} {ob:List AO},(vc_ ob os).length=ob.length
  | [],ob=>rfl
  | o::os,ob=>(ba9 (os:=os)).trans cl5
theorem Sit.frz {S:PH} {sl:Nat→AV} {ob:List AO} {f:Fr} (h:Sit S hv Fm sl ob f w) (os:List Nat):∃ S',S.Le S'∧Sit S' hv Fm (rsl (vc_ ob os) sl) (vc_ ob os) f w:=by
  obtain⟨S',h1,h2⟩:=wz_ (os:=os) h.inv
  exact⟨S',h1,Sit.rs ⟨h2,λd=>RA.mono h1 (h.rel d),λd=>AV.lt_mono frzL_ble (h.wfs d),sa_ h.wfo,h.gl.mono h1⟩⟩
end
theorem OpUn.frz {P:Program} [Tb P] {o:Oper} {sl:Nat→AV} {ob ob':List AO} {av:AV} {os:List Nat} (h:OpUn P o (rsl (vc_ ob os) sl) (vc_ ob os) av ob'):OpUn P o sl ob av ob':=by
  intro S hv Fm f w n ro K hs hd kk
  obtain⟨S1,h1,hs1⟩:=hs.frz os
  exact h hs1 hd λv S' hv' w' a b c d e g i j=>kk v S' hv' w' (frzL_ble.trans a) (frzL_keep.trans b) c d (h1.trans e) (λo ho=>g o (frzL_ble o ho)) i j
theorem OpUn.rest {P:Program} [Tb P] {o:Oper} {sl:Nat→AV} {ob ob':List AO} {av:AV} {m:Nat} (h:OpUn P o sl (vu_ ob m) av ob'):OpUn P o sl ob av ob':=by
  intro S hv Fm f w n ro K hs hd kk
  obtain⟨b1,b2,b3⟩:=pd_ (ob:=ob) m
  have hs1:Sit S hv Fm sl (vu_ ob m) f w:=⟨uv_ hs.inv m,hs.rel,λd=>AV.lt_mono b1 (hs.wfs d),b3 hs.wfo,hs.gl⟩
  exact h hs1 hd λv S' hv' w' a b c d e g i j=>kk v S' hv' w' (b1.trans a) (b2.trans b) c d e (λo ho=>g o (b1 o ho)) i j
theorem OpUn.rs {P:Program} [Tb P] {o:Oper} {sl:Nat→AV} {ob ob':List AO} {av:AV} (h:OpUn P o (rsl ob sl) ob av ob'):OpUn P o sl ob av ob':=OpUn.frz (os:=[]) h
def idsS:SV→List Nat
  | .row o | .ptr o _ | .ptrE o _ _ _ _ | .map o | .fn o | .arr o=>[o]
  | _=>[]
def idsL:List SV→List Nat
  | []=>[]
  | s::l=>idsS s++idsL l
def idsB:BV→List Nat
  | .one s=>idsS s
  | .agg l=>idsL l
  | _=>[]
def cr9:AV→List Nat
  | .b x=>idsB x
  | .tup l=>go l
 where go:List BV→List Nat
  | []=>[]
  | x::l=>idsB x++go l
def idsX (env:Nat→AV):List Operand→List Nat
  | []=>[]
  | x::l=>cr9 (evA env x)++idsX env l
def fzIds (o:Oper) (sl:Nat→AV):List Nat:=cond (cl0 o) [] (match o.op with
  | .buildSlice _ _ ps=>idsX sl (ps.toList.map (·.2))
  | .store _ p v=>match evA sl p with
    | .b (.one (.ptrE _ _ _ _ _))=>cr9 (evA sl v)
    | _=>[]
  | _=>[])
end
section
variable [Gb]
def cu7 (P:Program) [Tb P] (g:AV) (args:List AV) (objs:List AO) (av:AV) (objs':List AO):Prop :=
  ∀ {S:PH} {hv:Nat→Value} {Fm:List HP} {w:World} {gv:Value} {vs:List Value},GlS S→Inv w S (OHs hv 0 objs++Fm)→WfO objs→RA hv S g gv→Fa (RA hv S) args vs→(∀ a ∈ args,a.lt objs=true) →
    ∃ (kf:FuncId) (cap:List Value),gv = .func (.func kf) #[] cap.toArray∧ef_ P kf ∧
      Calls P kf (vs++cap).toArray w λe w'=>∃ v S' hv',e = .returned v∧BLe objs objs'∧Keep objs objs'∧WfO objs'∧av.lt objs'=true∧S.Le S'∧Ag objs hv hv'∧RA hv' S' av v∧Inv w' S' (OHs hv' 0 objs'++Fm)
structure Cx (P:Program) [Tb P] where
  need:Oper→Nat
  call:(ρ:Type)→Oper→(Nat→AV)→List AO→Nat→(AV→List AO→Option ρ)→Option ρ
  ok:∀ {ρ:Type} {o:Oper} {sl:Nat→AV} {objs:List AO} {fr:Nat} {k:AV→List AO→Option ρ} {r:ρ},call ρ o sl objs fr k=some r→∃ av objs',k av objs'=some r∧OpUn P o sl objs av objs'
  callV:(ρ:Type)→AV→List AV→List AO→(AV→List AO→Option ρ)→Option ρ
  okV:∀ {ρ:Type} {g:AV} {args:List AV} {objs:List AO} {k:AV→List AO→Option ρ} {r:ρ},callV ρ g args objs k=some r→∃ av objs',k av objs'=some r∧cu7 P g args objs av objs'
def isNew:Op→Bool
  | .box _ _ | .alloc _ | .buildSlice _ _ _ | .makeSlice _ _ _ | .makeFunc _ _ _ | .makeMap _ _ | .slice _ _ _ _ _=>true
  | .call ⟨.builtin .append,_,_⟩=>true
  | _=>false
def ba0:Op→Bool
  | .call ⟨.builtin _,_,_⟩=>false
  | .call _=>true
  | _=>false
def ce5 (sl:Nat→AV) (d:Nat) (v:AV):Nat→AV:=λi=>cond (Nat.beq i d) v (sl i)
def stA (s:A) (d:Option Nat) (av:AV) (ob:List AO):A:=⟨match d with
  | some d=>ce5 s.slot d av
  | none=>s.slot,ob⟩
def unA:AV→Bool
  | .tup []=>true
  | _=>false
theorem bk4 {hv:Nat→Value} {S:PH} {a:AV} {v:Value} (h:unA a=true) (hr:RA hv S a v):v=undef:=by
  unfold unA at h
  split at h
  · obtain⟨vs,e,hf⟩:=hr
    cases vs with
    | nil=>exact e
    | cons _ _=>exact hf.elim
  · cases h
theorem un_ra {hv:Nat→Value} {S:PH}:RA hv S (.tup []) undef:=⟨[],rfl,trivial⟩
section
variable {ρ:Type} {P:Program} [Tb P]
def frcS (s:SV) (k:SV→Option ρ):Option ρ:=match s with
  | .dead=>k .dead
  | .val t x=>k (.val t x)
  | .nils=>k .nils
  | .nilp=>k .nilp
  | .nilm=>k .nilm
  | .row o=>k (.row o)
  | .ptr o i=>k (.ptr o i)
  | .ptrE o i j z p=>k (.ptrE o i j z p)
  | .map o=>k (.map o)
  | .fn o=>k (.fn o)
  | .arr o=>k (.arr o)
def frcA (a:AV) (k:AV→Option ρ):Option ρ:=match a with
  | .b .dead=>k (.b .dead)
  | .b (.one s)=>frcS s λs=>k (.b (.one s))
  | .b (.val t x)=>k (.b (.val t x))
  | .b (.agg l)=>k (.b (.agg l))
  | .tup l=>k (.tup l)
def frcO (a:AO) (k:AO→Option ρ):Option ρ:=match a with
  | .unborn=>k .unborn
  | .gone=>k .gone
  | .row t T l r=>k (.row t T l r)
  | .cells T l r=>k (.cells T l r)
  | .map a b m r=>k (.map a b m r)
  | .fn f a b=>k (.fn f a b)
  | .froz t x=>k (.froz t x)
  | .grid G l h r=>k (.grid G l h r)
  | .yld Y st r=>k (.yld Y st r)
def cl7:List AO→(List AO→Option ρ)→Option ρ
  | [],k=>k []
  | a::l,k=>frcO a λa=>cl7 l λl=>k (a::l)
theorem frcS_eq (s:SV) (k:SV→Option ρ):frcS s k=k s:=by cases s<;>rfl
theorem ae5 (a:AV) (k:AV→Option ρ):frcA a k=k a:=by
  cases a with
  | b x =>
    cases x with
    | one s=>exact frcS_eq s λs=>k (.b (.one s))
    | _=>rfl
  | tup l=>rfl
theorem frcO_eq (a:AO) (k:AO→Option ρ):frcO a k=k a:=by cases a<;>rfl
theorem xa_:∀ (l:List AO) (k:List AO→Option ρ),cl7 l k=k l
  | [],_=>rfl
  | a::l,k=>by unfold cl7;rw[frcO_eq,xa_]
def yo_ (cx:Cx P) (o:Oper) (sl:Nat→AV) (objs:List AO) (fr:Nat) (k:AV→List AO→Option ρ):Option ρ :=
  cond (ba0 o.op) (cx.call ρ o (rsl objs sl) objs fr k) (cf7 P o (rsl objs sl) objs fr k)
def bl5 (cx:Cx P) (o:Oper) (sl:Nat→AV) (objs:List AO) (fr:Nat) (k:AV→List AO→Option ρ):Option ρ :=
  cond (cl0 o) (yo_ cx o sl (vu_ objs objs.length) fr k) (yo_ cx o sl (vc_ objs (fzIds o sl)) fr k)
def ndO (cx:Cx P) (o:Oper):Nat:=cond (isNew o.op||cl0 o) 1 (cx.need o)
def run1 (cx:Cx P) (n:Nat) (o:Oper) (s:A) (k:A→Option ρ):Option ρ :=
  cond (ei_ n o.dst) (bl5 cx o s.slot (s.objs++List.replicate (ndO cx o) .unborn) s.objs.length λav ob=>frcA av λav=>cl7 ob λob=>k (stA s o.dst av ob)) none
def nz_ (cx:Cx P) (n:Nat) (all:List Oper):List Oper→A→(A→Option ρ)→Option ρ
  | [],s,k=>k s
  | o::os,s,k=>match o.guard with
    | none=>run1 cx n o s λs=>nz_ cx n all os s k
    | some (j,b)=>(all[j]?).bind λoj=>oj.dst.bind λd=>cond (Nat.blt d n) (cond (unA (s.slot d)) (cond (ei_ n o.dst) (nz_ cx n all os (stA s o.dst (.tup []) s.objs) k) none) ((asD .bool (s.slot d)).bind λc =>
        cond c (cond b (run1 cx n o (stA s (some d) (bV true) s.objs) λs=>nz_ cx n all os s k) (cond (ei_ n o.dst) (nz_ cx n all os (stA (stA s (some d) (bV true) s.objs) o.dst (.tup []) s.objs) k) none))
          (cond b (cond (ei_ n o.dst) (nz_ cx n all os (stA (stA s (some d) (bV false) s.objs) o.dst (.tup []) s.objs) k) none) (run1 cx n o (stA s (some d) (bV false) s.objs) λs=>nz_ cx n all os s k)))) none
end
def Rl (S0:PH) (hv0:Nat→Value) (ob0:List AO) (Fm:List HP) (s:A) (f:Fr) (w:World):Prop :=
  ∃ S hv Ds,S0.Le S∧Ag ob0 hv0 hv∧BLe ob0 s.objs∧Sit S hv (pz_ Ds::Fm) s.slot s.objs f w∧f.ds=cj6 Ds
theorem Ag.trans {l:List AO} {a b c:Nat→Value} (h:Ag l a b) (k:Ag l b c):Ag l a c:=λi hi=>(h i hi).trans (k i hi)
theorem Ag.sub {l m:List AO} {a b:Nat→Value} (h:Ag m a b) (hl:BLe l m):Ag l a b:=λi hi=>h i (hl i hi)
theorem bk0 {hv:Nat→Value} {S:PH} {sl:Nat→AV} {f:Fr} {d:Nat} {av:AV} {v:Value} (h:∀ i,RA hv S (sl i) (f i)) (hr:RA hv S av v):∀ i,RA hv S (ce5 sl d av i) (upd f d v i):=by
  intro i
  show RA hv S (cond (Nat.beq i d) av (sl i)) (cond (Nat.beq i d) v (f i))
  cases Nat.beq i d with
  | true=>exact hr
  | false=>exact h i
theorem Sit.put {S:PH} {hv:Nat→Value} {Fm:List HP} {s:A} {f:Fr} {w:World} (h:Sit S hv Fm s.slot s.objs f w) {d:Option Nat} {av:AV} {v:Value} (hr:RA hv S av v) (hl:av.lt s.objs=true) :
    Sit S hv Fm (stA s d av s.objs).slot s.objs (vl_ f d v) w:=by
  cases d with
  | none=>exact h
  | some d=>exact⟨h.inv,bk0 h.rel hr,λi=>by
      show (cond (Nat.beq i d) av (s.slot i)).lt s.objs=true
      cases Nat.beq i d with
      | true=>exact hl
      | false=>exact h.wfs i,h.wfo,h.gl⟩
theorem sn_ {f:Fr} {d:Option Nat} {v:Value}:(vl_ f d v).ds=f.ds:=by cases d<;>rfl
theorem za_ (hv:Nat→Value):∀ (k i:Nat),OHs hv i (List.replicate k .unborn)=List.replicate k (HP.exact Hp.emp)
  | 0,_=>rfl
  | k+1,i=>by
    rw[l8_,l8_]
    simp only[OHs]
    rw[za_ hv k (i+1)]
    rfl
theorem ba1 {w:World} {S:PH} {O:List HP} (h:Inv w S O):∀ k,Inv w S (List.replicate k (HP.exact Hp.emp)++O)
  | 0=>h
  | k+1=>by rw[l8_];exact ke_ (ba1 h k)
theorem vg_ {l:List AO} {k o:Nat}:born l o=true→born (l++List.replicate k .unborn) o=true:=by
  intro h
  obtain⟨a,h1,h2⟩:=ay_.1 h
  refine ay_.2 ⟨a,?_,h2⟩
  rw[b1_ (a3_.1 h1).1]
  exact h1
theorem Sit.ext {S:PH} {hv:Nat→Value} {Fm:List HP} {sl:Nat→AV} {objs:List AO} {f:Fr} {w:World} (h:Sit S hv Fm sl objs f w) (k:Nat):Sit S hv Fm sl (objs++List.replicate k .unborn) f w where
  inv:=by
    rw[OHs.app,za_]
    have:=ba1 h.inv k
    refine this.perm ?_
    rw[← b4_]
    exact List.perm_append_comm.append_right Fm
  rel:=h.rel
  wfs d:=AV.lt_mono (λ_=>vg_) (h.wfs d)
  wfo a ha:=by
    rcases b3_.1 ha with h1 | h1
    · exact AO.lt_mono (λ_=>vg_) (h.wfo a h1)
    · obtain rfl:=List.eq_of_mem_replicate h1;rfl
  gl:=h.gl
theorem oz_ {s:A} {dd:Option Nat} {av:AV} {ob:List AO} {d:Nat} (h:dd≠some d):(stA s dd av ob).slot d=s.slot d:=by
  cases dd with
  | none=>rfl
  | some e =>
    have hb:Nat.beq d e=false:=by
      cases hb:Nat.beq d e with
      | false=>rfl
      | true=>rw[a4_ hb] at h;exact absurd rfl h
    show cond (Nat.beq d e) _ _=_
    rw[hb]
    rfl
section
variable {ρ:Type} {P:Program} [Tb P] {cx:Cx P} {n:Nat} {r:ρ} {ro:Option Nat} {S0:PH} {hv0:Nat→Value} {ob0:List AO} {Fm:List HP}
theorem aa0 {o:Oper} {sl:Nat→AV} {objs:List AO} {fr:Nat} {k:AV→List AO→Option ρ} (h:bl5 cx o sl objs fr k=some r):∃ av objs',k av objs'=some r∧OpUn P o sl objs av objs':=by
  unfold bl5 at h
  have go:∀ ob,yo_ cx o sl ob fr k=some r→∃ av objs',k av objs'=some r∧OpUn P o (rsl ob sl) ob av objs':=by
    intro ob h
    unfold yo_ at h
    cases hc:ba0 o.op with
    | true =>
      rw[hc] at h
      obtain⟨av,objs',h1,h2⟩:=cx.ok (show cx.call ρ o _ _ fr k=some r from h)
      exact⟨av,objs',h1,h2⟩
    | false =>
      rw[hc] at h
      obtain⟨av,objs',h1,h2⟩:=cf6 (show cf7 P o _ _ fr k=some r from h)
      exact⟨av,objs',h1,h2.un⟩
  cases hg:cl0 o with
  | true =>
    rw[hg] at h
    obtain⟨av,objs',h1,h2⟩:=go _ (show yo_ cx o sl (vu_ objs objs.length) fr k=some r from h)
    exact⟨av,objs',h1,OpUn.rest (OpUn.rs h2)⟩
  | false =>
    rw[hg] at h
    obtain⟨av,objs',h1,h2⟩:=go _ (show yo_ cx o sl (vc_ objs (fzIds o sl)) fr k=some r from h)
    exact⟨av,objs',h1,OpUn.frz h2⟩
def OpTo (P:Program) [Tb P] (n:Nat) (o:Oper) (s s':A):Prop:=(∀ d,o.dst≠some d→s'.slot d=s.slot d) ∧
  ∀ {ro:Option Nat} {S0:PH} {hv0:Nat→Value} {ob0:List AO} {Fm:List HP} {f:Fr} {w:World} {K:Fr→World→Prop},Rl S0 hv0 ob0 Fm s f w→(∀ f' w',Rl S0 hv0 ob0 Fm s' f' w'→Keep s.objs s'.objs→K f' w')→OP P n ro o f w K
theorem bn0 {o:Oper} {s:A} {k:A→Option ρ} (h:run1 cx n o s k=some r):∃ s',k s'=some r∧OpTo P n o s s':=by
  unfold run1 at h
  simp only[ae5,xa_] at h
  obtain⟨hd,h⟩:=bm_ h
  obtain⟨av,objs',h1,h2⟩:=aa0 h
  refine⟨_,h1,λd hne=>oz_ hne,λ{ro S0 hv0 ob0 Fm f w K} hr hk => ?_⟩
  obtain⟨S,hv,Ds,hle,hag,hbl,hs,hds⟩:=hr
  have hs2:=hs.ext (ndO cx o)
  refine h2 hs2 hd λv S' hv' w' x1 x2 x3 x4 a b c e => ?_
  have hb1:BLe s.objs (s.objs++List.replicate (ndO cx o) .unborn):=λ_=>vg_
  refine hk _ _ ⟨S',hv',Ds,hle.trans a,hag.trans (b.sub (hbl.trans hb1)),(hbl.trans hb1).trans x1,?_,by rw[sn_];exact hds⟩ ?_
  · have hs3:Sit S' hv' (pz_ Ds::Fm) s.slot objs' f w':=⟨e,λi=>RA.mono a (RA.ag b (hs2.wfs i) (hs2.rel i)),λi=>AV.lt_mono x1 (hs2.wfs i),x3,hs2.gl.mono a⟩
    have:=Sit.put (s:=⟨s.slot,objs'⟩) hs3 (d:=o.dst) c x4
    cases hd2:o.dst <;> (rw[hd2] at this;exact this)
  · refine Keep.trans (b:=s.objs++List.replicate (ndO cx o) .unborn) (λp c hp=>⟨c,?_,K1.refl c⟩) ?_
    · rw[b1_ (a3_.1 hp).1];exact hp
    · have:(stA s o.dst av objs').objs=objs':=rfl
      rw[this]
      exact x2
theorem Rl.setB {s:A} {f:Fr} {w:World} {d:Nat} {c:Bool} (hr:Rl S0 hv0 ob0 Fm s f w) (hc:f d = .bool c):Rl S0 hv0 ob0 Fm (stA s (some d) (bV c) s.objs) f w:=by
  obtain⟨S,hv,Ds,hle,hag,hbl,hs,hds⟩:=hr
  refine⟨S,hv,Ds,hle,hag,hbl,⟨hs.inv,λi => ?_,λi => ?_,hs.wfo,hs.gl⟩,hds⟩
  · show RA hv S (cond (Nat.beq i d) (bV c) (s.slot i)) (f i)
    cases hb:Nat.beq i d with
    | true =>
      rw[a4_ hb,hc]
      exact px_ c
    | false=>exact hs.rel i
  · show (cond (Nat.beq i d) (bV c) (s.slot i)).lt s.objs=true
    cases Nat.beq i d with
    | true=>rfl
    | false=>exact hs.wfs i
theorem Rl.bool {s:A} {f:Fr} {w:World} {d:Nat} {c:Bool} (hr:Rl S0 hv0 ob0 Fm s f w) (h:asD .bool (s.slot d)=some c):f d = .bool c:=by
  obtain⟨S,hv,Ds,hle,hag,hbl,hs,hds⟩:=hr
  exact eb_ (hs.rel d) h
theorem Rl.un {s:A} {f:Fr} {w:World} {d:Option Nat} (hr:Rl S0 hv0 ob0 Fm s f w):Rl S0 hv0 ob0 Fm (stA s d (.tup []) s.objs) (vl_ f d undef) w:=by
  obtain⟨S,hv,Ds,hle,hag,hbl,hs,hds⟩:=hr
  exact⟨S,hv,Ds,hle,hag,hbl,hs.put un_ra rfl,by rw[sn_];exact hds⟩
theorem Rl.isUn {s:A} {f:Fr} {w:World} {d:Nat} (hr:Rl S0 hv0 ob0 Fm s f w) (h:unA (s.slot d)=true):f d=undef:=by
  obtain⟨S,hv,Ds,hle,hag,hbl,hs,hds⟩:=hr
  exact bk4 h (hs.rel d)
structure LTo (P:Program) [Tb P] (n:Nat) (all os:List Oper) (s s':A):Prop where
  slot:∀ d,(∀ o ∈ all,o.dst≠some d)→s'.slot d=s.slot d
  runT:∀ {ro:Option Nat} {S0:PH} {hv0:Nat→Value} {ob0:List AO} {Fm:List HP} {f:Fr} {w:World} {N:Fr→World→Prop} {tail:List Oper},Rl S0 hv0 ob0 Fm s f w→(∀ f' w',Rl S0 hv0 ob0 Fm s' f' w'→Keep s.objs s'.objs→WL P n ro all.toArray N tail f' w')→WL P n ro all.toArray N (os++tail) f w
theorem LTo.run {n:Nat} {all os:List Oper} {s s':A} (L:LTo P n all os s s') {ro:Option Nat} {S0:PH} {hv0:Nat→Value} {ob0:List AO} {Fm:List HP} {f:Fr} {w:World} {N:Fr→World→Prop} (hr:Rl S0 hv0 ob0 Fm s f w) (hk:∀ f' w',Rl S0 hv0 ob0 Fm s' f' w'→Keep s.objs s'.objs→N f' w'):WL P n ro all.toArray N os f w:=by
  have:=L.runT (ro:=ro) (N:=N) (tail:=[]) hr λf' w' h k=>dj_ (hk f' w' h k)
  rwa [e8_] at this
theorem jn_ {all:List Oper}:∀ {os:List Oper} {s:A} {k:A→Option ρ},(∀ o ∈ os,o ∈ all)→nz_ cx n all os s k=some r→∃ s',k s'=some r∧LTo P n all os s s'
  | [],s,k,_,h=>⟨s,h,λ_ _=>rfl,λhr hk=>hk _ _ hr (Keep.refl _)⟩
  | o::os,s,k,hall,h=>by
    have hos:∀ q ∈ os,q ∈ all:=λq hq=>hall q (by simp[hq])
    have hoo:o ∈ all:=hall o (by simp)
    unfold nz_ at h
    split at h
    · rename_i hg
      obtain⟨s1,h1,t1,t3⟩:=bn0 h
      obtain⟨s2,h2,L⟩:=jn_ hos h1
      exact⟨s2,h2,λd hd=>(L.slot d hd).trans (t1 d (hd o hoo)),λhr hk=>nc_ hg (t3 hr λf1 w1 hr1 k1=>L.runT hr1 λf2 w2 hr2 k2=>hk f2 w2 hr2 (k1.trans k2))⟩
    · rename_i j b hg
      obtain⟨oj,hj,h⟩:=bnd h
      obtain⟨d,hd,h⟩:=bnd h
      obtain⟨hdn,h⟩:=bm_ h
      have hjd0:(all.toArray[j]?).bind (·.dst)=some d:=by simp[hj,hd]
      cases hun:unA (s.slot d) with
      | true =>
        rw[hun] at h
        obtain⟨h0,h⟩:=bm_ (show cond (ei_ n o.dst) _ none=some r from h)
        obtain⟨s2,h2,L⟩:=jn_ hos h
        exact⟨s2,h2,λd' hd'=>(L.slot d' hd').trans (oz_ (hd' o hoo)),λ{ro S0 hv0 ob0 Fm f w N tail} hr hk =>
          bj1 hg hjd0 hdn (hr.isUn hun) h0 (L.runT (Rl.un hr) hk)⟩
      | false =>
      rw[hun] at h
      obtain⟨c,hc,h⟩:=bnd (show Option.bind _ _=some r from h)
      have hjd:(all.toArray[j]?).bind (·.dst)=some d:=by simp[hj,hd]
      have hjn:∀ d',(∀ q ∈ all,q.dst≠some d')→(some d:Option Nat)≠some d':=λd' hd' e=>hd' oj (b2_ hj) (hd.trans e)
      have go:∀ c',c'=c→c'=b→run1 cx n o (stA s (some d) (bV c') s.objs) (λs=>nz_ cx n all os s k)=some r→∃ s',k s'=some r∧LTo P n all (o::os) s s':=λc' e e2 h=>by
        obtain⟨s1,h1,t1,t3⟩:=bn0 h
        obtain⟨s2,h2,L⟩:=jn_ hos h1
        exact⟨s2,h2,λd' hd'=>(L.slot d' hd').trans ((t1 d' (hd' o hoo)).trans (oz_ (hjn d' hd'))),λhr hk =>
          av7 hg hjd hdn (hr.bool hc) (e ▸ e2) (t3 (by rw[e];exact hr.setB (hr.bool hc)) λf1 w1 hr1 k1=>L.runT hr1 λf2 w2 hr2 k2=>hk f2 w2 hr2 (k1.trans k2))⟩
      have no:∀ c',c'=c→c' = !b→cond (ei_ n o.dst) (nz_ cx n all os (stA (stA s (some d) (bV c') s.objs) o.dst (.tup []) s.objs) k) none=some r→∃ s',k s'=some r∧LTo P n all (o::os) s s':=λc' e e2 h=>by
        obtain⟨h0,h⟩:=bm_ h
        obtain⟨s2,h2,L⟩:=jn_ hos h
        exact⟨s2,h2,λd' hd'=>(L.slot d' hd').trans ((oz_ (hd' o hoo)).trans (oz_ (hjn d' hd'))),λ{ro S0 hv0 ob0 Fm f w N tail} hr hk =>
          wl_skip hg hjd hdn (hr.bool hc) (e ▸ e2) h0 (L.runT (Rl.un (s:=stA s (some d) (bV c') s.objs) (by rw[e];exact hr.setB (hr.bool hc))) hk)⟩
      cases c with
      | true=>cases b with
        | true=>exact go true rfl rfl h
        | false=>exact no true rfl rfl h
      | false=>cases b with
        | true=>exact no false rfl rfl h
        | false=>exact go false rfl rfl h
end
end
section
variable [Gb]
abbrev GD.at_ (G:GD) (t:Ty):GD:=⟨t,G.u,G.q,G.T,G.Ti⟩
inductive Sp1 where
  | v (d:Nat) (t:Ty)
  | r (d:Nat) (t:Ty) (T:TypeId)
  | a (d:Nat) (t:Ty) (T:TypeId)
  | o (o:Nat) (t:Ty)
  | b (o:Nat) (ks:List CK)
  | m (o:Nat) (k v:Ty)
  | g (o:Nat) (t:Ty)
  | x (o:Nat)
  | y (o:Nat)
def ko_:List CK→Type
  | []=>Unit
  | .keep::ks=>ko_ ks
  | .val t::ks=>t.den×ko_ ks
  | .row t _::ks=>List t.den×ko_ ks
  | .map k v::ks=>List (k.den×v.den)×ko_ ks
def Sp1.den:Sp1→Type
  | .v _ t=>t.den
  | .r _ t _=>List t.den
  | .a _ t _=>t.den
  | .o _ t=>List t.den
  | .b _ ks=>ko_ ks
  | .m _ kt vt=>List (kt.den×vt.den)
  | .g _ t=>List t.den
  | .x _=>Unit
  | .y _=>Unit
def bp_:List Sp1→Type
  | []=>Unit
  | e::es=>e.den×bp_ es
def ah8 (t:Ty) (T:TypeId) (c:SV) (rem:List AO):Option (List t.den×List AO):=match c with
  | .nils=>some ([],rem)
  | .row o=>match rem[o]? with
    | some (.row t' T' l false)=>cond (Nat.beq T' T) ((yl_ t' t l).bind λm=>some (m,rem.set o .gone)) none
    | _=>none
  | _=>none
def oneR (t:Ty) (o:Nat) (l:List t.den) (rem:List AO):Option (t.den×List AO):=match l with
  | [x]=>some (x,rem.set o .gone)
  | _=>none
def ieq0:Int→Bool
  | .ofNat 0=>true
  | _=>false
def isEL {α:Type}:List α→Bool
  | []=>true
  | _=>false
def bl0 (t:Ty) (T:TypeId) (c:SV) (rem:List AO):Option (t.den×List AO):=match c with
  | .ptrE o i k z p=>match rem[o]? with
    | some (.row t' T' l false)=>cond (Nat.beq T' T&&Nat.beq z t.sz&&Nat.beq k 0&&ieq0 i&&isEL p) ((yl_ t' t l).bind λm=>oneR t o m rem) none
    | _=>none
  | _=>none
theorem bz5 {k v k' v':Ty} (h:cond (k.eqb k') (v.eqb v') false=true):k=k':=by
  cases h1:k.eqb k' with
  | true=>exact Ty.eqb_eq h1
  | false=>rw[h1] at h;cases h
theorem bd0 {k v k' v':Ty} (h:cond (k.eqb k') (v.eqb v') false=true):v=v':=by
  cases h1:k.eqb k' with
  | true=>rw[h1] at h;exact Ty.eqb_eq h
  | false=>rw[h1] at h;cases h
def cm8 (k v k' v':Ty) (m:List (k.den×v.den)):Option (List (k'.den×v'.den)):=if h:cond (k.eqb k') (v.eqb v') false=true then some (bz5 h ▸ bd0 h ▸ m) else none
theorem zr_ {k v k' v':Ty} {m:List (k.den×v.den)} {y:List (k'.den×v'.den)} (h:cm8 k v k' v' m=some y):∃ (e1:k=k') (e2:v=v'),y=e1 ▸ e2 ▸ m:=by
  unfold cm8 at h
  split at h
  · rename_i hc;exact⟨bz5 hc,bd0 hc,(a6_ h).symm⟩
  · cases h
def ap5 (k v:Ty) (c:SV) (rem:List AO):Option (List (k.den×v.den)×List AO):=match c with
  | .map o=>match rem[o]? with
    | some (.map k' v' l false)=>(cm8 k' v' k v l).bind λm=>some (m,rem.set o .gone)
    | _=>none
  | _=>none
def bh4:(ks:List CK)→(cur:List SV)→(rem:List AO)→Option (ko_ ks×List AO)
  | [],[],rem=>some ((),rem)
  | .keep::ks,_::cs,rem=>bh4 ks cs rem
  | .val t::ks,c::cs,rem=>cond t.agg none ((asC t c).bind λx=>(bh4 ks cs rem).bind λq=>some ((x,q.1),q.2))
  | .row t T::ks,c::cs,rem=>(ah8 t T c rem).bind λp=>(bh4 ks cs p.2).bind λq=>some ((p.1,q.1),q.2)
  | .map k v::ks,c::cs,rem=>(ap5 k v c rem).bind λp=>(bh4 ks cs p.2).bind λq=>some ((p.1,q.1),q.2)
  | _,_,_=>none
def getR (sl:Nat→AV) (d:Nat) (t:Ty) (T:TypeId) (rem:List AO):Option (List t.den×List AO):=match sl d with
  | .b (.one c)=>ah8 t T c rem
  | _=>none
def getA (sl:Nat→AV) (d:Nat) (t:Ty) (T:TypeId) (rem:List AO):Option (t.den×List AO):=match sl d with
  | .b (.one c)=>bl0 t T c rem
  | _=>none
def getO (ob:List AO) (o:Nat) (t:Ty) (rem:List AO):Option (List t.den×List AO):=match ob[o]? with
  | some (.row _ T _ _)=>match rem[o]? with
    | some (.row t' T' l false)=>cond (Nat.beq T' T) ((yl_ t' t l).bind λm=>some (m,rem.set o .gone)) none
    | _=>none
  | _=>none
def getB (ob:List AO) (o:Nat) (ks:List CK) (rem:List AO):Option (ko_ ks×List AO):=match ob[o]? with
  | some (.cells _ _ _)=>match rem[o]? with
    | some (.cells _ c _)=>bh4 ks c (rem.set o .gone)
    | _=>none
  | _=>none
def getM (ob:List AO) (o:Nat) (k v:Ty) (rem:List AO):Option (List (k.den×v.den)×List AO):=match ob[o]? with
  | some (.map _ _ _ _)=>match rem[o]? with
    | some (.map k' v' l false)=>(cm8 k' v' k v l).bind λm=>some (m,rem.set o .gone)
    | _=>none
  | _=>none
def bv5 (ob:List AO) (o:Nat) (t:Ty) (rem:List AO):Option (List t.den×List AO):=match ob[o]? with
  | some (.grid G0 _ _ _)=>match rem[o]? with
    | some (.grid G l none false)=>cond (G.t.eqb G0.t&&G.u.eqb G0.u&&eqL G.q G0.q&&Nat.beq G.T G0.T&&Nat.beq G.Ti G0.Ti) ((yl_ G.t t l).bind λm=>some (m,rem.set o .gone)) none
    | _=>none
  | _=>none
def getY (ob:List AO) (o:Nat) (rem:List AO):Option (Unit×List AO):=match ob[o]? with
  | some (.yld _ _ _)=>match rem[o]? with
    | some (.yld _ .rdy false)=>some ((),rem.set o .gone)
    | _=>none
  | _=>none
def get1 (ob:List AO) (sl:Nat→AV):(e:Sp1)→(rem:List AO)→Option (e.den×List AO)
  | .v d t,rem=>(asD t (sl d)).bind λx=>some (x,rem)
  | .r d t T,rem=>getR sl d t T rem
  | .a d t T,rem=>getA sl d t T rem
  | .o o t,rem=>getO ob o t rem
  | .b o ks,rem=>getB ob o ks rem
  | .m o k v,rem=>getM ob o k v rem
  | .g o t,rem=>bv5 ob o t rem
  | .x _,rem=>some ((),rem)
  | .y o,rem=>getY ob o rem
def getS (ob:List AO) (sl:Nat→AV):(es:List Sp1)→(rem:List AO)→Option (bp_ es)
  | [],_=>some ()
  | e::es,rem=>(get1 ob sl e rem).bind λp=>(getS ob sl es p.2).bind λy=>some (p.1,y)
def ns_:AO→AO
  | .cells T c _=>.cells T c (List.range c.length)
  | .row t T l _=>.row t T l true
  | .map k v m _=>.map k v m true
  | .grid G l h _=>.grid G l h true
  | .yld Y st _=>.yld Y st true
  | a=>a
def listed:List Sp1→Nat→Bool
  | [],_=>false
  | .o o _::es,i=>Nat.beq o i||listed es i
  | .b o _::es,i=>Nat.beq o i||listed es i
  | .m o _ _::es,i=>Nat.beq o i||listed es i
  | .g o _::es,i=>Nat.beq o i||listed es i
  | .x o::es,i=>Nat.beq o i||listed es i
  | .y o::es,i=>Nat.beq o i||listed es i
  | _::es,i=>listed es i
def inL:Nat→List Nat→Bool
  | _,[]=>false
  | i,a::l=>Nat.beq i a||inL i l
def mvS (sl:Nat→AV) (ob:List AO):List Sp1→List Nat
  | []=>[]
  | .r d _ _::es=>match sl d with
    | .b (.one (.row o))=>o::mvS sl ob es
    | _=>mvS sl ob es
  | .a d _ _::es=>match sl d with
    | .b (.one (.ptrE o _ _ _ _))=>o::mvS sl ob es
    | _=>mvS sl ob es
  | .b o ks::es=>(match ob[o]? with
    | some (.cells _ c _)=>mvC ks c
    | _=>[])++mvS sl ob es
  | _::es=>mvS sl ob es
 where mvC:List CK→List SV→List Nat
  | .row _ _::ks,.row o::cs=>o::mvC ks cs
  | .map _ _::ks,.map o::cs=>o::mvC ks cs
  | _::ks,_::cs=>mvC ks cs
  | _,_=>[]
def ex_ (mk:Bool) (es:List Sp1) (mv:List Nat):Nat→List AO→List AO
  | _,[]=>[]
  | i,a::l=>(match a with
    | .unborn=>.unborn
    | .gone=>.gone
    | a=>cond (listed es i||inL i mv) .gone (cond mk (ns_ a) a))::ex_ mk es mv (i+1) l
def km_:(ks:List CK)→(base:List SV)→ko_ ks→Nat→List SV×List AO
  | .keep::ks,b::bs,x,k=>let q:=km_ ks bs x k; (b::q.1,q.2)
  | .val t::ks,_::bs,x,k=>let q:=km_ ks bs x.2 k; (.val t x.1::q.1,q.2)
  | .row t T::ks,_::bs,x,k=>let q:=km_ ks bs x.2 (k+1); (.row k::q.1,.row t T x.1 false::q.2)
  | .map kt vt::ks,_::bs,x,k=>let q:=km_ ks bs x.2 (k+1); (.map k::q.1,.map kt vt x.1 false::q.2)
  | _,_,_,_=>([],[])
def roC:List CK→Nat→List Nat
  | [],_=>[]
  | .keep::ks,i=>i::roC ks (i+1)
  | _::ks,i=>roC ks (i+1)
def ew_ (mk:Bool) (ob:List AO):(e:Sp1)→e.den→A→A
  | .v d t,x,s=>⟨ce5 s.slot d (ofD t x),s.objs⟩
  | .r d t T,x,s=>⟨ce5 s.slot d (yd_ s.objs.length),s.objs++[.row t T x false]⟩
  | .a d t T,x,s=>⟨ce5 s.slot d (.b (.one (.ptrE s.objs.length 0 0 t.sz []))),s.objs++[.row t T [x] false]⟩
  | .o o t,x,s=>match ob[o]? with
    | some (.row _ T _ _)=>⟨s.slot,s.objs.set o (.row t T x false)⟩
    | _=>s
  | .b o ks,x,s=>match ob[o]? with
    | some (.cells T c ro)=>⟨s.slot,s.objs.set o (.cells T (km_ ks c x s.objs.length).1 (cond mk (roC ks 0) ro))++(km_ ks c x s.objs.length).2⟩
    | _=>s
  | .m o k v,x,s=>match ob[o]? with
    | some (.map _ _ _ _)=>⟨s.slot,s.objs.set o (.map k v x false)⟩
    | _=>s
  | .g o t,x,s=>match ob[o]? with
    | some (.grid G _ _ _)=>⟨s.slot,s.objs.set o (.grid (G.at_ t) x none false)⟩
    | _=>s
  | .x _,_,s=>s
  | .y o,_,s=>match ob[o]? with
    | some (.yld Y _ _)=>⟨s.slot,s.objs.set o (.yld Y .rdy false)⟩
    | _=>s
def pw_ (mk:Bool) (ob:List AO):(es:List Sp1)→bp_ es→A→A
  | [],_,s=>s
  | e::es,x,s=>pw_ mk ob es x.2 (ew_ mk ob e x.1 s)
def gb_ (mk:Bool) (asg:List Nat) (es:List Sp1) (mv:List Nat) (s:A) (x:bp_ es):A :=
  pw_ mk s.objs es x ⟨λd=>cond (inL d asg) (.b .dead) (s.slot d),ex_ mk es mv 0 s.objs⟩
def okS (ob:List AO):List Sp1→Bool
  | []=>true
  | .o o _::es=>(match ob[o]? with
    | some (.row _ _ _ false)=>true
    | _=>false)&&!listed es o&&okS ob es
  | .b o ks::es=>(match ob[o]? with
    | some (.cells _ c ro)=>Nat.beq ks.length c.length&&em_ (λj=>inL j (roC ks 0)) ro
    | _=>false)&&!listed es o&&okS ob es
  | .m o _ _::es=>(match ob[o]? with
    | some (.map _ _ _ false)=>true
    | _=>false)&&!listed es o&&okS ob es
  | .g o _::es=>(match ob[o]? with
    | some (.grid _ _ _ false)=>true
    | _=>false)&&!listed es o&&okS ob es
  | .x o::es=>(match ob[o]? with
    | some (.row _ _ _ false)=>true
    | _=>false)&&!listed es o&&okS ob es
  | .y o::es=>(match ob[o]? with
    | some (.yld _ _ false)=>true
    | _=>false)&&!listed es o&&okS ob es
  | _::es=>okS ob es
end
section
variable [Gb]
def inL0:Nat→List Nat→Bool
  | _,[]=>false
  | i,a::l=>Nat.beq i a||inL0 i l
def bk3 {α:Type}:List Nat→List Nat→(List Nat→α)→α
  | [],m,k=>k m
  | a::l,m,k=>cond (inL0 a m) (bk3 l m k) (bk3 l (a::m) k)
def yj_ {α:Type} (acc:List (List Nat)):List Nat→List Nat→(List Nat→α)→α
  | [],m,k=>k m
  | p::ps,m,k=>bk3 (p::(acc[p]?).getD []) m λm=>yj_ acc ps m k
def am6 (acc:List (List Nat)) (ps:List Nat):List Nat:=yj_ acc ps [] id
theorem vm_ {α:Type}:∀ (l m:List Nat) (k:List Nat→α),bk3 l m k=k (bk3 l m id)
  | [],m,k=>rfl
  | a::l,m,k=>by
    unfold bk3
    cases inL0 a m with
    | true=>exact vm_ l m k
    | false=>exact vm_ l (a::m) k
theorem ba5 {i:Nat}:∀ {l:List Nat},inL0 i l=true↔i ∈ l
  | []=>by simp[inL0]
  | a::l=>by
    simp only[inL0,c8_,d1_,ba5 (l:=l)]
    exact⟨λh=>h.imp (λh=>a4_ h) id,λh=>h.imp (λh=>by rw[h];exact g3_ a) id⟩
theorem ac8 {x:Nat}:∀ (l m:List Nat),x ∈ bk3 l m id↔x ∈ l∨x ∈ m
  | [],m=>by simp[bk3]
  | a::l,m=>by
    unfold bk3
    cases h:inL0 a m with
    | true =>
      show x ∈ bk3 l m id↔_
      rw[ac8 l m]
      have:=ba5.1 h
      constructor
      · rintro (h | h)
        · exact .inl (by simp[h])
        · exact .inr h
      · rintro (h | h)
        · rcases d1_.1 h with rfl | h
          · exact .inr this
          · exact .inl h
        · exact .inr h
    | false =>
      show x ∈ bk3 l (a::m) id↔_
      rw[ac8 l (a::m)]
      simp only[d1_]
      constructor
      · rintro (h | h | h)
        · exact .inl (.inr h)
        · exact .inl (.inl h)
        · exact .inr h
      · rintro ((h | h) | h)
        · exact .inr (.inl h)
        · exact .inl h
        · exact .inr (.inr h)
theorem bb6 {α:Type} (acc:List (List Nat)):∀ (ps m:List Nat) (k:List Nat→α),yj_ acc ps m k=k (yj_ acc ps m id)
  | [],m,k=>rfl
  | p::ps,m,k=>by
    unfold yj_
    rw[vm_,vm_ (k:=λm=>yj_ acc ps m id),bb6 acc ps _ k]
theorem wp_ {x:Nat} (acc:List (List Nat)):∀ (ps m:List Nat),x ∈ yj_ acc ps m id↔x ∈ m∨∃ p ∈ ps,x=p∨x ∈ (acc[p]?).getD []
  | [],m=>by simp[yj_]
  | p::ps,m=>by
    unfold yj_
    rw[vm_,wp_ acc ps,ac8]
    constructor
    · rintro ((h | h) | ⟨q,h1,h2⟩)
      · rcases d1_.1 h with h | h
        · exact .inr ⟨p,by simp,.inl h⟩
        · exact .inr ⟨p,by simp,.inr h⟩
      · exact .inl h
      · exact .inr ⟨q,by simp[h1],h2⟩
    · rintro (h | ⟨q,h1,h2⟩)
      · exact .inl (.inr h)
      · rcases d1_.1 h1 with rfl | h1
        · exact .inl (.inl (by rcases h2 with rfl | h2<;>simp[*]))
        · exact .inr ⟨q,h1,h2⟩
def kq_:List Oper→List (List Nat)→List (List Nat)
  | [],acc=>acc
  | o::os,acc=>kq_ os (acc++[am6 acc (ch_ o)])
def snoF {α:Type}:List (List Nat)→List Nat→(List (List Nat)→α)→α
  | [],x,k=>k [x]
  | a::l,x,k=>snoF l x λl=>k (a::l)
theorem bl8 {α:Type}:∀ (l:List (List Nat)) (x:List Nat) (k:List (List Nat)→α),snoF l x k=k (l++[x])
  | [],_,_=>rfl
  | a::l,x,k=>bl8 l x λl=>k (a::l)
def cu4 {α:Type}:List Oper→List (List Nat)→(List (List Nat)→α)→α
  | [],acc,k=>k acc
  | o::os,acc,k=>yj_ acc (ch_ o) [] λx=>snoF acc x λacc=>cu4 os acc k
theorem xv_ {α:Type}:∀ (os:List Oper) (acc:List (List Nat)) (k:List (List Nat)→α),cu4 os acc k=k (kq_ os acc)
  | [],_,_=>rfl
  | o::os,acc,k=>by
    unfold cu4
    rw[bb6,bl8,xv_ os]
    rfl
def fz_ (d:Nat):List (Option Nat)→Nat→Option Nat
  | [],_=>none
  | some e::l,i=>cond (Nat.beq d e) (some i) (fz_ d l (i+1))
  | none::l,i=>fz_ d l (i+1)
def cd6 (sl:Nat→AV) (dsts:List (Option Nat)) (tab:List (List Nat)) (anc:List Nat) (vals:List AV) (d:Nat):AV:=match fz_ d dsts 0 with
  | none=>sl d
  | some j=>cond (inL j anc) ((vals[j]?).getD (.b .dead)) (cond (inL vals.length ((tab[j]?).getD [])) (sl d) (.b .dead))
def oq_ (fr0:Nat) (anc F:List Nat):Nat→List AO→List AO
  | _,[]=>[]
  | i,a::l=>cond (inL i F) a (cond (Nat.blt i fr0) (match a with
    | .unborn=>.unborn
    | _=>.gone) (cond (inL (i - fr0) anc) .gone .unborn))::oq_ fr0 anc F (i+1) l
def ix_ (F:List Nat):Nat→List AO→List AO→List AO
  | _,[],_=>[]
  | _,l,[]=>l
  | i,a::l,b::m=>cond (inL i F) b a::ix_ F (i+1) l m
def idsY:List (Nat×AV)→List Nat
  | []=>[]
  | p::l=>cr9 p.2++idsY l
def idsO:AO→List Nat
  | .cells _ l _=>idsL l
  | .fn _ a b=>idsL a++idsL b
  | .grid _ _ (some p) _=>[p.2.1]
  | .yld Y _ _=>idsY Y.sl
  | _=>[]
def addN:List Nat→List Nat→List Nat
  | [],F=>F
  | i::l,F=>cond (inL i F) (addN l F) (addN l (i::F))
def deep (objs:List AO):Nat→List Nat→List Nat→List Nat
  | 0,_,F=>F
  | _,[],F=>F
  | n+1,i::l,F=>cond (inL i F) (deep objs n l F) (deep objs n (idsO ((objs[i]?).getD .gone)++l) (i::F))
def isLight:Op→Bool
  | .move _ | .assign _ | .pick _ _ _ | .binOp _ _ _ _ _ | .unOp _ _ _ | .extract _ _ | .nilCheck _ | .fieldAddr _ _ _ | .build _ _ | .makeFunc _ _ _=>true
  | _=>false
def foot (o:Oper) (env:Nat→AV) (objs:List AO):List Nat :=
  cond (isLight o.op) [] (cond (ba0 o.op||cl0 o) (deep objs 200 (idsX env o.op.operands.toList) []) (addN (idsX env o.op.operands.toList) []))
def isWr (o:Oper):Bool:=isX o.op||(isM o.op||(ba0 o.op||cl0 o))
def cj7:List Nat→List Nat→Bool
  | [],_=>false
  | i::l,F=>inL i F||cj7 l F
structure DR where
  F:List Nat
  wr:Bool
def okC (anc:List Nat) (F:List Nat) (wr:Bool):Nat→List DR→Bool
  | _,[]=>true
  | j,r::rs=>(!(r.wr||wr)||!cj7 r.F F||inL j anc)&&okC anc F wr (j+1) rs
def okW (F:List Nat) (all:List AO):Nat→List AO→Bool
  | _,[]=>true
  | i,a::l=>(!inL i F||a.lt all)&&okW F all (i+1) l
def okF (fr0:Nat) (anc:List Nat) (C:List AO):List Nat→Bool
  | []=>true
  | i::F=>(Nat.blt i fr0||inL (i - fr0) anc)&&born C i&&okF fr0 anc C F
def okU (anc:List Nat) (vis:List AO):Nat→List AV→Bool
  | _,[]=>true
  | j,a::l=>(!inL j anc||a.lt vis)&&okU anc vis (j+1) l
def okS2 (fr0:Nat) (anc:List Nat) (vals:List AV) (F:List Nat) (C:List AO) (vis:List AO):Bool:=okF fr0 anc C F&&em_ (AO.lt vis) vis&&okU anc vis 0 vals
def dstG (n:Nat) (dsts:List (Option Nat)) (j:Nat):Bool:=match dsts[j]? with
  | some (some d)=>Nat.blt d n
  | _=>false
def rp_:List Oper→Nat→Bool
  | [],_=>true
  | o::os,i=>em_ (λp=>Nat.blt p i) (ch_ o)&&rp_ os (i+1)
def fi_ (fr:Nat) (C:List AO):List AO:=match C[fr]? with
  | some .unborn=>C.set fr .gone
  | _=>C
section
variable {ρ:Type} {P:Program} [Tb P]
def stepW (cx:Cx P) (env:Nat→AV) (fr0 fr:Nat) (o:Oper) (anc:List Nat) (vals:List AV) (recs:List DR) (F:List Nat) (C vis:List AO) (k:AV→DR→List AO→Option ρ):Option ρ :=
  cond (okC anc F true 0 recs&&okS2 fr0 anc vals F C vis) (bl5 cx o env vis fr λav ob =>
    cond (av.lt (vis.set fr .gone)&&okW (fr::F) (vis.set fr .gone) 0 (fi_ fr (ix_ (fr::F) 0 C ob))&&em_ (born (fi_ fr (ix_ (fr::F) 0 C ob))) F&&Nat.ble C.length ob.length)
      (frcA av λav=>cl7 (fi_ fr (ix_ (fr::F) 0 C ob)) λob'=>k av ⟨F,true⟩ ob') none) none
def stepN (P:Program) [Tb P] (env:Nat→AV) (fr0 fr:Nat) (o:Oper) (anc:List Nat) (vals:List AV) (recs:List DR) (F:List Nat) (C vis:List AO) (k:AV→DR→List AO→Option ρ):Option ρ :=
  cond (okC anc F false 0 recs&&okS2 fr0 anc vals F C vis) (stepP P o (rsl vis env) vis λav =>
    cond (av.lt (vis.set fr .gone)) (frcA av λav=>cl7 (fi_ fr C) λob'=>k av ⟨F,false⟩ ob') none) none
def stepF (cx:Cx P) (env:Nat→AV) (fr0 fr:Nat) (o:Oper) (anc:List Nat) (vals:List AV) (recs:List DR) (C:List AO) (F:List Nat) (k:AV→DR→List AO→Option ρ):Option ρ :=
  cond (isWr o) (stepW cx env fr0 fr o anc vals recs F C (oq_ fr0 anc F 0 C) k) (stepN P env fr0 fr o anc vals recs F C (oq_ fr0 anc F 0 C) k)
def ap9 (cx:Cx P) (n:Nat) (sl:Nat→AV) (dsts:List (Option Nat)) (tab:List (List Nat)) (fr0 fr:Nat) (o:Oper) (anc:List Nat) (vals:List AV) (recs:List DR) (C:List AO) (k:AV→DR→List AO→Option ρ):Option ρ :=
  cond (ei_ n o.dst) (stepF cx (cd6 sl dsts tab anc vals) fr0 fr o anc vals recs C (foot o (cd6 sl dsts tab anc vals) C) k) none
def tb_ (cx:Cx P) (n:Nat) (sl:Nat→AV) (dsts:List (Option Nat)) (tab:List (List Nat)) (fr0:Nat):List Oper→List (List Nat)→List AV→List DR→List AO→(List AV→List AO→Option ρ)→Option ρ
  | [],_,vals,_,objs,k=>k vals objs
  | o::os,anc::ancs,vals,recs,objs,k=>match o.guard with
    | none=>ap9 cx n sl dsts tab fr0 (fr0+vals.length) o anc vals recs objs λav r ob=>tb_ cx n sl dsts tab fr0 os ancs (vals++[av]) (recs++[r]) ob k
    | some (j,b)=>cond (inL j anc&&dstG n dsts j) ((vals[j]?).bind λvj=>cond (unA vj) (cond (ei_ n o.dst) (tb_ cx n sl dsts tab fr0 os ancs (vals++[.tup []]) (recs++[⟨[],false⟩]) (fi_ (fr0+vals.length) objs) k) none) ((asD .bool vj).bind λc =>
        cond c (cond b (ap9 cx n sl dsts tab fr0 (fr0+vals.length) o anc (vals.set j (bV true)) recs objs λav r ob=>tb_ cx n sl dsts tab fr0 os ancs (vals.set j (bV true)++[av]) (recs++[r]) ob k)
            (cond (ei_ n o.dst) (tb_ cx n sl dsts tab fr0 os ancs (vals.set j (bV true)++[.tup []]) (recs++[⟨[],false⟩]) (fi_ (fr0+vals.length) objs) k) none))
          (cond b (cond (ei_ n o.dst) (tb_ cx n sl dsts tab fr0 os ancs (vals.set j (bV false)++[.tup []]) (recs++[⟨[],false⟩]) (fi_ (fr0+vals.length) objs) k) none)
            (ap9 cx n sl dsts tab fr0 (fr0+vals.length) o anc (vals.set j (bV false)) recs objs λav r ob=>tb_ cx n sl dsts tab fr0 os ancs (vals.set j (bV false)++[av]) (recs++[r]) ob k)))) none
  | _::_,[],_,_,_,_=>none
def su_:List (Option Nat)→Bool
  | []=>true
  | some d::l=>!(l.contains (some d))&&su_ l
  | none::l=>su_ l
def regD (cx:Cx P) (n:Nat) (ops:List Oper) (s:A) (k:A→Option ρ):Option ρ :=
  cond (P.follows .mixedOrders&&su_ (ops.map (·.dst))&&rp_ ops 0) (cu4 ops [] λancs=>tb_ cx n s.slot (ops.map (·.dst)) ancs s.objs.length ops ancs [] [] (s.objs++List.replicate ops.length .unborn) λvals ob =>
    k ⟨λd=>match fz_ d (ops.map (·.dst)) 0 with
      | none=>s.slot d
      | some j=>(vals[j]?).getD (.b .dead),ob⟩) none
end
end
section
variable [Gb]
def VOk (V avs:List AV):Prop:=V.length=avs.length∧∀ (j:Nat) (a:AV),V[j]?=some a→∃ a0,avs[j]?=some a0∧(a=a0∨∃ c,asD .bool a0=some c∧a=bV c)
theorem VOk.app {V avs:List AV} (h:VOk V avs) (a:AV):VOk (V++[a]) (avs++[a]):=by
  refine⟨by simp[h.1],λj b hb => ?_⟩
  by_cases hj:j<V.length
  · rw[b1_ hj] at hb
    obtain⟨a0,h1,h2⟩:=h.2 j b hb
    exact⟨a0,by rw[b1_ (by rw[← h.1];exact hj)];exact h1,h2⟩
  · rw[c5_ (by omega)] at hb
    have h0:j - V.length=0:=by
      have:=(a3_.1 hb).1
      simp at this
      omega
    rw[h0] at hb
    have e:a=b:=by simpa using hb
    refine⟨a,?_,.inl e.symm⟩
    rw[c5_ (by rw[← h.1];omega),← h.1,h0]
    rfl
theorem VOk.set {V avs:List AV} (h:VOk V avs) {j:Nat} {vj:AV} {c:Bool} (hj:V[j]?=some vj) (hc:asD .bool vj=some c):VOk (V.set j (bV c)) avs:=by
  refine⟨by simp[h.1],λi b hb => ?_⟩
  by_cases e:j=i
  · subst e
    have hl:=(a3_.1 hj).1
    obtain⟨a0,h1,h2⟩:=h.2 j vj hj
    have hb':bV c=b:=by simpa [hl] using hb
    subst hb'
    rcases h2 with rfl | ⟨c',h3,rfl⟩
    · exact⟨vj,h1,.inr ⟨c,hc,rfl⟩⟩
    · have:c'=c:=by
        have h4:asD .bool (bV c')=some c':=rfl
        rw[h4] at hc
        exact a6_ hc
      subst this
      exact⟨a0,h1,.inr ⟨c',h3,rfl⟩⟩
  · rw[b6_ e] at hb
    exact h.2 i b hb
structure Ran (P:Program) [Tb P] (n:Nat) (sl:Nat→AV) (dsts:List (Option Nat)) (tab:List (List Nat)) (fr0 fr:Nat) (o:Oper) (anc:List Nat) (V:List AV) (recs:List DR) (C:List AO) (av:AV) (r:DR) (C':List AO):Prop where
  dst:ei_ n o.dst=true
  okc:okC anc r.F r.wr 0 recs=true
  oks:okS2 fr0 anc V r.F C (oq_ fr0 anc r.F 0 C)=true
  lt:av.lt ((oq_ fr0 anc r.F 0 C).set fr .gone)=true
  run:(r.wr=true∧∃ ob,OpUn P o (cd6 sl dsts tab anc V) (oq_ fr0 anc r.F 0 C) av ob∧C'=fi_ fr (ix_ (fr::r.F) 0 C ob)∧okW (fr::r.F) ((oq_ fr0 anc r.F 0 C).set fr .gone) 0 C'=true∧em_ (born C') r.F=true∧C.length≤ob.length) ∨
     (r.wr=false∧OpUn P o (cd6 sl dsts tab anc V) (oq_ fr0 anc r.F 0 C) av (oq_ fr0 anc r.F 0 C)∧C'=fi_ fr C)
structure Good (P:Program) [Tb P] (n:Nat) (sl:Nat→AV) (dsts:List (Option Nat)) (tab:List (List Nat)) (fr0 fr:Nat) (o:Oper) (anc:List Nat) (avs:List AV) (recs:List DR) (C:List AO) (av:AV) (r:DR) (C':List AO):Prop where
  go:∃ V,VOk V avs∧match o.guard with
    | none=>Ran P n sl dsts tab fr0 fr o anc V recs C av r C'
    | some (j,b)=>inL j anc=true∧dstG n dsts j=true∧∃ a0,avs[j]?=some a0∧((asD .bool a0=some b∧Ran P n sl dsts tab fr0 fr o anc V recs C av r C')∨((asD .bool a0=some (!b)∨unA a0=true)∧ei_ n o.dst=true∧av = .tup []∧r=⟨[],false⟩∧C'=fi_ fr C))
def sl_ (P:Program) [Tb P] (n:Nat) (sl:Nat→AV) (dsts:List (Option Nat)) (tab:List (List Nat)) (fr0:Nat):List Oper→List (List Nat)→List AV→List DR→List AO→List (AV×DR×List AO)→Prop
  | [],_,_,_,_,[]=>True
  | o::os,anc::ancs,avs,recs,C,q::tr=>Good P n sl dsts tab fr0 (fr0+avs.length) o anc avs recs C q.1 q.2.1 q.2.2∧sl_ P n sl dsts tab fr0 os ancs (avs++[q.1]) (recs++[q.2.1]) q.2.2 tr
  | _,_,_,_,_,_=>False
def sv_ (C:List AO):List (AV×DR×List AO)→List AO
  | []=>C
  | q::tr=>sv_ q.2.2 tr
section
variable {ρ:Type} {P:Program} [Tb P] {cx:Cx P} {n:Nat} {sl:Nat→AV} {dsts:List (Option Nat)} {tab:List (List Nat)} {r:ρ}
theorem cf5 {fr0 fr:Nat} {o:Oper} {anc:List Nat} {vals:List AV} {recs:List DR} {C:List AO} {k:AV→DR→List AO→Option ρ} (h:ap9 cx n sl dsts tab fr0 fr o anc vals recs C k=some r) :
    ∃ av rc C',k av rc C'=some r∧Ran P n sl dsts tab fr0 fr o anc vals recs C av rc C':=by
  unfold ap9 at h
  obtain⟨hd,h⟩:=bm_ h
  unfold stepF stepW stepN at h
  simp only[ae5,xa_] at h
  cases hw:isWr o with
  | true =>
    rw[hw] at h
    obtain⟨hc,h⟩:=bm_ (show cond _ _ none=some r from h)
    obtain⟨av,ob,h1,h2⟩:=aa0 h
    obtain⟨hk,h1⟩:=bm_ h1
    simp only[a1_] at hk hc
    exact⟨av,_,_,h1,hd,hc.1,hc.2,hk.1.1.1,.inl ⟨rfl,ob,h2,rfl,hk.1.1.2,hk.1.2,b7_ hk.2⟩⟩
  | false =>
    rw[hw] at h
    obtain⟨hc,h⟩:=bm_ (show cond _ _ none=some r from h)
    obtain⟨av,h1,h2⟩:=zy_ h
    obtain⟨hk,h1⟩:=bm_ h1
    simp only[a1_] at hc
    exact⟨av,_,_,h1,hd,hc.1,hc.2,hk,.inr ⟨rfl,OpUn.rs h2.un,rfl⟩⟩
theorem af5 {fr0:Nat}:∀ {os:List Oper} {ancs:List (List Nat)} {vals avs:List AV} {recs:List DR} {C:List AO} {k:List AV→List AO→Option ρ},tb_ cx n sl dsts tab fr0 os ancs vals recs C k=some r→VOk vals avs →
    ∃ tr V,sl_ P n sl dsts tab fr0 os ancs avs recs C tr∧VOk V (avs++tr.map (·.1))∧k V (sv_ C tr)=some r
  | [],ancs,vals,avs,recs,C,k,h,hv=>⟨[],vals,trivial,by simpa using hv,h⟩
  | o::os,[],vals,avs,recs,C,k,h,hv=>by cases h
  | o::os,anc::ancs,vals,avs,recs,C,k,h,hv=>by
    unfold tb_ at h
    have run:∀ (V:List AV),VOk V avs→ap9 cx n sl dsts tab fr0 (fr0+vals.length) o anc V recs C (λav r ob=>tb_ cx n sl dsts tab fr0 os ancs (V++[av]) (recs++[r]) ob k)=some r →
        (∀ av rc C',Ran P n sl dsts tab fr0 (fr0+avs.length) o anc V recs C av rc C'→Good P n sl dsts tab fr0 (fr0+avs.length) o anc avs recs C av rc C') →
        ∃ tr V,sl_ P n sl dsts tab fr0 (o::os) (anc::ancs) avs recs C tr∧VOk V (avs++tr.map (·.1))∧k V (sv_ C tr)=some r:=λV hV h hg=>by
      obtain⟨av,rc,C',h1,h2⟩:=cf5 h
      obtain⟨tr,W,g1,g2,g3⟩:=af5 h1 (hV.app av)
      rw[hv.1] at h2
      refine⟨(av,rc,C')::tr,W,⟨hg av rc C' h2,g1⟩,by simpa using g2,g3⟩
    have skip:∀ (V:List AV),VOk V avs→cond (ei_ n o.dst) (tb_ cx n sl dsts tab fr0 os ancs (V++[.tup []]) (recs++[⟨[],false⟩]) (fi_ (fr0+vals.length) C) k) none=some r →
        (ei_ n o.dst=true→Good P n sl dsts tab fr0 (fr0+avs.length) o anc avs recs C (.tup []) ⟨[],false⟩ (fi_ (fr0+avs.length) C)) →
        ∃ tr V,sl_ P n sl dsts tab fr0 (o::os) (anc::ancs) avs recs C tr∧VOk V (avs++tr.map (·.1))∧k V (sv_ C tr)=some r:=λV hV h hg=>by
      obtain⟨hd,h⟩:=bm_ h
      obtain⟨tr,W,g1,g2,g3⟩:=af5 h (hV.app (.tup []))
      rw[hv.1] at g1 g3
      exact⟨(.tup [],⟨[],false⟩,fi_ (fr0+avs.length) C)::tr,W,⟨hg hd,g1⟩,by simpa using g2,g3⟩
    split at h
    · rename_i hg
      exact run vals hv h λav rc C' hR=>⟨vals,hv,by rw[hg];exact hR⟩
    · rename_i j b hg
      obtain⟨hj,h⟩:=bm_ h
      rw[a1_] at hj
      obtain⟨hj,hjd⟩:=hj
      obtain⟨vj,hvj,h⟩:=bnd h
      obtain⟨a0,ha0,hrel⟩:=hv.2 j vj hvj
      cases hun:unA vj with
      | true =>
        rw[hun] at h
        have hun0:unA a0=true:=by
          rcases hrel with rfl | ⟨c',h3,rfl⟩
          · exact hun
          · cases hun
        exact skip vals hv (show cond (ei_ n o.dst) _ none=some r from h) λhd=>⟨vals,hv,by rw[hg];exact⟨hj,hjd,a0,ha0,.inr ⟨.inr hun0,hd,rfl,rfl,rfl⟩⟩⟩
      | false =>
      rw[hun] at h
      obtain⟨c,hc,h⟩:=bnd (show Option.bind _ _=some r from h)
      have hc0:asD .bool a0=some c:=by
        rcases hrel with rfl | ⟨c',h3,rfl⟩
        · exact hc
        · have h4:asD .bool (bV c')=some c':=rfl
          rw[h4] at hc
          cases hc
          exact h3
      have hV:=hv.set hvj hc
      have go:∀ c',c'=c→c'=b→ap9 cx n sl dsts tab fr0 (fr0+vals.length) o anc (vals.set j (bV c')) recs C (λav r ob=>tb_ cx n sl dsts tab fr0 os ancs (vals.set j (bV c')++[av]) (recs++[r]) ob k)=some r→_:=λc' e e2 h =>
        run (vals.set j (bV c')) (by rw[e];exact hV) h λav rc C' hR=>⟨vals.set j (bV c'),by rw[e];exact hV,by rw[hg];exact⟨hj,hjd,a0,ha0,.inl ⟨hc0.trans (congrArg some (e.symm.trans e2)),hR⟩⟩⟩
      have no:∀ c',c'=c→c' = !b→cond (ei_ n o.dst) (tb_ cx n sl dsts tab fr0 os ancs (vals.set j (bV c')++[.tup []]) (recs++[⟨[],false⟩]) (fi_ (fr0+vals.length) C) k) none=some r→_:=λc' e e2 h =>
        skip (vals.set j (bV c')) (by rw[e];exact hV) h λhd=>⟨vals.set j (bV c'),by rw[e];exact hV,by rw[hg];exact⟨hj,hjd,a0,ha0,.inr ⟨.inl (hc0.trans (congrArg some (e.symm.trans e2))),hd,rfl,rfl,rfl⟩⟩⟩
      cases c with
      | true=>cases b with
        | true=>exact go true rfl rfl h
        | false=>exact no true rfl rfl h
      | false=>cases b with
        | true=>exact no false rfl rfl h
        | false=>exact go false rfl rfl h
end
end
section
variable [Gb]
theorem ph_ {F:List Nat}:∀ {l m:List AO} {i j:Nat},l.length≤m.length→(ix_ F i l m)[j]?=cond (inL (i+j) F&&Nat.blt j l.length) (m[j]?) (l[j]?)
  | [],m,i,j,_=>by
    have h0:Nat.blt j ([]:List AO).length=false:=rfl
    rw[h0,g0_]
    simp[ix_]
  | a::l,[],i,j,h=>by simp at h
  | a::l,b::m,i,0,h=>by
    simp only[ix_,l9_,l6_,c4_]
    have:Nat.blt 0 (l.length+1)=true:=rfl
    rw[this,i3_]
    cases inL i F<;>rfl
  | a::l,b::m,i,j+1,h=>by
    simp only[ix_,i8_,c4_]
    rw[ph_ (l:=l) (m:=m) (i:=i+1) (j:=j) (by simpa using h),show i+1+j=i+(j+1) by omega]
    have:Nat.blt (j+1) (l.length+1)=Nat.blt j l.length:=rfl
    rw[this]
theorem mb_ {F:List Nat}:∀ {l m:List AO} {i:Nat},(ix_ F i l m).length=l.length
  | [],m,i=>by simp[ix_]
  | a::l,[],i=>by simp[ix_]
  | a::l,b::m,i=>by simp[ix_,mb_ (l:=l)]
theorem pt_ {fr:Nat} {C:List AO}:(fi_ fr C).length=C.length:=by
  unfold fi_
  split<;>simp
theorem sj_ {fr o:Nat} {C:List AO} (h:o≠fr):(fi_ fr C)[o]?=C[o]?:=by
  unfold fi_
  split
  · exact b6_ (o1_ h)
  · rfl
theorem qv_ {fr:Nat} {C:List AO} (h:fr<C.length):born (fi_ fr C) fr=true:=by
  unfold fi_
  split
  · exact ay_.2 ⟨.gone,by simp[h],by simp⟩
  · rename_i hne
    exact ay_.2 ⟨C[fr],a7_ h,λe=>hne (by rw[a7_ h,e])⟩
def tch (fr0 o t:Nat) (q:AV×DR×List AO):Bool:=Nat.beq o (fr0+t)||(q.2.1.wr&&inL o q.2.1.F)
def cAt (done:Nat→Bool) (fr0 o:Nat):Nat→List (AV×DR×List AO)→Option AO→Option AO
  | _,[],a=>a
  | t,q::tr,a=>cAt done fr0 o (t+1) tr (cond (done t&&tch fr0 o t q) (q.2.2[o]?) a)
theorem oi_ {done done':Nat→Bool} {fr0 o:Nat}:∀ {tr:List (AV×DR×List AO)} {t:Nat} {a:Option AO},(∀ i q,tr[i]?=some q→tch fr0 o (t+i) q=true→done (t+i)=done' (t+i))→cAt done fr0 o t tr a=cAt done' fr0 o t tr a
  | [],t,a,_=>rfl
  | q::tr,t,a,h=>by
    unfold cAt
    have e:(done t&&tch fr0 o t q)=(done' t&&tch fr0 o t q):=by
      cases ht:tch fr0 o t q with
      | false=>simp
      | true=>have:=h 0 q rfl (by simpa using ht);simpa using this
    rw[e]
    exact oi_ λi q' hq ht=>by
      have:=h (i+1) q' (by simpa using hq) (by rw[show t+(i+1)=t+1+i by omega];exact ht)
      rw[show t+1+i=t+(i+1) by omega]
      exact this
theorem vf_ {done:Nat→Bool} {fr0 o:Nat}:∀ {tr:List (AV×DR×List AO)} {t:Nat} {a:Option AO},(∀ i q,tr[i]?=some q→tch fr0 o (t+i) q=true→done (t+i)=false)→cAt done fr0 o t tr a=a
  | [],t,a,_=>rfl
  | q::tr,t,a,h=>by
    unfold cAt
    have e:(done t&&tch fr0 o t q)=false:=by
      cases ht:tch fr0 o t q with
      | false=>simp
      | true=>have:=h 0 q rfl (by simpa using ht);simpa using this
    rw[e]
    exact vf_ λi q' hq ht=>by
      have:=h (i+1) q' (by simpa using hq) (by rw[show t+(i+1)=t+1+i by omega];exact ht)
      rw[show t+1+i=t+(i+1) by omega]
      exact this
section
variable {P:Program} [Tb P] {n:Nat} {sl:Nat→AV} {dsts:List (Option Nat)} {tab:List (List Nat)} {fr0:Nat}
theorem Good.out {fr:Nat} {o:Oper} {anc:List Nat} {avs:List AV} {recs:List DR} {C C':List AO} {av:AV} {r:DR} (h:Good P n sl dsts tab fr0 fr o anc avs recs C av r C') :
    C'.length=C.length∧∀ p,p≠fr→(r.wr&&inL p r.F)=false→C'[p]?=C[p]?:=by
  have ran:∀ V,Ran P n sl dsts tab fr0 fr o anc V recs C av r C'→C'.length=C.length∧∀ p,p≠fr→(r.wr&&inL p r.F)=false→C'[p]?=C[p]?:=by
    rintro V ⟨_,_,_,_,⟨hw,ob,_,rfl,_,_,hl⟩ | ⟨hw,_,rfl⟩⟩
    · refine⟨by rw[pt_,mb_],λp hp hn => ?_⟩
      rw[sj_ hp,ph_ hl,b0_]
      have hb:Nat.beq p fr=false:=by
        cases hb:Nat.beq p fr with
        | false=>rfl
        | true=>exact absurd (a4_ hb) hp
      rw[hw,c2_] at hn
      simp[inL,hb,hn]
    · exact⟨pt_,λp hp _=>sj_ hp⟩
  obtain⟨V,_,hg⟩:=h.go
  split at hg
  · exact ran V hg
  · obtain⟨_,_,a0,_,⟨_,hR⟩ | ⟨_,_,_,_,rfl⟩⟩:=hg
    · exact ran V hR
    · exact⟨pt_,λp hp _=>sj_ hp⟩
def Cat (C:List AO) (tr:List (AV×DR×List AO)) (t:Nat):List AO:=sv_ C (tr.take t)
theorem mq_:∀ {os:List Oper} {ancs:List (List Nat)} {avs:List AV} {recs:List DR} {C:List AO} {tr:List (AV×DR×List AO)},sl_ P n sl dsts tab fr0 os ancs avs recs C tr →
    tr.length=os.length∧∀ (t:Nat) (o:Oper),os[t]?=some o→∃ anc q,ancs[t]?=some anc∧tr[t]?=some q∧Good P n sl dsts tab fr0 (fr0+(avs.length+t)) o anc (avs++(tr.take t).map (·.1)) (recs++(tr.take t).map (·.2.1)) (Cat C tr t) q.1 q.2.1 q.2.2
  | [],ancs,avs,recs,C,[],h=>⟨rfl,λt o ho=>by simp at ho⟩
  | [],ancs,avs,recs,C,_::_,h=>h.elim
  | o::os,[],avs,recs,C,tr,h=>by cases tr<;>exact h.elim
  | o::os,anc::ancs,avs,recs,C,[],h=>h.elim
  | o::os,anc::ancs,avs,recs,C,q::tr,h=>by
    obtain⟨h1,h2⟩:=h
    obtain⟨g1,g2⟩:=mq_ h2
    refine⟨by simp[g1],λt p hp => ?_⟩
    cases t with
    | zero =>
      simp at hp
      subst hp
      exact⟨anc,q,rfl,rfl,by simpa [Cat,sv_] using h1⟩
    | succ t =>
      obtain⟨anc',q',e1,e2,e3⟩:=g2 t p (by simpa using hp)
      refine⟨anc',q',by simpa using e1,by simpa using e2,?_⟩
      have e4:(avs++[q.1]).length+t=avs.length+(t+1):=by simp;omega
      rw[e4] at e3
      simpa [Cat,sv_] using e3
theorem bu0 {C:List AO}:∀ {a b:List (AV×DR×List AO)},sv_ C (a++b)=sv_ (sv_ C a) b:=by
  intro a
  induction a generalizing C with
  | nil=>intro b;rfl
  | cons q a ih=>intro b;exact ih (C:=q.2.2)
theorem vh_ {C:List AO} {tr:List (AV×DR×List AO)} {t:Nat} {q:AV×DR×List AO} (h:tr[t]?=some q):Cat C tr (t+1)=q.2.2:=by
  unfold Cat
  obtain⟨hl,e⟩:=a3_.1 h
  rw[List.take_succ_eq_append_getElem hl,bu0,e]
  rfl
end
end
section
variable [Gb]
theorem wv_ {i:Nat}:∀ {l:List Nat},inL i l=true↔i ∈ l
  | []=>by simp[inL]
  | a::l=>by
    simp only[inL,c8_,d1_,wv_ (l:=l)]
    exact⟨λh=>h.imp (λh=>a4_ h) id,λh=>h.imp (λh=>by rw[h];exact g3_ a) id⟩
theorem bh5 {acc:List (List Nat)} {p:Nat} {ps:List Nat} (h:p ∈ ps):inL p (am6 acc ps)=true:=by
  rw[wv_]
  exact (wp_ acc ps []).2 (.inr ⟨p,h,.inl rfl⟩)
theorem bh6 {acc:List (List Nat)} {j:Nat} {ps:List Nat} (h:inL j (am6 acc ps)=true):∃ p ∈ ps,j=p∨inL j ((acc[p]?).getD [])=true:=by
  rcases (wp_ acc ps []).1 (wv_.1 h) with h | ⟨p,h1,h2⟩
  · cases h
  · exact⟨p,h1,h2.imp id wv_.2⟩
theorem bd7 {j:Nat} (os:List Oper):∀ (acc:List (List Nat)),j<acc.length→(kq_ os acc)[j]?=acc[j]?:=by
  induction os with
  | nil=>intro acc h;rfl
  | cons o os ih =>
    intro acc h
    show (kq_ os (acc++[am6 acc (ch_ o)]))[j]?=_
    rw[ih _ (by simp;omega),b1_ h]
theorem ancL_at (os:List Oper):∀ (acc:List (List Nat)) (t:Nat) (o:Oper),os[t]?=some o→∃ a2:List (List Nat),(∀ (p:Nat) (x:List Nat),a2[p]?=some x→(kq_ os acc)[p]?=some x)∧(kq_ os acc)[acc.length+t]?=some (am6 a2 (ch_ o)):=by
  induction os with
  | nil=>intro acc t o h;simp at h
  | cons o' os ih =>
    intro acc t o h
    cases t with
    | zero =>
      have e:o'=o:=by simpa using h
      subst e
      refine⟨acc,λq x hq => ?_,?_⟩
      · rw[bd7 _ _ (a3_.1 hq).1];exact hq
      · show (kq_ os (acc++[am6 acc (ch_ o')]))[acc.length+0]?=_
        rw[bd7 _ _ (by simp)]
        simp
    | succ t =>
      obtain⟨a2,h1,h2⟩:=ih (acc++[am6 acc (ch_ o')]) t o (by simpa using h)
      refine⟨a2,λq x hq=>h1 q x hq,?_⟩
      rw[show acc.length+(t+1)=(acc++[am6 acc (ch_ o')]).length+t by simp;omega]
      exact h2
theorem bd6 {os:List Oper} {i:Nat} {o:Oper} {anc:List Nat} (ho:os[i]?=some o) (ha:(kq_ os [])[i]?=some anc) :
    (∀ p ∈ ch_ o,inL p anc=true)∧∀ j,inL j anc=true→∃ p ∈ ch_ o,j=p∨∃ ap,(kq_ os [])[p]?=some ap∧inL j ap=true:=by
  obtain⟨a2,h1,h2⟩:=ancL_at os [] i o ho
  simp only[j3_,b0_] at h2
  rw[ha] at h2
  cases h2
  refine⟨λp hp=>bh5 hp,λj hj => ?_⟩
  obtain⟨p,hp,hpj⟩:=bh6 hj
  refine⟨p,hp,hpj.imp id λh => ?_⟩
  cases hq:a2[p]? with
  | none=>rw[hq] at h;simp[inL] at h
  | some x=>rw[hq] at h;exact⟨x,h1 p x hq,h⟩
theorem ca1 {done:Nat→Bool} {fr0 o:Nat}:∀ {a b:List (AV×DR×List AO)} {t:Nat} {x:Option AO},cAt done fr0 o t (a++b) x=cAt done fr0 o (t+a.length) b (cAt done fr0 o t a x)
  | [],b,t,x=>rfl
  | q::a,b,t,x=>by
    simp only[m0_,cAt,c4_]
    rw[ca1 (a:=a) (b:=b) (t:=t+1),show t+1+a.length=t+(a.length+1) by omega]
section
variable {P:Program} [Tb P] {n:Nat} {sl:Nat→AV} {dsts:List (Option Nat)} {tab:List (List Nat)} {fr0:Nat} {os:List Oper} {ancs:List (List Nat)} {C0:List AO} {tr:List (AV×DR×List AO)}
theorem qt_ (h:sl_ P n sl dsts tab fr0 os ancs [] [] C0 tr):∀ {t:Nat},t≤os.length→(Cat C0 tr t).length=C0.length:=by
  obtain⟨hl,hg⟩:=mq_ h
  intro t
  induction t with
  | zero=>intro _;rfl
  | succ t ih =>
    intro ht
    obtain⟨anc,q,_,h2,h3⟩:=hg t (os[t]'(by omega)) (a7_ _)
    rw[vh_ h2,h3.out.1,ih (by omega)]
theorem bz3 (h:sl_ P n sl dsts tab fr0 os ancs [] [] C0 tr) {o:Nat}:∀ {t:Nat},t≤os.length→(Cat C0 tr t)[o]?=cAt (λi=>Nat.blt i t) fr0 o 0 tr (C0[o]?):=by
  obtain⟨hl,hg⟩:=mq_ h
  have blt:∀ {a b:Nat},Nat.blt a b=true↔a<b:=λ{a b}=>⟨λh=>b7_ h,λh=>i4_ h⟩
  have nblt:∀ {a b:Nat},Nat.blt a b=false↔¬ a<b:=λ{a b}=>by
    cases hb:Nat.blt a b with
    | true=>simp[blt.1 hb]
    | false=>simp; (have:¬ a<b:=λh=>by rw[blt.2 h] at hb;cases hb);omega
  intro t
  induction t with
  | zero =>
    intro _
    rw[vf_ λi q _ _=>by rw[nblt];omega]
    rfl
  | succ t ih =>
    intro ht
    have ih:=ih (by omega)
    obtain⟨anc,q,_,h2,h3⟩:=hg t (os[t]'(by omega)) (a7_ _)
    rw[vh_ h2]
    obtain⟨htl,he⟩:=a3_.1 h2
    have e:tr=tr.take t++q::tr.drop (t+1):=by
      rw[← he,List.getElem_cons_drop htl,g5_]
    have el:(tr.take t).length=t:=by simp;omega
    rw[e,ca1,el,b0_] at ih ⊢
    simp only[cAt] at ih ⊢
    rw[vf_ (λi q' _ _=>by rw[nblt];omega)] at ih ⊢
    have b1:Nat.blt t t=false:=nblt.2 (by omega)
    have b2:Nat.blt t (t+1)=true:=blt.2 (by omega)
    rw[b1,e9_,a2_] at ih
    rw[b2,c2_]
    have e2:cAt (λi=>Nat.blt i (t+1)) fr0 o 0 (tr.take t) C0[o]?=cAt (λi=>Nat.blt i t) fr0 o 0 (tr.take t) C0[o]?:=oi_ λi q' hq _=>by
      have:=(a3_.1 hq).1
      rw[el] at this
      rw[b0_,blt.2 (show i<t+1 by omega),blt.2 this]
    rw[e2,← ih]
    cases htc:tch fr0 o t q with
    | true=>rfl
    | false =>
      simp only[a2_]
      unfold tch at htc
      rw[c0_] at htc
      have hne:o≠fr0+t:=by rintro rfl;simp at htc
      have:=h3.out.2 o (by simpa using hne) htc.2
      rw[this]
      have e3:Cat C0 tr t=Cat C0 (tr.take t++q::tr.drop (t+1)) t:=by rw[← e]
      rw[e3]
end
end
section
variable [Gb]
theorem ls_ {a b:Nat}:Nat.blt a b=true↔a<b:=⟨λh=>b7_ h,λh=>i4_ h⟩
theorem ag8 {a b:Nat}:Nat.blt a b=false↔¬ a<b:=by
  rw[← ls_,Bool.not_eq_true]
theorem xt_ {a b:Nat} (h:a≠b):Nat.beq a b=false:=by
  cases hb:Nat.beq a b with
  | false=>rfl
  | true=>exact absurd (a4_ hb) h
theorem ro_:∀ {os:List Oper} {i t:Nat} {o:Oper},rp_ os i=true→os[t]?=some o→∀ p ∈ ch_ o,p<i+t:=by
  intro os
  induction os with
  | nil=>intro i t o _ h;simp at h
  | cons o' os ih =>
    intro i t o h ht p hp
    unfold rp_ at h
    rw[a1_] at h
    cases t with
    | zero =>
      have e:o'=o:=by simpa using ht
      subst e
      exact ls_.1 (bg_ h.1 p hp)
    | succ t =>
      have:=ih h.2 (show os[t]?=some o by simpa using ht) p hp
      omega
theorem ao3 {os:List Oper} (hp:rp_ os 0=true):∀ {i:Nat} {o:Oper} {anc:List Nat},os[i]?=some o→(kq_ os [])[i]?=some anc→∀ {j:Nat},inL j anc=true→j<i:=by
  intro i
  induction i using Nat.strongRecOn with
  | _ i ih =>
    intro o anc ho ha j hj
    obtain⟨p,hpm,h⟩:=(bd6 ho ha).2 j hj
    have hpi:=ro_ hp ho p hpm
    rw[b0_] at hpi
    rcases h with rfl | ⟨ap,h1,h2⟩
    · exact hpi
    · have hl:p<os.length:=by have:=(a3_.1 ho).1;omega
      have:=ih p hpi (a7_ hl) h1 h2
      omega
def Cl (os:List Oper) (d:Nat→Bool):Prop:=∀ (i:Nat) (anc:List Nat),(kq_ os [])[i]?=some anc→d i=true→∀ j,inL j anc=true→d j=true
theorem Cl.step {os:List Oper} {d:Nat→Bool} (h:Cl os d) {i:Nat} {o:Oper} (ho:os[i]?=some o) (hpre:∀ p ∈ ch_ o,d p=true) :
    (∀ anc,(kq_ os [])[i]?=some anc→∀ j,inL j anc=true→d j=true)∧Cl os (λj=>Nat.beq j i||d j):=by
  have h1:∀ anc,(kq_ os [])[i]?=some anc→∀ j,inL j anc=true→d j=true:=by
    intro anc ha j hj
    obtain⟨p,hp,he⟩:=(bd6 ho ha).2 j hj
    rcases he with rfl | ⟨ap,h1,h2⟩
    · exact hpre _ hp
    · exact h p ap h1 (hpre p hp) j h2
  refine⟨h1,λk anc ha hk j hj => ?_⟩
  rw[c8_]
  rw[c8_] at hk
  rcases hk with hk | hk
  · rw[a4_ hk] at ha
    exact .inr (h1 anc ha j hj)
  · exact .inr (h k anc ha hk j hj)
theorem al3 {o:Nat}:∀ {A B:List Nat},inL o A=true→inL o B=true→cj7 A B=true
  | a::A,B,h,k=>by
    unfold cj7
    rw[c8_]
    unfold inL at h
    rw[c8_] at h
    rcases h with h | h
    · rw[a4_ h] at k;exact .inl k
    · exact .inr (al3 h k)
theorem okC_at {anc F:List Nat} {wr:Bool}:∀ {recs:List DR} {j t:Nat} {r:DR},okC anc F wr j recs=true→recs[t]?=some r→(r.wr||wr)=true→∀ {o:Nat},inL o r.F=true→inL o F=true→inL (j+t) anc=true:=by
  intro recs
  induction recs with
  | nil=>intro j t r _ h;simp at h
  | cons r' recs ih =>
    intro j t r h ht hw o h1 h2
    unfold okC at h
    rw[a1_] at h
    cases t with
    | zero =>
      have e:r'=r:=by simpa using ht
      subst e
      have h3:=h.1
      rw[hw,al3 h1 h2] at h3
      exact h3
    | succ t =>
      have:=ih h.2 (show recs[t]?=some r by simpa using ht) hw h1 h2
      rwa [show j+1+t=j+(t+1) by omega] at this
theorem okF_at {fr0:Nat} {anc:List Nat} {C:List AO} {o:Nat}:∀ {F:List Nat},okF fr0 anc C F=true→inL o F=true→(o<fr0∨inL (o - fr0) anc=true)∧born C o=true:=by
  intro F
  induction F with
  | nil=>intro _ h;simp[inL] at h
  | cons i F ih =>
    intro h k
    simp only[okF,a1_] at h
    simp only[inL,c8_] at k
    rcases k with k | k
    · rw[a4_ k]
      refine⟨?_,h.1.2⟩
      have h3:=h.1.1
      rw[c8_] at h3
      exact h3.imp ls_.1 id
    · exact ih h.2 k
theorem ti_ {l:List AO} {o:Nat} {a:AO} (h:l[o]?=some a):born l o=true↔a≠.unborn:=by
  rw[ay_,h]
  exact⟨λ⟨b,e,hb⟩=>by cases e;exact hb,λhb=>⟨a,rfl,hb⟩⟩
theorem ag7 {l m:List AO} {o:Nat} (h:l[o]?=m[o]?):born l o=born m o:=by
  rw[k3_,ay_,ay_,h]
section
variable {P:Program} [Tb P] {n:Nat} {sl:Nat→AV} {dsts:List (Option Nat)} {tab:List (List Nat)} {fr0:Nat} {os:List Oper} {C0:List AO} {tr:List (AV×DR×List AO)}
theorem Good.foot {fr:Nat} {o:Oper} {anc:List Nat} {avs:List AV} {recs:List DR} {C C':List AO} {av:AV} {r:DR} (h:Good P n sl dsts tab fr0 fr o anc avs recs C av r C') :
    (∀ (t:Nat) (q:DR),recs[t]?=some q→(q.wr||r.wr)=true→∀ {p:Nat},inL p q.F=true→inL p r.F=true→inL t anc=true) ∧
    (∀ {p:Nat},inL p r.F=true→(p<fr0∨inL (p - fr0) anc=true)∧born C p=true) ∧
    (fr<C.length→∀ {p:Nat},(Nat.beq p fr||(r.wr&&inL p r.F))=true→born C' p=true):=by
  have ran:∀ V,Ran P n sl dsts tab fr0 fr o anc V recs C av r C'→_:=λV hR=>by
    refine (⟨λt q hq hw p h1 h2 => ?_,λ{p} hp => ?_,λhfr p hp => ?_⟩ :
      (∀ (t:Nat) (q:DR),recs[t]?=some q→(q.wr||r.wr)=true→∀ {p:Nat},inL p q.F=true→inL p r.F=true→inL t anc=true) ∧
      (∀ {p:Nat},inL p r.F=true→(p<fr0∨inL (p - fr0) anc=true)∧born C p=true) ∧
      (fr<C.length→∀ {p:Nat},(Nat.beq p fr||(r.wr&&inL p r.F))=true→born C' p=true))
    · have:=okC_at hR.okc hq hw h1 h2
      rwa [b0_] at this
    · have hs:=hR.oks
      unfold okS2 at hs
      rw[a1_,a1_] at hs
      exact okF_at hs.1.1 hp
    · rcases hR.run with ⟨hw,ob,_,rfl,_,hb,_⟩ | ⟨hw,_,rfl⟩
      · rw[c8_] at hp
        rcases hp with hp | hp
        · rw[a4_ hp]
          exact qv_ (by rw[mb_];exact hfr)
        · rw[hw,c2_] at hp
          exact bg_ hb p (wv_.1 hp)
      · rw[hw,e9_,h6_] at hp
        rw[a4_ hp]
        exact qv_ hfr
  obtain⟨V,_,hg⟩:=h.go
  split at hg
  · exact ran V hg
  · obtain⟨_,_,a0,_,⟨_,hR⟩ | ⟨_,_,_,rfl,rfl⟩⟩:=hg
    · exact ran V hR
    · refine⟨λt q _ _ p _ h=>by simp[inL] at h,λ{p} h=>by simp[inL] at h,λhfr p hp => ?_⟩
      simp only[e9_,h6_] at hp
      rw[a4_ hp]
      exact qv_ hfr
structure At (P:Program) [Tb P] (n:Nat) (sl:Nat→AV) (dsts:List (Option Nat)) (fr0:Nat) (os:List Oper) (C0:List AO) (tr:List (AV×DR×List AO)) (i:Nat) (o:Oper) (anc:List Nat) (q:AV×DR×List AO):Prop where
  ho:os[i]?=some o
  ha:(kq_ os [])[i]?=some anc
  hq:tr[i]?=some q
  good:Good P n sl dsts (kq_ os []) fr0 (fr0+i) o anc ((tr.take i).map (·.1)) ((tr.take i).map (·.2.1)) (Cat C0 tr i) q.1 q.2.1 q.2.2
theorem cn9 (h:sl_ P n sl dsts (kq_ os []) fr0 os (kq_ os []) [] [] C0 tr) {i:Nat} {o:Oper} (ho:os[i]?=some o):∃ anc q,At P n sl dsts fr0 os C0 tr i o anc q:=by
  obtain⟨anc,q,h1,h2,h3⟩:=(mq_ h).2 i o ho
  simp only[j3_,b0_,h3_] at h3
  exact⟨anc,q,ho,h1,h2,h3⟩
theorem ca8 (h:sl_ P n sl dsts (kq_ os []) fr0 os (kq_ os []) [] [] C0 tr) {i:Nat} {q:AV×DR×List AO} (hq:tr[i]?=some q):∃ o anc,At P n sl dsts fr0 os C0 tr i o anc q:=by
  have hl:=(a3_.1 hq).1
  have e:=(mq_ h).1
  obtain⟨anc,q',A⟩:=cn9 h (a7_ (by omega:i<os.length))
  have:=A.hq
  rw[hq] at this
  cases this
  exact⟨_,anc,A⟩
theorem si_ {d:Nat→Bool} {o:Nat}:∀ {tr:List (AV×DR×List AO)} {t:Nat} {a:Option AO},
    (cAt d fr0 o t tr a=a∧∀ i q,tr[i]?=some q→(d (t+i)&&tch fr0 o (t+i) q)=false) ∨
    ∃ i q,tr[i]?=some q∧d (t+i)=true∧tch fr0 o (t+i) q=true∧cAt d fr0 o t tr a=q.2.2[o]?∧∀ j q',i<j→tr[j]?=some q'→(d (t+j)&&tch fr0 o (t+j) q')=false:=by
  intro tr
  induction tr with
  | nil=>intro t a;exact .inl ⟨rfl,λi q h=>by simp at h⟩
  | cons p tr ih =>
    intro t a
    unfold cAt
    rcases ih (t:=t+1) (a:=cond (d t&&tch fr0 o t p) (p.2.2[o]?) a) with ⟨h1,h2⟩ | ⟨i,q,h1,h2,h3,h4,h5⟩
    · cases hp:d t&&tch fr0 o t p with
      | false =>
        rw[hp] at h1
        refine .inl ⟨h1,λi q hq => ?_⟩
        cases i with
        | zero =>
          have e:p=q:=by simpa using hq
          subst e
          exact hp
        | succ i =>
          have:=h2 i q (by simpa using hq)
          rwa [show t+1+i=t+(i+1) by omega] at this
      | true =>
        rw[hp] at h1
        rw[a1_] at hp
        refine .inr ⟨0,p,rfl,hp.1,hp.2,h1,λj q hj hq => ?_⟩
        cases j with
        | zero=>omega
        | succ j =>
          have:=h2 j q (by simpa using hq)
          rwa [show t+1+j=t+(j+1) by omega] at this
    · refine .inr ⟨i+1,q,by simpa using h1,?_,?_,h4,λj q' hj hq => ?_⟩
      · rwa [show t+(i+1)=t+1+i by omega]
      · rwa [show t+(i+1)=t+1+i by omega]
      · cases j with
        | zero=>omega
        | succ j =>
          have:=h5 j q' (by omega) (by simpa using hq)
          rwa [show t+1+j=t+(j+1) by omega] at this
def cur (fr0:Nat) (C0:List AO) (tr:List (AV×DR×List AO)) (d:Nat→Bool):List AO:=(List.range C0.length).map λo=>(cAt d fr0 o 0 tr C0[o]?).getD .unborn
theorem iw_ {d:Nat→Bool}:(cur fr0 C0 tr d).length=C0.length:=by simp[cur]
variable (h:sl_ P n sl dsts (kq_ os []) fr0 os (kq_ os []) [] [] C0 tr)
include h
theorem cu2 {i:Nat} {o:Oper} {anc:List Nat} {q:AV×DR×List AO} (A:At P n sl dsts fr0 os C0 tr i o anc q):q.2.2.length=C0.length:=by
  rw[A.good.out.1,qt_ h (by have:=(a3_.1 A.ho).1;omega)]
theorem od_ {d:Nat→Bool} {o:Nat} (ho:o<C0.length):(cur fr0 C0 tr d)[o]?=cAt d fr0 o 0 tr C0[o]?:=by
  unfold cur
  rw[d8_,m9_ ho]
  show some _=_
  have:∃ a,cAt d fr0 o 0 tr C0[o]?=some a:=by
    rcases si_ (fr0:=fr0) (d:=d) (o:=o) (tr:=tr) (t:=0) (a:=C0[o]?) with ⟨e,_⟩ | ⟨i,q,hq,_,_,e,_⟩
    · rw[e];exact⟨_,a7_ ho⟩
    · obtain⟨p,anc,A⟩:=ca8 h hq
      rw[e]
      exact⟨_,a7_ (by rw[cu2 h A];exact ho)⟩
  obtain⟨a,e⟩:=this
  show some ((cAt d fr0 o 0 tr C0[o]?).getD AO.unborn)=_
  rw[e]
  rfl
end
end
section
variable [Gb]
structure Base (fr0:Nat) (os:List Oper) (C0:List AO):Prop where
  len:C0.length=fr0+os.length
  un:∀ o,fr0≤o→o<C0.length→C0[o]?=some .unborn
theorem io_ {fr0 o t:Nat} {q:AV×DR×List AO}:tch fr0 o t q=true↔o=fr0+t∨(q.2.1.wr=true∧inL o q.2.1.F=true):=by
  unfold tch
  rw[c8_,a1_]
  exact⟨λh=>h.imp a4_ id,λh=>h.imp (λh=>by rw[h];exact g3_ _) id⟩
section
variable {P:Program} [Tb P] {n:Nat} {sl:Nat→AV} {dsts:List (Option Nat)} {fr0:Nat} {os:List Oper} {C0:List AO} {tr:List (AV×DR×List AO)}
variable (h:sl_ P n sl dsts (kq_ os []) fr0 os (kq_ os []) [] [] C0 tr) (hb:Base fr0 os C0) (hp:rp_ os 0=true)
include h hb hp
theorem zs_ {i o:Nat} {p:Oper} {anc:List Nat} {q:AV×DR×List AO} (A:At P n sl dsts fr0 os C0 tr i p anc q) (ht:tch fr0 o i q=true):born q.2.2 o=true:=by
  have hi:=(a3_.1 A.ho).1
  refine A.good.foot.2.2 ?_ (by unfold tch at ht;exact ht)
  rw[qt_ h (by omega),hb.len]
  omega
theorem oj_ {o:Nat} (ho:o<fr0):∀ {t:Nat},t≤os.length→born (Cat C0 tr t) o=born C0 o:=by
  intro t
  induction t with
  | zero=>intro _;rfl
  | succ t ih =>
    intro ht
    obtain⟨anc,q,A⟩:=cn9 h (a7_ (by omega:t<os.length))
    rw[vh_ A.hq]
    have ih:=ih (by omega)
    cases htc:tch fr0 o t q with
    | true =>
      rw[zs_ h hb hp A htc]
      rcases io_.1 htc with e | ⟨_,e⟩
      · omega
      · rw[← ih]
        exact (A.good.foot.2.1 e).2.symm
    | false =>
      rw[← ih]
      refine ag7 (A.good.out.2 o (by omega) ?_)
      unfold tch at htc
      rw[c0_] at htc
      exact htc.2
theorem se_ {d:Nat→Bool} {o:Nat} (ho:o<fr0):born (cur fr0 C0 tr d) o=born C0 o:=by
  have hl:o<C0.length:=by rw[hb.len];omega
  rcases si_ (fr0:=fr0) (d:=d) (o:=o) (tr:=tr) (t:=0) (a:=C0[o]?) with ⟨e,_⟩ | ⟨i,q,hq,_,ht,e,_⟩
  · exact ag7 (by rw[od_ h hl,e])
  · obtain⟨p,anc,A⟩:=ca8 h hq
    have hi:=(a3_.1 A.ho).1
    rw[← oj_ h hb hp ho (show i+1≤os.length by omega),vh_ hq]
    exact ag7 (by rw[od_ h hl,e])
theorem bp2 {d:Nat→Bool} (hd:Cl os d) {j i:Nat} {p:Oper} {anc:List Nat} {q:AV×DR×List AO} (A:At P n sl dsts fr0 os C0 tr i p anc q) (hi:d i=true) (ht:tch fr0 (fr0+j) i q=true):d j=true:=by
  rcases io_.1 ht with e | ⟨_,e⟩
  · have:i=j:=by omega
    rw[← this];exact hi
  · rcases (A.good.foot.2.1 e).1 with h1 | h1
    · omega
    · rw[show fr0+j - fr0=j by omega] at h1
      exact hd i anc A.ha hi j h1
theorem xp_ {d:Nat→Bool} (hd:Cl os d) {j:Nat} (hj:j<os.length):born (cur fr0 C0 tr d) (fr0+j)=d j:=by
  have hl:fr0+j<C0.length:=by rw[hb.len];omega
  rcases si_ (fr0:=fr0) (d:=d) (o:=fr0+j) (tr:=tr) (t:=0) (a:=C0[fr0+j]?) with ⟨e,hn⟩ | ⟨i,q,hq,h1,ht,e,_⟩
  · have hdj:d j=false:=by
      obtain⟨anc,q,A⟩:=cn9 h (a7_ hj)
      have:=hn j q A.hq
      rw[b0_,io_.2 (.inl rfl),i3_] at this
      exact this
    rw[hdj]
    have:¬ born (cur fr0 C0 tr d) (fr0+j)=true:=by
      rw[ay_]
      rintro⟨a,h1,h2⟩
      rw[od_ h hl,e,hb.un _ (by omega) hl] at h1
      cases h1
      exact h2 rfl
    simpa using this
  · obtain⟨p,anc,A⟩:=ca8 h hq
    rw[b0_] at h1 ht
    rw[bp2 h hb hp hd A h1 ht]
    have:=zs_ h hb hp A ht
    rw[← this]
    exact ag7 (by rw[od_ h hl,e])
theorem cl_text {t:Nat}:Cl os (λi=>Nat.blt i t):=by
  intro i anc ha hi j hj
  have hl:i<os.length:=by
    have:=(a3_.1 ha).1
    cases ho:os[i]? with
    | some o=>exact (a3_.1 ho).1
    | none =>
      exfalso
      have:∀ (os:List Oper) (acc:List (List Nat)),(kq_ os acc).length=acc.length+os.length:=by
        intro os
        induction os with
        | nil=>intro acc;rfl
        | cons o os ih=>intro acc;unfold kq_;rw[ih];simp;omega
      have h2:=this os []
      have h3:=p2_.1 ho
      simp at h2
      omega
  have:=ao3 hp (a7_ hl) ha hj
  rw[ls_] at hi ⊢
  omega
theorem bz2 {t:Nat} (ht:t≤os.length):Cat C0 tr t=cur fr0 C0 tr (λi=>Nat.blt i t):=by
  refine f1_ λo => ?_
  by_cases ho:o<C0.length
  · rw[od_ h ho,bz3 h ht]
  · rw[b9_ (by rw[qt_ h ht];omega),b9_ (by rw[iw_];omega)]
theorem bz1 {i:Nat} (hi:i<os.length):(Cat C0 tr i)[fr0+i]?=some .unborn:=by
  have hl:fr0+i<(Cat C0 tr i).length:=by rw[qt_ h (by omega),hb.len];omega
  have:=xp_ h hb hp (cl_text h hb hp (t:=i)) hi
  rw[← bz2 h hb hp (by omega),show Nat.blt i i=false from ag8.2 (by omega)] at this
  rw[a7_ hl]
  congr 1
  by_cases e:(Cat C0 tr i)[fr0+i] = .unborn
  · exact e
  · rw[(ti_ (a7_ hl)).2 e] at this
    cases this
theorem ar6 {i j:Nat} {q:AV×DR×List AO} (hj:j<i) (hq:tr[j]?=some q):((tr.take i).map (·.2.1))[j]?=some q.2.1:=by
  rw[d8_,List.getElem?_take_of_lt hj,hq]
  rfl
theorem ready {d:Nat→Bool} (hd:Cl os d) {i o:Nat} {p:Oper} {anc:List Nat} {q:AV×DR×List AO} (A:At P n sl dsts fr0 os C0 tr i p anc q) (hi:d i=false) (hanc:∀ j,inL j anc=true→d j=true)
    (hF:inL o q.2.1.F=true) (ho:o<C0.length):(cur fr0 C0 tr d)[o]?=(Cat C0 tr i)[o]?:=by
  have hil:=(a3_.1 A.ho).1
  rw[od_ h ho,bz3 h (by omega)]
  refine oi_ λj q' hq' ht => ?_
  rw[b0_] at ht ⊢
  obtain⟨p',anc',B⟩:=ca8 h hq'
  rcases io_.1 ht with e | ⟨hw,e⟩
  · rcases (A.good.foot.2.1 hF).1 with h1 | h1
    · omega
    · rw[e,show fr0+j - fr0=j by omega] at h1
      rw[hanc j h1,ls_.2 (ao3 hp A.ho A.ha h1)]
  · rcases o2_ j i with hji | rfl | hji
    · have:=A.good.foot.1 j q'.2.1 (ar6 h hb hp hji hq') (by rw[hw];rfl) e hF
      rw[hanc j this,ls_.2 hji]
    · rw[hi,ag8.2 (by omega)]
    · have:=B.good.foot.1 i q.2.1 (ar6 h hb hp hji A.hq) (by rw[hw,n2_]) hF e
      rw[ag8.2 (by omega)]
      cases hdj:d j with
      | false=>rfl
      | true=>have:=hd j anc' B.ha hdj i this;rw[hi] at this;cases this
theorem after {d:Nat→Bool} (hd:Cl os d) {i o:Nat} {p:Oper} {anc:List Nat} {q:AV×DR×List AO} (A:At P n sl dsts fr0 os C0 tr i p anc q) (hi:d i=false) (hanc:∀ j,inL j anc=true→d j=true) (ho:o<C0.length) :
    (cur fr0 C0 tr (λj=>Nat.beq j i||d j))[o]?=cond (tch fr0 o i q) (q.2.2[o]?) ((cur fr0 C0 tr d)[o]?):=by
  rw[od_ h ho,od_ h ho]
  cases htc:tch fr0 o i q with
  | true =>
    rcases si_ (fr0:=fr0) (d:=λj=>Nat.beq j i||d j) (o:=o) (tr:=tr) (t:=0) (a:=C0[o]?) with ⟨_,hn⟩ | ⟨k,qk,hq,h1,ht,e,hlast⟩
    · have:=hn i q A.hq
      rw[b0_,htc] at this
      simp at this
    · rw[b0_] at h1 ht
      rcases o2_ k i with hki | rfl | hki
      · have:=hlast i q hki A.hq
        rw[b0_,htc] at this
        simp at this
      · rw[e]
        have:=A.hq
        rw[hq] at this
        cases this
        rfl
      · exfalso
        obtain⟨p',anc',B⟩:=ca8 h hq
        have hdk:d k=true:=by
          rw[xt_ (show k≠i by omega),j9_] at h1
          exact h1
        have bad:inL i anc'=true→False:=λhh=>by have:=hd k anc' B.ha hdk i hh;rw[hi] at this;cases this
        rcases io_.1 ht with e1 | ⟨hw,e1⟩
        · rcases io_.1 htc with e2 | ⟨_,e2⟩
          · omega
          · rcases (A.good.foot.2.1 e2).1 with h3 | h3
            · omega
            · rw[e1,show fr0+k - fr0=k by omega] at h3
              have:=ao3 hp A.ho A.ha h3
              omega
        · rcases io_.1 htc with e2 | ⟨_,e2⟩
          · rcases (B.good.foot.2.1 e1).1 with h3 | h3
            · omega
            · rw[e2,show fr0+i - fr0=i by omega] at h3
              exact bad h3
          · exact bad (B.good.foot.1 i q.2.1 (ar6 h hb hp hki A.hq) (by rw[hw,n2_]) e2 e1)
  | false =>
    refine oi_ λj q' hq' ht => ?_
    rw[b0_] at ht ⊢
    have hne:j≠i:=by
      rintro rfl
      have:=A.hq
      rw[hq'] at this
      cases this
      rw[htc] at ht
      cases ht
    rw[xt_ hne,j9_]
end
end
section
variable [Gb]
def ap4 (fr0:Nat) (anc F:List Nat) (i:Nat) (a:AO):AO:=cond (inL i F) a (cond (Nat.blt i fr0) (match a with
    | .unborn=>.unborn
    | _=>.gone) (cond (inL (i - fr0) anc) .gone .unborn))
theorem iz_ {fr0:Nat} {anc F:List Nat}:∀ {l:List AO} {i j:Nat},(oq_ fr0 anc F i l)[j]?=(l[j]?).map (ap4 fr0 anc F (i+j)):=by
  intro l
  induction l with
  | nil=>intro i j;rfl
  | cons a l ih =>
    intro i j
    cases j with
    | zero=>rfl
    | succ j =>
      show (oq_ fr0 anc F (i+1) l)[j]?=_
      rw[ih,show i+1+j=i+(j+1) by omega]
      rfl
theorem up_ {fr0:Nat} {anc F:List Nat}:∀ {l:List AO} {i:Nat},(oq_ fr0 anc F i l).length=l.length:=by
  intro l
  induction l with
  | nil=>intro i;rfl
  | cons a l ih=>intro i;show (oq_ fr0 anc F (i+1) l).length+1=_;rw[ih];rfl
theorem aw2 {fr0:Nat} {anc F:List Nat} {i:Nat} {a:AO} (h:inL i F=true):ap4 fr0 anc F i a=a:=by unfold ap4;rw[h];rfl
theorem rd_ {fr0:Nat} {anc F:List Nat} {i:Nat} {a:AO} (h:inL i F=false) (hi:i<fr0):ap4 fr0 anc F i a=match a with
    | .unborn=>.unborn
    | _=>.gone:=by unfold ap4;rw[h,ls_.2 hi];rfl
theorem os_ {fr0:Nat} {anc F:List Nat} {i:Nat} {a:AO} (h:inL i F=false) (hi:¬ i<fr0):ap4 fr0 anc F i a=cond (inL (i - fr0) anc) .gone .unborn:=by unfold ap4;rw[h,ag8.2 hi];rfl
theorem bj5 {fr0:Nat} {anc F:List Nat} {i:Nat} {a:AO} (h:inL i F=false):ap4 fr0 anc F i a = .gone∨ap4 fr0 anc F i a = .unborn:=by
  by_cases hi:i<fr0
  · rw[rd_ h hi]
    cases a<;>simp
  · rw[os_ h hi]
    cases inL (i - fr0) anc<;>simp
theorem ym_ {fr0:Nat} {anc F:List Nat} {l m:List AO} (hl:l.length=m.length) (h1:∀ o,o<l.length→inL o F=true→l[o]?=m[o]?) (h2:∀ o,o<fr0→born l o=born m o):oq_ fr0 anc F 0 l=oq_ fr0 anc F 0 m:=by
  refine f1_ λo => ?_
  rw[iz_,iz_,b0_]
  by_cases ho:o<l.length
  · have e1:l[o]?=some l[o]:=a7_ ho
    have e2:m[o]?=some (m[o]'(by omega)):=a7_ (by omega)
    cases hF:inL o F with
    | true=>rw[h1 o ho hF]
    | false =>
      rw[e1,e2]
      show some _=some _
      congr 1
      by_cases hi:o<fr0
      · rw[rd_ hF hi,rd_ hF hi]
        have:=h2 o hi
        have b1:=ti_ e1
        have b2:=ti_ e2
        rw[this] at b1
        have b3:=b1.symm.trans b2
        generalize l[o]=a at b3
        generalize m[o]'(by omega)=b at b3
        cases a<;>cases b<;>first | rfl | simp at b3
      · rw[os_ hF hi,os_ hF hi]
  · rw[b9_ (by omega),b9_ (by omega)]
theorem ce3 {fr0:Nat} {anc F:List Nat} {l:List AO} {o:Nat} (h:born (oq_ fr0 anc F 0 l) o=true):o<l.length∧((inL o F=true∧born l o=true)∨(o<fr0∧born l o=true)∨(¬ o<fr0∧inL (o - fr0) anc=true)):=by
  obtain⟨b,h1,h2⟩:=ay_.1 h
  rw[iz_,b0_] at h1
  cases ha:l[o]? with
  | none=>rw[ha] at h1;cases h1
  | some a =>
    refine⟨(a3_.1 ha).1,?_⟩
    rw[ha] at h1
    have e:ap4 fr0 anc F o a=b:=by simpa using h1
    cases hF:inL o F with
    | true =>
      rw[aw2 hF] at e
      subst e
      exact .inl ⟨rfl,(ti_ ha).2 h2⟩
    | false =>
      by_cases hi:o<fr0
      · rw[rd_ hF hi] at e
        refine .inr (.inl ⟨hi,(ti_ ha).2 ?_⟩)
        rintro rfl
        exact h2 e.symm
      · rw[os_ hF hi] at e
        refine .inr (.inr ⟨hi,?_⟩)
        cases hh:inL (o - fr0) anc with
        | true=>rfl
        | false=>rw[hh] at e;exact absurd e.symm h2
theorem vj_ {fr0:Nat} {anc F:List Nat} {l:List AO} {o:Nat} (hb:born l o=true) (h:inL o F=true∨o<fr0):born (oq_ fr0 anc F 0 l) o=true:=by
  obtain⟨a,h1,h2⟩:=ay_.1 hb
  refine ay_.2 ⟨ap4 fr0 anc F o a,by rw[iz_,h1,b0_];rfl,?_⟩
  cases hF:inL o F with
  | true=>rw[aw2 hF];exact h2
  | false =>
    rw[rd_ hF (h.resolve_left (by rw[hF];exact Bool.false_ne_true))]
    cases a<;>first | exact absurd rfl h2 | exact λe=>by cases e
theorem wh_ {hv:Nat→Value}:∀ {l:List AO} {i j:Nat},(OHs hv i l)[j]?=(l[j]?).map (OH hv (hv (i+j))):=by
  intro l
  induction l with
  | nil=>intro i j;rfl
  | cons a l ih =>
    intro i j
    cases j with
    | zero=>rfl
    | succ j =>
      show (OHs hv (i+1) l)[j]?=_
      rw[ih,show i+1+j=i+(j+1) by omega]
      rfl
theorem ip_ {hv:Nat→Value}:∀ {l:List AO} {i:Nat},(OHs hv i l).length=l.length:=by
  intro l
  induction l with
  | nil=>intro i;rfl
  | cons a l ih=>intro i;show (OHs hv (i+1) l).length+1=_;rw[ih];rfl
def cs4 (F:List Nat):Nat→List AO→List AO
  | _,[]=>[]
  | i,a::l=>cond (inL i F) .gone a::cs4 F (i+1) l
theorem ae3 {F:List Nat}:∀ {l:List AO} {i j:Nat},(cs4 F i l)[j]?=(l[j]?).map λa=>cond (inL (i+j) F) .gone a:=by
  intro l
  induction l with
  | nil=>intro i j;rfl
  | cons a l ih =>
    intro i j
    cases j with
    | zero=>rfl
    | succ j =>
      show (cs4 F (i+1) l)[j]?=_
      rw[ih,show i+1+j=i+(j+1) by omega]
      rfl
theorem ae2 {F:List Nat}:∀ {l:List AO} {i:Nat},(cs4 F i l).length=l.length:=by
  intro l
  induction l with
  | nil=>intro i;rfl
  | cons a l ih=>intro i;show (cs4 F (i+1) l).length+1=_;rw[ih];rfl
theorem rx_ {w:World} {S:PH} {O:List HP}:∀ {A:List HP},Inv w S (A++O)→Inv w S O:=by
  intro A
  induction A with
  | nil=>intro h;exact h
  | cons a A ih=>intro h;exact ih (Inv.drop (show Inv w S (a::(A++O)) from h))
theorem am0 {w:World} {S:PH}:∀ {T A B O:List HP},T.length=A.length→T.length=B.length →
    (∀ (j:Nat) (t a b:HP),T[j]?=some t→A[j]?=some a→B[j]?=some b→(a=t∧b=HP.exact Hp.emp)∨(a=HP.exact Hp.emp∧b=t))→Inv w S (T++O)→Inv w S (A++(B++O)):=by
  intro T
  induction T with
  | nil =>
    intro A B O h1 h2 _ h
    cases A with
    | nil=>cases B with
      | nil=>exact h
      | cons b B=>simp at h2
    | cons a A=>simp at h1
  | cons t T ih =>
    intro A B O h1 h2 hp h
    cases A with
    | nil=>simp at h1
    | cons a A =>
      cases B with
      | nil=>simp at h2
      | cons b B =>
        have h3:Inv w S (T++(t::O)):=h.perm List.perm_middle.symm
        have h4:=ih (A:=A) (B:=B) (by simpa using h1) (by simpa using h2) (λj t a b e1 e2 e3=>hp (j+1) t a b (by simpa using e1) (by simpa using e2) (by simpa using e3)) h3
        have h5:Inv w S (t::(A++(B++O))):=h4.perm (by
          rw[← b4_,← b4_]
          exact d2_)
        have h6:=ke_ h5
        have e:(t::(A++(b::(B++O)))).Perm (t::b::(A++(B++O))):=List.Perm.cons _ d2_
        rcases hp 0 t a b rfl rfl rfl with ⟨rfl,rfl⟩ | ⟨rfl,rfl⟩
        · exact (h6.perm (List.Perm.swap _ _ _)).perm e.symm
        · exact h6.perm (List.Perm.cons _ List.perm_middle.symm)
theorem cl1 {w:World} {S:PH}:∀ {T A B O:List HP},T.length≤A.length→T.length≤B.length →
    (∀ (j:Nat) (t a b:HP),T[j]?=some t→A[j]?=some a→B[j]?=some b→t=a∨t=b)→Inv w S (A++(B++O))→Inv w S (T++O):=by
  intro T
  induction T with
  | nil=>intro A B O _ _ _ h;exact rx_ (rx_ h)
  | cons t T ih =>
    intro A B O h1 h2 hp h
    cases A with
    | nil=>simp at h1
    | cons a A =>
      cases B with
      | nil=>simp at h2
      | cons b B =>
        have h3:Inv w S (A++(B++(a::b::O))):=h.perm (by
          show (a::(A++(b::(B++O)))).Perm _
          refine (List.Perm.cons _ d2_).trans ?_
          have e1:(A++(B++(a::b::O))).Perm (a::(A++(B++(b::O)))):=by
            rw[← b4_,← b4_]
            exact d2_
          have e2:(A++(B++(b::O))).Perm (b::(A++(B++O))):=by
            rw[← b4_,← b4_]
            exact d2_
          exact (e1.trans (List.Perm.cons _ e2)).symm)
        have h4:=ih (A:=A) (B:=B) (by simpa using h1) (by simpa using h2) (λj t a b e1 e2 e3=>hp (j+1) t a b (by simpa using e1) (by simpa using e2) (by simpa using e3)) h3
        have h5:Inv w S (a::b::(T++O)):=h4.perm (List.perm_middle.trans (List.Perm.cons _ d2_))
        rcases hp 0 t a b rfl rfl rfl with rfl | rfl
        · exact (h5.perm (List.Perm.swap _ _ _)).drop
        · exact h5.drop
theorem md_ {x:Nat}:∀ {l:List (Option Nat)} {i j:Nat},fz_ x l i=some j→∃ k,j=i+k∧l[k]?=some (some x):=by
  intro l
  induction l with
  | nil=>intro i j h;cases h
  | cons a l ih =>
    intro i j h
    cases a with
    | none =>
      obtain⟨k,e,hk⟩:=ih (show fz_ x l (i+1)=some j from h)
      exact⟨k+1,by omega,by simpa using hk⟩
    | some e =>
      have h:cond (Nat.beq x e) (some i) (fz_ x l (i+1))=some j:=h
      cases hb:Nat.beq x e with
      | true =>
        rw[hb] at h
        cases h
        rw[a4_ hb]
        exact⟨0,rfl,rfl⟩
      | false =>
        rw[hb] at h
        obtain⟨k,e,hk⟩:=ih h
        exact⟨k+1,by omega,by simpa using hk⟩
theorem zf_ {x:Nat}:∀ {l:List (Option Nat)} {i:Nat},fz_ x l i=none→∀ (k:Nat),l[k]?≠some (some x):=by
  intro l
  induction l with
  | nil=>intro i h k;simp
  | cons a l ih =>
    intro i h k
    cases a with
    | none =>
      cases k with
      | zero=>simp
      | succ k=>simpa using ih (show fz_ x l (i+1)=none from h) k
    | some e =>
      have h:cond (Nat.beq x e) (some i) (fz_ x l (i+1))=none:=h
      cases hb:Nat.beq x e with
      | true=>rw[hb] at h;cases h
      | false =>
        rw[hb] at h
        cases k with
        | zero =>
          intro e2
          have:e=x:=by simpa using e2
          rw[this,g3_] at hb
          cases hb
        | succ k=>simpa using ih h k
theorem ay6 {x:Nat}:∀ {l:List (Option Nat)} {i j:Nat},su_ l=true→l[i]?=some (some x)→l[j]?=some (some x)→i=j:=by
  intro l
  induction l with
  | nil=>intro i j _ h;simp at h
  | cons a l ih =>
    intro i j h hi hj
    have ho:su_ l=true∧(a=some x→l.contains (some x)=false):=by
      cases a with
      | none=>exact⟨h,λe=>by cases e⟩
      | some d =>
        have h:(!(l.contains (some d))&&su_ l)=true:=h
        rw[a1_] at h
        exact⟨h.2,λe=>by rw[← e];simpa using h.1⟩
    have bad:∀ (k:Nat),a=some x→l[k]?=some (some x)→False:=λk e hk=>by
      have:=ho.2 e
      rw[List.contains_eq_mem,p6_] at this
      exact this (b2_ hk)
    cases i with
    | zero=>cases j with
      | zero=>rfl
      | succ j=>exact (bad j (by simpa using hi) (by simpa using hj)).elim
    | succ i=>cases j with
      | zero=>exact (bad i (by simpa using hj) (by simpa using hi)).elim
      | succ j=>exact congrArg Nat.succ (ih ho.1 (by simpa using hi) (by simpa using hj))
theorem ad9 {x:Nat} {l:List (Option Nat)} {i:Nat} (h:su_ l=true) (hi:l[i]?=some (some x)):fz_ x l 0=some i:=by
  cases hx:fz_ x l 0 with
  | none=>exact absurd hi (zf_ hx i)
  | some j =>
    obtain⟨k,e,hk⟩:=md_ hx
    rw[ay6 h hi hk,e,b0_]
theorem okU_at {anc:List Nat} {vis:List AO}:∀ {V:List AV} {i j:Nat} {a:AV},okU anc vis i V=true→V[j]?=some a→inL (i+j) anc=true→a.lt vis=true:=by
  intro V
  induction V with
  | nil=>intro i j a _ h;simp at h
  | cons b V ih =>
    intro i j a h hj hi
    unfold okU at h
    rw[a1_] at h
    cases j with
    | zero =>
      have e:b=a:=by simpa using hj
      subst e
      have h1:=h.1
      rw[l6_] at hi
      rw[hi] at h1
      exact h1
    | succ j=>exact ih h.2 (by simpa using hj) (by rwa [show i+1+j=i+(j+1) by omega])
theorem okW_at {F:List Nat} {all:List AO}:∀ {l:List AO} {i j:Nat} {a:AO},okW F all i l=true→l[j]?=some a→inL (i+j) F=true→a.lt all=true:=by
  intro V
  induction V with
  | nil=>intro i j a _ h;simp at h
  | cons b V ih =>
    intro i j a h hj hi
    unfold okW at h
    rw[a1_] at h
    cases j with
    | zero =>
      have e:b=a:=by simpa using hj
      subst e
      have h1:=h.1
      rw[l6_] at hi
      rw[hi] at h1
      exact h1
    | succ j=>exact ih h.2 (by simpa using hj) (by rwa [show i+1+j=i+(j+1) by omega])
end
section
variable [Gb]
def bi6 (tr:List (AV×DR×List AO)) (j:Nat):AV:=((tr[j]?).map (·.1)).getD (.b .dead)
def mx_ (sl:Nat→AV) (dsts:List (Option Nat)) (tr:List (AV×DR×List AO)) (d:Nat→Bool) (x:Nat):AV:=match fz_ x dsts 0 with
  | none=>sl x
  | some j=>cond (d j) (bi6 tr j) (sl x)
structure Dy (S0:PH) (hv0:Nat→Value) (ob0:List AO) (Fm:List HP) (D0:List Deferred) (sl:Nat→AV) (dsts:List (Option Nat)) (C0 cu:List AO) (cs:Nat→AV) (S:PH) (hv:Nat→Value) (f:Fr) (w:World):Prop where
  le:S0.Le S
  ag:Ag ob0 hv0 hv
  inv:Inv w S (OHs hv 0 cu++Fm)
  rel:∀ x,RA hv S (cs x) (f x)
  wfs:∀ x,(cs x).lt cu=true
  wfo:WfO cu
  keep:Keep C0 cu
  ds:f.ds=D0
  gl:GlS S
theorem av1 {tr:List (AV×DR×List AO)} {i j:Nat} {a0:AV} (h:((tr.take i).map (·.1))[j]?=some a0):bi6 tr j=a0:=by
  rw[d8_] at h
  unfold bi6
  cases hq:(tr.take i)[j]? with
  | none=>rw[hq] at h;cases h
  | some q =>
    rw[hq] at h
    have hj:j<i:=by
      have:=(a3_.1 hq).1
      rw[c9_] at this
      omega
    rw[List.getElem?_take_of_lt hj] at hq
    rw[hq]
    exact a6_ h
theorem aw0 {V avs:List AV} (hV:VOk V avs) {j:Nat} {a a0:AV} (hj:V[j]?=some a) (h0:avs[j]?=some a0) {hv:Nat→Value} {S:PH} {v:Value} (hr:RA hv S a0 v):RA hv S a v:=by
  obtain⟨a1,h1,h2⟩:=hV.2 j a hj
  rw[h0] at h1
  cases h1
  rcases h2 with rfl | ⟨c,h3,rfl⟩
  · exact hr
  · rw[eb_ hr h3]
    exact px_ c
theorem co8 {V avs:List AV} (hV:VOk V avs) {j:Nat} {a a0:AV} (hj:V[j]?=some a) (h0:avs[j]?=some a0) {l:List AO} (hr:a0.lt l=true):a.lt l=true:=by
  obtain⟨a1,h1,h2⟩:=hV.2 j a hj
  rw[h0] at h1
  cases h1
  rcases h2 with rfl | ⟨c,h3,rfl⟩
  · exact hr
  · rfl
theorem aw1 {V avs:List AV} (hV:VOk V avs) {j:Nat} {a:AV} (hj:V[j]?=some a):∃ a0,avs[j]?=some a0:=by
  obtain⟨a1,h1,_⟩:=hV.2 j a hj
  exact⟨a1,h1⟩
theorem env_ra {sl:Nat→AV} {dsts:List (Option Nat)} {tab:List (List Nat)} {tr:List (AV×DR×List AO)} {i:Nat} {anc:List Nat} {V:List AV} {d:Nat→Bool} {hv:Nat→Value} {S:PH} {f:Fr} (hV:VOk V ((tr.take i).map (·.1))) (hanc:∀ j,inL j anc=true→d j=true)
    (hlt:∀ j,inL V.length ((tab[j]?).getD [])=true→d j=false) (hrel:∀ x,RA hv S (mx_ sl dsts tr d x) (f x)) (x:Nat):RA hv S (cd6 sl dsts tab anc V x) (f x):=by
  have hx:=hrel x
  unfold cd6
  unfold mx_ at hx
  cases hi:fz_ x dsts 0 with
  | none=>rw[hi] at hx;exact hx
  | some j =>
    rw[hi] at hx
    have hx:RA hv S (cond (d j) (bi6 tr j) (sl x)) (f x):=hx
    show RA hv S (cond (inL j anc) ((V[j]?).getD (.b .dead)) (cond (inL V.length ((tab[j]?).getD [])) (sl x) (.b .dead))) (f x)
    cases ha:inL j anc with
    | false =>
      cases hb:inL V.length ((tab[j]?).getD []) with
      | false=>trivial
      | true =>
        rw[hlt j hb] at hx
        exact hx
    | true =>
      rw[hanc j ha] at hx
      have hx:RA hv S (bi6 tr j) (f x):=hx
      show RA hv S ((V[j]?).getD (.b .dead)) (f x)
      cases hq:V[j]? with
      | none=>trivial
      | some a =>
        obtain⟨a0,h0⟩:=aw1 hV hq
        rw[av1 h0] at hx
        exact aw0 hV hq h0 hx
theorem az8 {os:List Oper} {d:Nat→Bool} (hd:Cl os d) {i:Nat} (hi:d i=false) (j:Nat) (h:inL i (((kq_ os [])[j]?).getD [])=true):d j=false:=by
  cases hj:d j with
  | false=>rfl
  | true =>
    cases ha:(kq_ os [])[j]? with
    | none=>rw[ha] at h;simp[inL] at h
    | some anc =>
      rw[ha] at h
      rw[hd j anc ha hj i h] at hi
      cases hi
theorem cn5 {l:List AO} {i o:Nat} (h:born l o=true):born (l.set i .gone) o=true:=by
  obtain⟨a,h1,h2⟩:=ay_.1 h
  by_cases e:i=o
  · subst e
    exact ay_.2 ⟨.gone,by simp[(a3_.1 h1).1],by simp⟩
  · exact ay_.2 ⟨a,by rw[b6_ e];exact h1,h2⟩
theorem ub_ {l:List AO} {i o:Nat} (h:born (l.set i .gone) o=true):o=i∨born l o=true:=by
  by_cases e:i=o
  · exact .inl e.symm
  · obtain⟨a,h1,h2⟩:=ay_.1 h
    rw[b6_ e] at h1
    exact .inr (ay_.2 ⟨a,h1,h2⟩)
theorem bd2 {l:List AO} {o:Nat} (h:born l o=true):o<l.length:=by
  obtain⟨a,h1,_⟩:=ay_.1 h
  exact (a3_.1 h1).1
theorem bu6 (b:AO):K1 .unborn b:=trivial
section
variable {P:Program} [Tb P] {n:Nat} {sl:Nat→AV} {dsts:List (Option Nat)} {fr0:Nat} {os:List Oper} {C0:List AO} {tr:List (AV×DR×List AO)}
variable (h:sl_ P n sl dsts (kq_ os []) fr0 os (kq_ os []) [] [] C0 tr) (hb:Base fr0 os C0) (hp:rp_ os 0=true) (hds:dsts=os.map (·.dst)) (hon:su_ dsts=true) (hw0:WfS sl C0)
include h hb hp hds hon hw0
theorem cur_ble {d:Nat→Bool} (hd:Cl os d) {i:Nat} (hd':Cl os (λj=>Nat.beq j i||d j)):BLe (cur fr0 C0 tr d) (cur fr0 C0 tr (λj=>Nat.beq j i||d j)):=by
  intro o ho
  have hl:=bd2 ho
  rw[iw_,hb.len] at hl
  by_cases h0:o<fr0
  · rw[se_ h hb hp h0] at ho ⊢
    exact ho
  · have e:o=fr0+(o - fr0):=by omega
    rw[e] at ho ⊢
    rw[xp_ h hb hp hd (by omega)] at ho
    rw[xp_ h hb hp hd' (by omega),ho,n2_]
theorem vis_ble {d:Nat→Bool} (hd:Cl os d) {i:Nat} {p:Oper} {anc:List Nat} {q:AV×DR×List AO} (A:At P n sl dsts fr0 os C0 tr i p anc q) (hanc:∀ j,inL j anc=true→d j=true)
    (hd':Cl os (λj=>Nat.beq j i||d j)):BLe ((oq_ fr0 anc q.2.1.F 0 (Cat C0 tr i)).set (fr0+i) .gone) (cur fr0 C0 tr (λj=>Nat.beq j i||d j)):=by
  intro o ho
  have hi:=(a3_.1 A.ho).1
  have hlc:=qt_ h (show i≤os.length by omega)
  have own:∀ j,j<os.length→(j=i∨d j=true)→born (cur fr0 C0 tr (λj=>Nat.beq j i||d j)) (fr0+j)=true:=λj hj hh=>by
    rw[xp_ h hb hp hd' hj]
    rcases hh with rfl | hh
    · simp
    · rw[hh,n2_]
  rcases ub_ ho with rfl | ho
  · exact own i hi (.inl rfl)
  · obtain⟨hl,hc⟩:=ce3 ho
    rw[hlc,hb.len] at hl
    have base:o<fr0→born (Cat C0 tr i) o=true→born (cur fr0 C0 tr (λj=>Nat.beq j i||d j)) o=true:=λh0 hbo=>by
      rw[se_ h hb hp h0,← oj_ h hb hp h0 (show i≤os.length by omega)]
      exact hbo
    have new:¬ o<fr0→inL (o - fr0) anc=true→born (cur fr0 C0 tr (λj=>Nat.beq j i||d j)) o=true:=λh0 ha=>by
      have:=own (o - fr0) (by omega) (.inr (hanc _ ha))
      rwa [show fr0+(o - fr0)=o by omega] at this
    rcases hc with ⟨hF,hbo⟩ | ⟨h0,hbo⟩ | ⟨h0,ha⟩
    · rcases (A.good.foot.2.1 hF).1 with h0 | ha
      · exact base h0 hbo
      · by_cases h0:o<fr0
        · exact base h0 hbo
        · exact new h0 ha
    · exact base h0 hbo
    · exact new h0 ha
theorem zo_ {d:Nat→Bool} {i:Nat} {o:Oper} {q:AV×DR×List AO} (ho:os[i]?=some o) (hq:tr[i]?=some q) (x:Nat) :
    (o.dst=some x∧mx_ sl dsts tr (λj=>Nat.beq j i||d j) x=q.1)∨(o.dst≠some x∧mx_ sl dsts tr (λj=>Nat.beq j i||d j) x=mx_ sl dsts tr d x):=by
  have hdi:dsts[i]?=some o.dst:=by rw[hds,d8_,ho];rfl
  by_cases e:o.dst=some x
  · refine .inl ⟨e,?_⟩
    rw[e] at hdi
    unfold mx_
    rw[ad9 hon hdi]
    simp[bi6,hq]
  · refine .inr ⟨e,?_⟩
    unfold mx_
    cases hx:fz_ x dsts 0 with
    | none=>rfl
    | some j =>
      obtain⟨k,e1,hk⟩:=md_ hx
      rw[b0_] at e1
      subst e1
      have hne:j≠i:=by
        rintro rfl
        rw[hdi] at hk
        exact e (a6_ hk)
      show cond (Nat.beq j i||d j) _ _=_
      rw[xt_ hne,j9_]
theorem bz0 {i:Nat} {p:Oper} {anc:List Nat} {q:AV×DR×List AO} (A:At P n sl dsts fr0 os C0 tr i p anc q):inL (fr0+i) q.2.1.F=false:=by
  cases hF:inL (fr0+i) q.2.1.F with
  | false=>rfl
  | true =>
    exfalso
    have hi:=(a3_.1 A.ho).1
    have hbo:=(A.good.foot.2.1 hF).2
    rw[ay_,bz1 h hb hp hi] at hbo
    obtain⟨a,h1,h2⟩:=hbo
    cases h1
    exact h2 rfl
theorem bw1 {d:Nat→Bool} (hd:Cl os d) {i:Nat} (hi:i<os.length) (hdi:d i=false):(cur fr0 C0 tr d)[fr0+i]?=some .unborn:=by
  have hl:fr0+i<(cur fr0 C0 tr d).length:=by rw[iw_,hb.len];omega
  have:=xp_ h hb hp hd hi
  rw[hdi] at this
  rw[a7_ hl]
  congr 1
  by_cases e:(cur fr0 C0 tr d)[fr0+i] = .unborn
  · exact e
  · rw[(ti_ (a7_ hl)).2 e] at this
    cases this
end
end
section
variable [Gb]
def hvN (fr:Nat) (hv hv'':Nat→Value) (o:Nat):Value:=cond (Nat.beq o fr) (hv'' o) (hv o)
theorem cs2 {fr:Nat} {hv hv'':Nat→Value}:hvN fr hv hv'' fr=hv'' fr:=by unfold hvN;rw[g3_];rfl
theorem zg_ {fr o:Nat} {hv hv'':Nat→Value} (h:o≠fr):hvN fr hv hv'' o=hv o:=by unfold hvN;rw[xt_ h];rfl
theorem an9 {l:List AO} {i:Nat} {a:AO} (h:a.lt l=true):a.lt (l.set i .gone)=true:=AO.lt_mono (λ_=>cn5) h
section
variable {P:Program} [Tb P] {n:Nat} {sl:Nat→AV} {dsts:List (Option Nat)} {fr0:Nat} {os:List Oper} {C0:List AO} {tr:List (AV×DR×List AO)}
variable (h:sl_ P n sl dsts (kq_ os []) fr0 os (kq_ os []) [] [] C0 tr) (hb:Base fr0 os C0) (hp:rp_ os 0=true) (hds:dsts=os.map (·.dst)) (hon:su_ dsts=true) (hw0:WfS sl C0)
variable {S0:PH} {hv0:Nat→Value} {ob0:List AO} {Fm:List HP} {D0:List Deferred} (hob:BLe ob0 C0)
include h hb hp hds hon hw0 hob
theorem au4 {d:Nat→Bool} (hd:Cl os d) {i:Nat} {p:Oper} {anc:List Nat} {q:AV×DR×List AO} (A:At P n sl dsts fr0 os C0 tr i p anc q) (hi:d i=false) (hanc:∀ j,inL j anc=true→d j=true)
    (hd':Cl os (λj=>Nat.beq j i||d j)) {S S':PH} {hv hv'':Nat→Value} {f f':Fr} {w w':World} {ob:List AO}
    (D:Dy S0 hv0 ob0 Fm D0 sl dsts C0 (cur fr0 C0 tr d) (mx_ sl dsts tr d) S hv f w) (hle:S.Le S')
    (hlen:C0.length≤ob.length)
    (htc:∀ (j:Nat) (c b:AO),(tch fr0 j i q)=true→q.2.2[j]?=some c→ob[j]?=some b→(c=b∨(c = .gone∧b = .unborn))∧(j≠fr0+i→hv j=hv'' j)∧c.lt ((oq_ fr0 anc q.2.1.F 0 (Cat C0 tr i)).set (fr0+i) .gone)=true∧(j≠fr0+i→∀ a,(cur fr0 C0 tr d)[j]?=some a→K1 a c))
    (hnt:∀ (j:Nat) (c b:AO),(tch fr0 j i q)=false→inL j q.2.1.F=true→(cur fr0 C0 tr d)[j]?=some c→ob[j]?=some b→c=b∧hv j=hv'' j∧c.lt ((oq_ fr0 anc q.2.1.F 0 (Cat C0 tr i)).set (fr0+i) .gone)=true)
    (hag:Ag (oq_ fr0 anc q.2.1.F 0 (Cat C0 tr i)) hv hv'')
    (hinv:Inv w' S' (OHs hv'' 0 ob++(OHs hv 0 (cs4 q.2.1.F 0 (cur fr0 C0 tr d))++Fm)))
    (hdsf:f'.ds=f.ds)
    (hvs:∀ x,(p.dst=some x∧RA hv'' S' q.1 (f' x))∨(p.dst≠some x∧f' x=f x))
    (hlt:q.1.lt ((oq_ fr0 anc q.2.1.F 0 (Cat C0 tr i)).set (fr0+i) .gone)=true) :
    Dy S0 hv0 ob0 Fm D0 sl dsts C0 (cur fr0 C0 tr (λj=>Nat.beq j i||d j)) (mx_ sl dsts tr (λj=>Nat.beq j i||d j)) S' (hvN (fr0+i) hv hv'') f' w':=by
  have hil:=(a3_.1 A.ho).1
  have hun:=bw1 h hb hp hds hon hw0 hd hil hi
  have hble:=cur_ble h hb hp hds hon hw0 hd hd'
  have hvb:=vis_ble h hb hp hds hon hw0 hd A hanc hd'
  have ag1:Ag (cur fr0 C0 tr d) hv (hvN (fr0+i) hv hv''):=λo ho=>by
    by_cases e:o=fr0+i
    · subst e
      rw[ay_,hun] at ho
      obtain⟨a,h1,h2⟩:=ho
      cases h1
      exact absurd rfl h2
    · rw[zg_ e]
  have ag2:Ag ((oq_ fr0 anc q.2.1.F 0 (Cat C0 tr i)).set (fr0+i) .gone) hv'' (hvN (fr0+i) hv hv''):=λo ho=>by
    by_cases e:o=fr0+i
    · subst e;rw[cs2]
    · rw[zg_ e]
      exact (hag o ((ub_ ho).resolve_left e)).symm
  have ag2':Ag ((oq_ fr0 anc q.2.1.F 0 (Cat C0 tr i)).set (fr0+i) .gone) (hvN (fr0+i) hv hv'') hv'':=λo ho=>(ag2 o ho).symm
  have ag1':Ag (cur fr0 C0 tr d) (hvN (fr0+i) hv hv'') hv:=λo ho=>(ag1 o ho).symm
  have hF:inL (fr0+i) q.2.1.F=false:=bz0 h hb hp hds hon hw0 A
  have get:∀ j,j<C0.length→(cur fr0 C0 tr (λj=>Nat.beq j i||d j))[j]?=cond (tch fr0 j i q) (q.2.2[j]?) ((cur fr0 C0 tr d)[j]?):=λj hj=>after h hb hp hd A hi hanc hj
  have lenq:=cu2 h A
  refine⟨D.le.trans hle,λo ho => ?_,?_,λx => ?_,λx => ?_,λa ha => ?_,λo a ho => ?_,hdsf.trans D.ds,D.gl.mono hle⟩
  · have hbo:=hob o ho
    have hlo:=bd2 hbo
    rw[hb.len] at hlo
    have:o≠fr0+i:=by
      rintro rfl
      rw[ay_,hb.un _ (by omega) (by rw[hb.len];omega)] at hbo
      obtain⟨a,h1,h2⟩:=hbo
      cases h1
      exact h2 rfl
    rw[zg_ this]
    exact D.ag o ho
  · refine cl1 (A:=OHs hv'' 0 ob) (B:=OHs hv 0 (cs4 q.2.1.F 0 (cur fr0 C0 tr d))) ?_ ?_ ?_ hinv
    · rw[ip_,ip_,iw_];exact hlen
    · rw[ip_,ip_,ae2,iw_,iw_];exact c3_ _
    · intro j t a b e1 e2 e3
      rw[wh_,b0_] at e1 e2 e3
      have hj:j<C0.length:=by
        cases hc:(cur fr0 C0 tr (λj=>Nat.beq j i||d j))[j]? with
        | none=>rw[hc] at e1;cases e1
        | some c=>have:=(a3_.1 hc).1;rwa [iw_] at this
      rw[get j hj] at e1
      cases ht:tch fr0 j i q with
      | true =>
        rw[ht,a5_] at e1
        cases hc:q.2.2[j]? with
        | none=>rw[hc] at e1;cases e1
        | some c =>
          rw[hc] at e1
          cases hbb:ob[j]? with
          | none=>rw[hbb] at e2;cases e2
          | some b' =>
            rw[hbb] at e2
            obtain⟨g1,g2,g3,_⟩:=htc j c b' ht hc hbb
            left
            have e1:=a6_ e1
            have e2:=a6_ e2
            rw[← e1,← e2]
            have hh:hvN (fr0+i) hv hv'' j=hv'' j:=by
              by_cases e:j=fr0+i
              · rw[e,cs2]
              · rw[zg_ e];exact g2 e
            rw[hh]
            rcases g1 with rfl | ⟨rfl,rfl⟩
            · exact OH.ag ag2' ag2 g3
            · rfl
      | false =>
        rw[ht,a2_] at e1
        cases hc:(cur fr0 C0 tr d)[j]? with
        | none=>rw[hc] at e1;cases e1
        | some c =>
          rw[hc] at e1
          have e1:=a6_ e1
          have hne:j≠fr0+i:=by
            rintro rfl
            rw[io_.2 (.inl rfl)] at ht
            cases ht
          cases hjF:inL j q.2.1.F with
          | true =>
            left
            cases hbb:ob[j]? with
            | none=>rw[hbb] at e2;cases e2
            | some b' =>
              rw[hbb] at e2
              have e2:=a6_ e2
              obtain⟨g1,g2,g3⟩:=hnt j c b' ht hjF hc hbb
              rw[← e1,← e2,zg_ hne,g2,← g1]
              exact OH.ag ag2' ag2 g3
          | false =>
            right
            rw[ae3,hc,b0_] at e3
            have e3:some (OH hv (hv j) (cond (inL j q.2.1.F) .gone c))=some b:=e3
            rw[hjF,a2_] at e3
            have e3:=a6_ e3
            rw[← e1,← e3,zg_ hne]
            exact OH.ag ag1' ag1 (D.wfo c (b2_ hc))
  · rcases zo_ h hb hp hds hon hw0 (d:=d) A.ho A.hq x with ⟨e,es⟩ | ⟨e,es⟩
    · rw[es]
      rcases hvs x with ⟨_,hr⟩ | ⟨e2,_⟩
      · exact RA.ag ag2 hlt hr
      · exact absurd e e2
    · rw[es]
      rcases hvs x with ⟨e2,_⟩ | ⟨_,hr⟩
      · exact absurd e2 e
      · rw[hr]
        exact RA.ag ag1 (D.wfs x) (RA.mono hle (D.rel x))
  · rcases zo_ h hb hp hds hon hw0 (d:=d) A.ho A.hq x with ⟨e,es⟩ | ⟨e,es⟩
    · rw[es];exact AV.lt_mono hvb hlt
    · rw[es];exact AV.lt_mono hble (D.wfs x)
  · obtain⟨j,hj,e⟩:=q6_ ha
    have hj':j<C0.length:=by rwa [iw_] at hj
    have e2:(cur fr0 C0 tr (λj=>Nat.beq j i||d j))[j]?=some a:=by rw[a7_ hj,e]
    rw[get j hj'] at e2
    cases ht:tch fr0 j i q with
    | true =>
      rw[ht,a5_] at e2
      have hjo:j<ob.length:=by omega
      exact AO.lt_mono hvb (htc j a _ ht e2 (a7_ hjo)).2.2.1
    | false =>
      rw[ht,a2_] at e2
      exact AO.lt_mono hble (D.wfo a (b2_ e2))
  · obtain⟨b,e1,k1⟩:=D.keep o a ho
    have hl:=(a3_.1 ho).1
    rw[get o hl]
    cases ht:tch fr0 o i q with
    | false=>exact⟨b,e1,k1⟩
    | true =>
      have hq2:q.2.2[o]?=some (q.2.2[o]'(by omega)):=a7_ _
      refine⟨_,hq2,?_⟩
      by_cases e:o=fr0+i
      · subst e
        rw[hb.un _ (by omega) hl] at ho
        cases ho
        exact bu6 _
      · have hjo:o<ob.length:=by omega
        exact k1.trans ((htc o _ _ ht hq2 (a7_ hjo)).2.2.2 e b e1)
end
section
variable {P:Program} [Tb P] {n:Nat} {sl:Nat→AV} {dsts:List (Option Nat)} {fr0:Nat} {os:List Oper} {C0:List AO} {tr:List (AV×DR×List AO)}
variable (h:sl_ P n sl dsts (kq_ os []) fr0 os (kq_ os []) [] [] C0 tr) (hb:Base fr0 os C0) (hp:rp_ os 0=true) (hds:dsts=os.map (·.dst)) (hon:su_ dsts=true) (hw0:WfS sl C0)
variable {S0:PH} {hv0:Nat→Value} {ob0:List AO} {Fm:List HP} {D0:List Deferred} (hob:BLe ob0 C0) {ro:Option Nat}
include h hb hp hds hon hw0 hob
theorem ct6 {d:Nat→Bool} (hd:Cl os d) {i:Nat} {p:Oper} {anc:List Nat} {q:AV×DR×List AO} (A:At P n sl dsts fr0 os C0 tr i p anc q) (hi:d i=false) (hanc:∀ j,inL j anc=true→d j=true)
    (hd':Cl os (λj=>Nat.beq j i||d j)) {S:PH} {hv:Nat→Value} {f:Fr} {w:World} {V:List AV} (hV:VOk V ((tr.take i).map (·.1)))
    (hR:Ran P n sl dsts (kq_ os []) fr0 (fr0+i) p anc V ((tr.take i).map (·.2.1)) (Cat C0 tr i) q.1 q.2.1 q.2.2)
    (D:Dy S0 hv0 ob0 Fm D0 sl dsts C0 (cur fr0 C0 tr d) (mx_ sl dsts tr d) S hv f w) :
    OP P n ro p f w λf' w'=>∃ S' hv',Dy S0 hv0 ob0 Fm D0 sl dsts C0 (cur fr0 C0 tr (λj=>Nat.beq j i||d j)) (mx_ sl dsts tr (λj=>Nat.beq j i||d j)) S' hv' f' w':=by
  have hil:=(a3_.1 A.ho).1
  have hlc:=qt_ h (show i≤os.length by omega)
  have hvis:oq_ fr0 anc q.2.1.F 0 (cur fr0 C0 tr d)=oq_ fr0 anc q.2.1.F 0 (Cat C0 tr i) :=
    ym_ (by rw[iw_,hlc]) (λo ho hF=>ready h hb hp hd A hi hanc hF (by rwa [iw_] at ho)) (λo ho=>by rw[se_ h hb hp ho,oj_ h hb hp ho (show i≤os.length by omega)])
  have hunF:=bz0 h hb hp hds hon hw0 A
  have hoks:=hR.oks
  unfold okS2 at hoks
  rw[a1_,a1_] at hoks
  have hfr:=bz1 h hb hp hil
  have visF:∀ j,inL j q.2.1.F=true→(oq_ fr0 anc q.2.1.F 0 (Cat C0 tr i))[j]?=(cur fr0 C0 tr d)[j]?:=λj hj=>by
    rw[← hvis,iz_,b0_]
    cases (cur fr0 C0 tr d)[j]? with
    | none=>rfl
    | some a=>show some _=_;rw[aw2 hj]
  have bornF:∀ j,inL j q.2.1.F=true→born (oq_ fr0 anc q.2.1.F 0 (Cat C0 tr i)) j=true:=λj hj=>vj_ (A.good.foot.2.1 hj).2 (.inl hj)
  have hVl:V.length=i:=by
    have:=hV.1
    have htl:=(mq_ h).1
    rw[this,d6_,c9_]
    omega
  have hs:Sit S hv (OHs hv 0 (cs4 q.2.1.F 0 (cur fr0 C0 tr d))++Fm) (cd6 sl dsts (kq_ os []) anc V) (oq_ fr0 anc q.2.1.F 0 (Cat C0 tr i)) f w:=by
    refine⟨?_,env_ra hV hanc (λj hj=>az8 hd hi j (by rw[hVl] at hj;exact hj)) D.rel,λx => ?_,λa ha=>bg_ hoks.1.2 a ha,D.gl⟩
    · rw[← hvis]
      refine am0 (T:=OHs hv 0 (cur fr0 C0 tr d)) (by rw[ip_,ip_,up_]) (by rw[ip_,ip_,ae2]) ?_ D.inv
      intro j t a b e1 e2 e3
      rw[wh_,b0_] at e1 e2 e3
      cases hc:(cur fr0 C0 tr d)[j]? with
      | none=>rw[hc] at e1;cases e1
      | some c =>
        rw[hc] at e1
        rw[iz_,hc,b0_] at e2
        rw[ae3,hc,b0_] at e3
        have e1:some (OH hv (hv j) c)=some t:=e1
        have e2:some (OH hv (hv j) (ap4 fr0 anc q.2.1.F j c))=some a:=e2
        have e3:some (OH hv (hv j) (cond (inL j q.2.1.F) .gone c))=some b:=e3
        have e1:=a6_ e1
        have e2:=a6_ e2
        have e3:=a6_ e3
        cases hF:inL j q.2.1.F with
        | true =>
          rw[hF] at e3
          rw[aw2 hF] at e2
          exact .inl ⟨e2.symm.trans e1,e3.symm⟩
        | false =>
          rw[hF] at e3
          refine .inr ⟨?_,e3.symm.trans e1⟩
          rcases bj5 (fr0:=fr0) (anc:=anc) (a:=c) hF with e | e <;> (rw[e] at e2;exact e2.symm)
    · unfold cd6
      have hold:(sl x).lt (oq_ fr0 anc q.2.1.F 0 (Cat C0 tr i))=true:=by
        refine AV.lt_mono (λo ho => ?_) (hw0 x)
        have hol:=bd2 ho
        have h0:o<fr0:=by
          apply Nat.lt_of_not_le
          intro hge
          rw[ay_,hb.un o hge hol] at ho
          obtain⟨a,h1,h2⟩:=ho
          cases h1
          exact h2 rfl
        exact vj_ (by rw[oj_ h hb hp h0 (show i≤os.length by omega)];exact ho) (.inr h0)
      cases hx:fz_ x dsts 0 with
      | none=>exact hold
      | some j =>
        show (cond (inL j anc) ((V[j]?).getD (.b .dead)) (cond (inL V.length (((kq_ os [])[j]?).getD [])) (sl x) (.b .dead))).lt _=true
        cases hj:inL j anc with
        | false =>
          cases inL V.length (((kq_ os [])[j]?).getD []) with
          | false=>rfl
          | true=>exact hold
        | true =>
          show ((V[j]?).getD (.b .dead)).lt _=true
          cases hv:V[j]? with
          | none=>rfl
          | some a=>exact okU_at hoks.2 hv (by rw[b0_];exact hj)
  rcases hR.run with ⟨hw,ob,hop,hC,hokW,hbF,hl⟩ | ⟨hw,hop,hC⟩
  · refine hop hs hR.dst λv S' hv'' w' hble hkeep hwfo hlt hle hag hra hinv=>⟨S',_,au4 h hb hp hds hon hw0 hob hd A hi hanc hd' D hle (by rw[← hlc];exact hl) ?_ ?_ hag hinv sn_ ?_ hR.lt⟩
    · intro j c b ht hc hbb
      have hC':=hc
      rw[hC] at hc
      have hlt2:inL j ((fr0+i)::q.2.1.F)=true→c.lt ((oq_ fr0 anc q.2.1.F 0 (Cat C0 tr i)).set (fr0+i) .gone)=true:=λhj=>okW_at hokW hC' (by rw[b0_];exact hj)
      have hjl:j<(Cat C0 tr i).length:=by
        have:=(a3_.1 hc).1
        rwa [pt_,mb_] at this
      rcases io_.1 ht with rfl | ⟨_,hjF⟩
      · have hin:inL (fr0+i) ((fr0+i)::q.2.1.F)=true:=by simp[inL]
        refine⟨?_,λhne=>absurd rfl hne,hlt2 hin,λhne=>absurd rfl hne⟩
        have e:(ix_ ((fr0+i)::q.2.1.F) 0 (Cat C0 tr i) ob)[fr0+i]?=some b:=by
          rw[ph_ hl,b0_,hin,ls_.2 hjl]
          exact hbb
        unfold fi_ at hc
        rw[e] at hc
        by_cases hub:b = .unborn
        · subst hub
          right
          have hc:((ix_ ((fr0+i)::q.2.1.F) 0 (Cat C0 tr i) ob).set (fr0+i) .gone)[fr0+i]?=some c:=hc
          rw[e3_ (by rw[mb_];exact hjl)] at hc
          exact⟨(a6_ hc).symm,rfl⟩
        · left
          have hc:(ix_ ((fr0+i)::q.2.1.F) 0 (Cat C0 tr i) ob)[fr0+i]?=some c:=by
            cases b<;>first | exact absurd rfl hub | exact hc
          rw[e] at hc
          exact (a6_ hc).symm
      · have hne:j≠fr0+i:=by rintro rfl;rw[hunF] at hjF;cases hjF
        have hin:inL j ((fr0+i)::q.2.1.F)=true:=by
          show (Nat.beq j (fr0+i)||inL j q.2.1.F)=true
          rw[hjF,n2_]
        rw[sj_ hne,ph_ hl,b0_,hin,ls_.2 hjl] at hc
        have hc:ob[j]?=some c:=hc
        have ecb:c=b:=by rw[hbb] at hc;exact (a6_ hc).symm
        refine⟨.inl ecb,λ_=>hag j (bornF j hjF),hlt2 hin,λ_ a ha => ?_⟩
        obtain⟨b',h1,h2⟩:=hkeep j a (by rw[visF j hjF];exact ha)
        rw[hbb] at h1
        cases h1
        rw[ecb]
        exact h2
    · intro j c b ht hjF
      rw[io_.2 (.inr ⟨hw,hjF⟩)] at ht
      cases ht
    · intro x
      cases hx:p.dst with
      | none=>exact .inr ⟨by simp,rfl⟩
      | some y =>
        by_cases e:y=x
        · subst e;exact .inl ⟨rfl,by show RA hv'' S' q.1 (upd f y v y);rw[ot_];exact hra⟩
        · exact .inr ⟨λh=>e (a6_ h),vk_ f y v (o1_ e)⟩
  · refine hop hs hR.dst λv S' hv'' w' hble hkeep hwfo hlt hle hag hra hinv=>⟨S',_,au4 h hb hp hds hon hw0 hob hd A hi hanc hd' D hle (by rw[up_,hlc];exact c3_ _) ?_ ?_ hag hinv sn_ ?_ hR.lt⟩
    · intro j c b ht hc hbb
      rcases io_.1 ht with rfl | ⟨hw',_⟩
      · rw[hC] at hc
        unfold fi_ at hc
        rw[hfr] at hc
        have hc:((Cat C0 tr i).set (fr0+i) .gone)[fr0+i]?=some c:=hc
        rw[e3_ (by rw[hlc,hb.len];omega)] at hc
        cases hc
        rw[iz_,hfr,b0_] at hbb
        have hbb:some (ap4 fr0 anc q.2.1.F (fr0+i) .unborn)=some b:=hbb
        have hia:inL (fr0+i - fr0) anc=false:=by
          cases hia:inL (fr0+i - fr0) anc with
          | false=>rfl
          | true =>
            rw[show fr0+i - fr0=i by omega] at hia
            have:=ao3 hp A.ho A.ha hia
            omega
        rw[os_ hunF (by omega),hia] at hbb
        cases hbb
        exact⟨.inr ⟨rfl,rfl⟩,λhne=>absurd rfl hne,rfl,λhne=>absurd rfl hne⟩
      · rw[hw] at hw';cases hw'
    · intro j c b ht hjF hc hbb
      rw[visF j hjF,hc] at hbb
      cases hbb
      refine⟨rfl,hag j (bornF j hjF),an9 ?_⟩
      exact bg_ hoks.1.2 c (b2_ (by rw[visF j hjF];exact hc))
    · intro x
      cases hx:p.dst with
      | none=>exact .inr ⟨by simp,rfl⟩
      | some y =>
        by_cases e:y=x
        · subst e;exact .inl ⟨rfl,by show RA hv'' S' q.1 (upd f y v y);rw[ot_];exact hra⟩
        · exact .inr ⟨λh=>e (a6_ h),vk_ f y v (o1_ e)⟩
theorem dy_op {d:Nat→Bool} (hd:Cl os d) {i:Nat} {p:Oper} (ho:os[i]?=some p) (hi:d i=false) (hpre:∀ j ∈ ch_ p,d j=true)
    {S:PH} {hv:Nat→Value} {f:Fr} {w:World} (D:Dy S0 hv0 ob0 Fm D0 sl dsts C0 (cur fr0 C0 tr d) (mx_ sl dsts tr d) S hv f w) :
    OPg P n ro os.toArray i f w λf' w'=>∃ S' hv',Dy S0 hv0 ob0 Fm D0 sl dsts C0 (cur fr0 C0 tr (λj=>Nat.beq j i||d j)) (mx_ sl dsts tr (λj=>Nat.beq j i||d j)) S' hv' f' w':=by
  obtain⟨anc,q,A⟩:=cn9 h ho
  obtain⟨hanc',hd'⟩:=hd.step ho hpre
  have hanc:=hanc' anc A.ha
  have hoa:os.toArray[i]?=some p:=by simpa using ho
  obtain⟨V,hV,hg⟩:=A.good.go
  split at hg
  · rename_i hgd
    exact we_ hoa hgd (ct6 h hb hp hds hon hw0 hob hd A hi hanc hd' hV hg D)
  · rename_i j b hgd
    obtain⟨hja,hdg,a0,ha0,hg⟩:=hg
    unfold dstG at hdg
    split at hdg
    · rename_i dd hdd
      have hdj:=hanc j hja
      have hrel:RA hv S a0 (f dd):=by
        have:=D.rel dd
        unfold mx_ at this
        rw[ad9 hon hdd] at this
        have this:RA hv S (cond (d j) (bi6 tr j) (sl dd)) (f dd):=this
        rw[hdj] at this
        have this:RA hv S (bi6 tr j) (f dd):=this
        rw[av1 ha0] at this
        exact this
      have hjd:(os.toArray[j]?).bind (·.dst)=some dd:=by
        rw[hds,d8_] at hdd
        rw[e6_]
        cases hq:os[j]? with
        | none=>rw[hq] at hdd;cases hdd
        | some o=>rw[hq] at hdd;exact a6_ hdd
      rcases hg with ⟨hcb,hR⟩ | ⟨hcb,hdo,hav,hr,hC⟩
      · exact ak3 hoa hgd hjd hdg (eb_ hrel hcb) rfl (ct6 h hb hp hds hon hw0 hob hd A hi hanc hd' hV hR D)
      · suffices hK:∃ S' hv',Dy S0 hv0 ob0 Fm D0 sl dsts C0 (cur fr0 C0 tr (λj=>Nat.beq j i||d j)) (mx_ sl dsts tr (λj=>Nat.beq j i||d j)) S' hv' (vl_ f p.dst undef) w by
          rcases hcb with hcb | hcb
          · exact ay2 hoa hgd hjd hdg (eb_ hrel hcb) rfl hdo hK
          · exact yx_ hoa hgd hjd hdg (bk4 hcb hrel) hdo hK
        refine⟨S,_,au4 h hb hp hds hon hw0 hob hd A hi hanc hd' (hv'':=hv) (ob:=oq_ fr0 anc q.2.1.F 0 (Cat C0 tr i)) D (PH.Le.refl S) ?_ ?_ ?_ (λ_ _=>rfl) ?_ sn_ ?_ ?_⟩
        all_goals have hil:=(a3_.1 A.ho).1
        all_goals have hlc:=qt_ h (show i≤os.length by omega)
        · rw[up_,hlc];exact c3_ _
        · intro k c' b' ht hc' hbb
          have hfr:=bz1 h hb hp hil
          rcases io_.1 ht with rfl | ⟨hw',_⟩
          · rw[hC] at hc'
            unfold fi_ at hc'
            rw[hfr] at hc'
            have hc':((Cat C0 tr i).set (fr0+i) .gone)[fr0+i]?=some c':=hc'
            rw[e3_ (by rw[hlc,hb.len];omega)] at hc'
            cases hc'
            have hunF:=bz0 h hb hp hds hon hw0 A
            rw[iz_,hfr,b0_] at hbb
            have hbb:some (ap4 fr0 anc q.2.1.F (fr0+i) .unborn)=some b':=hbb
            have hia:inL (fr0+i - fr0) anc=false:=by
              cases hia:inL (fr0+i - fr0) anc with
              | false=>rfl
              | true =>
                rw[show fr0+i - fr0=i by omega] at hia
                have:=ao3 hp A.ho A.ha hia
                omega
            rw[os_ hunF (by omega),hia] at hbb
            cases hbb
            exact⟨.inr ⟨rfl,rfl⟩,λhne=>absurd rfl hne,rfl,λhne=>absurd rfl hne⟩
          · rw[hr] at hw';cases hw'
        · intro k c' b' ht hjF
          rw[hr] at hjF
          simp[inL] at hjF
        · -- nothing is seen, all is hidden
          have hvis:oq_ fr0 anc q.2.1.F 0 (cur fr0 C0 tr d)=oq_ fr0 anc q.2.1.F 0 (Cat C0 tr i) :=
            ym_ (by rw[iw_,hlc]) (λo ho hF=>ready h hb hp hd A hi hanc hF (by rwa [iw_] at ho)) (λo ho=>by rw[se_ h hb hp ho,oj_ h hb hp ho (show i≤os.length by omega)])
          rw[← hvis]
          refine am0 (T:=OHs hv 0 (cur fr0 C0 tr d)) (by rw[ip_,ip_,up_]) (by rw[ip_,ip_,ae2]) ?_ D.inv
          intro j t a b e1 e2 e3
          rw[wh_,b0_] at e1 e2 e3
          cases hc:(cur fr0 C0 tr d)[j]? with
          | none=>rw[hc] at e1;cases e1
          | some c =>
            rw[hc] at e1
            rw[iz_,hc,b0_] at e2
            rw[ae3,hc,b0_] at e3
            have hF:inL j q.2.1.F=false:=by rw[hr];rfl
            have e1:some (OH hv (hv j) c)=some t:=e1
            have e2:some (OH hv (hv j) (ap4 fr0 anc q.2.1.F j c))=some a:=e2
            have e3:some (OH hv (hv j) (cond (inL j q.2.1.F) .gone c))=some b:=e3
            have e1:=a6_ e1
            have e2:=a6_ e2
            have e3:=a6_ e3
            rw[hF] at e3
            refine .inr ⟨?_,e3.symm.trans e1⟩
            rcases bj5 (fr0:=fr0) (anc:=anc) (a:=c) hF with e | e <;> (rw[e] at e2;exact e2.symm)
        · intro x
          cases hx:p.dst with
          | none=>exact .inr ⟨by simp,rfl⟩
          | some y =>
            by_cases e:y=x
            · subst e;exact .inl ⟨rfl,by rw[hav];show RA hv S (.tup []) (upd f y undef y);rw[ot_];exact un_ra⟩
            · exact .inr ⟨λh=>e (a6_ h),vk_ f y undef (o1_ e)⟩
        · rw[hav];rfl
    · cases hdg
end
end
section
variable [Gb]
def OHeq (a b:AO):Prop:=∀ hv v,OH hv v a=OH hv v b
theorem OHeq.refl (a:AO):OHeq a a:=λ_ _=>rfl
theorem az1 (a:AO):OHeq (ns_ a) a:=λhv v=>by cases a<;>rfl
def aq6 (es:List Sp1) (mv:List Nat):Nat→List AO→List AO→List AO
  | _,[],l=>l
  | _,_::_,[]=>[]
  | i,a::ob,b::l=>(match a with
    | .unborn=>b
    | .gone=>b
    | _=>cond (listed es i||inL i mv) b .gone)::aq6 es mv (i+1) ob l
theorem perm_a {α:Type} {b e:α} {A B X:List α}:(e::(A++(B++(b::X)))).Perm ((b::A)++((e::B)++X)):=by
  have h1:(A++(B++(b::X))).Perm (b::(A++(B++X))):=by
    rw[← b4_,← b4_]
    exact d2_
  have h2:((b::A)++((e::B)++X)).Perm (b::e::(A++(B++X))):=by
    simp only[m0_]
    exact List.Perm.cons b d2_
  exact (h1.cons e).trans ((List.Perm.swap b e _).trans h2.symm)
theorem bo9 {α:Type} {b e:α} {A B X:List α}:(e::(A++(B++(b::X)))).Perm ((e::A)++((b::B)++X)):=by
  have h1:(A++(B++(b::X))).Perm (A++((b::B)++X)):=m3_ A d2_
  simpa using h1.cons e
section
variable {w:World} {S:PH} {hv hvT:Nat→Value}
theorem ai0 {mk:Bool} {es:List Sp1} {mv:List Nat}:∀ {ob l:List AO} {i:Nat} {X:List HP},ob.length≤l.length →
    (∀ (j:Nat) (a b:AO),ob[j]?=some a→l[j]?=some b→(listed es (i+j)||inL (i+j) mv)=false→a≠.unborn→a≠.gone→OHeq a b) →
    Inv w S (OHs hv i l++X)→Inv w S (OHs hv i (ex_ mk es mv i ob)++(OHs hv i (aq6 es mv i ob l)++X))
  | [],l,i,X,_,_,h=>h
  | a::ob,[],i,X,hl,_,_=>by simp at hl
  | a::ob,b::l,i,X,hl,hf,h=>by
    simp only[c4_] at hl
    have h1:Inv w S (OHs hv (i+1) l++(OH hv (hv i) b::X)):=h.perm List.perm_middle.symm
    have h2:=ke_ (ai0 (mk:=mk) (es:=es) (mv:=mv) (ob:=ob) (l:=l) (i:=i+1) (by omega) (λj a' b' ha hb hc hn hn2=>hf (j+1) a' b' (by simpa using ha) (by simpa using hb) (by rw[show i+(j+1)=i+1+j by omega];exact hc) hn hn2) h1)
    by_cases hu:a = .unborn
    · subst hu
      exact h2.perm bo9
    by_cases hg:a = .gone
    · subst hg
      exact h2.perm bo9
    · cases hc:(listed es i||inL i mv) with
      | true =>
        have e1:ex_ mk es mv i (a::ob) = .gone::ex_ mk es mv (i+1) ob:=by
          cases a<;>first | exact absurd rfl hu | exact absurd rfl hg | simp[ex_,hc]
        have e2:aq6 es mv i (a::ob) (b::l)=b::aq6 es mv (i+1) ob l:=by
          cases a<;>first | exact absurd rfl hu | exact absurd rfl hg | simp[aq6,hc]
        rw[e1,e2]
        exact h2.perm bo9
      | false =>
        have e1:ex_ mk es mv i (a::ob)=(cond mk (ns_ a) a)::ex_ mk es mv (i+1) ob:=by
          cases a<;>first | exact absurd rfl hu | exact absurd rfl hg | simp[ex_,hc]
        have e2:aq6 es mv i (a::ob) (b::l) = .gone::aq6 es mv (i+1) ob l:=by
          cases a<;>first | exact absurd rfl hu | exact absurd rfl hg | simp[aq6,hc]
        rw[e1,e2]
        have e3:OH hv (hv i) (cond mk (ns_ a) a)=OH hv (hv i) b:=by
          have:=hf 0 a b rfl rfl hc hu hg hv (hv i)
          cases mk with
          | true=>rw[← this];exact az1 a hv (hv i)
          | false=>exact this
        show Inv w S ((OH hv (hv i) (cond mk (ns_ a) a)::OHs hv (i+1) (ex_ mk es mv (i+1) ob))++((HP.exact Hp.emp::OHs hv (i+1) (aq6 es mv (i+1) ob l))++X))
        rw[e3]
        exact h2.perm perm_a
theorem kx_ {rem:List AO} {o:Nat} {a:AO} {X Fm:List HP} (ho:rem[o]?=some a) (h:Inv w S (X++(OHs hv 0 rem++Fm))):Inv w S (OH hv (hv o) a::(X++(OHs hv 0 (rem.set o .gone)++Fm))):=by
  obtain⟨L,h1,h2⟩:=OHs.focus (hv:=hv) (i:=0) ho
  rw[b0_] at h1 h2
  have h3:Inv w S (OH hv (hv o) a::(X++(L++Fm))):=by
    refine h.perm ?_
    have:(X++(OHs hv 0 rem++Fm)).Perm (X++((OH hv (hv o) a::L)++Fm)):=m3_ X (h1.append_right Fm)
    exact this.trans (d2_ (l₁:=X) (a:=OH hv (hv o) a) (l₂:=L++Fm))
  have h4:=ke_ h3
  refine h4.perm ?_
  have h5:(OHs hv 0 (rem.set o .gone)).Perm (HP.exact Hp.emp::L):=h2 .gone
  have h6:(X++(OHs hv 0 (rem.set o .gone)++Fm)).Perm (HP.exact Hp.emp::(X++(L++Fm))) :=
    (m3_ X (h5.append_right Fm)).trans (d2_ (l₁:=X) (a:=HP.exact Hp.emp) (l₂:=L++Fm))
  exact (List.Perm.swap _ _ _).trans (h6.symm.cons _)
theorem aw6 {t:Ty} {T:TypeId} {c:SV} {rem rem':List AO} {l:List t.den} {v:Value} {X Fm:List HP} (h:ah8 t T c rem=some (l,rem')) (hr:RS hv S c v) (hI:Inv w S (X++(OHs hv 0 rem++Fm))) :
    Inv w S (@Row t.den t.enc T v l::(X++(OHs hv 0 rem'++Fm))):=by
  unfold ah8 at h
  split at h
  · cases h
    have e:v = .slice none 0 0:=hr.2
    rw[e]
    exact hI.rowNil
  · rename_i o
    split at h
    · rename_i t' T' l' ho
      obtain⟨hT,h⟩:=bm_ h
      obtain⟨m,hm,h⟩:=bnd h
      cases h
      obtain⟨e1,e2⟩:=gz_ hm
      subst e1
      have hT:=a4_ hT
      subst hT
      have e:v=hv o:=hr.2
      have:=kx_ ho hI
      rw[e]
      have e3:l=l':=e2
      rw[e3]
      exact this
    · cases h
  · cases h
theorem ce6 {k v:Ty} {c:SV} {rem rem':List AO} {l:List (k.den×v.den)} {u:Value} {X Fm:List HP} (h:ap5 k v c rem=some (l,rem')) (hr:RS hv S c u) (hI:Inv w S (X++(OHs hv 0 rem++Fm))) :
    Inv w S (bi8 u k v l::(X++(OHs hv 0 rem'++Fm)))∧∀ hv' o,u=hv' o→RS hv' S (.map o) u:=by
  unfold ap5 at h
  split at h
  · rename_i o
    split at h
    · rename_i k' v' l' ho
      obtain⟨m,hm,h⟩:=bnd h
      cases h
      obtain⟨e1,e2,e3⟩:=zr_ hm
      subst e1
      subst e2
      have e3:l=l':=e3
      subst e3
      have e:u=hv o:=hr.2
      have:=kx_ ho hI
      exact⟨by rw[e];exact this,λhv' o' e'=>⟨hr.1,e'⟩⟩
    · cases h
  · cases h
theorem ce8 {t:Ty} {T:TypeId} {c:SV} {rem rem':List AO} {x:t.den} {v:Value} {X Fm:List HP} (h:bl0 t T c rem=some (x,rem')) (hr:RS hv S c v) (hI:Inv w S (X++(OHs hv 0 rem++Fm))) :
    ∃ u,Inv w S (@Row t.den t.enc T u [x]::(X++(OHs hv 0 rem'++Fm)))∧(∃ a,v = .pointer (some a))∧v=az_ (co_ u 0 t.sz) 0:=by
  unfold bl0 at h
  split at h
  · rename_i o i k z p
    split at h
    · rename_i t' T' l' ho
      obtain⟨hT,h⟩:=bm_ h
      obtain⟨m,hm,h⟩:=bnd h
      simp only[a1_] at hT
      obtain⟨⟨⟨⟨c1,c2⟩,c3⟩,c4⟩,c5⟩:=hT
      unfold oneR at h
      split at h
      · cases h
        obtain⟨e1,e2⟩:=gz_ hm
        subst e1
        have hT:=a4_ c1
        subst hT
        have hz:=a4_ c2
        have hk:=a4_ c3
        have hi:i=0:=by
          unfold ieq0 at c4
          split at c4
          · rfl
          · cases c4
        subst hz hk hi
        have:=kx_ ho hI
        have e3:[x]=l':=e2
        rw[e3]
        exact⟨hv o,this,hr.2.1,hr.2.2⟩
      · cases h
    · cases h
  · cases h
def AgN (k:Nat) (a b:Nat→Value):Prop:=∀ i,i<k→a i=b i
theorem sy_ {k:Nat} {v:Value} {h:Nat→Value}:AgN k h (ins h k v):=λi hi=>by
  have hb:Nat.beq i k=false:=by
    cases hb:Nat.beq i k with
    | false=>rfl
    | true=>have:=a4_ hb;omega
  simp[ins,hb]
theorem AgN.trans {k:Nat} {a b c:Nat→Value} (h:AgN k a b) (g:AgN k b c):AgN k a c:=λi hi=>(h i hi).trans (g i hi)
theorem AgN.le {k m:Nat} {a b:Nat→Value} (h:AgN m a b) (hk:k≤m):AgN k a b:=λi hi=>h i (by omega)
theorem born_lt {l:List AO} {o:Nat} (h:born l o=true):o<l.length:=by
  obtain⟨a,h1,_⟩:=ay_.1 h
  exact (a3_.1 h1).1
theorem AgN.ag {l:List AO} {k:Nat} {a b:Nat→Value} (h:AgN k a b) (hl:l.length≤k):Ag l a b:=λi hi=>h i (f9_ (born_lt hi) hl)
def rv_:List CK→List SV→List SV→Prop
  | [],[],[]=>True
  | .keep::ks,b::bs,c::cs=>c=b∧rv_ ks bs cs
  | .val _::ks,_::bs,_::cs=>rv_ ks bs cs
  | .row _ _::ks,_::bs,_::cs=>rv_ ks bs cs
  | .map _ _::ks,_::bs,_::cs=>rv_ ks bs cs
  | _,_,_=>False
theorem getC_ok {ob:List AO} {Fm:List HP}:∀ (ks:List CK) (bs cs:List SV) (us:List Value) (rem rem':List AO) (x:ko_ ks) (k:Nat) (hvT:Nat→Value) (X:List HP),bh4 ks cs rem=some (x,rem') →
    rv_ ks bs cs→em_ (SV.lt ob) bs=true→ob.length≤k→Ag ob hv hvT→Fa (RS hv S) cs us→Inv w S (X++(OHs hv 0 rem++Fm)) →
    ∃ hvT',AgN k hvT hvT'∧Fa (RS hvT' S) (km_ ks bs x k).1 us∧Inv w S (OHs hvT' k (km_ ks bs x k).2++(X++(OHs hv 0 rem'++Fm))):=by
  intro ks
  induction ks with
  | nil =>
    intro bs cs us rem rem' x k hvT X h hk hb hl ha hf hI
    cases cs with
    | cons c cs=>cases h
    | nil =>
      cases us with
      | cons u us=>exact hf.elim
      | nil =>
        cases h
        exact⟨hvT,λ_ _=>rfl,trivial,hI⟩
  | cons ck ks ih =>
    intro bs cs us rem rem' x k hvT X h hk hb hl ha hf hI
    cases cs with
    | nil=>cases ck<;>cases h
    | cons c cs =>
      cases us with
      | nil=>exact hf.elim
      | cons u us =>
        cases bs with
        | nil=>cases ck<;>exact hk.elim
        | cons b bs =>
          simp only[em_,a1_] at hb
          cases ck with
          | keep =>
            obtain⟨hvT',g1,g2,g3⟩:=ih bs cs us rem rem' x k hvT X h hk.2 hb.2 hl ha hf.2 hI
            refine⟨hvT',g1,⟨?_,g2⟩,g3⟩
            have e:=hf.1
            rw[hk.1] at e
            exact RS.ag (ha.trans (g1.ag hl)) hb.1 e
          | val t =>
            have h:(cond t.agg none ((asC t c).bind λx=>(bh4 ks cs rem).bind λq=>some ((x,q.1),q.2)):Option (ko_ (.val t::ks)×List AO))=some (x,rem'):=h
            cases h0:t.agg with
            | true=>rw[h0] at h;cases h
            | false =>
              rw[h0] at h
              obtain⟨y,h1,h⟩:=bnd (show Option.bind _ _=some _ from h)
              obtain⟨q,h2,h⟩:=bnd h
              have h':=a6_ h
              obtain rfl:(y,q.1)=x:=congrArg Prod.fst h'
              obtain rfl:q.2=rem':=congrArg Prod.snd h'
              obtain⟨hvT',g1,g2,g3⟩:=ih bs cs us rem q.2 q.1 k hvT X h2 hk hb.2 hl ha hf.2 hI
              exact⟨hvT',g1,⟨⟨hf.1.1,h0,qd_ h0 hf.1 h1⟩,g2⟩,g3⟩
          | row t T =>
            have h:((ah8 t T c rem).bind λp=>(bh4 ks cs p.2).bind λq=>some ((p.1,q.1),q.2):Option (ko_ (.row t T::ks)×List AO))=some (x,rem'):=h
            obtain⟨p,h1,h⟩:=bnd h
            obtain⟨q,h2,h⟩:=bnd h
            have h':=a6_ h
            obtain rfl:(p.1,q.1)=x:=congrArg Prod.fst h'
            obtain rfl:q.2=rem':=congrArg Prod.snd h'
            have hI1:=aw6 h1 hf.1 hI
            have e0:AgN k hvT (ins hvT k u):=sy_
            obtain⟨hvT',g1,g2,g3⟩:=ih bs cs us p.2 q.2 q.1 (k+1) (ins hvT k u) (@Row t.den t.enc T u p.1::X) h2 hk hb.2 (by omega) (ha.trans (e0.ag hl)) hf.2 hI1
            have e1:hvT' k=u:=by rw[← g1 k (by omega),ci_]
            refine⟨hvT',e0.trans (g1.le (by omega)),⟨⟨hf.1.1,e1.symm⟩,g2⟩,?_⟩
            have e2:OHs hvT' k (km_ (.row t T::ks) (b::bs) (p.1,q.1) k).2=@Row t.den t.enc T u p.1::OHs hvT' (k+1) (km_ ks bs q.1 (k+1)).2:=by
              show OH hvT' (hvT' k) _::_=_
              rw[e1]
              rfl
            show Inv w S (OHs hvT' k (km_ (.row t T::ks) (b::bs) (p.1,q.1) k).2++_)
            rw[e2]
            exact g3.perm d2_
          | map kt vt =>
            have h:((ap5 kt vt c rem).bind λp=>(bh4 ks cs p.2).bind λq=>some ((p.1,q.1),q.2):Option (ko_ (.map kt vt::ks)×List AO))=some (x,rem'):=h
            obtain⟨p,h1,h⟩:=bnd h
            obtain⟨q,h2,h⟩:=bnd h
            have h':=a6_ h
            obtain rfl:(p.1,q.1)=x:=congrArg Prod.fst h'
            obtain rfl:q.2=rem':=congrArg Prod.snd h'
            obtain⟨hI1,hrs⟩:=ce6 h1 hf.1 hI
            have e0:AgN k hvT (ins hvT k u):=sy_
            obtain⟨hvT',g1,g2,g3⟩:=ih bs cs us p.2 q.2 q.1 (k+1) (ins hvT k u) (bi8 u kt vt p.1::X) h2 hk hb.2 (by omega) (ha.trans (e0.ag hl)) hf.2 hI1
            have e1:hvT' k=u:=by rw[← g1 k (by omega),ci_]
            refine⟨hvT',e0.trans (g1.le (by omega)),⟨hrs hvT' k e1.symm,g2⟩,?_⟩
            have e2:OHs hvT' k (km_ (.map kt vt::ks) (b::bs) (p.1,q.1) k).2=bi8 u kt vt p.1::OHs hvT' (k+1) (km_ ks bs q.1 (k+1)).2:=by
              show OH hvT' (hvT' k) _::_=_
              rw[e1]
              rfl
            show Inv w S (OHs hvT' k (km_ (.map kt vt::ks) (b::bs) (p.1,q.1) k).2++_)
            rw[e2]
            exact g3.perm d2_
end
end
section
variable [Gb]
structure Jn (w:World) (S:PH) (hvT hv:Nat→Value) (ob:List AO) (Fm:List HP) (t:A) (rem:List AO) (f:Fr):Prop where
  inv:Inv w S (OHs hvT 0 t.objs++(OHs hv 0 rem++Fm))
  rel:∀ d,RA hvT S (t.slot d) (f d)
  wfs:WfS t.slot t.objs
  wfo:WfO t.objs
  ble:BLe ob t.objs
  len:ob.length≤t.objs.length
  ag:Ag ob hv hvT
section
variable {w:World} {S:PH} {hv hvT:Nat→Value} {ob:List AO} {Fm:List HP} {t:A} {rem:List AO} {f:Fr}
theorem ao4 {k:Nat} {a b:Nat→Value} (h:AgN k a b) {l:List AO} (hk:l.length≤k) (hw:WfO l):OHs a 0 l=OHs b 0 l:=OHs.agS (h.ag hk) hw
theorem vp_ {o:Nat} {a:AO} {l:List AO} {X:List HP} (ho:o<l.length) (h:Inv w S (OH hvT (hvT o) a::(OHs hvT 0 l++X))):Inv w S (OHs hvT 0 (l.set o a)++X):=by
  obtain⟨L,h1,h2⟩:=OHs.focus (hv:=hvT) (i:=0) (a7_ ho)
  rw[b0_] at h1 h2
  have h3:=(h.perm ((h1.append_right X).cons _)).swap.drop
  exact h3.perm ((h2 a).symm.append_right X)
theorem putC_lt {n:List AO}:∀ (ks:List CK) (bs:List SV) (x:ko_ ks) (k:Nat),em_ (SV.lt n) bs=true→(∀ i,k≤i→i<k+(km_ ks bs x k).2.length→born n i=true)→em_ (SV.lt n) (km_ ks bs x k).1=true:=by
  intro ks
  induction ks with
  | nil=>intro bs x k _ _;rfl
  | cons ck ks ih =>
    intro bs x k hb hn
    cases bs with
    | nil=>cases ck<;>rfl
    | cons b bs =>
      simp only[em_,a1_] at hb
      cases ck with
      | keep =>
        show (SV.lt n b&&em_ (SV.lt n) (km_ ks bs x k).1)=true
        rw[hb.1,ih bs x k hb.2 hn]
        rfl
      | val t =>
        show (true&&em_ (SV.lt n) (km_ ks bs x.2 k).1)=true
        rw[ih bs x.2 k hb.2 hn]
        rfl
      | row t T =>
        have hn':∀ i,k≤i→i<k+((km_ ks bs x.2 (k+1)).2.length+1)→born n i=true:=hn
        show (born n k&&em_ (SV.lt n) (km_ ks bs x.2 (k+1)).1)=true
        rw[hn' k (by omega) (by omega),ih bs x.2 (k+1) hb.2 λi h1 h2=>hn' i (by omega) (by omega)]
        rfl
      | map kt vt =>
        have hn':∀ i,k≤i→i<k+((km_ ks bs x.2 (k+1)).2.length+1)→born n i=true:=hn
        show (born n k&&em_ (SV.lt n) (km_ ks bs x.2 (k+1)).1)=true
        rw[hn' k (by omega) (by omega),ih bs x.2 (k+1) hb.2 λi h1 h2=>hn' i (by omega) (by omega)]
        rfl
theorem bo3 {n:List AO}:∀ (ks:List CK) (bs:List SV) (x:ko_ ks) (k:Nat),∀ a ∈ (km_ ks bs x k).2,a≠.unborn∧a.lt n=true:=by
  intro ks
  induction ks with
  | nil=>intro bs x k a ha;cases ha
  | cons ck ks ih =>
    intro bs x k a ha
    cases bs with
    | nil=>cases ck<;>cases ha
    | cons b bs =>
      cases ck with
      | keep=>exact ih bs x k a ha
      | val t=>exact ih bs x.2 k a ha
      | row t T =>
        rcases d1_.1 (show a ∈ .row t T x.1 false::(km_ ks bs x.2 (k+1)).2 from ha) with rfl | h
        · exact⟨by simp,rfl⟩
        · exact ih bs x.2 (k+1) a h
      | map kt vt =>
        rcases d1_.1 (show a ∈ .map kt vt x.1 false::(km_ ks bs x.2 (k+1)).2 from ha) with rfl | h
        · exact⟨by simp,rfl⟩
        · exact ih bs x.2 (k+1) a h
theorem hl_ {l m:List AO} {o:Nat} (h:born l o=true):born (l++m) o=true:=by
  obtain⟨a,h1,h2⟩:=ay_.1 h
  refine ay_.2 ⟨a,?_,h2⟩
  rw[b1_ (a3_.1 h1).1]
  exact h1
def Ky (ob rem:List AO):Prop:=∀ (o:Nat) (Y:Yld) (st:YS) (ro:Bool) (Y':Yld) (st':YS) (ro':Bool),ob[o]?=some (AO.yld Y st ro)→rem[o]?=some (AO.yld Y' st' ro')→Y'=Y
theorem put1_ok {mk:Bool} {sl:Nat→AV} {e:Sp1} {x:e.den} {rem1:List AO} (hsl:∀ d,RA hv S (sl d) (f d)) (hwo:WfO ob) (hJ:Jn w S hvT hv ob Fm t rem f)
    (hb:∀ o ks T c ro T' c' ro',e = .b o ks→ob[o]?=some (AO.cells T c ro)→rem[o]?=some (AO.cells T' c' ro')→T'=T∧rv_ ks c c') (hy:Ky ob rem) (h:get1 ob sl e rem=some (x,rem1)) :
    ∃ hvT',AgN t.objs.length hvT hvT'∧Jn w S hvT' hv ob Fm (ew_ mk ob e x t) rem1 f:=by
  cases e with
  | v d ty =>
    obtain⟨y,h1,h⟩:=bnd h
    cases h
    exact⟨hvT,λ_ _=>rfl,hJ.inv,λi=>by
      show RA hvT S (cond (Nat.beq i d) (ofD ty x) (t.slot i)) (f i)
      cases hi:Nat.beq i d with
      | true=>rw[a4_ hi];exact rr_ (fx_ (hsl d) h1)
      | false=>exact hJ.rel i,λi=>by
      show (cond (Nat.beq i d) (ofD ty x) (t.slot i)).lt t.objs=true
      cases Nat.beq i d with
      | true=>exact ay8
      | false=>exact hJ.wfs i,hJ.wfo,hJ.ble,hJ.len,hJ.ag⟩
  | r d ty T =>
    have h:getR sl d ty T rem=some (x,rem1):=h
    unfold getR at h
    split at h
    · rename_i c hc
      have hr:=hsl d
      rw[hc] at hr
      have hI:=aw6 h hr hJ.inv
      have e0:AgN t.objs.length hvT (ins hvT t.objs.length (f d)):=sy_
      have hb1:BLe t.objs (t.objs++[AO.row ty T x false]):=λ_=>hl_
      have hnew:born (t.objs++[AO.row ty T x false]) t.objs.length=true:=ay_.2 ⟨.row ty T x false,by simp,by simp⟩
      refine⟨_,e0,⟨?_,λi => ?_,λi => ?_,λa ha => ?_,hJ.ble.trans hb1,by show _≤(t.objs++_).length;rw[a8_];have:=hJ.len;omega,hJ.ag.trans (e0.ag hJ.len)⟩⟩
      · show Inv w S (OHs _ 0 (t.objs++[.row ty T x false])++_)
        rw[OHs.app,← ao4 e0 (c3_ _) hJ.wfo]
        show Inv w S ((OHs hvT 0 t.objs++[OH _ (ins hvT t.objs.length (f d) (0+t.objs.length)) _])++_)
        rw[b0_,ci_]
        refine hI.perm ?_
        simp only[b4_,q0_]
        exact List.perm_middle.symm
      · show RA _ S (cond (Nat.beq i d) (yd_ t.objs.length) (t.slot i)) (f i)
        cases hi:Nat.beq i d with
        | true =>
          rw[a4_ hi]
          exact⟨hr.1,(ci_ hvT t.objs.length (f d)).symm⟩
        | false=>exact RA.ag (e0.ag (c3_ _)) (hJ.wfs i) (hJ.rel i)
      · show (cond (Nat.beq i d) (yd_ t.objs.length) (t.slot i)).lt (t.objs++[AO.row ty T x false])=true
        cases Nat.beq i d with
        | true=>exact hnew
        | false=>exact AV.lt_mono hb1 (hJ.wfs i)
      · rcases b3_.1 ha with h1 | h1
        · exact AO.lt_mono hb1 (hJ.wfo a h1)
        · simp at h1;subst h1;rfl
    · cases h
  | a d ty T =>
    have h:getA sl d ty T rem=some (x,rem1):=h
    unfold getA at h
    split at h
    · rename_i c hc
      have hr:=hsl d
      rw[hc] at hr
      obtain⟨u,hI,hp1,hp2⟩:=ce8 h hr hJ.inv
      have e0:AgN t.objs.length hvT (ins hvT t.objs.length u):=sy_
      have hb1:BLe t.objs (t.objs++[AO.row ty T [x] false]):=λ_=>hl_
      have hnew:born (t.objs++[AO.row ty T [x] false]) t.objs.length=true:=ay_.2 ⟨.row ty T [x] false,by simp,by simp⟩
      refine⟨_,e0,⟨?_,λi => ?_,λi => ?_,λa ha => ?_,hJ.ble.trans hb1,by show _≤(t.objs++_).length;rw[a8_];have:=hJ.len;omega,hJ.ag.trans (e0.ag hJ.len)⟩⟩
      · show Inv w S (OHs _ 0 (t.objs++[.row ty T [x] false])++_)
        rw[OHs.app,← ao4 e0 (c3_ _) hJ.wfo]
        show Inv w S ((OHs hvT 0 t.objs++[OH _ (ins hvT t.objs.length u (0+t.objs.length)) _])++_)
        rw[b0_,ci_]
        refine hI.perm ?_
        simp only[b4_,q0_]
        exact List.perm_middle.symm
      · show RA _ S (cond (Nat.beq i d) (.b (.one (.ptrE t.objs.length 0 0 ty.sz []))) (t.slot i)) (f i)
        cases hi:Nat.beq i d with
        | true =>
          rw[a4_ hi]
          exact⟨hr.1,hp1,by rw[ci_];exact hp2⟩
        | false=>exact RA.ag (e0.ag (c3_ _)) (hJ.wfs i) (hJ.rel i)
      · show (cond (Nat.beq i d) (.b (.one (.ptrE t.objs.length 0 0 ty.sz []))) (t.slot i)).lt (t.objs++[AO.row ty T [x] false])=true
        cases Nat.beq i d with
        | true=>exact hnew
        | false=>exact AV.lt_mono hb1 (hJ.wfs i)
      · rcases b3_.1 ha with h1 | h1
        · exact AO.lt_mono hb1 (hJ.wfo a h1)
        · simp at h1;subst h1;rfl
    · cases h
  | o o ty =>
    have h:getO ob o ty rem=some (x,rem1):=h
    unfold getO at h
    split at h
    · rename_i t0 T l0 r0 ho
      split at h
      · rename_i t' T' l hr
        obtain⟨hT,h⟩:=bm_ h
        obtain⟨m,hm,h⟩:=bnd h
        cases h
        obtain⟨e1,e2⟩:=gz_ hm
        subst e1
        have hT:=a4_ hT
        subst hT
        have e3:x=l:=e2
        subst e3
        have hlt:o<ob.length:=(a3_.1 ho).1
        have hbo:born ob o=true:=ay_.2 ⟨_,ho,by simp⟩
        have hI:=kx_ hr hJ.inv
        have e4:OH hv (hv o) (.row t' T' x false)=OH hvT (hvT o) (.row t' T' x false):=by
          show @Row t'.den t'.enc T' (hv o) x=@Row t'.den t'.enc T' (hvT o) x
          rw[hJ.ag o hbo]
        rw[e4] at hI
        have hn:AO.row t' T' x false≠.unborn:=by simp
        have e5:ew_ mk ob (.o o t') x t=⟨t.slot,t.objs.set o (.row t' T' x false)⟩:=by simp[ew_,ho]
        rw[e5]
        exact⟨hvT,λ_ _=>rfl,vp_ (f9_ hlt hJ.len) hI,hJ.rel,λi=>AV.lt_mono (bi_ hn) (hJ.wfs i),du_ hn hJ.wfo rfl,hJ.ble.trans (bi_ hn),by simpa using hJ.len,hJ.ag⟩
      · cases h
    · cases h
  | m o k v =>
    have h:getM ob o k v rem=some (x,rem1):=h
    unfold getM at h
    split at h
    · rename_i k0 v0 l0 r0 ho
      split at h
      · rename_i k' v' l hr
        obtain⟨m,hm,h⟩:=bnd h
        cases h
        obtain⟨e1,e2,e3⟩:=zr_ hm
        subst e1
        subst e2
        have e3:x=l:=e3
        subst e3
        have hlt:o<ob.length:=(a3_.1 ho).1
        have hbo:born ob o=true:=ay_.2 ⟨_,ho,by simp⟩
        have hI:=kx_ hr hJ.inv
        have e4:OH hv (hv o) (.map k' v' x false)=OH hvT (hvT o) (.map k' v' x false):=by
          show bi8 (hv o) k' v' x=bi8 (hvT o) k' v' x
          rw[hJ.ag o hbo]
        rw[e4] at hI
        have hn:AO.map k' v' x false≠.unborn:=by simp
        have e5:ew_ mk ob (.m o k' v') x t=⟨t.slot,t.objs.set o (.map k' v' x false)⟩:=by simp[ew_,ho]
        rw[e5]
        exact⟨hvT,λ_ _=>rfl,vp_ (f9_ hlt hJ.len) hI,hJ.rel,λi=>AV.lt_mono (bi_ hn) (hJ.wfs i),du_ hn hJ.wfo rfl,hJ.ble.trans (bi_ hn),by simpa using hJ.len,hJ.ag⟩
      · cases h
    · cases h
  | x o =>
    have h:some ((),rem)=some (x,rem1):=h
    cases h
    exact⟨hvT,λ_ _=>rfl,hJ⟩
  | y o =>
    have h:getY ob o rem=some (x,rem1):=h
    unfold getY at h
    split at h
    · rename_i Y0 st0 r0 ho
      split at h
      · rename_i Y hr
        cases h
        obtain rfl:=hy o Y0 st0 r0 Y .rdy false ho hr
        have hlt:o<ob.length:=(a3_.1 ho).1
        have hbo:born ob o=true:=ay_.2 ⟨_,ho,by simp⟩
        have hI:=kx_ hr hJ.inv
        have hlt2:(AO.yld Y .rdy false).lt ob=true:=(show (AO.yld Y st0 r0).lt ob=true from hwo _ (b2_ ho))
        have e4:OH hv (hv o) (.yld Y .rdy false)=OH hvT (hvT o) (.yld Y .rdy false):=by
          rw[hJ.ag o hbo]
          exact OH.ag hJ.ag (λi hi=>(hJ.ag i hi).symm) hlt2
        rw[e4] at hI
        have hn:AO.yld Y .rdy false≠.unborn:=by simp
        have e5:ew_ mk ob (.y o) () t=⟨t.slot,t.objs.set o (.yld Y .rdy false)⟩:=by simp[ew_,ho]
        rw[e5]
        exact⟨hvT,λ_ _=>rfl,vp_ (f9_ hlt hJ.len) hI,hJ.rel,λi=>AV.lt_mono (bi_ hn) (hJ.wfs i),du_ hn hJ.wfo (AO.lt_mono (hJ.ble.trans (bi_ hn)) hlt2),hJ.ble.trans (bi_ hn),by simpa using hJ.len,hJ.ag⟩
      · cases h
    · cases h
  | g o t0 =>
    have h:bv5 ob o t0 rem=some (x,rem1):=h
    unfold bv5 at h
    split at h
    · rename_i G0 l0 h0 r0 ho
      split at h
      · rename_i G l hr
        obtain⟨hc,h⟩:=bm_ h
        simp only[a1_] at hc
        obtain⟨m,hm,h⟩:=bnd h
        cases h
        obtain⟨e2,e3⟩:=gz_ hm
        have eG:G=G0.at_ t0:=by
          obtain⟨t1,u1,q1,T1,i1⟩:=G
          obtain⟨t2,u2,q2,T2,i2⟩:=G0
          have:=Ty.eqb_eq hc.1.1.1.2
          have:=ct3 hc.1.1.2
          have:=a4_ hc.1.2
          have:=a4_ hc.2
          simp only at *
          subst_vars
          rfl
        subst eG
        have e3:x=l:=e3
        subst e3
        have hlt:o<ob.length:=(a3_.1 ho).1
        have hbo:born ob o=true:=ay_.2 ⟨_,ho,by simp⟩
        have hI:=kx_ hr hJ.inv
        have e4:OH hv (hv o) (.grid (G0.at_ t0) x none false)=OH hvT (hvT o) (.grid (G0.at_ t0) x none false):=by
          rw[hJ.ag o hbo]
          exact OH.ag (n:=[]) (λi h=>by cases h) (λi h=>by cases h) rfl
        rw[e4] at hI
        have hn:AO.grid (G0.at_ t0) x none false≠.unborn:=by simp
        have e5:ew_ mk ob (.g o t0) x t=⟨t.slot,t.objs.set o (.grid (G0.at_ t0) x none false)⟩:=by simp[ew_,ho]
        rw[e5]
        exact⟨hvT,λ_ _=>rfl,vp_ (f9_ hlt hJ.len) hI,hJ.rel,λi=>AV.lt_mono (bi_ hn) (hJ.wfs i),du_ hn hJ.wfo rfl,hJ.ble.trans (bi_ hn),by simpa using hJ.len,hJ.ag⟩
      · cases h
    · cases h
  | b o ks =>
    have h:getB ob o ks rem=some (x,rem1):=h
    unfold getB at h
    split at h
    · rename_i T c ro ho
      split at h
      · rename_i T' c' ro' hr
        obtain⟨rfl,hk⟩:=hb o ks T c ro T' c' ro' rfl ho hr
        have hlt:o<ob.length:=(a3_.1 ho).1
        have hbo:born ob o=true:=ay_.2 ⟨_,ho,by simp⟩
        obtain⟨g,cs,e1,hf,hI⟩:=ve_ (kx_ hr hJ.inv)
        obtain⟨hvT',g1,g2,g3⟩:=getC_ok (ob:=ob) ks c c' cs (rem.set o .gone) rem1 x t.objs.length hvT (kr_ g T' cs.toArray::OHs hvT 0 t.objs) h hk (hwo _ (b2_ ho)) hJ.len hJ.ag hf hI
        have e5:ew_ mk ob (.b o ks) x t=⟨t.slot,t.objs.set o (.cells T' (km_ ks c x t.objs.length).1 (cond mk (roC ks 0) ro))++(km_ ks c x t.objs.length).2⟩:=by simp[ew_,ho]
        rw[e5]
        generalize hrows:(km_ ks c x t.objs.length).2=rows at *
        have hn:AO.cells T' (km_ ks c x t.objs.length).1 (cond mk (roC ks 0) ro)≠.unborn:=by simp
        have hb1:BLe t.objs (t.objs.set o (.cells T' (km_ ks c x t.objs.length).1 (cond mk (roC ks 0) ro))++rows):=λi hi=>hl_ (bi_ hn i hi)
        have hrow:=bo3 (n:=t.objs.set o (.cells T' (km_ ks c x t.objs.length).1 (cond mk (roC ks 0) ro))++rows) ks c x t.objs.length
        rw[hrows] at hrow
        have hcell:em_ (SV.lt (t.objs.set o (.cells T' (km_ ks c x t.objs.length).1 (cond mk (roC ks 0) ro))++rows)) (km_ ks c x t.objs.length).1=true:=by
          refine putC_lt ks c x t.objs.length (gq_ λs hs=>SV.lt_mono (hJ.ble.trans hb1) (bg_ (hwo _ (b2_ ho)) s hs)) λi h1 h2 => ?_
          rw[hrows] at h2
          have h3:i - t.objs.length<rows.length:=by omega
          refine ay_.2 ⟨rows[i - t.objs.length],?_,(hrow _ (List.getElem_mem h3)).1⟩
          rw[c5_ (by simpa using h1)]
          simp only[f7_]
          exact a7_ h3
        refine⟨hvT',g1,⟨?_,λi=>RA.ag (g1.ag (c3_ _)) (hJ.wfs i) (hJ.rel i),λi=>AV.lt_mono hb1 (hJ.wfs i),λa ha => ?_,hJ.ble.trans hb1,by simp;have:=hJ.len;omega,hJ.ag.trans (g1.ag hJ.len)⟩⟩
        · show Inv w S (OHs hvT' 0 (t.objs.set o _++rows)++_)
          rw[OHs.app]
          simp only[f7_,b0_]
          have e6:hvT' o = .pointer (some ⟨g,0,none⟩):=by
            rw[← g1 o (f9_ hlt hJ.len),← hJ.ag o hbo,e1]
          rw[ao4 g1 (c3_ _) hJ.wfo] at g3
          have g4:Inv w S (kr_ g T' cs.toArray::(OHs hvT' 0 t.objs++(OHs hvT' t.objs.length rows++(OHs hv 0 rem1++Fm)))):=by
            refine g3.perm ?_
            simp only[m0_]
            refine List.perm_middle.trans (List.Perm.cons _ ?_)
            rw[← b4_,← b4_ (as:=OHs hvT' 0 t.objs)]
            exact List.perm_append_comm.append_right _
          have g5:Inv w S (OH hvT' (hvT' o) (.cells T' (km_ ks c x t.objs.length).1 (cond mk (roC ks 0) ro))::(OHs hvT' 0 t.objs++(OHs hvT' t.objs.length rows++(OHs hv 0 rem1++Fm)))) :=
            Inv.shut (A:=ao7 _ _ _ _) g4 ⟨g,cs,e6,g2,rfl⟩
          have g6:=vp_ (f9_ hlt hJ.len) g5
          rw[b4_]
          exact g6
        · rcases b3_.1 ha with h1 | h1
          · rcases p1_ h1 with h2 | rfl
            · exact AO.lt_mono hb1 (hJ.wfo a h2)
            · exact hcell
          · exact (hrow a h1).2
      · cases h
    · cases h
end
end
section
variable [Gb]
def Sub (l m:List AO):Prop:=∀ (o:Nat) (a:AO),l[o]?=some a→a = .gone∨m[o]?=some a
theorem Sub.refl (l:List AO):Sub l l:=λ_ _ h=>.inr h
theorem Sub.trans {a b c:List AO} (h:Sub a b) (k:Sub b c):Sub a c:=λo x e=>by
  rcases h o x e with h | h
  · exact .inl h
  · exact k o x h
theorem nf_ {l:List AO} {o:Nat}:Sub (l.set o .gone) l:=λp a h=>by
  by_cases e:o=p
  · subst e
    by_cases hl:o<l.length
    · simp[hl] at h;exact .inl h.symm
    · simp[hl] at h
  · rw[b6_ e] at h;exact .inr h
theorem ah7 {t:Ty} {T:TypeId} {c:SV} {rem rem':List AO} {l:List t.den} (h:ah8 t T c rem=some (l,rem')):Sub rem' rem:=by
  unfold ah8 at h
  split at h
  · cases h;exact Sub.refl _
  · split at h
    · obtain⟨_,h⟩:=bm_ h
      obtain⟨m,_,h⟩:=bnd h
      cases h
      exact nf_
    · cases h
  · cases h
theorem bk8 {k v:Ty} {c:SV} {rem rem':List AO} {l:List (k.den×v.den)} (h:ap5 k v c rem=some (l,rem')):Sub rem' rem:=by
  unfold ap5 at h
  split at h
  · split at h
    · obtain⟨m,_,h⟩:=bnd h
      cases h
      exact nf_
    · cases h
  · cases h
theorem bk9 {t:Ty} {T:TypeId} {c:SV} {rem rem':List AO} {x:t.den} (h:bl0 t T c rem=some (x,rem')):Sub rem' rem:=by
  unfold bl0 at h
  split at h
  · split at h
    · obtain⟨_,h⟩:=bm_ h
      obtain⟨m,_,h⟩:=bnd h
      unfold oneR at h
      split at h
      · cases h;exact nf_
      · cases h
    · cases h
  · cases h
theorem cl3:∀ (ks:List CK) (cs:List SV) (rem rem':List AO) (x:ko_ ks),bh4 ks cs rem=some (x,rem')→Sub rem' rem:=by
  intro ks
  induction ks with
  | nil =>
    intro cs rem rem' x h
    cases cs with
    | nil=>cases h;exact Sub.refl _
    | cons c cs=>cases h
  | cons ck ks ih =>
    intro cs rem rem' x h
    cases cs with
    | nil=>cases ck<;>cases h
    | cons c cs =>
      cases ck with
      | keep=>exact ih cs rem rem' x h
      | val t =>
        have h:(cond t.agg none ((asC t c).bind λx=>(bh4 ks cs rem).bind λq=>some ((x,q.1),q.2)):Option (ko_ (.val t::ks)×List AO))=some (x,rem'):=h
        cases h0:t.agg with
        | true=>rw[h0] at h;cases h
        | false =>
          rw[h0] at h
          obtain⟨y,h1,h⟩:=bnd (show Option.bind _ _=some _ from h)
          obtain⟨q,h2,h⟩:=bnd h
          obtain rfl:q.2=rem':=congrArg Prod.snd (a6_ h)
          exact ih cs rem q.2 q.1 h2
      | row t T =>
        have h:((ah8 t T c rem).bind λp=>(bh4 ks cs p.2).bind λq=>some ((p.1,q.1),q.2):Option (ko_ (.row t T::ks)×List AO))=some (x,rem'):=h
        obtain⟨p,h1,h⟩:=bnd h
        obtain⟨q,h2,h⟩:=bnd h
        obtain rfl:q.2=rem':=congrArg Prod.snd (a6_ h)
        exact (ih cs p.2 q.2 q.1 h2).trans (ah7 h1)
      | map kt vt =>
        have h:((ap5 kt vt c rem).bind λp=>(bh4 ks cs p.2).bind λq=>some ((p.1,q.1),q.2):Option (ko_ (.map kt vt::ks)×List AO))=some (x,rem'):=h
        obtain⟨p,h1,h⟩:=bnd h
        obtain⟨q,h2,h⟩:=bnd h
        obtain rfl:q.2=rem':=congrArg Prod.snd (a6_ h)
        exact (ih cs p.2 q.2 q.1 h2).trans (bk8 h1)
theorem cl4 {ob:List AO} {sl:Nat→AV} {e:Sp1} {rem rem':List AO} {x:e.den} (h:get1 ob sl e rem=some (x,rem')):Sub rem' rem:=by
  cases e with
  | v d t=>obtain⟨y,_,h⟩:=bnd h;cases h;exact Sub.refl _
  | r d t T =>
    have h:getR sl d t T rem=some (x,rem'):=h
    unfold getR at h
    split at h
    · exact ah7 h
    · cases h
  | a d t T =>
    have h:getA sl d t T rem=some (x,rem'):=h
    unfold getA at h
    split at h
    · exact bk9 h
    · cases h
  | o o t =>
    have h:getO ob o t rem=some (x,rem'):=h
    unfold getO at h
    split at h
    · split at h
      · obtain⟨_,h⟩:=bm_ h
        obtain⟨m,_,h⟩:=bnd h
        cases h
        exact nf_
      · cases h
    · cases h
  | m o k v =>
    have h:getM ob o k v rem=some (x,rem'):=h
    unfold getM at h
    split at h
    · split at h
      · obtain⟨m,_,h⟩:=bnd h
        cases h
        exact nf_
      · cases h
    · cases h
  | x o =>
    have h:some ((),rem)=some (x,rem'):=h
    cases h
    exact Sub.refl _
  | y o =>
    have h:getY ob o rem=some (x,rem'):=h
    unfold getY at h
    split at h
    · split at h
      · cases h
        exact nf_
      · cases h
    · cases h
  | g o t0 =>
    have h:bv5 ob o t0 rem=some (x,rem'):=h
    unfold bv5 at h
    split at h
    · split at h
      · obtain⟨_,h⟩:=bm_ h
        obtain⟨m,_,h⟩:=bnd h
        cases h
        exact nf_
      · cases h
    · cases h
  | b o ks =>
    have h:getB ob o ks rem=some (x,rem'):=h
    unfold getB at h
    split at h
    · split at h
      · exact (cl3 _ _ _ _ _ h).trans nf_
      · cases h
    · cases h
def Kp (es:List Sp1) (ob rem:List AO):Prop:=(∀ (o:Nat) (ks:List CK) (T:TypeId) (c:List SV) (ro:List Nat) (T':TypeId) (c':List SV) (ro':List Nat),.b o ks ∈ es→ob[o]?=some (AO.cells T c ro)→rem[o]?=some (AO.cells T' c' ro')→T'=T∧rv_ ks c c')∧Ky ob rem
section
variable {w:World} {S:PH} {hv:Nat→Value} {ob:List AO} {Fm:List HP} {f:Fr}
theorem ch2 {mk:Bool} {sl:Nat→AV} (hsl:∀ d,RA hv S (sl d) (f d)) (hwo:WfO ob):∀ (es:List Sp1) (x:bp_ es) (t:A) (rem:List AO) (hvT:Nat→Value),Jn w S hvT hv ob Fm t rem f→Kp es ob rem →
    getS ob sl es rem=some x→∃ hvT' rem',AgN t.objs.length hvT hvT'∧Jn w S hvT' hv ob Fm (pw_ mk ob es x t) rem' f:=by
  intro es
  induction es with
  | nil=>intro x t rem hvT hJ _ h;exact⟨hvT,rem,λ_ _=>rfl,hJ⟩
  | cons e es ih =>
    intro x t rem hvT hJ hk h
    obtain⟨p,h1,h⟩:=bnd h
    obtain⟨y,h2,h⟩:=bnd h
    obtain rfl:(p.1,y)=x:=a6_ h
    obtain⟨hv1,a1,J1⟩:=put1_ok (mk:=mk) hsl hwo hJ (λo ks T c ro T' c' ro' he=>hk.1 o ks T c ro T' c' ro' (by rw[he];simp)) hk.2 h1
    have hs:=cl4 h1
    obtain⟨hv2,rem2,a2,J2⟩:=ih y (ew_ mk ob e p.1 t) p.2 hv1 J1 ⟨λo ks T c ro T' c' ro' hm ho hr=>by
      rcases hs o _ hr with h | h
      · cases h
      · exact hk.1 o ks T c ro T' c' ro' (by simp[hm]) ho h,λo Y st ro Y' st' ro' ho hr=>by
      rcases hs o _ hr with h | h
      · cases h
      · exact hk.2 o Y st ro Y' st' ro' ho h⟩ h2
    have hle:t.objs.length≤(ew_ mk ob e p.1 t).objs.length:=by
      cases e with
      | v d t=>exact c3_ _
      | r d t T=>simp[ew_]
      | a d t T=>simp[ew_]
      | o o t=>simp only[ew_];split<;>simp
      | b o ks=>simp only[ew_];split<;>simp
      | m o k v=>simp only[ew_];split<;>simp
      | g o t=>simp only[ew_];split<;>simp
      | x o=>exact c3_ _
      | y o=>simp only[ew_];split<;>simp
    exact⟨hv2,rem2,a1.trans (a2.le hle),J2⟩
theorem kb_ {mk:Bool} {es:List Sp1} {mv:List Nat}:∀ {l:List AO} {i j:Nat},(ex_ mk es mv i l)[j]?=(l[j]?).map λa=>match a with
    | .unborn=>.unborn
    | .gone=>.gone
    | a=>cond (listed es (i+j)||inL (i+j) mv) .gone (cond mk (ns_ a) a)
  | [],i,j=>rfl
  | a::l,i,0=>by cases a<;>simp[ex_]
  | a::l,i,j+1=>by
    simp only[ex_,i8_]
    rw[kb_ (l:=l) (i:=i+1) (j:=j),show i+1+j=i+(j+1) by omega]
theorem nt_ {mk:Bool} {es:List Sp1} {mv:List Nat}:∀ {l:List AO} {i:Nat},(ex_ mk es mv i l).length=l.length
  | [],i=>rfl
  | a::l,i=>by simp[ex_,nt_ (l:=l)]
theorem wq_ {mk:Bool} {es:List Sp1} {mv:List Nat} {l:List AO} {i:Nat}:BLe l (ex_ mk es mv i l):=by
  intro o ho
  obtain⟨a,h1,h2⟩:=ay_.1 ho
  rw[ay_,kb_,h1]
  refine⟨_,rfl,?_⟩
  cases a<;>first | exact absurd rfl h2 | (simp;done) | (cases (listed es (i+o)||inL (i+o) mv)<;>cases mk<;>simp[ns_])
theorem bs6 {mk:Bool} {es:List Sp1} {mv:List Nat} {l:List AO} {i:Nat} (h:WfO l):WfO (ex_ mk es mv i l):=by
  intro a ha
  obtain⟨j,hj⟩:=f8_ ha
  rw[kb_] at hj
  obtain⟨b,hb,rfl⟩:=f5_.1 hj
  have hw:=AO.lt_mono (wq_ (mk:=mk) (es:=es) (mv:=mv) (i:=i)) (h b (b2_ hb))
  cases b<;>first | rfl | (cases (listed es (i+j)||inL (i+j) mv)<;>cases mk<;>first | rfl | exact hw | (rename_i G l q r;cases q<;>first | rfl | exact hw))
theorem cm3 {A B:List HP} (h:Inv w S (A++(B++Fm))):Inv w S (A++Fm):=by
  have h1:Inv w S (B++(A++Fm)):=h.perm (by rw[← b4_,← b4_];exact List.perm_append_comm.append_right _)
  exact h1.drops
theorem put_ok {mk:Bool} {asg:List Nat} {es:List Sp1} {mv:List Nat} {s:A} {x:bp_ es} {sl sl2:Nat→AV} {objs:List AO} (hs:Sit S hv Fm sl objs f w) (hs2:∀ d,RA hv S (sl2 d) (f d)) (hws:WfS s.slot s.objs) (hwo:WfO s.objs)
    (h4:∀ d,inL d asg=false→sl d=s.slot d)
    (h5:∀ (j:Nat) (a b:AO),s.objs[j]?=some a→objs[j]?=some b→(listed es j||inL j mv)=false→a≠.unborn→a≠.gone→OHeq a b)
    (hl:s.objs.length≤objs.length) (h6:Kp es s.objs objs) (hg:getS s.objs sl2 es (aq6 es mv 0 s.objs objs)=some x) :
    ∃ hv',Ag s.objs hv hv'∧Sit S hv' Fm (gb_ mk asg es mv s x).slot (gb_ mk asg es mv s x).objs f w∧BLe s.objs (gb_ mk asg es mv s x).objs:=by
  have hI:=ai0 (mk:=mk) (es:=es) (mv:=mv) (ob:=s.objs) (l:=objs) (i:=0) hl (λj a b ha hb hc=>h5 j a b ha hb (by rw[b0_] at hc;exact hc)) hs.inv
  have hsub:∀ (i:Nat) (ob l:List AO),Sub (aq6 es mv i ob l) l:=by
    intro i ob
    induction ob generalizing i with
    | nil=>intro l;exact Sub.refl _
    | cons a ob ih =>
      intro l
      cases l with
      | nil=>exact Sub.refl _
      | cons b l =>
        intro o c hc
        cases o with
        | zero =>
          simp only[aq6,l9_,p3_] at hc
          cases a<;>first | exact .inr (by simpa using hc) | (cases hq:(listed es i||inL i mv)<;>rw[hq] at hc<;>first | exact .inr (by simpa using hc) | exact .inl hc.symm)
        | succ o =>
          simp only[aq6,i8_] at hc ⊢
          exact ih (i+1) l o c hc
  have hJ:Jn w S hv hv s.objs Fm ⟨λd=>cond (inL d asg) (.b .dead) (s.slot d),ex_ mk es mv 0 s.objs⟩ (aq6 es mv 0 s.objs objs) f :=
    ⟨hI,λd=>by
      show RA hv S (cond (inL d asg) (.b .dead) (s.slot d)) (f d)
      cases hd:inL d asg with
      | true=>trivial
      | false=>show RA hv S (s.slot d) (f d);rw[← h4 d hd];exact hs.rel d,λd=>by
      show (cond (inL d asg) (.b .dead) (s.slot d)).lt (ex_ mk es mv 0 s.objs)=true
      cases inL d asg with
      | true=>rfl
      | false=>exact AV.lt_mono wq_ (hws d),bs6 hwo,wq_,by simp[nt_],λ_ _=>rfl⟩
  obtain⟨hvT',rem',a1,J⟩:=ch2 (mk:=mk) hs2 hwo es x _ _ hv hJ ⟨λo ks T c ro T' c' ro' hm ho hr=>by
    rcases hsub 0 s.objs objs o _ hr with h | h
    · cases h
    · exact h6.1 o ks T c ro T' c' ro' hm ho h,λo Y st ro Y' st' ro' ho hr=>by
    rcases hsub 0 s.objs objs o _ hr with h | h
    · cases h
    · exact h6.2 o Y st ro Y' st' ro' ho h⟩ hg
  exact⟨hvT',J.ag,⟨cm3 J.inv,J.rel,J.wfs,J.wfo,hs.gl⟩,J.ble⟩
end
end
end Go.Proofs.YtgeehfnbhbibeaaGreatDoor.Rex
