/- A part of the proof: what the functions of the program compute, shown over the model. -/
import Derived.KernelRfl
import Derived.Test.YtmdlefagpcmllaaGreatDoorPart1
import Derived.Test.YtmdlefagpcmllaaGreatDoorPart3
set_option linter.unusedSectionVars false
set_option linter.unusedVariables false
set_option linter.unusedSimpArgs false
namespace Go.Proofs.YtmdlefagpcmllaaGreatDoor.Rx
open Go Pad Rex Go.Proofs Go.RowKit
section
set_option maxRecDepth 100000
set_option maxHeartbeats 400000
def ds_ (a0:Bool):Option ((List UInt8)×Unit):=cond a0 (some ([116,114,117,101],())) (some ([102,97,108,115,101],()))
theorem ok_183:ConOk Tryz.prog 183 [.bool] [.str] (fun x=>ds_ x.1):=by
  intro w S Fr hv vs x r hG hI ha hF
  match vs,ha with
  | [v],⟨hv1,_⟩ =>
    obtain rfl:v = .bool x.1:=ea_ (a:=ofD .bool x.1) (by rw [ofDB_eq]; exact hv1) (by cases x.1 <;> rfl)
    refine (zd_ x.1 w).mono fun e w' he => ?_
    obtain ⟨rfl,rfl⟩:=he
    refine ⟨S,[],PH.Le.refl _,hI,rfl,?_⟩
    have e1:r.1=Lib.formatBool x.1:=by
      obtain ⟨b,u⟩:=x
      cases b with
      | true=>obtain rfl:=a6_ hF; rfl
      | false=>obtain rfl:=a6_ hF; rfl
    have:=sV_ra (hv:=fun _=>undef) (S:=S) r.1
    rw [← e1]
    exact this
noncomputable def c_183:Con Tryz.prog:=cnv 183 [.bool] [.str] (fun x=>ds_ x.1) ok_183
theorem qx_ {w w':World} {S:PH} {O:List HP} {B:Nat} (h:Inv w S O) (hB:B=w.heap.size) (hb:Below B w w'):Inv w' S O:=by
  subst hB
  exact h.world hb.os hb.output fun b o e=>(hb.block b (i4_.1 e).1).trans e
theorem bld_kept {T e:TypeId} {B b:Nat} {bs:List Value} {w w':World} (hk:∀ (k:Nat) (o:Obj),w.heap[k]?=some o→w'.heap[k]?=some o) (h:Lib.IsBuilderF T e B b bs w):Lib.IsBuilderF T e B b bs w':=by
  have key:∀ {p:Value},Lib.BuilderAtF T e B b p bs w→Lib.BuilderAtF T e B b p bs w':=by
    rintro p ⟨h1,v,h2,⟨h3,h4⟩,h5⟩
    refine ⟨h1,v,hk _ _ h2,⟨h3,?_⟩,h5⟩
    rcases h4 with h4 | ⟨g,cap,cur,fz,g1,g2,g3,g4⟩
    · exact .inl h4
    · exact .inr ⟨g,cap,cur,fz,g1,g2,hk _ _ g3,g4⟩
  exact h.elim (fun h=>.inl (key h)) fun h=>.inr (key h)
theorem grow_kept {w:World} {n:Nat} {os:Array Obj}:∀ (k:Nat) (o:Obj),w.heap[k]?=some o→(Go.Sort.grow (w.drewN n) os).heap[k]?=some o:=by
  intro k o h
  show (w.heap++os)[k]?=some o
  rw [Array.getElem?_append_left (i4_.1 h).1]
  exact h
theorem tab_is {w:World} {S:PH} {O:List HP} (hG:GlS S) (hI:Inv w S O):Lib.TabIs Tryz.prog w "internal/strconv.uint64pow10" .u64 Lib.pow10Tab:=by
  obtain ⟨T,fz,h⟩:=hG.2 1 pow10V rfl
  have h2:=Own.in_ hI.own _ _ h
  unfold Lib.TabIs World.var?
  rw [Tryz.laysM171.m17]
  show (match w.heap[1]? with
    | some (.cells cs _ _)=>some cs
    | _=>none)=_
  rw [h2]
  simp [pow10V,Lib.pow10Tab]
def numT (n:Int):List UInt8:=Lib.itoa n++[32]
def numL (l:List Int):List UInt8:=l.flatMap numT
def gy_ (ls:List (List Int)):List UInt8:=ls.flatMap numL
def inI (n:Int):Bool:=decide (-9223372036854775808≤n)&&decide (n≤9223372036854775807)
def fc_ (a0:List (List Int)):Option ((List UInt8)×Unit):=cond (a0.all (fun l=>l.all inI)&&Nat.ble (gy_ a0).length 2147483648) (some (gy_ a0,())) none
def NInv (v:Value) (n:Nat) (w0:World) (b:Nat) (acc:List UInt8) (f:Pad.Fr) (w:World):Prop :=
  Below w0.heap.size w0 w∧Lib.IsBuilderF 247 5 w0.heap.size b (Lib.byteCells acc) w∧f 3 = .pointer (some ⟨b,0,none⟩)∧f 8=v∧f 9 = .int .i64 n∧f.ds=[]
theorem forS_u:∀ (k i:Nat),forS (fun (_:Nat) (_:Unit)=>some ()) k i ()=some ()
  | 0,_=>rfl
  | k+1,i=>forS_u k (i+1)
theorem sh45:Shape Tryz.prog 39 false 1:=shp_ok (by kernel_rfl)
theorem sh3':Shape Tryz.prog 3 false 1:=shp_ok (by kernel_rfl)
theorem cb_180:ee_ Tryz.prog 180:=⟨_,Tryz.func180,rfl,by kernel_rfl⟩
theorem cb_181:ee_ Tryz.prog 181:=⟨_,Tryz.func181,rfl,by kernel_rfl⟩
theorem cb_182:ee_ Tryz.prog 182:=⟨_,Tryz.func182,rfl,by kernel_rfl⟩
theorem op_lib {P:Program} {n k d:Nat} {ro:Option Nat} {f:Pad.Fr} {w:World} {K:Pad.Fr→World→Prop} {ty:TypeId} {pos:String} {af:Array Edge} {gd:Option (Nat×Bool)} {vs:List Value} {g:Operand} {args:Array Operand} {ct:Array TypeId} {R:Ending→World→Prop}
    (hd:Nat.blt d n=true) (hk:ee_ P k) (hg:ev f g = .func (.func k) #[] #[]) (hargs:(args.map (ev f)) ++ #[]=vs.toArray) (hc:Calls P k vs.toArray w R) (kont:∀ e w',R e w'→∃ v,e = .returned v∧K (upd f d v) w') :
    OP P n ro ⟨some d,.call ⟨.value g,args,ct⟩,ty,pos,af,gd⟩ f w K :=
  ln_ (ql_ hk hg hargs) hc fun e w' he=>by
    obtain ⟨v,h1,h2⟩:=kont e w' he
    exact ⟨v,h1,hd,h2⟩
theorem str_op {P:Program} [Tb P] {f:Pad.Fr} {w:World} {d:Nat} {x y:Operand} {ty T2:TypeId} {pos:String} {af:Array Edge} {gd:Option (Nat×Bool)} {a b c:Str} (hx:Pad.ev f x = .string ⟨a.toArray⟩) (hy:Pad.ev f y = .string ⟨b.toArray⟩) (h:cat? a b=some c) :
    (execOp (Pad.ev f) ⟨some d,.binOp .add 9 x y T2,ty,pos,af,gd⟩).run P w = .ok (.value (.string ⟨c.toArray⟩)) w:=by
  have h1:=run_str (P:=P) (T:=9) (w:=w) h
  have h2:=ga_ (P:=P) (T:=9) (op:=.add) (w:=w) (X:=x) (Y:=y) (v:=.string ⟨a.toArray⟩) (u:=.string ⟨b.toArray⟩) trivial
  simp [execOp,Sem.run_bind,hx,hy,h1,h2,Result.andThen]
theorem nums_walk {w:World} {S:PH} {Fr:List HP} {v:Value} {ls:List (List Int)} (hG:GlS S) (hI:Inv w S Fr) (hr:RVt (.list (.list .int)) S v ls) (hin:(ls.all fun l=>l.all inI)=true) (hlen:(gy_ ls).length≤2147483648) :
    Calls Tryz.prog 148 [v].toArray w fun e w'=>e = .returned (.string ⟨(gy_ ls).toArray⟩)∧Inv w' S Fr:=by
  letI:Enc (List Int):=(Ty.list .int).enc
  letI:Enc Int:=Ty.int.enc
  obtain ⟨a0,cap0,hv2,_,hmax,_⟩:=@hn_ (List Int) (Ty.list .int).enc S v ls hr
  have hk0:ls.length≤9223372036854775807:=by
    unfold maxLen at hmax
    omega
  refine qa_ (n:=27) Tryz.func148 rfl rfl rfl ?_
  refine bm_ (bf_ (wa_ (v:=.string ⟨#[]⟩) rfl rfl (dr_ ?_)))
  have hz:=Tryz.zeroValue247
  refine bm_ (bf_ (wo_ (dy_ (v:=.pointer (some ⟨w.heap.size,0,none⟩)) (w':=w.alloc (.cells #[.pointer none,.slice none 0 0] 247)) rfl (by simp only [execOp,Instr.alloc,Sem.run_bind,hz w,Result.andThen_ok]; rfl) (dr_ ?_))))
  have hI1:Inv (w.alloc (.cells #[.pointer none,.slice none 0 0] 247)) S Fr:=hI.world rfl rfl fun b o e=>(Below.heap_alloc w _ b (i4_.1 e).1).trans e
  have hB1:Below w.heap.size w (w.alloc (.cells #[.pointer none,.slice none 0 0] 247)):=⟨rfl,rfl,rfl,by simp,fun k hk=>Below.heap_alloc w _ k hk⟩
  have hD1:Lib.IsBuilderF 247 5 w.heap.size w.heap.size (Lib.byteCells []) (w.alloc (.cells #[.pointer none,.slice none 0 0] 247)):=.inl ⟨c4_ _,.slice none 0 0,Array.getElem?_push_size,⟨rfl,.inl ⟨rfl,rfl⟩⟩,by simp [Value.ownBlock]⟩
  refine bm_ (bm_ (bf_ (wm_ (v:=v) rfl rfl (wo_ (op_len rfl Tryz.underlying33 hv2 (wm_ (v:=.int .i64 0) rfl rfl (dr_ ?_)))))))
  refine wp_cutN (fun f w'=>NInv v ls.length w w.heap.size (gy_ ls) f w') ?_ ?_
  · refine fz_ (wp_forS (σ:=Unit) (k:=ls.length) (I:=fun i _ f w'=>NInv v ls.length w w.heap.size (gy_ (ls.take i)) f w'∧f 10 = .int .i64 (i:Int)) (forS_u _ _) ⟨⟨hB1,hD1,rfl,rfl,rfl,rfl⟩,rfl⟩ ?_ ?_)
    · rintro i _ f w1 o hi ⟨⟨b1,b2,b3,b4,b5,b6⟩,b7⟩ _
      have I1:=qx_ hI rfl b1
      refine bm_ (bf_ (wo_ (yf_ rfl b7 b5 (dr_ (bm_ (mz_ rfl (len_t hi) (lz_ (bm_ (fz_ ?_)))))))))
      obtain ⟨l,hl⟩:∃ l,ls[i]?=some l:=⟨_,a7_ hi⟩
      have hat:at? ls (i:Int)=some l:=by rw [at?_nat]; exact hl
      refine bm_ (bf_ (wo_ (@ng_ _ _ _ _ _ _ _ _ _ _ _ _ _ _ _ (List Int) (Ty.list .int).enc S ls 39 (i:Int) _ rfl Tryz.underlying33 sh45 b4 hr b7 hat ?_)))
      have hp:PtSt (.list .int) S (cm_ v i 1) l:=pr_ (t:=.list .int) (x:=l) hr hat
      refine wo_ (op_load (α:=List Int) (S:=S) (e:=l) rfl sh45 rfl (hp.at_ I1) fun u hu => ?_)
      refine wa_ (v:=u) rfl rfl (dr_ ?_)
      obtain ⟨a1,cap1,hu2,_,hmax1,_⟩:=@hn_ Int Ty.int.enc S u l hu
      have hk1:l.length≤9223372036854775807:=by
        unfold maxLen at hmax1
        omega
      refine bm_ (bf_ (wm_ (v:=u) rfl rfl (wo_ (op_len rfl Tryz.underlying39 hu2 (wm_ (v:=.int .i64 0) rfl rfl (dr_ ?_))))))
      have htk:gy_ (ls.take (i+1))=gy_ (ls.take i)++numL l:=by
        rw [d2_,hl]
        simp [gy_]
      have hle:(gy_ (ls.take (i+1))).length≤2147483648:=by
        have:gy_ ls=gy_ (ls.take (i+1))++gy_ (ls.drop (i+1)):=by
          unfold gy_
          rw [← p5_,h7_]
        rw [this,a8_] at hlen
        omega
      have hinl:∀ n ∈ l,inI n=true:=fun n hn=>e8_.1 (e8_.1 hin l (b5_ hl)) n hn
      refine wp_cutN (fun f w'=>NInv v ls.length w w.heap.size (gy_ (ls.take (i+1))) f w'∧f 10 = .int .i64 (i:Int)) ?_ ?_
      · refine fz_ (wp_forS (σ:=Unit) (k:=l.length) (I:=fun j _ f w'=>NInv v ls.length w w.heap.size (gy_ (ls.take i)++numL (l.take j)) f w'∧f 10 = .int .i64 (i:Int)∧f 14=u∧f 15 = .int .i64 l.length∧f 16 = .int .i64 (j:Int)) (forS_u _ _)
          ⟨⟨b1,by rw [show numL (l.take 0)=[] from rfl,e6_]; exact b2,b3,b4,b5,b6⟩,b7,rfl,rfl,rfl⟩ ?_ ?_)
        · rintro j _ f w1 o hj ⟨⟨b1,b2,b3,b4,b5,b6⟩,b7,b8,b9,b10⟩ _
          have I1:=qx_ hI rfl b1
          refine bm_ (bf_ (wo_ (yf_ rfl b10 b9 (dr_ (bm_ (mz_ rfl (len_t hj) (lz_ (bm_ (fz_ ?_)))))))))
          obtain ⟨n,hn⟩:∃ n,l[j]?=some n:=⟨_,a7_ hj⟩
          have hatn:at? l (j:Int)=some n:=by rw [at?_nat]; exact hn
          refine bm_ (bf_ (wo_ (@ng_ _ _ _ _ _ _ _ _ _ _ _ _ _ _ _ Int Ty.int.enc S l 3 (j:Int) _ rfl Tryz.underlying39 sh3' b8 hu b10 hatn ?_)))
          have hpn:PtSt .int S (cm_ u j 1) n:=pr_ (t:=.int) (x:=n) hu hatn
          refine wo_ (op_load_int rfl sh3' rfl (hpn.at_ I1) ?_)
          refine wa_ (v:=.int .i64 n) rfl rfl (dr_ ?_)
          refine bf_ (wm_ (v:=.int .i64 n) rfl rfl ?_)
          have hni:=hinl n (b5_ hn)
          unfold inI at hni
          rw [a1_] at hni
          have htj:numL (l.take (j+1))=numL (l.take j)++numT n:=by
            rw [d2_,hn]
            simp [numL]
          have hlej:(gy_ (ls.take i)++(numL (l.take j)++numT n)).length≤2147483648:=by
            have:numL l=numL (l.take (j+1))++numL (l.drop (j+1)):=by
              unfold numL
              rw [← p5_,h7_]
            rw [htk,this,htj,a8_,a8_] at hle
            rw [a8_]
            omega
          refine wo_ (op_lib (vs:=[.int .i64 n]) rfl cb_181 rfl (args1 rfl) (sh_Itoa n (g8_ hni.1) (g8_ hni.2) w1 (tab_is hG I1)) fun e w2 he => ?_)
          obtain ⟨rfl,k,os,rfl⟩:=he
          refine ⟨_,rfl,?_⟩
          have b1':Below w.heap.size w (Go.Sort.grow (w1.drewN k) os):=b1.trans ⟨rfl,rfl,rfl,by simp [Go.Sort.grow,World.drewN],fun k hk=>by
            have h1:k<w1.heap.size:=f6_ hk b1.size
            exact (grow_kept k _ (d0_ h1)).trans (d0_ h1).symm⟩
          have b2':=bld_kept (grow_kept (n:=k) (os:=os)) b2
          have hcat:cat? (Lib.itoa n) [32]=some (numT n):=by
            unfold cat?
            have:Nat.ble ((Lib.itoa n).length+([32]:Str).length) 2147483648=true:=by
              refine h5_ ?_
              have h1:(numT n).length=(Lib.itoa n).length+1:=by simp [numT]
              rw [a8_,a8_,h1] at hlej
              show (Lib.itoa n).length+1≤_
              omega
            rw [this]
            rfl
          refine wo_ (dy_ (v:=.string ⟨(numT n).toArray⟩) (w':=Go.Sort.grow (w1.drewN k) os) rfl (str_op rfl rfl hcat) ?_)
          refine wo_ (op_lib (vs:=[.pointer (some ⟨w.heap.size,0,none⟩),.string ⟨(numT n).toArray⟩]) rfl cb_180 rfl (args2 b3 rfl) (xi_ w.heap.size w.heap.size (Lib.byteCells (gy_ (ls.take i)++numL (l.take j))) ⟨(numT n).toArray⟩ _ b2' ?_ b1'.size) fun e w2 he => ?_)
          · rw [Lib.byteCells_length]
            show (gy_ (ls.take i)++numL (l.take j)).length+(numT n).toArray.size≤_
            rw [List.size_toArray,a8_]
            rw [a8_,a8_] at hlej
            omega
          obtain ⟨rfl,c1,c2,c3⟩:=he
          refine ⟨_,rfl,dr_ ?_⟩
          have c1':Lib.IsBuilderF 247 5 w.heap.size w.heap.size (Lib.byteCells (gy_ (ls.take i)++numL (l.take (j+1)))) w2:=by
            rw [htj,← b4_,Lib.byteCells_append]
            exact .inr c1
          exact bf_ (wo_ (op_add rfl b10 rfl (wm_ rfl rfl (dr_ ⟨⟨b1'.trans c2,c1',b3,b4,b5,b6⟩,b7,b8,b9,idx_next hj hk1⟩))))
        · rintro f w1 ⟨⟨b1,b2,b3,b4,b5,b6⟩,b7,b8,b9,b10⟩
          rw [d1_,← htk] at b2
          exact bm_ (bf_ (wo_ (yf_ rfl b10 b9 (dr_ (bm_ (jm_ rfl (len_f _) (tw_ ⟨⟨b1,b2,b3,b4,b5,b6⟩,b7⟩)))))))
      · rintro f w1 ⟨⟨b1,b2,b3,b4,b5,b6⟩,b7⟩
        refine bf_ (wo_ (op_add rfl b7 rfl (wm_ rfl rfl (dr_ ⟨⟨b1,b2,b3,b4,b5,b6⟩,idx_next hi hk0⟩))))
    · rintro f w1 ⟨⟨b1,b2,b3,b4,b5,b6⟩,b7⟩
      rw [d1_] at b2
      exact bm_ (bf_ (wo_ (yf_ rfl b7 b5 (dr_ (bm_ (jm_ rfl (len_f _) (tw_ ⟨b1,b2,b3,b4,b5,b6⟩)))))))
  · rintro f w1 ⟨b1,b2,b3,b4,b5,b6⟩
    have I1:=qx_ hI rfl b1
    refine bm_ (bf_ (wo_ (op_lib (vs:=[.pointer (some ⟨w.heap.size,0,none⟩)]) rfl cb_182 rfl (args1 b3) (sh_String w.heap.size w.heap.size (gy_ ls) w1 b2 b1.size) fun e w2 he => ?_)))
    obtain ⟨rfl,c1,c2,c3⟩:=he
    refine ⟨_,rfl,wa_ (v:=.string ⟨(gy_ ls).toArray⟩) rfl rfl (dr_ (ur_ ⟨b6,_,res1 rfl rfl,rfl,qx_ hI rfl (b1.trans c2)⟩))⟩
theorem ok_148:ConOk Tryz.prog 148 [.list (.list .int)] [.str] (fun x=>fc_ x.1):=by
  intro w S Fr hv vs x r hG hI ha hF
  match vs,ha with
  | [v],⟨hv1,_⟩ =>
    obtain ⟨ls,u⟩:=x
    have hF:cond (ls.all (fun l=>l.all inI)&&Nat.ble (gy_ ls).length 2147483648) (some (gy_ ls,())) none=some r:=hF
    obtain ⟨hc,hF⟩:=br_ hF
    simp only [a1_] at hc
    obtain ⟨hin,hlen⟩:=hc
    obtain rfl:=a6_ hF
    have hr:RVt (.list (.list .int)) S v ls:=pw_ (hv:=hv) hv1
    refine (nums_walk hG hI hr hin (b6_ hlen)).mono fun e w' he => ?_
    obtain ⟨rfl,hI'⟩:=he
    exact ⟨S,[],PH.Le.refl _,hI',rfl,sV_ra (hv:=fun _=>undef) (S:=S) (gy_ ls)⟩
noncomputable def c_148:Con Tryz.prog:=cnv 148 [.list (.list .int)] [.str] (fun x=>fc_ x.1) ok_148
end
end Go.Proofs.YtmdlefagpcmllaaGreatDoor.Rx
namespace Go.Proofs.YtmdlefagpcmllaaGreatDoor.Pad
open Go
section
abbrev sn:Value:=.slice none 0 0
theorem AllP.v {l:List Nat} {sps:List Sp} {f:Fr} {vals:Nat→Value} {S':PH} (h:AllP l (fun j=>∀ t,sps[j]?=some t→(∀ d,t.dst=some d→f d=vals j)∧t.fact (t.deps.map vals) S')) (i:Nat) {a d:Nat} {t:Sp} {x:Value}
    (e:(l[i]?,sps[a]?,t.dst,t.fact (t.deps.map vals) S')=(some a,some t,some d,vals a=x)):f d=x :=
  h.u i (h1_ e).1 (h1_ (h1_ e).2).1 (h1_ (h1_ e).2).2
theorem fo {A:Value→Prop} {B C:Value→PH→Prop} {S:PH} {v:Value} (c:C v S) (a:A v:=by exact rfl) (b:B v S:=by exact rfl):∃ v S',A v∧S.Le S'∧B v S'∧C v S':=⟨v,S,a,lr,b,c⟩
section
variable {P:Program} {n:Nat} {ro:Option Nat} {ops:Array Oper} {sps:List Sp} {tks:List Tok} {f0:Fr} {S:PH} {i:Nat} {s:Sp}
theorem ob_ {o:Oper} (ho:(ops[i]?,o.guard)=(some o,none)) (h:∀ {vals:Nat→Value} {f:Fr} {w:World} {S':PH} {X:List HP},S.Le S' →
    AllP s.anc (fun j=>∀ t,sps[j]?=some t→(∀ d,t.dst=some d→f d=vals j)∧t.fact (t.deps.map vals) S') →
    (∀ d,(∀ (j:Nat) (t:Sp),sps[j]?=some t→t.dst=some d→i ∈ t.anc∨i=j)→f d=f0 d) →
    Inv w S' (s.cons.map (kh_ tks vals)++(s.rd.map (kh_ tks vals)++X)) →
    OP P n ro o f w fun f' w'=>∃ v S'',f'=uv_ f s.dst v∧S'.Le S''∧s.fact (s.deps.map (upv vals i v)) S'' ∧
      Inv w' S'' (s.prod.map (kh_ tks (upv vals i v))++(s.rd.map (kh_ tks vals)++X))):Ob P n ro ops sps tks f0 S i s :=
  fun _ _ _ _ _ a b c d=>pl_ ho (h a b c d)
end
section
variable {P:Program} {n:Nat} {ro:Option Nat} {f:Fr} {w:World} {K:Fr→World→Prop} {d k:Nat} {ty:TypeId} {pos:String} {af:Array Edge} {gd:Option (Nat×Bool)} {x y:Operand} {v:Value} {T:TypeId} {S:PH}
end
end
end Go.Proofs.YtmdlefagpcmllaaGreatDoor.Pad
namespace Go.Proofs.YtmdlefagpcmllaaGreatDoor.Rx
open Go Pad Rex Go.Proofs
section
set_option maxRecDepth 100000
set_option maxHeartbeats 400000
def ivs (l:List Int):List Value:=l.map fun n=>.int .i64 n
def rowR (m n:Nat) (a:Int):List Int:=List.replicate n a++List.replicate (m - n) 0
theorem op_copyC {P:Program} {n d:Nat} {ro:Option Nat} {f:Pad.Fr} {w:World} {K:Pad.Fr→World→Prop} {ty T E B:TypeId} {pos:String} {af:Array Edge} {gd:Option (Nat×Bool)} {x y:Operand} {S:PH} {O:List HP} {g o dl dc sl sc:Nat} {ad:Addr} {cs:Array Value} {ys:List Value}
    (hd:Nat.blt d n=true) (hT:P.underlying T=some (.slice E)) (hs:(P.info? E).map (·.size)=some 1) (hx:Pad.ev f x = .slice (some ⟨g,o,none⟩) dl dc) (hy:Pad.ev f y = .slice (some ad) sl sc) (hI:Inv w S (kk_ g B cs::O))
    (hn:ys.length=Nat.min sl dl) (hsrc:∀ j v,ys[j]?=some v→w.cell? (ad.add j)=some v) (hfit:o+ys.length≤cs.size) (h1:∀ v ∈ ys,v.oneCell'=true)
    (k:∀ w',Inv w' S (kk_ g B (cs.toList.take o++ys++cs.toList.drop (o+ys.length)).toArray::O)→K (upd f d (.int .i64 (ys.length:Nat))) w') :
    OP P n ro ⟨some d,.call ⟨.builtin .copy,#[x,y],#[T,T]⟩,ty,pos,af,gd⟩ f w K:=by
  have h:=run_copy_row (P:=P) w T T ty E g o dl dc ad sl sc cs B ys hT hs hI.blk hn hsrc hfit h1
  exact dy_ hd (by simp [execOp,resolve,invoke,builtin,hx,hy,h,Result.andThen]; rfl) (k _ hI.setRow)
theorem op_copy0 {P:Program} {n d:Nat} {ro:Option Nat} {f:Pad.Fr} {w:World} {K:Pad.Fr→World→Prop} {ty T E:TypeId} {pos:String} {af:Array Edge} {gd:Option (Nat×Bool)} {x y:Operand} {dl dc sl sc:Nat} {ap ad:Option Addr}
    (hd:Nat.blt d n=true) (hT:P.underlying T=some (.slice E)) (hs:(P.info? E).map (·.size)=some 1) (hx:Pad.ev f x = .slice ap dl dc) (hy:Pad.ev f y = .slice ad sl sc)
    (hn:Nat.min sl dl=0) (k:K (upd f d (.int .i64 0)) w) :
    OP P n ro ⟨some d,.call ⟨.builtin .copy,#[x,y],#[T,T]⟩,ty,pos,af,gd⟩ f w K:=by
  have h:=run_copy_none (P:=P) w T T ty E ap ad dl dc sl sc hT hs hn
  exact dy_ hd (by simp [execOp,resolve,invoke,builtin,hx,hy,h,Result.andThen]; rfl) k
theorem op_make {n d:Nat} {ro:Option Nat} {f:Pad.Fr} {w:World} {K:Pad.Fr→World→Prop} {ty:TypeId} {pos:String} {af:Array Edge} {gd:Option (Nat×Bool)} {x y:Operand} {S:PH} {O:List HP} {m:Nat}
    (hd:Nat.blt d n=true) (hx:Pad.ev f x = .int .i64 m) (hy:Pad.ev f y = .int .i64 m) (hm:m≤2147483648) (hI:Inv w S O)
    (k:∀ g w',Inv w' S (kk_ g 3 (ivs (List.replicate m 0)).toArray::O)→K (upd f d (.slice (some ⟨g,0,none⟩) m m)) w') :
    OP Tryz.prog n ro ⟨some d,.makeSlice 39 x y,ty,pos,af,gd⟩ f w K:=by
  obtain ⟨bytes,zv,⟨ei,hE⟩,hb,hr⟩:=kl_ (show qd_ Tryz.prog 3 .int=some (0:Int) by kernel_rfl)
  have hzv:zv = .int .i64 0:=lq_ (hr S)
  have hbb:(ei.bytes:Int) * (m:Int)≤281474976710656:=by
    have h1:(ei.bytes:Int)≤65536:=by rw [hE.hb]; omega
    have h2:(ei.bytes:Int) * (m:Int)≤65536 * 2147483648:=Int.mul_le_mul h1 (by omega) (by omega) (by omega)
    omega
  have h:=run_make (P:=Tryz.prog) w 39 3 ei zv Tryz.underlying39 hE.hi hE.hz .i64 .i64 m m (by omega) (m3_ _) hbb (by omega)
  have hsz:ei.size=1:=hE.hs
  have hc:madeCells zv.cells ((m:Int).toNat * ei.size)=(ivs (List.replicate m 0)).toArray:=by
    have h2:=no_ zv.cells m
    have h3:zv.cells.size=1:=by rw [hzv]; rfl
    rw [h3] at h2
    rw [hsz,c1_]
    apply Array.toList_inj.1
    rw [h2,hzv]
    simp [Value.cells,ivs]
  rw [hc] at h
  exact dy_ hd (by rw [c1_] at h; simp [execOp,Sem.run_bind,hx,hy,h,Result.andThen]) (k _ _ (hI.alloc 3 _))
theorem cb_107:ee_ Tryz.prog 107:=⟨_,Tryz.func107,rfl,by kernel_rfl⟩
theorem wu64_nat {m:Nat} (h:m≤2147483648):wu64 (m:Int)=(m:Int):=by
  unfold wu64 IntKind.wrap
  simp [IntKind.signed,IntKind.bits]
  omega
theorem in3:(Tryz.prog.info? 3).map (·.size)=some 1:=by kernel_rfl
theorem ivs_row {m n q:Nat} {a:Int} (h:n+q≤m):(ivs (rowR m n a)).take n++ivs (List.replicate q a)++(ivs (rowR m n a)).drop (n+q)=ivs (rowR m (n+q) a):=by
  unfold ivs rowR
  rw [← List.map_take,← List.map_drop,← i6_,← i6_]
  congr 1
  have h1:(List.replicate n a++List.replicate (m - n) (0:Int)).take n=List.replicate n a:=by
    rw [List.take_append_of_le_length (by simp),g3_ (by simp)]
  have h2:(List.replicate n a++List.replicate (m - n) (0:Int)).drop (n+q)=List.replicate (m - (n+q)) 0:=by
    rw [List.drop_append,List.drop_of_length_le (by simp)]
    simp
    omega
  rw [h1,h2,List.replicate_append_replicate]
theorem ivs_len (l:List Int):(ivs l).length=l.length:=by simp [ivs]
theorem rowR_len {m n:Nat} {a:Int} (h:n≤m):(rowR m n a).length=m:=by simp [rowR]; omega
theorem rowR_at {m n j:Nat} {a:Int} (h:j<n):(ivs (rowR m n a))[j]?=some (.int .i64 a):=by
  unfold ivs rowR
  rw [d7_,b3_ (by simpa using h),i1_,if_pos h]
  rfl
theorem ivs_one {l:List Int}:∀ v ∈ ivs l,v.oneCell'=true:=by
  intro v hv
  obtain ⟨n,_,rfl⟩:=d9_.1 hv
  rfl
theorem sl_l {f:Pad.Fr} {w:World} {d m n g:Nat} {x y:Operand} {ty:TypeId} {pos:String} {af:Array Edge} {gd:Option (Nat×Bool)} (hx:Pad.ev f x = .slice (some ⟨g,0,none⟩) m m) (hy:Pad.ev f y = .int .i64 n) (h:n<m) :
    (execOp (Pad.ev f) ⟨some d,.slice 39 x (some y) none none,ty,pos,af,gd⟩).run Tryz.prog w = .ok (.value (.slice (some ⟨g,n,none⟩) (m - n) (m - n))) w:=by
  have:=part_l (P:=Tryz.prog) (w:=w) (T:=39) (E:=3) (a:=some ⟨g,0,none⟩) (len:=m) (cap:=m) (lo:=(n:Int)) Tryz.underlying39 sh3' (by omega) (by omega)
  have hne:¬ m=n:=by omega
  have e:(⟨g,0,none⟩:Addr).add (n * 1)=⟨g,n,none⟩:=by rw [Nat.mul_one,ft_,b0_]
  simp only [sliced,hne,h9_,g2_,c1_,e] at this
  simp [execOp,hx,hy,this,Result.andThen]
theorem sl_h {f:Pad.Fr} {w:World} {d m n g:Nat} {x y:Operand} {ty:TypeId} {pos:String} {af:Array Edge} {gd:Option (Nat×Bool)} (hx:Pad.ev f x = .slice (some ⟨g,0,none⟩) m m) (hy:Pad.ev f y = .int .i64 n) (h:n<m) :
    (execOp (Pad.ev f) ⟨some d,.slice 39 x none (some y) none,ty,pos,af,gd⟩).run Tryz.prog w = .ok (.value (.slice (some ⟨g,0,none⟩) n m)) w:=by
  have:=part_h (P:=Tryz.prog) (w:=w) (T:=39) (E:=3) (a:=some ⟨g,0,none⟩) (len:=m) (cap:=m) (hi:=(n:Int)) Tryz.underlying39 sh3' (by omega) (by omega)
  have hne:¬ m=0:=by omega
  simp [sliced,hne,Addr.add] at this
  simp [execOp,hx,hy,this,Result.andThen]
theorem op_uI {n d:Nat} {ro:Option Nat} {f:Pad.Fr} {w:World} {K:Pad.Fr→World→Prop} {ty:TypeId} {pos:String} {af:Array Edge} {gd:Option (Nat×Bool)} {x:Operand} {m:Nat} (hd:Nat.blt d n=true) (hx:Pad.ev f x = .int .u64 (m:Int)) (hm:m≤2147483648)
    (k:K (upd f d (.int .i64 (m:Int))) w):OP Tryz.prog n ro ⟨some d,.convert 184 3 x,ty,pos,af,gd⟩ f w K:=by
  have h64:IntKind.i64.wrap (m:Int)=m:=by rw [IntKind.wrap_i64]; omega
  exact dy_ hd (by simp [execOp,hx,convert,run_underlying Tryz.underlying184,run_underlying Tryz.underlying3,Conv.intToInt,h64]) k
theorem repL_ivs {S:PH}:∀ (l:List Int),@RepL Int Ty.int.enc S (ivs l) l
  | []=>rfl
  | a::l=>⟨[.int .i64 a],ivs l,rfl,rfl,repL_ivs l⟩
def RI (m g:Nat) (a:Int) (S:PH) (Fr:List HP) (k:Nat) (f:Pad.Fr) (w:World):Prop :=
  k≤m∧(0<m→0<k)∧∃ S',S.Le S'∧Inv w S' (kk_ g 3 (ivs (rowR m k a)).toArray::Fr)∧f 7 = .slice (some ⟨g,0,none⟩) m m∧f 8 = .int .i64 (k:Int)∧f.ds=[]
theorem rep_walk {w:World} {S:PH} {Fr:List HP} {v:Value} {m:Nat} {a:Int} (hI:Inv w S Fr) (hr:RVt (.list .int) S v [a]) (hm:m≤2147483648) :
    Calls Tryz.prog 65 [v,.int .i64 (m:Int)].toArray w fun e w'=>∃ u S',e = .returned u∧S.Le S'∧Inv w' S' (@Row Int Ty.int.enc 3 u (List.replicate m a)::Fr):=by
  obtain ⟨a0,cap0,hv2,_,hmax,hnil,hrow⟩:=@hn_ Int Ty.int.enc S v [a] hr
  obtain ⟨ad,rfl⟩:∃ ad,a0=some ad:=by
    cases a0 with
    | none=>have:=(hnil rfl).1; simp at this
    | some ad=>exact ⟨ad,rfl⟩
  refine qa_ (n:=48) Tryz.func65 rfl rfl rfl ?_
  refine bm_ (bf_ (wa_ (v:=sn) rfl rfl (dr_ ?_)))
  refine bm_ (bm_ (bf_ (wm_ (v:=.int .i64 m) rfl rfl (wo_ (yf_ (a:=(m:Int)) (b:=0) rfl rfl rfl (dr_ ?_))))))
  refine jm_ rfl (b7_ (by omega)) (lz_ ?_)
  refine bm_ (bf_ (wm_ (v:=v) rfl rfl (wo_ (op_len rfl Tryz.underlying39 hv2 ?_))))
  refine wo_ (op_toU (a:=1) rfl rfl Tryz.underlying3 Tryz.underlying184 (wm_ (v:=.int .i64 m) rfl rfl (wo_ (op_toU (a:=(m:Int)) rfl rfl Tryz.underlying3 Tryz.underlying184 ?_))))
  rw [wu64_nat hm,show wu64 1=((1:Nat):Int) from rfl]
  refine wo_ (op_lib (vs:=[.int .u64 ((1:Nat):Int),.int .u64 (m:Int)]) rfl cb_107 rfl (args2 rfl rfl) (sh_Mul 1 m (by omega) (by omega) w) fun e w2 he => ?_)
  obtain ⟨rfl,rfl⟩:=he
  rw [show (1 * m / 18446744073709551616:Nat)=0 by omega,show (1 * m % 18446744073709551616:Nat)=m by omega]
  refine ⟨_,rfl,?_⟩
  refine wm_ (v:=.tuple #[.int .u64 ((0:Nat):Int),.int .u64 (m:Int)]) rfl rfl (wo_ (yg_ (v:=.int .u64 ((0:Nat):Int)) rfl rfl rfl (wo_ (yg_ (v:=.int .u64 (m:Int)) rfl rfl rfl (wa_ (v:=.int .u64 ((0:Nat):Int)) rfl rfl (wa_ (v:=.int .u64 (m:Int)) rfl rfl (dr_ ?_)))))))
  refine bm_ (bm_ (bf_ (wm_ (v:=.int .u64 ((0:Nat):Int)) rfl rfl (wo_ (op_gtr (a:=((0:Nat):Int)) (b:=0) rfl rfl rfl (wm_ (v:=.bool false) rfl rfl (wk_ rfl rfl rfl (mh_ (v:=.int .u64 (m:Int)) rfl rfl (wk_ rfl rfl rfl (op_gtr (a:=(m:Int)) (b:=9223372036854775807) rfl rfl rfl ?_))))))))))
  have hdf:decide ((9223372036854775807:Int)<(m:Int))=false:=b7_ (by omega)
  rw [hdf]
  refine wo_ (op_pick_f (b:=.bool false) rfl rfl rfl rfl (dr_ (jm_ rfl rfl (lz_ ?_))))
  refine bm_ (bf_ (wm_ (v:=.int .u64 (m:Int)) rfl rfl (wo_ (op_uI (m:=m) rfl rfl hm ?_))))
  refine wo_ (op_make (m:=m) rfl rfl rfl hm hI fun g w3 I3=>wa_ (v:=.slice (some ⟨g,0,none⟩) m m) rfl rfl (dr_ ?_))
  have hcell:w3.cell? ad=some (.int .i64 a):=by
    obtain ⟨es,h1,h2⟩:=hrow ad rfl 0 a rfl
    have h1:es=[.int .i64 a]:=h1
    have h3:=PH.cell_in I3.in_ (h2 0 (.int .i64 a) (by rw [h1]; rfl))
    simpa [Addr.add] using h3
  have hl3:(ivs (List.replicate m (0:Int))).length=m:=by simp [ivs]
  refine bm_ (wp_cutN (fun f w'=>∃ k,RI m g a S Fr k f w') ?_ ?_)
  · refine bf_ (wm_ (v:=.slice (some ⟨g,0,none⟩) m m) rfl rfl (wm_ (v:=v) rfl rfl ?_))
    by_cases h0:m=0
    · subst h0
      refine wo_ (op_copy0 (dl:=0) (dc:=0) (sl:=1) (sc:=cap0) rfl Tryz.underlying39 in3 rfl hv2 rfl (wa_ (v:=.int .i64 0) rfl rfl (dr_ ?_)))
      exact ⟨0,c4_ _,fun h=>h,S,lr,I3,rfl,rfl,rfl⟩
    · refine wo_ (op_copyC (g:=g) (o:=0) (dl:=m) (dc:=m) (sl:=1) (sc:=cap0) (ad:=ad) (ys:=[.int .i64 a]) rfl Tryz.underlying39 in3 rfl hv2 I3 ?_ ?_ ?_ ?_ fun w4 I4=>wa_ (v:=.int .i64 1) rfl rfl (dr_ ?_))
      · show 1=Nat.min 1 m
        exact (Nat.min_eq_left (by omega)).symm
      · intro j u hj
        cases j with
        | zero =>
          obtain rfl:=a6_ hj
          simpa [Addr.add] using hcell
        | succ j=>simp at hj
      · simp [hl3]
        omega
      · intro u hu
        simp at hu
        subst hu
        rfl
      · refine ⟨1,by omega,fun _=>by omega,S,lr,?_,rfl,rfl,rfl⟩
        have:=ivs_row (m:=m) (n:=0) (q:=1) (a:=a) (by omega)
        have e0:rowR m 0 a=List.replicate m 0:=by simp [rowR]
        rw [e0] at this
        rw [← this]
        exact I4
  · rintro f w4 ⟨k0,hk0⟩
    refine bm_ (fz_ (us_ (I:=fun k f w'=>RI m g a S Fr k f w') (fun k=>m - k) k0 hk0 ?_))
    rintro k f w5 ⟨r1,r2,S5,le5,r3,r4,r5,r6⟩
    refine bm_ (bm_ (bf_ (wm_ rfl r5 (wm_ rfl r4 (wo_ (op_len rfl Tryz.underlying39 rfl (wo_ (yf_ rfl rfl rfl (dr_ ?_)))))))))
    by_cases hkm:k<m
    · refine mz_ rfl (len_t hkm) (lz_ ?_)
      refine fz_ (wp_draw (sps:=[spV 38 [] 0 (.int .i64 k),spV 39 [] 1 (.slice (some ⟨g,0,none⟩) m m),spV 40 [] 2 (.int .i64 k),spV 41 [1,2] 3 (.slice (some ⟨g,k,none⟩) (m - k) (m - k)),spV 42 [] 4 (.slice (some ⟨g,0,none⟩) m m),spV 43 [] 5 (.int .i64 k),
        spV 44 [4,5] 6 (.slice (some ⟨g,0,none⟩) k m),⟨some 45,[1,2,3,4,5,6],[7],fun vs _=>fr0 vs 0 = .int .i64 (Nat.min k (m - k):Nat),[],[0],[1],fun _ h=>h⟩,spV 46 [0,1,2,3,4,5,6,7] 8 (.int .i64 ((k+Nat.min k (m - k):Nat):Int)),spV 8 (lrg 9) 9 (.int .i64 ((k+Nat.min k (m - k):Nat):Int))])
        (tks:=[⟨none,some 7,[],fun _=>kk_ g 3 (ivs (rowR m k a)).toArray⟩,⟨some 7,none,[],fun _=>kk_ g 3 (ivs (rowR m (k+Nat.min k (m - k)) a)).toArray⟩]) (O:=Fr) rfl (by kernel_rfl) r3
        ⟨ob_ rfl fun l A K I=>mh_ rfl ((K 8 (vx_ rfl)).trans r5) (fo I),ob_ rfl fun l A K I=>mh_ rfl ((K 7 (vx_ rfl)).trans r4) (fo I),ob_ rfl fun l A K I=>mh_ rfl ((K 8 (vx_ rfl)).trans r5) (fo I),
          ob_ rfl fun l A K I=>dy_ rfl (sl_l (A.v 0 rfl) (A.v 1 rfl) hkm) (fo I),ob_ rfl fun l A K I=>mh_ rfl ((K 7 (vx_ rfl)).trans r4) (fo I),ob_ rfl fun l A K I=>mh_ rfl ((K 8 (vx_ rfl)).trans r5) (fo I),
          ob_ rfl fun l A K I=>dy_ rfl (sl_h (A.v 0 rfl) (A.v 1 rfl) hkm) (fo I),?_,?_,ob_ rfl fun l A K I=>nh_ rfl (A.v 8 rfl) (fo I),trivial⟩ ?_)
      · intro vs f w_ U X le A K I
        have hq:Nat.min k (m - k)≤k∧k+Nat.min k (m - k)≤m:=⟨Nat.min_le_left _ _,by have:Nat.min k (m - k)≤m - k:=m2_ _ _; omega⟩
        refine pl_ rfl (op_copyC (g:=g) (o:=k) (dl:=m - k) (dc:=m - k) (sl:=k) (sc:=m) (ad:=⟨g,0,none⟩) (ys:=ivs (List.replicate (Nat.min k (m - k)) a)) rfl Tryz.underlying39 in3 (A.v 2 rfl) (A.v 5 rfl) I (by simp [ivs]) ?_ ?_ ivs_one fun w6 I6 => ?_)
        · intro j u hj
          have hj2:j<Nat.min k (m - k):=by
            have:=(a3_.1 hj).1
            simpa [ivs] using this
          have e:u = .int .i64 a:=by
            unfold ivs at hj
            rw [d7_,i1_,if_pos hj2] at hj
            exact (a6_ hj).symm
          rw [ft_,b0_,I.cell,e]
          have:=rowR_at (m:=m) (n:=k) (j:=j) (a:=a) (by omega)
          simpa using this
        · have:(ivs (rowR m k a)).toArray.size=m:=by simp [ivs_len,rowR_len r1]
          rw [this]
          simpa [ivs] using hq.2
        · have el:(ivs (List.replicate (Nat.min k (m - k)) a)).length=Nat.min k (m - k):=by simp [ivs]
          have e:=ivs_row (m:=m) (n:=k) (q:=Nat.min k (m - k)) (a:=a) hq.2
          rw [el] at I6
          refine ⟨_,U,rfl,lr,by rw [el]; rfl,?_⟩
          show Inv w6 U (kk_ g 3 (ivs (rowR m (k+Nat.min k (m - k)) a)).toArray::_)
          rw [← e]
          exact I6
      · intro vs f w_ U X le A K I
        have hq:k+Nat.min k (m - k)≤m:=by
          have:Nat.min k (m - k)≤m - k:=m2_ _ _
          omega
        have e:w64 ((k:Int)+(Nat.min k (m - k):Nat))=((k+Nat.min k (m - k):Nat):Int):=by
          rw [km_ (by omega) (by omega)]
          rfl
        refine pl_ rfl (op_add rfl (A.v 0 rfl) (A.v 7 rfl) ?_)
        rw [e]
        exact fo I
      · intro vs f6 w6 S6 ds6 le6 hF hK hI6
        have hq:0<Nat.min k (m - k)∧k+Nat.min k (m - k)≤m:=by
          have h1:Nat.min k (m - k)≤m - k:=m2_ _ _
          refine ⟨Nat.lt_min.2 ⟨r2 (by omega),by omega⟩,by omega⟩
        have e8:f6 8 = .int .i64 ((k+Nat.min k (m - k):Nat):Int):=hF.v 9 rfl
        have e7:f6 7 = .slice (some ⟨g,0,none⟩) m m:=(hK 7 (keep_all rfl)).trans r4
        exact ⟨k+Nat.min k (m - k),by omega,hq.2,fun _=>by omega,S6,le5.trans le6,hI6,e7,e8,ds6.trans r6⟩
    · refine jm_ rfl (b7_ (by omega)) (tw_ ?_)
      obtain rfl:k=m:=by omega
      refine bm_ (bf_ (wm_ rfl r4 (wa_ (v:=.slice (some ⟨g,0,none⟩) k k) rfl rfl (dr_ (ur_ ⟨r6,.slice (some ⟨g,0,none⟩) k k,res1 rfl rfl,_,S5,rfl,le5,?_⟩)))))
      refine Inv.shut (A:=@Row Int Ty.int.enc 3 _ (List.replicate k a)) r3 (.inr ⟨g,k,[],ivs (List.replicate k a),[],by simp,by simp [rowR],repL_ivs _,by simp,by simp only [maxLen]; omega,by simp⟩)
noncomputable def eu_ (a0:List Int) (a1:Int):Option (List Int):=match a0 with
  | [a]=>mk? a1 a
  | _=>none
noncomputable def rp_65:Rpt Tryz.prog:=⟨65,[.list .int,.int],.int,3,fun x=>eu_ x.1 x.2.1,fun {w S Fr hv vs x r} hG hI ha hF=>by
  obtain ⟨l,c,u⟩:=x
  match vs,ha with
  | [v1,v2],⟨h1,h2,_⟩ =>
    have hF:eu_ l c=some r:=hF
    match l,hF,h1 with
    | [a],hF,h1 =>
      obtain ⟨c0,c1,rfl⟩:=mk?_some (show mk? c a=some r from hF)
      obtain ⟨m,rfl⟩:=Int.eq_ofNat_of_zero_le c0
      obtain rfl:v2 = .int .i64 (m:Int):=lq_ (S:=S) (pw_ (hv:=hv) (t:=.int) h2)
      have hr:RVt (.list .int) S v1 [a]:=pw_ (hv:=hv) h1
      rw [c1_]
      refine (rep_walk hI hr (by omega)).mono fun e w' he => ?_
      obtain ⟨u,S',h3,h4,h5⟩:=he
      exact ⟨u,S',h3,h4,h5⟩⟩
end
section
set_option maxRecDepth 100000
set_option maxHeartbeats 0
theorem cz_127:qd_ Tryz.prog 3 .int=some (show Int from 0):=by kernel_rfl
theorem ce_127:Rex.elemOf Tryz.prog 39=some 3:=by kernel_rfl
noncomputable def xa_:Cpy Tryz.prog:=⟨127,.int,3,fun hc hI h=>clone_ok Tryz.func127 rfl rfl rfl ce_127 cz_127 rfl hc hI h⟩
theorem cz_128:qd_ Tryz.prog 4 .bool=some (show Bool from false):=by kernel_rfl
theorem ce_128:Rex.elemOf Tryz.prog 103=some 4:=by kernel_rfl
noncomputable def cp_128:Cpy Tryz.prog:=⟨128,.bool,4,fun hc hI h=>clone_ok Tryz.func128 rfl rfl rfl ce_128 cz_128 rfl hc hI h⟩
end
section
set_option maxRecDepth 100000
set_option maxHeartbeats 0
def an_54:An:=(.p .z (.p (.j0 [.v 49 .bool] .z .z) (.p (.p .z (.ls [.v 3 .int] [] [] 0 .z)) (.p (.p .z (.ls [.v 4 .int] [] [] 2 .z)) (.p (.p .z (.ls [.v 5 .int] [] [] 4 (.p .z (.p (.j0 [.v 103 .bool] .z .z) .z)))) (.p (.p .z (.ls [.v 6 .int] [] [] 6 .z)) (.p (.p .z (.ls [.v 7 .int] [] [] 8 (.p .z (.p (.p .z (.j0 [.v 164 .bool] .z .z)) .z)))) (.p (.p .z (.ls [.v 9 .int] [] [] 10 .z)) .z))))))))
noncomputable def cs_54:List (Con Tryz.prog):=[]
noncomputable def cl_54:List (Cpy Tryz.prog):=[]
noncomputable def cx_54:Cx Tryz.prog:=cxC cs_54 cl_54
noncomputable def mq_ (a0:ad_):Option (Bool×Unit) :=
 (((cond (decide (12<(a0.1.length:Int)))
 (some (true,()))
 (cond (decide (15<(a0.2.1.length:Int)))
 (some (true,()))
 (cond (decide (14<(a0.2.2.1.length:Int)))
 (some (true,()))
 (cond (decide (20<(a0.2.2.2.1.length:Int)))
 (some (true,()))
 (cond (decide (30<(a0.2.2.2.2.1.length:Int)))
 (some (true,()))
 (cond (decide (15<(a0.2.2.2.2.2.1.length:Int)))
 (some (true,()))
 (some ((decide (20<(a0.2.2.2.2.2.2.2.length:Int))),()))))))))).bind fun v0 =>
 (cond v0.1
 (some (true,()))
 ((af_ (ρ:=(Unit⊕(Bool×Unit))) (fun (v1:(Int×Unit)) =>
 (cond (decide (v1.1<(a0.1.length:Int)))
 ((at? a0.1 v1.1).bind fun v2 =>
 (cond (decide (100<(v2.length:Int)))
 (some (Sum.inr (Sum.inr (true,()))))
 (some (Sum.inl ((w64 (v1.1+1)),())))))
 (some (Sum.inr (Sum.inl ()))))) (0,())).bind fun v3 =>
 (ca_ v3 (fun v4=>((af_ (ρ:=(Unit⊕(Bool×Unit))) (fun (v6:(Int×Unit)) =>
 (cond (decide (v6.1<(a0.2.1.length:Int)))
 ((at? a0.2.1 v6.1).bind fun v7 =>
 (cond (decide (100<(v7.1.length:Int)))
 (some (Sum.inr (Sum.inr (true,()))))
 (some (Sum.inl ((w64 (v6.1+1)),())))))
 (some (Sum.inr (Sum.inl ()))))) (0,())).bind fun v8 =>
 (ca_ v8 (fun v9=>((af_ (ρ:=(Unit⊕(Bool×Unit))) (fun (v11:(Int×Unit)) =>
 (cond (decide (v11.1<(a0.2.2.1.length:Int)))
 ((((at? a0.2.2.1 v11.1).bind fun v12 =>
 (cond (decide (100<(v12.1.length:Int)))
 (some (true,()))
 ((at? a0.2.2.1 v11.1).bind fun v13 =>
 (some ((decide (20<(v13.2.2.length:Int))),())))))).bind fun v14 =>
 (cond v14.1
 (some (Sum.inr (Sum.inr (true,()))))
 (some (Sum.inl ((w64 (v11.1+1)),())))))
 (some (Sum.inr (Sum.inl ()))))) (0,())).bind fun v15 =>
 (ca_ v15 (fun v16=>((af_ (ρ:=(Unit⊕(Bool×Unit))) (fun (v18:(Int×Unit)) =>
 (cond (decide (v18.1<(a0.2.2.2.1.length:Int)))
 ((at? a0.2.2.2.1 v18.1).bind fun v19 =>
 (cond (decide (20<(v19.2.2.length:Int)))
 (some (Sum.inr (Sum.inr (true,()))))
 (some (Sum.inl ((w64 (v18.1+1)),())))))
 (some (Sum.inr (Sum.inl ()))))) (0,())).bind fun v20 =>
 (ca_ v20 (fun v21=>((af_ (ρ:=(Unit⊕(Bool×Unit))) (fun (v23:(Int×Unit)) =>
 (cond (decide (v23.1<(a0.2.2.2.2.1.length:Int)))
 ((at? a0.2.2.2.2.1 v23.1).bind fun v24 =>
 (((cond (decide (100<(v24.1.length:Int)))
 (some (true,()))
 (cond (decide (20<(v24.2.2.2.2.1.length:Int)))
 (some (true,()))
 (cond (decide (20<(v24.2.2.2.1.length:Int)))
 (some (true,()))
 (cond (decide (20<(v24.2.2.2.2.2.1.length:Int)))
 (some (true,()))
 (cond (decide (20<(v24.2.2.2.2.2.2.1.length:Int)))
 (some (true,()))
 (some ((decide (20<(v24.2.2.2.2.2.2.2.length:Int))),())))))))).bind fun v25 =>
 (cond v25.1
 (some (Sum.inr (Sum.inr (true,()))))
 (some (Sum.inl ((w64 (v23.1+1)),()))))))
 (some (Sum.inr (Sum.inl ()))))) (0,())).bind fun v26 =>
 (ca_ v26 (fun v27=>((af_ (ρ:=(Unit⊕(Bool×Unit))) (fun (v29:(Int×Unit)) =>
 (cond (decide (v29.1<(a0.2.2.2.2.2.1.length:Int)))
 ((at? a0.2.2.2.2.2.1 v29.1).bind fun v30 =>
 (cond (decide (20<(v30.1.length:Int)))
 (some (Sum.inr (Sum.inr (true,()))))
 (some (Sum.inl ((w64 (v29.1+1)),())))))
 (some (Sum.inr (Sum.inl ()))))) (0,())).bind fun v31 =>
 (ca_ v31 (fun v32=>(some (false,())))
 (fun v33=>(some v33)))))
 (fun v28=>(some v28)))))
 (fun v22=>(some v22)))))
 (fun v17=>(some v17)))))
 (fun v10=>(some v10)))))
 (fun v5=>(some v5))))))
theorem x_54:au_ cx_54 an_54 54 [an_] [.bool]=fun x=>mq_ x.1:=by kernel_rfl
noncomputable def c_54:Con Tryz.prog:=aw_ _ _ 54 [an_] [.bool] _ x_54
def an_96:An:=.z
noncomputable def cs_96:List (Con Tryz.prog):=[]
noncomputable def cl_96:List (Cpy Tryz.prog):=[]
noncomputable def cx_96:Cx Tryz.prog:=cxC cs_96 cl_96
noncomputable def bp_ (a0:Int) (a1:Int) (a2:Int):Option (Bool×Unit) :=
 (cond (decide (a1≤a0))
 (some ((decide (a0≤a2)),()))
 (some (false,())))
theorem x_96:au_ cx_96 an_96 96 [.int,.int,.int] [.bool]=fun x=>bp_ x.1 x.2.1 x.2.2.1:=by kernel_rfl
noncomputable def c_96:Con Tryz.prog:=aw_ _ _ 96 [.int,.int,.int] [.bool] _ x_96
def an_174:An:=.z
noncomputable def cs_174:List (Con Tryz.prog):=[]
noncomputable def cl_174:List (Cpy Tryz.prog):=[]
noncomputable def cx_174:Cx Tryz.prog:=cxC cs_174 cl_174
noncomputable def f_ref02_words  : Option ((List (List UInt8))×Unit) :=
 (some ([[97,116],[115,116,97,116,101,115],[115,116,97,114,116],[103,111,110,101],[105,102],[108,111,99,107],[119,105,116,104],[115,101,116,115],[115,112,101,110,100,115],[98,114,105,110,103,115]],()))
theorem x_174:au_ cx_174 an_174 174 [] [(.list .str)]=fun x=>f_ref02_words:=by kernel_rfl
noncomputable def c_174:Con Tryz.prog:=aw_ _ _ 174 [] [(.list .str)] _ x_174
def an_94:An:=(.p .z (.p (.p .z (.ls [.v 5 .int] [] [] 0 (.p .z (.p (.p (.q [] .z .z) .z) .z)))) .z))
noncomputable def cs_94:List (Con Tryz.prog):=[]
noncomputable def cl_94:List (Cpy Tryz.prog):=[]
noncomputable def cx_94:Cx Tryz.prog:=cxC cs_94 cl_94
noncomputable def fj_ (a0:(List (List UInt8))) (a1:Int):Option (Bool×Unit) :=
 ((af_ (ρ:=(Unit⊕(Bool×Unit))) (fun (v0:(Int×Unit)) =>
 (cond (decide (v0.1<a1))
 ((at? a0 v0.1).bind fun v1 =>
 ((at? a0 a1).bind fun v2 =>
 (cond (v1==v2)
 (some (Sum.inr (Sum.inr (true,()))))
 (some (Sum.inl ((w64 (v0.1+1)),()))))))
 (some (Sum.inr (Sum.inl ()))))) (0,())).bind fun v3 =>
 (ca_ v3 (fun v4=>(some (false,())))
 (fun v5=>(some v5))))
theorem x_94:au_ cx_94 an_94 94 [(.list .str),.int] [.bool]=fun x=>fj_ x.1 x.2.1:=by kernel_rfl
noncomputable def c_94:Con Tryz.prog:=aw_ _ _ 94 [(.list .str),.int] [.bool] _ x_94
def an_136:An:=(.p .z (.p (.p .z (.ls [.v 5 .int] [] [] 0 .z)) .z))
noncomputable def cs_136:List (Con Tryz.prog):=[]
noncomputable def cl_136:List (Cpy Tryz.prog):=[]
noncomputable def cx_136:Cx Tryz.prog:=cxC cs_136 cl_136
noncomputable def lw_ (a0:(List Int)) (a1:Int):Option (Bool×Unit) :=
 ((af_ (ρ:=(Unit⊕(Bool×Unit))) (fun (v0:(Int×Unit)) =>
 (cond (decide (v0.1<(a0.length:Int)))
 ((at? a0 v0.1).bind fun v1 =>
 (cond (v1==a1)
 (some (Sum.inr (Sum.inr (true,()))))
 (some (Sum.inl ((w64 (v0.1+1)),())))))
 (some (Sum.inr (Sum.inl ()))))) (0,())).bind fun v2 =>
 (ca_ v2 (fun v3=>(some (false,())))
 (fun v4=>(some v4))))
theorem x_136:au_ cx_136 an_136 136 [(.list .int),.int] [.bool]=fun x=>lw_ x.1 x.2.1:=by kernel_rfl
noncomputable def c_136:Con Tryz.prog:=aw_ _ _ 136 [(.list .int),.int] [.bool] _ x_136
def an_99:An:=.z
noncomputable def cs_99:List (Con Tryz.prog):=[]
noncomputable def cl_99:List (Cpy Tryz.prog):=[]
noncomputable def cx_99:Cx Tryz.prog:=cxC cs_99 cl_99
noncomputable def bj_ (a0:Int) (a1:Int) (a2:Int):Option (Bool×Unit) :=
 (cond (decide (a1≤a0))
 (some ((decide (a0≤a2)),()))
 (some (false,())))
theorem x_99:au_ cx_99 an_99 99 [.int,.int,.int] [.bool]=fun x=>bj_ x.1 x.2.1 x.2.2.1:=by kernel_rfl
noncomputable def c_99:Con Tryz.prog:=aw_ _ _ 99 [.int,.int,.int] [.bool] _ x_99
def an_60:An:=.z
noncomputable def cs_60:List (Con Tryz.prog):=[]
noncomputable def cl_60:List (Cpy Tryz.prog):=[]
noncomputable def cx_60:Cx Tryz.prog:=cxC cs_60 cl_60
noncomputable def id_ (a0:Int) (a1:Int) (a2:Int):Option (Bool×Unit) :=
 (cond (decide (a1≤a0))
 (some ((decide (a0≤a2)),()))
 (some (false,())))
theorem x_60:au_ cx_60 an_60 60 [.int,.int,.int] [.bool]=fun x=>id_ x.1 x.2.1 x.2.2.1:=by kernel_rfl
noncomputable def c_60:Con Tryz.prog:=aw_ _ _ 60 [.int,.int,.int] [.bool] _ x_60
def an_101:An:=.z
noncomputable def cs_101:List (Con Tryz.prog):=[]
noncomputable def cl_101:List (Cpy Tryz.prog):=[]
noncomputable def cx_101:Cx Tryz.prog:=cxC cs_101 cl_101
noncomputable def ks_ (a0:ak_):Option (Bool×Unit) :=
 (cond (a0.1==0)
 (cond (a0.2.1==0)
 (cond (a0.2.2.1==0)
 (cond (a0.2.2.2.1==0)
 (cond (a0.2.2.2.2.1==0)
 (cond ((a0.2.2.2.2.2.1.length:Int)==0)
 (some ((!a0.2.2.2.2.2.2),()))
 (some (false,())))
 (some (false,())))
 (some (false,())))
 (some (false,())))
 (some (false,())))
 (some (false,())))
theorem x_101:au_ cx_101 an_101 101 [ap_] [.bool]=fun x=>ks_ x.1:=by kernel_rfl
noncomputable def c_101:Con Tryz.prog:=aw_ _ _ 101 [ap_] [.bool] _ x_101
def an_212:An:=(.p .z (.p .z (.p (.p .z (.ls [.v 5 .int] [] [] 0 (.p .z (.p (.p (.q [] .z .z) .z) .z)))) .z)))
noncomputable def cs_212:List (Con Tryz.prog):=[]
noncomputable def cl_212:List (Cpy Tryz.prog):=[]
noncomputable def cx_212:Cx Tryz.prog:=cxC cs_212 cl_212
noncomputable def gj_ (a0:(List Int)) (a1:(List Int)):Option (Bool×Unit) :=
 (cond ((a0.length:Int) != (a1.length:Int))
 (some (false,()))
 ((af_ (ρ:=(Unit⊕(Bool×Unit))) (fun (v0:(Int×Unit)) =>
 (cond (decide (v0.1<(a0.length:Int)))
 ((at? a0 v0.1).bind fun v1 =>
 ((at? a1 v0.1).bind fun v2 =>
 (cond (v1 != v2)
 (some (Sum.inr (Sum.inr (false,()))))
 (some (Sum.inl ((w64 (v0.1+1)),()))))))
 (some (Sum.inr (Sum.inl ()))))) (0,())).bind fun v3 =>
 (ca_ v3 (fun v4=>(some (true,())))
 (fun v5=>(some v5)))))
theorem x_212:au_ cx_212 an_212 212 [(.list .int),(.list .int)] [.bool]=fun x=>gj_ x.1 x.2.1:=by kernel_rfl
noncomputable def c_212:Con Tryz.prog:=aw_ _ _ 212 [(.list .int),(.list .int)] [.bool] _ x_212
def an_138:An:=(.p .z (.p .z (.p (.p .z (.lp [.v 5 .int,.v 6 .int] [.v 5 .int] [] 0 (.p .z (.j0 [.v 5 .int] .z .z)))) .z)))
noncomputable def cs_138:List (Con Tryz.prog):=[]
noncomputable def cl_138:List (Cpy Tryz.prog):=[]
noncomputable def cx_138:Cx Tryz.prog:=cxC cs_138 cl_138
noncomputable def eb_ (a0:(List Int)) (a1:Int):Option (Int×Unit) :=
 ((af_ (ρ:=(Int×Unit)) (fun (v0:(Int×(Int×Unit))) =>
 (cond (decide (v0.2.1<(a0.length:Int)))
 ((((at? a0 v0.2.1).bind fun v1 =>
 (cond (v1==a1)
 (some ((w64 (v0.1+1)),()))
 (some (v0.1,()))))).bind fun v2 =>
 (some (Sum.inl (v2.1,((w64 (v0.2.1+1)),())))))
 (some (Sum.inr (v0.1,()))))) (0,(0,()))).bind fun v3 =>
 (some (v3.1,())))
theorem x_138:au_ cx_138 an_138 138 [(.list .int),.int] [.int]=fun x=>eb_ x.1 x.2.1:=by kernel_rfl
noncomputable def c_138:Con Tryz.prog:=aw_ _ _ 138 [(.list .int),.int] [.int] _ x_138
def an_92:An:=(.p .z (.p (.p .z (.ls [.v 5 .int] [] [] 0 (.p .z (.p (.p (.q [] .z .z) .z) .z)))) .z))
noncomputable def cs_92:List (Con Tryz.prog):=[]
noncomputable def cl_92:List (Cpy Tryz.prog):=[]
noncomputable def cx_92:Cx Tryz.prog:=cxC cs_92 cl_92
noncomputable def bk_ (a0:ai_) (a1:(List bd_)):Option (Bool×Unit) :=
 ((af_ (ρ:=(Unit⊕(Bool×Unit))) (fun (v0:(Int×Unit)) =>
 (cond (decide (v0.1<(a1.length:Int)))
 ((at? a1 v0.1).bind fun v1 =>
 ((at? a0.1 v1.1).bind fun v2 =>
 ((at? a1 v0.1).bind fun v3 =>
 ((at? a1 v0.1).bind fun v4 =>
 (cond ((v2==v3.2.1)==v4.2.2)
 (some (Sum.inr (Sum.inr (false,()))))
 (some (Sum.inl ((w64 (v0.1+1)),()))))))))
 (some (Sum.inr (Sum.inl ()))))) (0,())).bind fun v5 =>
 (ca_ v5 (fun v6=>(some (true,())))
 (fun v7=>(some v7))))
theorem x_92:au_ cx_92 an_92 92 [aq_,(.list bx_)] [.bool]=fun x=>bk_ x.1 x.2.1:=by kernel_rfl
noncomputable def c_92:Con Tryz.prog:=aw_ _ _ 92 [aq_,(.list bx_)] [.bool] _ x_92
def an_132:An:=.z
noncomputable def cs_132:List (Con Tryz.prog):=[]
noncomputable def cl_132:List (Cpy Tryz.prog):=[]
noncomputable def cx_132:Cx Tryz.prog:=cxC cs_132 cl_132
noncomputable def fk_ (a0:ai_):Option (ai_×Unit) :=
 ((push? (α:=Int) [] a0.1).bind fun v0 =>
 ((push? (α:=Int) [] a0.2.1).bind fun v1 =>
 ((push? (α:=Int) [] a0.2.2).bind fun v2 =>
 (some ((v0,(v1,v2)),())))))
theorem x_132:au_ cx_132 an_132 132 [aq_] [aq_]=fun x=>fk_ x.1:=by kernel_rfl
noncomputable def c_132:Con Tryz.prog:=aw_ _ _ 132 [aq_] [aq_] _ x_132
def an_104:An:=.z
noncomputable def cs_104 (f:List (Con Tryz.prog)):List (Con Tryz.prog):=f++[]
noncomputable def cl_104:List (Cpy Tryz.prog):=[]
noncomputable def cx_104 (f:List (Con Tryz.prog)):Cx Tryz.prog:=cxC (cs_104 f) cl_104
noncomputable def g_104 (bz_:Int→Option ((List UInt8)×Unit)) (a0:Int):Option ((List UInt8)×Unit) :=
 ((sub? [48,49,50,51,52,53,54,55,56,57] (Int.tmod a0 10) (w64 ((Int.tmod a0 10)+1))).bind fun v0 =>
 (cond (decide (a0<10))
 (some (v0,()))
 ((bz_ (w64 (Int.tdiv a0 10))).bind fun v1 =>
 ((cat? v1.1 v0).bind fun v2 =>
 (some (v2,()))))))
theorem xr_104:(fun (F:Int→Option ((List UInt8)×Unit)) (h:ConOk Tryz.prog 104 [.int] [.str] (fun x=>F x.1))=>au_ (cx_104 [cnv 104 [.int] [.str] _ h]) an_104 104 [.int] [.str])=fun F h x=>g_104 F x.1:=by kernel_rfl
noncomputable def dk_:Nat→Int→Option ((List UInt8)×Unit)
  | 0=>fun _=>none
  | n+1=>g_104 (dk_ n)
theorem ok_104:∀ n,ConOk Tryz.prog 104 [.int] [.str] (fun x=>dk_ n x.1)
  | 0=>fun _ _ _ h=>(by cases h)
  | n+1=>fun hG hI ha h=>(aw_ _ _ 104 [.int] [.str] _ (congrFun (congrFun xr_104 (dk_ n)) (ok_104 n))).ok hG hI ha h
noncomputable def bz_ (a0:Int):Option ((List UInt8)×Unit):=dk_ 20 a0
noncomputable def c_104:Con Tryz.prog:=cnv 104 [.int] [.str] (fun x=>bz_ x.1) (ok_104 20)
def an_176:An:=(.p .z (.p .z (.p (.p .z (.lp [.v 5 .int,.v 6 .int] [.v 5 .int] [] 0 (.p .z (.j0 [.v 5 .int] .z .z)))) .z)))
noncomputable def cs_176:List (Con Tryz.prog):=[]
noncomputable def cl_176:List (Cpy Tryz.prog):=[]
noncomputable def cx_176:Cx Tryz.prog:=cxC cs_176 cl_176
noncomputable def gr_ (a0:ai_) (a1:Int):Option (Int×Unit) :=
 ((af_ (ρ:=(Int×Unit)) (fun (v0:(Int×(Int×Unit))) =>
 (cond (decide (v0.2.1<(a0.2.1.length:Int)))
 ((((at? a0.2.1 v0.2.1).bind fun v1 =>
 (cond (v1==(w64 ((-2) - a1)))
 (some ((w64 (v0.1+1)),()))
 (some (v0.1,()))))).bind fun v2 =>
 (some (Sum.inl (v2.1,((w64 (v0.2.1+1)),())))))
 (some (Sum.inr (v0.1,()))))) (0,(0,()))).bind fun v3 =>
 (some (v3.1,())))
theorem x_176:au_ cx_176 an_176 176 [aq_,.int] [.int]=fun x=>gr_ x.1 x.2.1:=by kernel_rfl
noncomputable def c_176:Con Tryz.prog:=aw_ _ _ 176 [aq_,.int] [.int] _ x_176
def an_214:An:=(.p .z (.p .z (.p (.p .z (.lp [.r 5 ap_ 83,.v 6 .int] [.r 5 ap_ 83] [] 0 .z)) .z)))
noncomputable def cs_214:List (Con Tryz.prog):=[]
noncomputable def cl_214:List (Cpy Tryz.prog):=[]
noncomputable def cx_214:Cx Tryz.prog:=cxC cs_214 cl_214
noncomputable def ix_ (a0:ac_) (a1:(List Int)):Option ((List ak_)×Unit) :=
 ((af_ (ρ:=((List ak_)×Unit)) (fun (v0:((List ak_)×(Int×Unit))) =>
 (cond (decide (v0.2.1<(a1.length:Int)))
 ((at? a1 v0.2.1).bind fun v1 =>
 ((at? a0.2.2.2.1 v1).bind fun v2 =>
 ((push? (α:=ak_) v0.1 [v2.2.2.2.2]).bind fun v3 =>
 (some (Sum.inl (v3,((w64 (v0.2.1+1)),())))))))
 (some (Sum.inr (v0.1,()))))) ([],(0,()))).bind fun v4 =>
 (some (v4.1,())))
theorem x_214:au_ cx_214 an_214 214 [ao_,(.list .int)] [(.list ap_)]=fun x=>ix_ x.1 x.2.1:=by kernel_rfl
noncomputable def c_214:Con Tryz.prog:=aw_ _ _ 214 [ao_,(.list .int)] [(.list ap_)] _ x_214
def an_178:An:=(.p .z (.p .z (.p (.p .z (.lp [.r 7 .int 3,.v 8 .int] [.r 7 .int 3] [] 0 (.p .z (.j0 [.r 7 .int 3] (.j0 [.v 30 .bool] .z .z) .z)))) .z)))
noncomputable def cs_178:List (Con Tryz.prog):=[]
noncomputable def cl_178:List (Cpy Tryz.prog):=[]
noncomputable def cx_178:Cx Tryz.prog:=cxC cs_178 cl_178
noncomputable def hb_ (a0:ac_) (a1:aa_) (a2:Int):Option ((List Int)×Unit) :=
 ((af_ (ρ:=((List Int)×Unit)) (fun (v0:((List Int)×(Int×Unit))) =>
 (cond (decide (v0.2.1<(a0.2.2.2.1.length:Int)))
 ((((((at? a1.2 v0.2.1).bind fun v1 =>
 (cond v1
 ((at? a0.2.2.2.1 v0.2.1).bind fun v2 =>
 (some ((v2.2.2.1==a2),())))
 (some (false,()))))).bind fun v3 =>
 (cond v3.1
 ((push? (α:=Int) v0.1 [v0.2.1]).bind fun v4 =>
 (some (v4,())))
 (some (v0.1,()))))).bind fun v5 =>
 (some (Sum.inl (v5.1,((w64 (v0.2.1+1)),())))))
 (some (Sum.inr (v0.1,()))))) ([],(0,()))).bind fun v6 =>
 (some (v6.1,())))
theorem x_178:au_ cx_178 an_178 178 [ao_,aj_,.int] [(.list .int)]=fun x=>hb_ x.1 x.2.1 x.2.2.1:=by kernel_rfl
noncomputable def c_178:Con Tryz.prog:=aw_ _ _ 178 [ao_,aj_,.int] [(.list .int)] _ x_178
def an_63:An:=.z
noncomputable def cs_63:List (Con Tryz.prog):=[]
noncomputable def cl_63:List (Cpy Tryz.prog):=[]
noncomputable def cx_63:Cx Tryz.prog:=cxC cs_63 cl_63
noncomputable def wr_  : Option (ad_×Unit) :=
 (some (([[104,97,108,108],[118,97,117,108,116]],([([98,111,120],(0,(2,0))),([100,111,111,114],(0,(2,0)))],([([107,101,121],(0,[(0,(1,false))]))],([(0,(1,[(1,(1,false))]))],([([111,112,101,110],(0,(0,([],([],([(0,1)],([],[]))))))),([116,117,114,110],(0,((-1),([0],([],([(1,1)],([0],[])))))))],([],(1,[]))))))),()))
theorem x_63:au_ cx_63 an_63 63 [] [an_]=fun x=>wr_:=by kernel_rfl
noncomputable def c_63:Con Tryz.prog:=aw_ _ _ 63 [] [an_] _ x_63
def an_145:An:=.z
noncomputable def cs_145:List (Con Tryz.prog):=[]
noncomputable def cl_145:List (Cpy Tryz.prog):=[]
noncomputable def cx_145:Cx Tryz.prog:=cxC cs_145 cl_145
noncomputable def bc_ (a0:Int) (a1:Int) (a2:Int):Option (Bool×Unit) :=
 (cond (decide (a1≤a0))
 (some ((decide (a0≤a2)),()))
 (some (false,())))
theorem x_145:au_ cx_145 an_145 145 [.int,.int,.int] [.bool]=fun x=>bc_ x.1 x.2.1 x.2.2.1:=by kernel_rfl
noncomputable def c_145:Con Tryz.prog:=aw_ _ _ 145 [.int,.int,.int] [.bool] _ x_145
def an_241:An:=(.p .z (.p (.p .z (.ls [.v 8 .int] [] [] 0 .z)) .z))
noncomputable def cs_241:List (Con Tryz.prog):=[]
noncomputable def cl_241:List (Cpy Tryz.prog):=[]
noncomputable def cx_241:Cx Tryz.prog:=cxC cs_241 cl_241
noncomputable def dm_ (a0:(List (List UInt8))) (a1:(List UInt8)):Option (Int×Unit) :=
 ((af_ (ρ:=(Unit⊕(Int×Unit))) (fun (v0:(Int×Unit)) =>
 (cond (decide (v0.1<(a0.length:Int)))
 ((at? a0 v0.1).bind fun v1 =>
 (cond (a1==v1)
 (some (Sum.inr (Sum.inr (v0.1,()))))
 (some (Sum.inl ((w64 (v0.1+1)),())))))
 (some (Sum.inr (Sum.inl ()))))) (0,())).bind fun v2 =>
 (ca_ v2 (fun v3=>(some ((-1),())))
 (fun v4=>(some v4))))
theorem x_241:au_ cx_241 an_241 241 [(.list .str),.str] [.int]=fun x=>dm_ x.1 x.2.1:=by kernel_rfl
noncomputable def c_241:Con Tryz.prog:=aw_ _ _ 241 [(.list .str),.str] [.int] _ x_241
def an_157:An:=.z
noncomputable def cs_157:List (Con Tryz.prog):=[]
noncomputable def cl_157:List (Cpy Tryz.prog):=[]
noncomputable def cx_157:Cx Tryz.prog:=cxC cs_157 cl_157
noncomputable def ts_ (a0:(List UInt8)):Option ((List UInt8)×Unit) :=
 (some (a0,()))
theorem x_157:au_ cx_157 an_157 157 [.str] [.str]=fun x=>ts_ x.1:=by kernel_rfl
noncomputable def c_157:Con Tryz.prog:=aw_ _ _ 157 [.str] [.str] _ x_157
def an_159:An:=.z
noncomputable def cs_159:List (Con Tryz.prog):=[]
noncomputable def cl_159:List (Cpy Tryz.prog):=[]
noncomputable def cx_159:Cx Tryz.prog:=cxC cs_159 cl_159
noncomputable def tr_ (a0:gn_):Option ((List UInt8)×Unit) :=
 (some (a0.1,()))
theorem x_159:au_ cx_159 an_159 159 [pp_] [.str]=fun x=>tr_ x.1:=by kernel_rfl
noncomputable def c_159:Con Tryz.prog:=aw_ _ _ 159 [pp_] [.str] _ x_159
def an_161:An:=.z
noncomputable def cs_161:List (Con Tryz.prog):=[]
noncomputable def cl_161:List (Cpy Tryz.prog):=[]
noncomputable def cx_161:Cx Tryz.prog:=cxC cs_161 cl_161
noncomputable def wp_ (a0:jl_):Option ((List UInt8)×Unit) :=
 (some (a0.1,()))
theorem x_161:au_ cx_161 an_161 161 [ol_] [.str]=fun x=>wp_ x.1:=by kernel_rfl
noncomputable def c_161:Con Tryz.prog:=aw_ _ _ 161 [ol_] [.str] _ x_161
def an_198:An:=.z
noncomputable def cs_198:List (Con Tryz.prog):=[]
noncomputable def cl_198:List (Cpy Tryz.prog):=[]
noncomputable def cx_198:Cx Tryz.prog:=cxC cs_198 cl_198
noncomputable def xr_ (a0:cr_):Option ((List UInt8)×Unit) :=
 (some (a0.1,()))
theorem x_198:au_ cx_198 an_198 198 [lo_] [.str]=fun x=>xr_ x.1:=by kernel_rfl
noncomputable def c_198:Con Tryz.prog:=aw_ _ _ 198 [lo_] [.str] _ x_198
def an_199:An:=(.p .z (.p .z (.p (.p .z (.ls [.v 5 .int,.v 10 .int] [] [] 0 (.p .z (.p .z (.p (.p .z (.p (.j0 [.v 23 .bool] .z .z) .z)) .z))))) .z)))
noncomputable def cs_199:List (Con Tryz.prog):=[]
noncomputable def cl_199:List (Cpy Tryz.prog):=[]
noncomputable def cx_199:Cx Tryz.prog:=cxC cs_199 cl_199
noncomputable def gq_ (a0:ad_) (a1:(List Int)):Option (Bool×Unit) :=
 ((af_ (ρ:=(Unit⊕(Bool×Unit))) (fun (v0:(Int×(Int×Unit))) =>
 (cond (decide (v0.2.1<(a1.length:Int)))
 ((at? a1 v0.2.1).bind fun v1 =>
 (((cond (decide (v1≤v0.1))
 (some (true,()))
 (some ((decide ((a0.2.2.1.length:Int)≤v1)),())))).bind fun v2 =>
 (cond v2.1
 (some (Sum.inr (Sum.inr (false,()))))
 (some (Sum.inl (v1,((w64 (v0.2.1+1)),())))))))
 (some (Sum.inr (Sum.inl ()))))) ((-1),(0,()))).bind fun v3 =>
 (ca_ v3 (fun v4=>(some (true,())))
 (fun v5=>(some v5))))
theorem x_199:au_ cx_199 an_199 199 [an_,(.list .int)] [.bool]=fun x=>gq_ x.1 x.2.1:=by kernel_rfl
noncomputable def c_199:Con Tryz.prog:=aw_ _ _ 199 [an_,(.list .int)] [.bool] _ x_199
def an_173:An:=(.p .z (.p (.p .z (.ls [.v 8 .int] [] [] 0 .z)) .z))
noncomputable def cs_173:List (Con Tryz.prog):=[]
noncomputable def cl_173:List (Cpy Tryz.prog):=[]
noncomputable def cx_173:Cx Tryz.prog:=cxC cs_173 cl_173
noncomputable def ek_ (a0:(List Int)) (a1:Int):Option (Int×Unit) :=
 ((af_ (ρ:=(Unit⊕(Int×Unit))) (fun (v0:(Int×Unit)) =>
 (cond (decide (v0.1<(a0.length:Int)))
 ((at? a0 v0.1).bind fun v1 =>
 (cond (a1==v1)
 (some (Sum.inr (Sum.inr (v0.1,()))))
 (some (Sum.inl ((w64 (v0.1+1)),())))))
 (some (Sum.inr (Sum.inl ()))))) (0,())).bind fun v2 =>
 (ca_ v2 (fun v3=>(some ((-1),())))
 (fun v4=>(some v4))))
theorem x_173:au_ cx_173 an_173 173 [(.list .int),.int] [.int]=fun x=>ek_ x.1 x.2.1:=by kernel_rfl
noncomputable def c_173:Con Tryz.prog:=aw_ _ _ 173 [(.list .int),.int] [.int] _ x_173
def an_110:An:=.z
def at_110:FuncId→An:=fun k=>cond (Nat.beq k 146) (.p .z (.j0 [.v 4 .bool] .z .z)) (cond (Nat.beq k 147) (.p .z (.p (.q [] .z .z) .z)) (cond (Nat.beq k 179) (.p .z (.p (.p .z (.ls [.v 8 .int] [] [] 0 .z)) .z)) (.z)))
noncomputable def cs_110:List (Con Tryz.prog):=[]
noncomputable def cl_110:List (Cpy Tryz.prog):=[]
noncomputable def cx_110:Cx Tryz.prog:=cxI at_110 (fun k=>false) (cxC cs_110 cl_110) 4
noncomputable def ba_ (a0:gx_) (a1:(List bd_)):Option (Bool×Unit) :=
 ((((af_ (ρ:=(Unit⊕(Bool×Unit))) (fun (v0:(Int×Unit)) =>
 (cond (decide (v0.1<(a1.length:Int)))
 ((at? a1 v0.1).bind fun v1 =>
 ((at? a0.2.1 v1.1).bind fun v2 =>
 (cond ((v2==v1.2.1)==v1.2.2)
 (some (Sum.inr (Sum.inr ((decide (0≤v0.1)),()))))
 (some (Sum.inl ((w64 (v0.1+1)),()))))))
 (some (Sum.inr (Sum.inl ()))))) (0,())).bind fun v3 =>
 (ca_ v3 (fun v4=>(some ((decide (0≤(-1))),())))
 (fun v5=>(some v5))))).bind fun v6 =>
 (some ((!v6.1),())))
theorem x_110:au_ cx_110 an_110 110 [(.ref es_),(.list bx_)] [.bool]=fun x=>ba_ x.1 x.2.1:=by kernel_rfl
noncomputable def c_110:Con Tryz.prog:=aw_ _ _ 110 [(.ref es_),(.list bx_)] [.bool] _ x_110
def an_164:An:=.z
noncomputable def cs_164:List (Con Tryz.prog):=[]
noncomputable def cl_164:List (Cpy Tryz.prog):=[]
noncomputable def cx_164:Cx Tryz.prog:=cxC cs_164 cl_164
noncomputable def bu_ (a0:Int) (a1:Int) (a2:Int):Option (Bool×Unit) :=
 (cond (decide (a1≤a0))
 (some ((decide (a0≤a2)),()))
 (some (false,())))
theorem x_164:au_ cx_164 an_164 164 [.int,.int,.int] [.bool]=fun x=>bu_ x.1 x.2.1 x.2.2.1:=by kernel_rfl
noncomputable def c_164:Con Tryz.prog:=aw_ _ _ 164 [.int,.int,.int] [.bool] _ x_164
def an_123:An:=.z
noncomputable def cs_123:List (Con Tryz.prog):=[]
noncomputable def cl_123:List (Cpy Tryz.prog):=[]
noncomputable def cx_123:Cx Tryz.prog:=cxC cs_123 cl_123
noncomputable def bw_ (a0:Int) (a1:Int) (a2:Int):Option (Bool×Unit) :=
 (cond (decide (a1≤a0))
 (some ((decide (a0≤a2)),()))
 (some (false,())))
theorem x_123:au_ cx_123 an_123 123 [.int,.int,.int] [.bool]=fun x=>bw_ x.1 x.2.1 x.2.2.1:=by kernel_rfl
noncomputable def c_123:Con Tryz.prog:=aw_ _ _ 123 [.int,.int,.int] [.bool] _ x_123
def an_168:An:=(.p .z (.p (.p .z (.j0 [.v 5 .bool] .z .z)) (.p (.p .z (.ls [.v 19 .int] [] [] 1 (.p .z (.p .z (.p (.p .z (.j0 [.v 31 .bool] .z .z)) .z))))) .z)))
noncomputable def cs_168:List (Con Tryz.prog):=[]
noncomputable def cl_168:List (Cpy Tryz.prog):=[]
noncomputable def cx_168:Cx Tryz.prog:=cxC cs_168 cl_168
noncomputable def mp_ (a0:(List UInt8)):Option (Bool×Unit) :=
 (((cond (a0==[])
 (some ((a0==[]),()))
 (cond (a0==[97,116])
 (some ((a0==[97,116]),()))
 (cond (a0==[115,116,97,116,101,115])
 (some ((a0==[115,116,97,116,101,115]),()))
 (cond (a0==[115,116,97,114,116])
 (some ((a0==[115,116,97,114,116]),()))
 (cond (a0==[103,111,110,101])
 (some ((a0==[103,111,110,101]),()))
 (cond (a0==[105,102])
 (some ((a0==[105,102]),()))
 (cond (a0==[108,111,99,107])
 (some ((a0==[108,111,99,107]),()))
 (cond (a0==[119,105,116,104])
 (some ((a0==[119,105,116,104]),()))
 (cond (a0==[115,101,116,115])
 (some ((a0==[115,101,116,115]),()))
 (cond (a0==[115,112,101,110,100,115])
 (some ((a0==[115,112,101,110,100,115]),()))
 (some ((a0==[98,114,105,110,103,115]),()))))))))))))).bind fun v0 =>
 (cond v0.1
 (some (false,()))
 ((af_ (ρ:=(Unit⊕(Bool×Unit))) (fun (v1:(Int×Unit)) =>
 (cond (decide (v1.1<(a0.length:Int)))
 ((((at? a0 v1.1).bind fun v2 =>
 (cond (decide (((UInt8.toNat v2):Int)<97))
 (some (true,()))
 ((at? a0 v1.1).bind fun v3 =>
 (some ((decide (122<((UInt8.toNat v3):Int))),())))))).bind fun v4 =>
 (cond v4.1
 (some (Sum.inr (Sum.inr (false,()))))
 (some (Sum.inl ((w64 (v1.1+1)),())))))
 (some (Sum.inr (Sum.inl ()))))) (0,())).bind fun v5 =>
 (ca_ v5 (fun v6=>(some (true,())))
 (fun v7=>(some v7))))))
theorem x_168:au_ cx_168 an_168 168 [.str] [.bool]=fun x=>mp_ x.1:=by kernel_rfl
noncomputable def c_168:Con Tryz.prog:=aw_ _ _ 168 [.str] [.bool] _ x_168
def an_169:An:=.z
noncomputable def cs_169:List (Con Tryz.prog):=[]
noncomputable def cl_169:List (Cpy Tryz.prog):=[]
noncomputable def cx_169:Cx Tryz.prog:=cxC cs_169 cl_169
noncomputable def ka_ (a0:ak_):Option (Bool×Unit) :=
 (cond (a0.1==0)
 (cond (a0.2.1==0)
 (cond (a0.2.2.1==0)
 (cond (a0.2.2.2.1==0)
 (cond (a0.2.2.2.2.1==0)
 (cond ((a0.2.2.2.2.2.1.length:Int)==0)
 (some ((!a0.2.2.2.2.2.2),()))
 (some (false,())))
 (some (false,())))
 (some (false,())))
 (some (false,())))
 (some (false,())))
 (some (false,())))
theorem x_169:au_ cx_169 an_169 169 [ap_] [.bool]=fun x=>ka_ x.1:=by kernel_rfl
noncomputable def c_169:Con Tryz.prog:=aw_ _ _ 169 [ap_] [.bool] _ x_169
def an_245:An:=(.p .z (.p .z (.p (.p .z (.lp [.v 4 .int,.v 13 .int] [.v 4 .int] [.o (.s 6) .int,.o (.s 7) .int] 0 (.p .z (.p .z (.p (.p .z (.j0 [.v 4 .int] .z .z)) .z))))) (.p (.p .z (.lp [.v 5 .int,.v 40 .int] [.v 5 .int] [] 2 .z)) .z))))
noncomputable def cs_245:List (Con Tryz.prog):=[]
noncomputable def cl_245:List (Cpy Tryz.prog):=[]
noncomputable def cx_245:Cx Tryz.prog:=cxC cs_245 cl_245
noncomputable def hx_ (a0:(List Int)) (a1:(List Int)):Option (Int×Int×Unit) :=
 ((af_ (ρ:=(Int×((List Int)×((List Int)×Unit)))) (fun (v0:(Int×(Int×((List Int)×((List Int)×Unit))))) =>
 (cond (decide (v0.2.1<(a0.length:Int)))
 ((at? a0 v0.2.1).bind fun v1 =>
 ((((at? a1 v0.2.1).bind fun v2 =>
 (cond (v1==v2)
 (some ((w64 (v0.1+1)),()))
 (some (v0.1,()))))).bind fun v3 =>
 (cond (decide (v1<(10:Int)))
 ((at? v0.2.2.1 v1).bind fun v4 =>
 ((at? v0.2.2.1 v1).bind fun v5 =>
 (cond (decide (v1<(10:Int)))
 ((at? v0.2.2.1 v1).bind fun v6 =>
 ((at? v0.2.2.1 v1).bind fun v7 =>
 ((at? a1 v0.2.1).bind fun v8 =>
 (cond (decide (v8<(10:Int)))
 ((at? v0.2.2.2.1 v8).bind fun v9 =>
 ((at? v0.2.2.2.1 v8).bind fun v10 =>
 (cond (decide (v8<(10:Int)))
 ((at? v0.2.2.2.1 v8).bind fun v11 =>
 ((at? v0.2.2.2.1 v8).bind fun v12 =>
 (some (Sum.inl (v3.1,((w64 (v0.2.1+1)),((v0.2.2.1.set v1.toNat (w64 (v5+1))),((v0.2.2.2.1.set v8.toNat (w64 (v10+1))),()))))))))
 none)))
 none))))
 none)))
 none)))
 (some (Sum.inr (v0.1,(v0.2.2.1,(v0.2.2.2.1,()))))))) (0,(0,([0,0,0,0,0,0,0,0,0,0],([0,0,0,0,0,0,0,0,0,0],()))))).bind fun v13 =>
 ((af_ (ρ:=(Int×Unit)) (fun (v14:(Int×(Int×Unit))) =>
 (cond (decide (v14.2.1<10))
 (cond (decide (v14.2.1<(10:Int)))
 ((at? v13.2.1 v14.2.1).bind fun v15 =>
 ((at? v13.2.1 v14.2.1).bind fun v16 =>
 (cond (decide (v14.2.1<(10:Int)))
 ((at? v13.2.2.1 v14.2.1).bind fun v17 =>
 ((at? v13.2.2.1 v14.2.1).bind fun v18 =>
 (some (Sum.inl ((w64 (v14.1+(minI v16 v18))),((w64 (v14.2.1+1)),()))))))
 none)))
 none)
 (some (Sum.inr (v14.1,()))))) (0,(0,()))).bind fun v19 =>
 (some (v13.1,((w64 (v19.1 - v13.1)),())))))
theorem x_245:au_ cx_245 an_245 245 [(.list .int),(.list .int)] [.int,.int]=fun x=>hx_ x.1 x.2.1:=by kernel_rfl
noncomputable def c_245:Con Tryz.prog:=aw_ _ _ 245 [(.list .int),(.list .int)] [.int,.int] _ x_245
def an_149:An:=(.p .z (.p .z (.p (.p .z (.lp [.v 3 .str,.v 9 .int] [.v 3 .str] [] 0 .z)) .z)))
noncomputable def cs_149:List (Con Tryz.prog):=[c_183]
noncomputable def cl_149:List (Cpy Tryz.prog):=[]
noncomputable def cx_149:Cx Tryz.prog:=cxC cs_149 cl_149
noncomputable def kx_ (a0:aa_):Option ((List UInt8)×Unit) :=
 ((af_ (ρ:=((List UInt8)×Unit)) (fun (v0:((List UInt8)×(Int×Unit))) =>
 (cond (decide (v0.2.1<(a0.2.length:Int)))
 ((at? a0.2 v0.2.1).bind fun v1 =>
 ((ds_ v1).bind fun v2 =>
 ((cat? v2.1 [32]).bind fun v3 =>
 ((cat? v0.1 v3).bind fun v4 =>
 (some (Sum.inl (v4,((w64 (v0.2.1+1)),()))))))))
 (some (Sum.inr (v0.1,()))))) ([],(0,()))).bind fun v5 =>
 (some (v5.1,())))
theorem x_149:au_ cx_149 an_149 149 [aj_] [.str]=fun x=>kx_ x.1:=by kernel_rfl
noncomputable def c_149:Con Tryz.prog:=aw_ _ _ 149 [aj_] [.str] _ x_149
def an_189:An:=(.p .z (.p (.p .z (.lp [.v 4 .int,.v 13 .int] [.v 4 .int] [] 0 (.p .z (.p .z (.j0 [.v 4 .int] .z .z))))) .z))
noncomputable def cs_189:List (Con Tryz.prog):=[]
noncomputable def cl_189:List (Cpy Tryz.prog):=[]
noncomputable def cx_189:Cx Tryz.prog:=cxC cs_189 cl_189
noncomputable def dc_ (a0:gx_) (a1:Int):Option (Int×Unit) :=
 ((af_ (ρ:=(Int×Unit)) (fun (v0:(Int×(Int×Unit))) =>
 (cond (decide (v0.2.1<(a0.2.2.1.length:Int)))
 ((((at? a0.2.2.1 v0.2.1).bind fun v1 =>
 (cond (v1==(w64 ((-2) - a1)))
 (some ((w64 (v0.1+1)),()))
 (some (v0.1,()))))).bind fun v2 =>
 (some (Sum.inl (v2.1,((w64 (v0.2.1+1)),())))))
 (some (Sum.inr (v0.1,()))))) (0,(0,()))).bind fun v3 =>
 (some (v3.1,())))
theorem x_189:au_ cx_189 an_189 189 [(.ref es_),.int] [.int]=fun x=>dc_ x.1 x.2.1:=by kernel_rfl
noncomputable def c_189:Con Tryz.prog:=aw_ _ _ 189 [(.ref es_),.int] [.int] _ x_189
def an_64:An:=.z
noncomputable def cs_64:List (Con Tryz.prog):=[]
noncomputable def cl_64:List (Cpy Tryz.prog):=[]
noncomputable def cx_64:Cx Tryz.prog:=cxC cs_64 cl_64
noncomputable def f_prove_every (a0:ae_):Option (Bool×Unit) :=
 (some (true,()))
theorem x_64:au_ cx_64 an_64 64 [ci_] [.bool]=fun x=>f_prove_every x.1:=by kernel_rfl
noncomputable def c_64:Con Tryz.prog:=aw_ _ _ 64 [ci_] [.bool] _ x_64
def an_68:An:=.z
noncomputable def cs_68:List (Con Tryz.prog):=[]
noncomputable def cl_68:List (Cpy Tryz.prog):=[]
noncomputable def cx_68:Cx Tryz.prog:=cxC cs_68 cl_68
noncomputable def cj_ (a0:(List bd_)):Option ((List bd_)×Unit) :=
 ((push? (α:=bd_) [] a0).bind fun v0 =>
 (some (v0,())))
theorem x_68:au_ cx_68 an_68 68 [(.list bx_)] [(.list bx_)]=fun x=>cj_ x.1:=by kernel_rfl
noncomputable def c_68:Con Tryz.prog:=aw_ _ _ 68 [(.list bx_)] [(.list bx_)] _ x_68
def an_69:An:=.z
noncomputable def cs_69:List (Con Tryz.prog):=[]
noncomputable def cl_69:List (Cpy Tryz.prog):=[]
noncomputable def cx_69:Cx Tryz.prog:=cxC cs_69 cl_69
noncomputable def di_ (a0:(List Int)):Option ((List Int)×Unit) :=
 ((push? (α:=Int) [] a0).bind fun v0 =>
 (some (v0,())))
theorem x_69:au_ cx_69 an_69 69 [(.list .int)] [(.list .int)]=fun x=>di_ x.1:=by kernel_rfl
noncomputable def c_69:Con Tryz.prog:=aw_ _ _ 69 [(.list .int)] [(.list .int)] _ x_69
def an_30:An:=.z
noncomputable def cs_30:List (Con Tryz.prog):=[]
noncomputable def cl_30:List (Cpy Tryz.prog):=[]
noncomputable def cx_30:Cx Tryz.prog:=cxC cs_30 cl_30
noncomputable def gi_ (a0:ak_):Option (ak_×Unit) :=
 ((push? (α:=Int) [] a0.2.2.2.2.2.1).bind fun v0 =>
 (some ((a0.1,(a0.2.1,(a0.2.2.1,(a0.2.2.2.1,(a0.2.2.2.2.1,(v0,a0.2.2.2.2.2.2)))))),())))
theorem x_30:au_ cx_30 an_30 30 [ap_] [ap_]=fun x=>gi_ x.1:=by kernel_rfl
noncomputable def c_30:Con Tryz.prog:=aw_ _ _ 30 [ap_] [ap_] _ x_30
noncomputable def ns_ (a0:ae_) (a1:Int):Option (Bool×Unit) :=
 (cond (a0.1.2.1==4)
 (some ((a0.1.2.2==a1),()))
 (some (false,())))
def an_12:An:=(.p .z (.p .z (.p (.p .z (.ls [.v 5 .int] [] [] 0 (.p .z (.p (.p (.q [] .z .z) .z) .z)))) .z)))
noncomputable def cs_12:List (Con Tryz.prog):=[]
noncomputable def cl_12:List (Cpy Tryz.prog):=[]
noncomputable def cx_12:Cx Tryz.prog:=cxC cs_12 cl_12
noncomputable def dj_ (a0:(List Int)) (a1:(List Int)):Option (Bool×Unit) :=
 (cond ((a0.length:Int) != (a1.length:Int))
 (some (false,()))
 ((af_ (ρ:=(Unit⊕(Bool×Unit))) (fun (v0:(Int×Unit)) =>
 (cond (decide (v0.1<(a0.length:Int)))
 ((at? a0 v0.1).bind fun v1 =>
 ((at? a1 v0.1).bind fun v2 =>
 (cond (v1 != v2)
 (some (Sum.inr (Sum.inr (false,()))))
 (some (Sum.inl ((w64 (v0.1+1)),()))))))
 (some (Sum.inr (Sum.inl ()))))) (0,())).bind fun v3 =>
 (ca_ v3 (fun v4=>(some (true,())))
 (fun v5=>(some v5)))))
theorem x_12:au_ cx_12 an_12 12 [(.list .int),(.list .int)] [.bool]=fun x=>dj_ x.1 x.2.1:=by kernel_rfl
noncomputable def c_12:Con Tryz.prog:=aw_ _ _ 12 [(.list .int),(.list .int)] [.bool] _ x_12
def an_41:An:=.z
noncomputable def cs_41:List (Con Tryz.prog):=[]
noncomputable def cl_41:List (Cpy Tryz.prog):=[]
noncomputable def cx_41:Cx Tryz.prog:=cxC cs_41 cl_41
noncomputable def gs_ (a0:ae_) (a1:Int) (a2:Int):Option (Bool×Unit) :=
 (cond (a0.1.2.1==a1)
 (some ((a0.1.2.2==a2),()))
 (some (false,())))
theorem x_41:au_ cx_41 an_41 41 [ci_,.int,.int] [.bool]=fun x=>gs_ x.1 x.2.1 x.2.2.1:=by kernel_rfl
noncomputable def c_41:Con Tryz.prog:=aw_ _ _ 41 [ci_,.int,.int] [.bool] _ x_41
def an_44:An:=(.p .z (.p .z (.p (.p .z (.lp [.r 3 .int 3,.v 4 .int] [.r 3 .int 3] [] 0 (.p .z (.j0 [.r 3 .int 3] .z .z)))) .z)))
noncomputable def cs_44:List (Con Tryz.prog):=[]
noncomputable def cl_44:List (Cpy Tryz.prog):=[]
noncomputable def cx_44:Cx Tryz.prog:=cxC cs_44 cl_44
noncomputable def dt_ (a0:(List Bool)):Option ((List Int)×Unit) :=
 ((af_ (ρ:=((List Int)×Unit)) (fun (v0:((List Int)×(Int×Unit))) =>
 (cond (decide (v0.2.1<(a0.length:Int)))
 ((((at? a0 v0.2.1).bind fun v1 =>
 (cond (!v1)
 ((push? (α:=Int) v0.1 [v0.2.1]).bind fun v2 =>
 (some (v2,())))
 (some (v0.1,()))))).bind fun v3 =>
 (some (Sum.inl (v3.1,((w64 (v0.2.1+1)),())))))
 (some (Sum.inr (v0.1,()))))) ([],(0,()))).bind fun v4 =>
 (some (v4.1,())))
theorem x_44:au_ cx_44 an_44 44 [(.list .bool)] [(.list .int)]=fun x=>dt_ x.1:=by kernel_rfl
noncomputable def c_44:Con Tryz.prog:=aw_ _ _ 44 [(.list .bool)] [(.list .int)] _ x_44
end
section
set_option maxRecDepth 100000
set_option maxHeartbeats 0
def an_21:An:=(.p .z (.p (.j0 [.v 27 .bool] .z .z) (.p (.p .z (.ls [.v 3 .int] [] [] 0 (.p .z (.p (.j0 [.v 50 .bool] .z .z) .z)))) (.p (.p .z (.ls [.v 4 .int] [] [] 2 .z)) (.p (.p .z (.ls [.v 5 .int] [] [] 4 (.p .z (.p (.p .z (.j0 [.v 93 .bool] .z .z)) .z)))) .z)))))
noncomputable def cs_21:List (Con Tryz.prog):=[c_54]
noncomputable def cl_21:List (Cpy Tryz.prog):=[]
noncomputable def cx_21:Cx Tryz.prog:=cxC cs_21 cl_21
noncomputable def kc_ (a0:ac_):Option (Bool×Unit) :=
 ((((mq_ a0.1).bind fun v0 =>
 (cond v0.1
 (some (true,()))
 (cond (decide (10<(a0.2.1.length:Int)))
 (some (true,()))
 (cond (decide (10<(a0.2.2.1.length:Int)))
 (some (true,()))
 (some ((decide (20<(a0.2.2.2.1.length:Int))),()))))))).bind fun v1 =>
 (cond v1.1
 (some (true,()))
 ((af_ (ρ:=(Unit⊕(Bool×Unit))) (fun (v2:(Int×Unit)) =>
 (cond (decide (v2.1<(a0.2.1.length:Int)))
 ((((at? a0.2.1 v2.1).bind fun v3 =>
 (cond (decide (3<v3.1))
 ((at? a0.2.1 v2.1).bind fun v4 =>
 (some ((decide (5<v4.2)),())))
 (some (false,()))))).bind fun v5 =>
 (cond v5.1
 (some (Sum.inr (Sum.inr (true,()))))
 (some (Sum.inl ((w64 (v2.1+1)),())))))
 (some (Sum.inr (Sum.inl ()))))) (0,())).bind fun v6 =>
 (ca_ v6 (fun v7=>((af_ (ρ:=(Unit⊕(Bool×Unit))) (fun (v9:(Int×Unit)) =>
 (cond (decide (v9.1<(a0.2.2.1.length:Int)))
 ((at? a0.2.2.1 v9.1).bind fun v10 =>
 (cond (decide (10<(v10.length:Int)))
 (some (Sum.inr (Sum.inr (true,()))))
 (some (Sum.inl ((w64 (v9.1+1)),())))))
 (some (Sum.inr (Sum.inl ()))))) (0,())).bind fun v11 =>
 (ca_ v11 (fun v12=>((af_ (ρ:=(Unit⊕(Bool×Unit))) (fun (v14:(Int×Unit)) =>
 (cond (decide (v14.1<(a0.2.2.2.1.length:Int)))
 ((at? a0.2.2.2.1 v14.1).bind fun v15 =>
 (((cond (decide (100<(v15.1.length:Int)))
 (some (true,()))
 (cond (decide (20<(v15.2.2.2.1.length:Int)))
 (some (true,()))
 (some ((decide (10<(v15.2.2.2.2.2.2.2.2.2.1.length:Int))),()))))).bind fun v16 =>
 (cond v16.1
 (some (Sum.inr (Sum.inr (true,()))))
 (some (Sum.inl ((w64 (v14.1+1)),()))))))
 (some (Sum.inr (Sum.inl ()))))) (0,())).bind fun v17 =>
 (ca_ v17 (fun v18=>(some (false,())))
 (fun v19=>(some v19)))))
 (fun v13=>(some v13)))))
 (fun v8=>(some v8))))))
theorem x_21:au_ cx_21 an_21 21 [ao_] [.bool]=fun x=>kc_ x.1:=by kernel_rfl
noncomputable def c_21:Con Tryz.prog:=aw_ _ _ 21 [ao_] [.bool] _ x_21
def an_98:An:=.z
noncomputable def cs_98:List (Con Tryz.prog):=[c_96]
noncomputable def cl_98:List (Cpy Tryz.prog):=[]
noncomputable def cx_98:Cx Tryz.prog:=cxC cs_98 cl_98
noncomputable def gl_ (a0:ad_) (a1:Int) (a2:Int):Option (Bool×Unit) :=
 ((bp_ a1 0 (w64 ((a0.2.1.length:Int) - 1))).bind fun v0 =>
 (cond v0.1
 ((at? a0.2.1 a1).bind fun v1 =>
 ((bp_ a2 0 (w64 (v1.2.2.1 - 1))).bind fun v2 =>
 (some (v2.1,()))))
 (some (false,()))))
theorem x_98:au_ cx_98 an_98 98 [an_,.int,.int] [.bool]=fun x=>gl_ x.1 x.2.1 x.2.2.1:=by kernel_rfl
noncomputable def c_98:Con Tryz.prog:=aw_ _ _ 98 [an_,.int,.int] [.bool] _ x_98
def an_134:An:=(.p .z (.p (.p .z (.ls [.v 3 .int] [] [] 0 (.p .z (.p (.j0 [.v 21 .bool] .z .z) .z)))) (.p .z (.p (.p .z (.ls [.v 5 .int] [] [] 2 .z)) .z))))
noncomputable def cs_134:List (Con Tryz.prog):=[c_174]
noncomputable def cl_134:List (Cpy Tryz.prog):=[]
noncomputable def cx_134:Cx Tryz.prog:=cxC cs_134 cl_134
noncomputable def hd_ (a0:(List UInt8)):Option (Bool×Unit) :=
 ((af_ (ρ:=(Unit⊕(Bool×Unit))) (fun (v0:(Int×Unit)) =>
 (cond (decide (v0.1<(a0.length:Int)))
 ((((at? a0 v0.1).bind fun v1 =>
 (cond (decide (((UInt8.toNat v1):Int)<97))
 (some (true,()))
 ((at? a0 v0.1).bind fun v2 =>
 (some ((decide (122<((UInt8.toNat v2):Int))),())))))).bind fun v3 =>
 (cond v3.1
 (some (Sum.inr (Sum.inr (false,()))))
 (some (Sum.inl ((w64 (v0.1+1)),())))))
 (some (Sum.inr (Sum.inl ()))))) (0,())).bind fun v4 =>
 (ca_ v4 (fun v5=>((af_ (ρ:=(Unit⊕(Bool×Unit))) (fun (v7:(Int×Unit)) =>
 (cond (decide (v7.1<(([[97,116],[115,116,97,116,101,115],[115,116,97,114,116],[103,111,110,101],[105,102],[108,111,99,107],[119,105,116,104],[115,101,116,115],[115,112,101,110,100,115],[98,114,105,110,103,115]]).length:Int)))
 ((at? [[97,116],[115,116,97,116,101,115],[115,116,97,114,116],[103,111,110,101],[105,102],[108,111,99,107],[119,105,116,104],[115,101,116,115],[115,112,101,110,100,115],[98,114,105,110,103,115]] v7.1).bind fun v8 =>
 (cond (v8==a0)
 (some (Sum.inr (Sum.inr (false,()))))
 (some (Sum.inl ((w64 (v7.1+1)),())))))
 (some (Sum.inr (Sum.inl ()))))) (0,())).bind fun v9 =>
 (ca_ v9 (fun v10=>(some ((!(a0==[])),())))
 (fun v11=>(some v11)))))
 (fun v6=>(some v6))))
theorem x_134:au_ cx_134 an_134 134 [.str] [.bool]=fun x=>hd_ x.1:=by kernel_rfl
noncomputable def c_134:Con Tryz.prog:=aw_ _ _ 134 [.str] [.bool] _ x_134
def an_95:An:=.z
noncomputable def cs_95:List (Con Tryz.prog):=[c_96]
noncomputable def cl_95:List (Cpy Tryz.prog):=[]
noncomputable def cx_95:Cx Tryz.prog:=cxC cs_95 cl_95
noncomputable def cp_ (a0:ad_) (a1:Int):Option (Bool×Unit) :=
 ((bp_ a1 0 (w64 ((a0.1.length:Int) - 1))).bind fun v0 =>
 (some (v0.1,())))
theorem x_95:au_ cx_95 an_95 95 [an_,.int] [.bool]=fun x=>cp_ x.1 x.2.1:=by kernel_rfl
noncomputable def c_95:Con Tryz.prog:=aw_ _ _ 95 [an_,.int] [.bool] _ x_95
def an_135:An:=(.p .z (.p (.p .z (.ls [.v 5 .int] [] [] 0 (.p .z (.p (.j0 [.v 37 .bool] (.q [] .z .z) .z) .z)))) .z))
noncomputable def cs_135:List (Con Tryz.prog):=[c_96]
noncomputable def cl_135:List (Cpy Tryz.prog):=[]
noncomputable def cx_135:Cx Tryz.prog:=cxC cs_135 cl_135
noncomputable def dd_ (a0:ad_) (a1:(List Int)):Option (Bool×Unit) :=
 ((af_ (ρ:=(Unit⊕(Bool×Unit))) (fun (v0:(Int×Unit)) =>
 (cond (decide (v0.1<(a1.length:Int)))
 ((((at? a1 v0.1).bind fun v1 =>
 ((bp_ v1 0 (w64 ((a0.2.2.1.length:Int) - 1))).bind fun v2 =>
 (cond (!v2.1)
 (some (true,()))
 (cond (decide (0<v0.1))
 ((at? a1 v0.1).bind fun v3 =>
 ((at? a1 (w64 (v0.1 - 1))).bind fun v4 =>
 (some ((decide (v3≤v4)),()))))
 (some (false,()))))))).bind fun v5 =>
 (cond v5.1
 (some (Sum.inr (Sum.inr (false,()))))
 (some (Sum.inl ((w64 (v0.1+1)),())))))
 (some (Sum.inr (Sum.inl ()))))) (0,())).bind fun v6 =>
 (ca_ v6 (fun v7=>(some (true,())))
 (fun v8=>(some v8))))
theorem x_135:au_ cx_135 an_135 135 [an_,(.list .int)] [.bool]=fun x=>dd_ x.1 x.2.1:=by kernel_rfl
noncomputable def c_135:Con Tryz.prog:=aw_ _ _ 135 [an_,(.list .int)] [.bool] _ x_135
def an_56:An:=(.p .z (.p (.j0 [.v 12 .bool] .z .z) .z))
noncomputable def cs_56:List (Con Tryz.prog):=[c_99]
noncomputable def cl_56:List (Cpy Tryz.prog):=[]
noncomputable def cx_56:Cx Tryz.prog:=cxC cs_56 cl_56
noncomputable def ec_ (a0:ab_):Option (Int×Unit) :=
 ((((bj_ a0.1 1 4).bind fun v0 =>
 (cond (!v0.1)
 (some (true,()))
 ((bj_ a0.2 2 10).bind fun v1 =>
 (some ((!v1.1),())))))).bind fun v2 =>
 (cond v2.1
 (some (10,()))
 (some (0,()))))
theorem x_56:au_ cx_56 an_56 56 [al_] [.int]=fun x=>ec_ x.1:=by kernel_rfl
noncomputable def c_56:Con Tryz.prog:=aw_ _ _ 56 [al_] [.int] _ x_56
def an_100:An:=(.p .z (.p .z (.p (.p .z (.ls [.v 5 .int] [] [] 0 (.p .z (.p (.p (.q [] .z .z) .z) .z)))) .z)))
noncomputable def cs_100:List (Con Tryz.prog):=[c_99]
noncomputable def cl_100:List (Cpy Tryz.prog):=[]
noncomputable def cx_100:Cx Tryz.prog:=cxC cs_100 cl_100
noncomputable def gf_ (a0:ab_) (a1:(List Int)):Option (Bool×Unit) :=
 (cond ((a1.length:Int) != a0.1)
 (some (false,()))
 ((af_ (ρ:=(Unit⊕(Bool×Unit))) (fun (v0:(Int×Unit)) =>
 (cond (decide (v0.1<(a1.length:Int)))
 ((at? a1 v0.1).bind fun v1 =>
 ((bj_ v1 0 (w64 (a0.2 - 1))).bind fun v2 =>
 (cond (!v2.1)
 (some (Sum.inr (Sum.inr (false,()))))
 (some (Sum.inl ((w64 (v0.1+1)),()))))))
 (some (Sum.inr (Sum.inl ()))))) (0,())).bind fun v3 =>
 (ca_ v3 (fun v4=>(some (true,())))
 (fun v5=>(some v5)))))
theorem x_100:au_ cx_100 an_100 100 [al_,(.list .int)] [.bool]=fun x=>gf_ x.1 x.2.1:=by kernel_rfl
noncomputable def c_100:Con Tryz.prog:=aw_ _ _ 100 [al_,(.list .int)] [.bool] _ x_100
def an_175:An:=.z
noncomputable def cs_175:List (Con Tryz.prog):=[c_212]
noncomputable def cl_175:List (Cpy Tryz.prog):=[]
noncomputable def cx_175:Cx Tryz.prog:=cxC cs_175 cl_175
noncomputable def im_ (a0:ak_) (a1:ak_):Option (Bool×Unit) :=
 (cond (a0.1==a1.1)
 (cond (a0.2.1==a1.2.1)
 (cond (a0.2.2.1==a1.2.2.1)
 (cond (a0.2.2.2.1==a1.2.2.2.1)
 (cond (a0.2.2.2.2.1==a1.2.2.2.2.1)
 (cond (a0.2.2.2.2.2.2==a1.2.2.2.2.2.2)
 ((gj_ a0.2.2.2.2.2.1 a1.2.2.2.2.2.1).bind fun v0 =>
 (some (v0.1,())))
 (some (false,())))
 (some (false,())))
 (some (false,())))
 (some (false,())))
 (some (false,())))
 (some (false,())))
theorem x_175:au_ cx_175 an_175 175 [ap_,ap_] [.bool]=fun x=>im_ x.1 x.2.1:=by kernel_rfl
noncomputable def c_175:Con Tryz.prog:=aw_ _ _ 175 [ap_,ap_] [.bool] _ x_175
def an_139:An:=(.p .z (.p .z (.p (.p .z (.lp [.v 6 .int,.v 8 .int] [.v 6 .int] [] 0 (.p .z (.j0 [.v 6 .int] (.p (.q [] .z .z) .z) .z)))) (.p (.p .z (.lp [.v 7 .int,.v 9 .int] [.v 7 .int] [] 2 .z)) .z))))
noncomputable def cs_139:List (Con Tryz.prog):=[c_138]
noncomputable def cl_139:List (Cpy Tryz.prog):=[]
noncomputable def cx_139:Cx Tryz.prog:=cxC cs_139 cl_139
noncomputable def hw_ (a0:(List Int)) (a1:(List Int)):Option (Int×Int×Unit) :=
 ((af_ (ρ:=(Int×Unit)) (fun (v0:(Int×(Int×Unit))) =>
 (cond (decide (v0.2.1<(a0.length:Int)))
 ((((at? a0 v0.2.1).bind fun v1 =>
 ((at? a1 v0.2.1).bind fun v2 =>
 (cond (v1==v2)
 (some ((w64 (v0.1+1)),()))
 (some (v0.1,())))))).bind fun v3 =>
 (some (Sum.inl (v3.1,((w64 (v0.2.1+1)),())))))
 (some (Sum.inr (v0.1,()))))) (0,(0,()))).bind fun v4 =>
 ((af_ (ρ:=(Int×Unit)) (fun (v5:(Int×(Int×Unit))) =>
 (cond (decide (v5.2.1<10))
 ((eb_ a0 v5.2.1).bind fun v6 =>
 ((eb_ a1 v5.2.1).bind fun v7 =>
 (some (Sum.inl ((w64 (v5.1+(minI v6.1 v7.1))),((w64 (v5.2.1+1)),()))))))
 (some (Sum.inr (v5.1,()))))) (0,(0,()))).bind fun v8 =>
 (some (v4.1,((w64 (v8.1 - v4.1)),())))))
theorem x_139:au_ cx_139 an_139 139 [(.list .int),(.list .int)] [.int,.int]=fun x=>hw_ x.1 x.2.1:=by kernel_rfl
noncomputable def c_139:Con Tryz.prog:=aw_ _ _ 139 [(.list .int),(.list .int)] [.int,.int] _ x_139
def an_133:An:=(.p .z (.p .z (.p (.p .z (.ls [.v 7 .int] [] [.o (.c (.s 6) 0) .int,.b (.s 4) [.row .int 3,.row .int 3,.row .int 3]] 0 (.p .z (.p (.p .z (.p (.p .z (.lp [.v 8 .int,.v 9 .int] [.v 8 .int] [] 2 (.p (.j0 [.v 25 .bool] .z .z) (.j0 [.v 8 .int] (.p .z (.j0 [.v 49 .bool] .z .z)) .z)))) .z)) .z)))) .z)))
def at_133:FuncId→An:=fun k=>.z
noncomputable def cs_133:List (Con Tryz.prog):=[c_92]
noncomputable def cl_133:List (Cpy Tryz.prog):=[]
noncomputable def cx_133:Cx Tryz.prog:=cxI at_133 (fun k=>Nat.beq k 92||false) (cxC cs_133 cl_133) 2
noncomputable def gd_ (a0:ad_) (a1:ai_):Option (ai_×Bool×Unit) :=
 ((push? (α:=Int) [] a1.1).bind fun v0 =>
 ((push? (α:=Int) [] a1.2.1).bind fun v1 =>
 ((push? (α:=Int) [] a1.2.2).bind fun v2 =>
 ((af_ (ρ:=(((List Int)×(((List Int)×((List Int)×((List Int)×Unit)))×Unit))⊕(ai_×(Bool×Unit)))) (fun (v3:(Int×((List Int)×(((List Int)×((List Int)×((List Int)×Unit)))×Unit)))) =>
 (cond (decide (v3.1≤100))
 ((af_ (ρ:=(Int×Unit)) (fun (v4:(Int×(Int×Unit))) =>
 (((cond (decide (v4.2.1<(a0.2.2.2.2.2.1.length:Int)))
 (some ((decide (v4.1<0)),()))
 (some (false,())))).bind fun v5 =>
 (cond v5.1
 ((((at? a0.2.2.2.2.2.1 v4.2.1).bind fun v6 =>
 ((((bk_ (v3.2.1,(v1,v2)) v6.1).bind fun v7 =>
 (cond v7.1
 ((at? v3.2.1 v6.2.1).bind fun v8 =>
 ((at? v3.2.1 v6.2.1).bind fun v9 =>
 (some ((v9 != v6.2.2),()))))
 (some (false,()))))).bind fun v10 =>
 (cond v10.1
 (some (v4.2.1,()))
 (some (v4.1,())))))).bind fun v11 =>
 (some (Sum.inl (v11.1,((w64 (v4.2.1+1)),())))))
 (some (Sum.inr (v4.1,())))))) ((-1),(0,()))).bind fun v12 =>
 (cond (decide (v12.1<0))
 (some (Sum.inr (Sum.inr ((v3.2.1,(v1,v2)),(true,())))))
 ((at? a0.2.2.2.2.2.1 v12.1).bind fun v13 =>
 ((at? a0.2.2.2.2.2.1 v12.1).bind fun v14 =>
 ((at? v3.2.1 v13.2.1).bind fun v15 =>
 ((at? v3.2.1 v13.2.1).bind fun v16 =>
 (some (Sum.inl ((w64 (v3.1+1)),((v3.2.1.set v13.2.1.toNat v14.2.2),((v3.2.2.1.1,(v3.2.2.1.2.1,(v3.2.2.1.2.2.1,()))),())))))))))))
 (some (Sum.inr (Sum.inl (v3.2.1,((v3.2.2.1.1,(v3.2.2.1.2.1,(v3.2.2.1.2.2.1,()))),()))))))) (0,(v0,(([],([],([],()))),())))).bind fun v17 =>
 (ca_ v17 (fun v18=>(some (([],([],[])),(false,()))))
 (fun v19=>(some v19)))))))
theorem x_133:au_ cx_133 an_133 133 [an_,aq_] [aq_,.bool]=fun x=>gd_ x.1 x.2.1:=by kernel_rfl
noncomputable def c_133:Con Tryz.prog:=aw_ _ _ 133 [an_,aq_] [aq_,.bool] _ x_133
def an_88:An:=(.p .z (.p .z (.p (.p .z (.lp [.v 6 .int] [] [.o (.c (.s 5) 3) .bool] 0 (.p .z (.p (.p .z (.p .z (.lp [.v 8 .int] [] [.o (.c (.s 5) 3) .bool] 2 (.p .z (.j0 [.o (.c (.s 5) 3) .bool] (.j0 [.v 46 .bool] .z .z) .z))))) .z)))) .z)))
def at_88:FuncId→An:=fun k=>.z
noncomputable def cs_88:List (Con Tryz.prog):=[c_92,c_132]
noncomputable def cl_88:List (Cpy Tryz.prog):=[]
noncomputable def cx_88:Cx Tryz.prog:=cxI at_88 (fun k=>Nat.beq k 92||Nat.beq k 132||false) (cxC cs_88 cl_88) 2
noncomputable def ic_ (a0:ac_) (a1:aa_):Option (aa_×Unit) :=
 ((fk_ a1.1).bind fun v0 =>
 ((push? (α:=Bool) [] a1.2).bind fun v1 =>
 ((af_ (ρ:=((List Bool)×Unit)) (fun (v2:(Int×((List Bool)×Unit))) =>
 (cond (decide (v2.1<(a0.2.2.2.1.length:Int)))
 ((at? a0.2.2.2.1 v2.1).bind fun v3 =>
 ((af_ (ρ:=((List Bool)×Unit)) (fun (v4:(Int×((List Bool)×Unit))) =>
 (cond (decide (v4.1<(v0.1.2.2.length:Int)))
 ((((((at? v0.1.2.2 v4.1).bind fun v5 =>
 (cond (v5==v3.2.1)
 ((bk_ v0.1 v3.2.2.2.1).bind fun v6 =>
 (some (v6.1,())))
 (some (false,()))))).bind fun v7 =>
 (cond v7.1
 ((at? v4.2.1 v2.1).bind fun v8 =>
 ((at? v4.2.1 v2.1).bind fun v9 =>
 (some ((v4.2.1.set v2.1.toNat true),()))))
 (some (v4.2.1,()))))).bind fun v10 =>
 (some (Sum.inl ((w64 (v4.1+1)),(v10.1,())))))
 (some (Sum.inr (v4.2.1,()))))) (0,(v2.2.1,()))).bind fun v11 =>
 (some (Sum.inl ((w64 (v2.1+1)),(v11.1,()))))))
 (some (Sum.inr (v2.2.1,()))))) (0,(v1,()))).bind fun v12 =>
 (some ((v0.1,v12.1),())))))
theorem x_88:au_ cx_88 an_88 88 [ao_,aj_] [aj_]=fun x=>ic_ x.1 x.2.1:=by kernel_rfl
noncomputable def c_88:Con Tryz.prog:=aw_ _ _ 88 [ao_,aj_] [aj_] _ x_88
def an_61:An:=(.p .z (.p .z (.p (.p .z (.lp [.v 3 .str,.v 4 .int] [.v 3 .str] [] 0 .z)) (.p (.p .z (.lp [.v 3 .str,.v 5 .int] [.v 3 .str] [] 2 .z)) (.p (.p .z (.lp [.v 3 .str,.v 6 .int] [.v 3 .str] [] 4 .z)) (.p (.p .z (.lp [.v 3 .str,.v 7 .int] [.v 3 .str] [] 6 (.p .z (.j0 [.v 3 .str] .z .z)))) .z))))))
noncomputable def cs_61:List (Con Tryz.prog):=[c_104]
noncomputable def cl_61:List (Cpy Tryz.prog):=[]
noncomputable def cx_61:Cx Tryz.prog:=cxC cs_61 cl_61
noncomputable def hq_ (a0:aa_):Option ((List UInt8)×Unit) :=
 ((af_ (ρ:=((List UInt8)×Unit)) (fun (v0:((List UInt8)×(Int×Unit))) =>
 (cond (decide (v0.2.1<(a0.1.1.length:Int)))
 ((at? a0.1.1 v0.2.1).bind fun v1 =>
 ((bz_ v1).bind fun v2 =>
 ((cat? v0.1 v2.1).bind fun v3 =>
 ((cat? v3 [32]).bind fun v4 =>
 (some (Sum.inl (v4,((w64 (v0.2.1+1)),()))))))))
 (some (Sum.inr (v0.1,()))))) ([],(0,()))).bind fun v5 =>
 ((af_ (ρ:=((List UInt8)×Unit)) (fun (v6:((List UInt8)×(Int×Unit))) =>
 (cond (decide (v6.2.1<(a0.1.2.1.length:Int)))
 ((at? a0.1.2.1 v6.2.1).bind fun v7 =>
 ((bz_ (w64 (v7+10))).bind fun v8 =>
 ((cat? v6.1 v8.1).bind fun v9 =>
 ((cat? v9 [32]).bind fun v10 =>
 (some (Sum.inl (v10,((w64 (v6.2.1+1)),()))))))))
 (some (Sum.inr (v6.1,()))))) (v5.1,(0,()))).bind fun v11 =>
 ((af_ (ρ:=((List UInt8)×Unit)) (fun (v12:((List UInt8)×(Int×Unit))) =>
 (cond (decide (v12.2.1<(a0.1.2.2.length:Int)))
 ((at? a0.1.2.2 v12.2.1).bind fun v13 =>
 ((bz_ v13).bind fun v14 =>
 ((cat? v12.1 v14.1).bind fun v15 =>
 ((cat? v15 [32]).bind fun v16 =>
 (some (Sum.inl (v16,((w64 (v12.2.1+1)),()))))))))
 (some (Sum.inr (v12.1,()))))) (v11.1,(0,()))).bind fun v17 =>
 ((af_ (ρ:=((List UInt8)×Unit)) (fun (v18:((List UInt8)×(Int×Unit))) =>
 (cond (decide (v18.2.1<(a0.2.length:Int)))
 ((((at? a0.2 v18.2.1).bind fun v19 =>
 (cond v19
 ((bz_ v18.2.1).bind fun v20 =>
 ((cat? v18.1 v20.1).bind fun v21 =>
 ((cat? v21 [32]).bind fun v22 =>
 (some (v22,())))))
 (some (v18.1,()))))).bind fun v23 =>
 (some (Sum.inl (v23.1,((w64 (v18.2.1+1)),())))))
 (some (Sum.inr (v18.1,()))))) (v17.1,(0,()))).bind fun v24 =>
 (some (v24.1,()))))))
theorem x_61:au_ cx_61 an_61 61 [aj_] [.str]=fun x=>hq_ x.1:=by kernel_rfl
noncomputable def c_61:Con Tryz.prog:=aw_ _ _ 61 [aj_] [.str] _ x_61
def an_140:An:=(.p .z (.p .z (.p (.q [] .z .z) (.p (.p .z (.p .z (.p (.p (.q [] .z .z) .z) (.p .z (.p (.p (.q [] .z .z) .z) (.p .z (.p .z (.p .z (.p (.p .z (.p .z (.p (.p .z (.ls [.v 10 .int] [] [] 1 .z)) (.p (.p .z (.ls [.v 11 .int] [] [] 3 .z)) .z)))) .z))))))))) .z))))
noncomputable def cs_140:List (Con Tryz.prog):=[c_92,c_96,c_176]
noncomputable def cl_140:List (Cpy Tryz.prog):=[]
noncomputable def cx_140:Cx Tryz.prog:=cxC cs_140 cl_140
noncomputable def ja_ (a0:ad_) (a1:ai_) (a2:ag_):Option (Bool×Unit) :=
 ((bp_ a2.1 0 (w64 (a0.2.2.2.2.2.2.1 - 1))).bind fun v0 =>
 (cond (!v0.1)
 (some (false,()))
 ((at? a1.2.2 a2.1).bind fun v1 =>
 (cond (a2.2.1==1)
 ((bp_ a2.2.2 0 (w64 ((a0.2.2.2.1.length:Int) - 1))).bind fun v2 =>
 (cond v2.1
 ((at? a0.2.2.2.1 a2.2.2).bind fun v3 =>
 (cond (v3.1==v1)
 ((at? a0.2.2.2.1 a2.2.2).bind fun v4 =>
 ((bk_ a1 v4.2.2).bind fun v5 =>
 (some (v5.1,()))))
 ((at? a0.2.2.2.1 a2.2.2).bind fun v6 =>
 (cond (v6.2.1==v1)
 ((at? a0.2.2.2.1 a2.2.2).bind fun v7 =>
 ((bk_ a1 v7.2.2).bind fun v8 =>
 (some (v8.1,()))))
 (some (false,()))))))
 (some (false,()))))
 (cond (a2.2.1==2)
 ((bp_ a2.2.2 0 (w64 ((a0.2.2.1.length:Int) - 1))).bind fun v9 =>
 (cond v9.1
 ((at? a1.2.1 a2.2.2).bind fun v10 =>
 (cond (v10==v1)
 ((at? a0.2.2.1 a2.2.2).bind fun v11 =>
 ((bk_ a1 v11.2.2).bind fun v12 =>
 (cond v12.1
 ((gr_ a1 a2.1).bind fun v13 =>
 (some ((decide (v13.1<3)),())))
 (some (false,())))))
 (some (false,()))))
 (some (false,()))))
 (cond (a2.2.1==3)
 ((bp_ a2.2.2 0 (w64 ((a0.2.2.1.length:Int) - 1))).bind fun v14 =>
 (cond v14.1
 ((at? a1.2.1 a2.2.2).bind fun v15 =>
 (some ((v15==(w64 ((-2) - a2.1))),())))
 (some (false,()))))
 (cond (a2.2.1==4)
 ((bp_ a2.2.2 0 (w64 ((a0.2.2.2.2.1.length:Int) - 1))).bind fun v16 =>
 (cond (!v16.1)
 (some (false,()))
 ((at? a0.2.2.2.2.1 a2.2.2).bind fun v17 =>
 ((af_ (ρ:=(Unit⊕(Bool×Unit))) (fun (v18:(Int×Unit)) =>
 (cond (decide (v18.1<(v17.2.2.2.1.length:Int)))
 ((at? v17.2.2.2.1 v18.1).bind fun v19 =>
 ((at? a1.2.1 v19).bind fun v20 =>
 (cond (v20 != (w64 ((-2) - a2.1)))
 (some (Sum.inr (Sum.inr (false,()))))
 (some (Sum.inl ((w64 (v18.1+1)),()))))))
 (some (Sum.inr (Sum.inl ()))))) (0,())).bind fun v21 =>
 (ca_ v21 (fun v22=>((af_ (ρ:=(Unit⊕(Bool×Unit))) (fun (v24:(Int×Unit)) =>
 (cond (decide (v24.1<(v17.2.2.2.2.2.2.2.length:Int)))
 ((at? v17.2.2.2.2.2.2.2 v24.1).bind fun v25 =>
 ((at? a1.2.1 v25).bind fun v26 =>
 (cond (v26 != (-1))
 (some (Sum.inr (Sum.inr (false,()))))
 (some (Sum.inl ((w64 (v24.1+1)),()))))))
 (some (Sum.inr (Sum.inl ()))))) (0,())).bind fun v27 =>
 (ca_ v27 (fun v28=>(cond (v17.2.1==v1)
 ((bk_ a1 v17.2.2.2.2.1).bind fun v30 =>
 (cond v30.1
 ((gr_ a1 a2.1).bind fun v31 =>
 (some ((decide ((w64 ((w64 (v31.1 - (v17.2.2.2.2.2.2.1.length:Int)))+(v17.2.2.2.2.2.2.2.length:Int)))≤3)),())))
 (some (false,()))))
 (some (false,()))))
 (fun v29=>(some v29)))))
 (fun v23=>(some v23)))))))
 (some (false,())))))))))
theorem x_140:au_ cx_140 an_140 140 [an_,aq_,ar_] [.bool]=fun x=>ja_ x.1 x.2.1 x.2.2.1:=by kernel_rfl
noncomputable def c_140:Con Tryz.prog:=aw_ _ _ 140 [an_,aq_,ar_] [.bool] _ x_140
def an_24:An:=.z
noncomputable def cs_24:List (Con Tryz.prog):=[c_63]
noncomputable def cl_24:List (Cpy Tryz.prog):=[]
noncomputable def cx_24:Cx Tryz.prog:=cxC cs_24 cl_24
noncomputable def wq_  : Option (ac_×Unit) :=
 (some ((([[104,97,108,108],[118,97,117,108,116]],([([98,111,120],(0,(2,0))),([100,111,111,114],(0,(2,0)))],([([107,101,121],(0,[(0,(1,false))]))],([(0,(1,[(1,(1,false))]))],([([111,112,101,110],(0,(0,([],([],([(0,1)],([],[]))))))),([116,117,114,110],(0,((-1),([0],([],([(1,1)],([0],[])))))))],([],(1,[]))))))),([(2,4)],([[3,1]],([([108,101,97,102],(0,(0,([],(2,(0,(1,(4,(0,([],false)))))))))),([98,97,99,107],(0,(0,([(0,(0,false))],(3,(1,(0,(0,(0,([],false)))))))))),([99,97,114,100],(1,((-1),([],(0,(0,(0,(0,(0,([],false))))))))))],1)))),()))
theorem x_24:au_ cx_24 an_24 24 [] [ao_]=fun x=>wq_:=by kernel_rfl
noncomputable def c_24:Con Tryz.prog:=aw_ _ _ 24 [] [ao_] _ x_24
def an_144:An:=.z
noncomputable def cs_144:List (Con Tryz.prog):=[c_145]
noncomputable def cl_144:List (Cpy Tryz.prog):=[]
noncomputable def cx_144:Cx Tryz.prog:=cxC cs_144 cl_144
noncomputable def ew_ (a0:ad_) (a1:Int) (a2:Int):Option (Bool×Unit) :=
 ((bc_ a1 0 (w64 ((a0.2.1.length:Int) - 1))).bind fun v0 =>
 (cond v0.1
 ((at? a0.2.1 a1).bind fun v1 =>
 ((bc_ a2 0 (w64 (v1.2.2.1 - 1))).bind fun v2 =>
 (some (v2.1,()))))
 (some (false,()))))
theorem x_144:au_ cx_144 an_144 144 [an_,.int,.int] [.bool]=fun x=>ew_ x.1 x.2.1 x.2.2.1:=by kernel_rfl
noncomputable def c_144:Con Tryz.prog:=aw_ _ _ 144 [an_,.int,.int] [.bool] _ x_144
def an_221:An:=.z
noncomputable def cs_221:List (Con Tryz.prog):=[c_241]
noncomputable def cl_221:List (Cpy Tryz.prog):=[]
noncomputable def cx_221:Cx Tryz.prog:=cxC cs_221 cl_221
noncomputable def ct_ (a0:(List (List UInt8))) (a1:(List UInt8)):Option (Bool×Unit) :=
 ((dm_ a0 a1).bind fun v0 =>
 (some ((decide (0≤v0.1)),())))
theorem x_221:au_ cx_221 an_221 221 [(.list .str),.str] [.bool]=fun x=>ct_ x.1 x.2.1:=by kernel_rfl
noncomputable def c_221:Con Tryz.prog:=aw_ _ _ 221 [(.list .str),.str] [.bool] _ x_221
def an_126:An:=.z
noncomputable def cs_126:List (Con Tryz.prog):=[c_173]
noncomputable def cl_126:List (Cpy Tryz.prog):=[]
noncomputable def cx_126:Cx Tryz.prog:=cxC cs_126 cl_126
noncomputable def bh_ (a0:(List Int)) (a1:Int):Option (Bool×Unit) :=
 ((ek_ a0 a1).bind fun v0 =>
 (some ((decide (0≤v0.1)),())))
theorem x_126:au_ cx_126 an_126 126 [(.list .int),.int] [.bool]=fun x=>bh_ x.1 x.2.1:=by kernel_rfl
noncomputable def c_126:Con Tryz.prog:=aw_ _ _ 126 [(.list .int),.int] [.bool] _ x_126
def an_119:An:=(.p .z (.p (.j0 [.v 12 .bool] .z .z) .z))
noncomputable def cs_119:List (Con Tryz.prog):=[c_164]
noncomputable def cl_119:List (Cpy Tryz.prog):=[]
noncomputable def cx_119:Cx Tryz.prog:=cxC cs_119 cl_119
noncomputable def ed_ (a0:ab_):Option (Int×Unit) :=
 ((((bu_ a0.1 1 4).bind fun v0 =>
 (cond (!v0.1)
 (some (true,()))
 ((bu_ a0.2 2 10).bind fun v1 =>
 (some ((!v1.1),())))))).bind fun v2 =>
 (cond v2.1
 (some (10,()))
 (some (0,()))))
theorem x_119:au_ cx_119 an_119 119 [al_] [.int]=fun x=>ed_ x.1:=by kernel_rfl
noncomputable def c_119:Con Tryz.prog:=aw_ _ _ 119 [al_] [.int] _ x_119
def an_232:An:=.z
noncomputable def cs_232:List (Con Tryz.prog):=[c_164]
noncomputable def cl_232:List (Cpy Tryz.prog):=[]
noncomputable def cx_232:Cx Tryz.prog:=cxC cs_232 cl_232
noncomputable def cl_ (a0:ab_) (a1:Int):Option (Bool×Unit) :=
 ((bu_ a1 0 (w64 (a0.2 - 1))).bind fun v0 =>
 (some (v0.1,())))
theorem x_232:au_ cx_232 an_232 232 [al_,.int] [.bool]=fun x=>cl_ x.1 x.2.1:=by kernel_rfl
noncomputable def c_232:Con Tryz.prog:=aw_ _ _ 232 [al_,.int] [.bool] _ x_232
def an_244:An:=.z
noncomputable def cs_244:List (Con Tryz.prog):=[c_164]
noncomputable def cl_244:List (Cpy Tryz.prog):=[]
noncomputable def cx_244:Cx Tryz.prog:=cxC cs_244 cl_244
noncomputable def bq_ (a0:ab_) (a1:Int):Option (Bool×Unit) :=
 ((bu_ a1 0 (w64 (a0.1 - 1))).bind fun v0 =>
 (some (v0.1,())))
theorem x_244:au_ cx_244 an_244 244 [al_,.int] [.bool]=fun x=>bq_ x.1 x.2.1:=by kernel_rfl
noncomputable def c_244:Con Tryz.prog:=aw_ _ _ 244 [al_,.int] [.bool] _ x_244
def an_234:An:=(.p .z (.p (.p .z (.p .z (.p (.p (.q [] .z .z) .z) (.p .z (.p (.p .z (.p (.p .z (.lp [.v 5 .int,.v 35 .int] [.v 5 .int] [] 1 .z)) .z)) (.p .z (.p (.p (.q [] .z .z) .z) (.p .z (.p (.p (.q [] .z .z) .z) (.p .z (.p (.p .z (.p (.p .z (.lp [.v 8 .int,.v 77 .int] [.v 8 .int] [] 3 (.p .z (.p .z (.j0 [.v 8 .int] .z .z))))) .z)) .z))))))))))) (.p (.q [] .z .z) .z)))
noncomputable def cs_234:List (Con Tryz.prog):=[c_245]
noncomputable def cl_234:List (Cpy Tryz.prog):=[]
noncomputable def cx_234:Cx Tryz.prog:=cxC cs_234 cl_234
noncomputable def mr_ (a0:ak_) (a1:(List Int)):Option (Bool×Unit) :=
 (cond (a0.1==1)
 ((at? a1 a0.2.1).bind fun v0 =>
 (some ((v0==a0.2.2.2.1),())))
 (cond (a0.1==2)
 ((sub? a1 a0.2.1 (w64 (a0.2.2.1+1))).bind fun v1 =>
 ((af_ (ρ:=(Int×Unit)) (fun (v2:(Int×(Int×Unit))) =>
 (cond (decide (v2.2.1<(v1.length:Int)))
 ((at? v1 v2.2.1).bind fun v3 =>
 (some (Sum.inl ((w64 (v2.1+v3)),((w64 (v2.2.1+1)),())))))
 (some (Sum.inr (v2.1,()))))) (0,(0,()))).bind fun v4 =>
 (some ((v4.1==a0.2.2.2.1),()))))
 (cond (a0.1==3)
 ((at? a1 a0.2.1).bind fun v5 =>
 ((at? a1 a0.2.2.1).bind fun v6 =>
 (some ((decide (v5<v6)),()))))
 (cond (a0.1==4)
 ((at? a1 a0.2.1).bind fun v7 =>
 ((at? a1 a0.2.2.1).bind fun v8 =>
 (some ((v7==v8),()))))
 (cond (a0.1==5)
 ((af_ (ρ:=(Int×Unit)) (fun (v9:(Int×(Int×Unit))) =>
 (cond (decide (v9.2.1<(a1.length:Int)))
 ((((at? a1 v9.2.1).bind fun v10 =>
 (cond (v10==a0.2.2.2.1)
 (some ((w64 (v9.1+1)),()))
 (some (v9.1,()))))).bind fun v11 =>
 (some (Sum.inl (v11.1,((w64 (v9.2.1+1)),())))))
 (some (Sum.inr (v9.1,()))))) (0,(0,()))).bind fun v12 =>
 (some ((v12.1==a0.2.2.2.2.1),())))
 (cond (a0.1==6)
 ((hx_ a1 a0.2.2.2.2.2.1).bind fun v13 =>
 (cond (v13.1==a0.2.2.2.1)
 (some ((v13.2.1==a0.2.2.2.2.1),()))
 (some (false,()))))
 ((at? a1 a0.2.1).bind fun v14 =>
 ((md v14 a0.2.2.2.1).bind fun v15 =>
 (some ((v15==a0.2.2.2.2.1),()))))))))))
theorem x_234:au_ cx_234 an_234 234 [ap_,(.list .int)] [.bool]=fun x=>mr_ x.1 x.2.1:=by kernel_rfl
noncomputable def c_234:Con Tryz.prog:=aw_ _ _ 234 [ap_,(.list .int)] [.bool] _ x_234
def an_122:An:=.z
def at_122:FuncId→An:=fun k=>cond (Nat.beq k 146) (.p .z (.j0 [.v 4 .bool] .z .z)) (cond (Nat.beq k 171) (.p .z (.j0 [.v 3 .bool] (.q [] .z .z) .z)) (cond (Nat.beq k 179) (.p .z (.p (.p .z (.ls [.v 8 .int] [] [] 0 .z)) .z)) (.z)))
noncomputable def cs_122:List (Con Tryz.prog):=[c_123]
noncomputable def cl_122:List (Cpy Tryz.prog):=[]
noncomputable def cx_122:Cx Tryz.prog:=cxI at_122 (fun k=>Nat.beq k 123||false) (cxC cs_122 cl_122) 4
noncomputable def kz_ (a0:ad_) (a1:(List bd_)):Option (Bool×Unit) :=
 (cond (decide ((a1.length:Int)≤8))
 ((((af_ (ρ:=(Unit⊕(Bool×Unit))) (fun (v0:(Int×Unit)) =>
 (cond (decide (v0.1<(a1.length:Int)))
 ((at? a1 v0.1).bind fun v1 =>
 ((((bw_ v1.1 0 (w64 ((a0.2.1.length:Int) - 1))).bind fun v2 =>
 (cond (!v2.1)
 (some (true,()))
 ((at? a0.2.1 v1.1).bind fun v3 =>
 ((bw_ v1.2.1 0 (w64 (v3.2.2.1 - 1))).bind fun v4 =>
 (some ((!v4.1),()))))))).bind fun v5 =>
 (cond v5.1
 (some (Sum.inr (Sum.inr ((decide (0≤v0.1)),()))))
 (some (Sum.inl ((w64 (v0.1+1)),()))))))
 (some (Sum.inr (Sum.inl ()))))) (0,())).bind fun v6 =>
 (ca_ v6 (fun v7=>(some ((decide (0≤(-1))),())))
 (fun v8=>(some v8))))).bind fun v9 =>
 (some ((!v9.1),())))
 (some (false,())))
theorem x_122:au_ cx_122 an_122 122 [an_,(.list bx_)] [.bool]=fun x=>kz_ x.1 x.2.1:=by kernel_rfl
noncomputable def c_122:Con Tryz.prog:=aw_ _ _ 122 [an_,(.list bx_)] [.bool] _ x_122
def an_111:An:=.z
noncomputable def cs_111:List (Con Tryz.prog):=[c_148,c_149]
noncomputable def cl_111:List (Cpy Tryz.prog):=[]
noncomputable def cx_111:Cx Tryz.prog:=cxC cs_111 cl_111
noncomputable def jz_ (a0:aa_):Option ((List UInt8)×Unit) :=
 ((fc_ [a0.1.1,a0.1.2.1,a0.1.2.2]).bind fun v0 =>
 ((kx_ a0).bind fun v1 =>
 ((cat? v0.1 v1.1).bind fun v2 =>
 (some (v2,())))))
theorem x_111:au_ cx_111 an_111 111 [aj_] [.str]=fun x=>jz_ x.1:=by kernel_rfl
noncomputable def c_111:Con Tryz.prog:=aw_ _ _ 111 [aj_] [.str] _ x_111
def an_152:An:=(.p .z (.p (.p (.q [] .z .z) .z) (.p (.q [] .z .z) (.p .z (.p .z (.p .z (.p (.p .z (.p .z (.p (.p (.p (.q [] .z .z) .z) .z) (.p .z (.p (.p (.q [] .z .z) .z) (.p .z (.p (.p (.q [] .z .z) .z) (.p .z (.p (.p (.p (.q [] .z .z) .z) .z) .z))))))))) .z)))))))
def at_152:FuncId→An:=fun k=>cond (Nat.beq k 74) (.p .z (.j0 [.v 4 .bool] .z .z)) (cond (Nat.beq k 116) (.p .z (.p (.p .z (.ls [.v 8 .int] [] [] 0 .z)) .z)) (cond (Nat.beq k 186) (.p .z (.p (.q [] .z .z) .z)) (.z)))
noncomputable def cs_152:List (Con Tryz.prog):=[c_110,c_145,c_189]
noncomputable def cl_152:List (Cpy Tryz.prog):=[]
noncomputable def cx_152:Cx Tryz.prog:=cxI at_152 (fun k=>Nat.beq k 110||Nat.beq k 145||Nat.beq k 189||false) (cxC cs_152 cl_152) 7
noncomputable def cu_ (a0:gx_) (a1:ag_):Option (Bool×Unit) :=
 ((bc_ a1.1 0 (w64 ((a0.2.2.2.length:Int) - 1))).bind fun v0 =>
 (cond (!v0.1)
 (some (false,()))
 ((at? a0.2.2.2 a1.1).bind fun v1 =>
 (cond (a1.2.1==1)
 ((bc_ a1.2.2 0 (w64 ((a0.1.2.2.2.1.length:Int) - 1))).bind fun v2 =>
 (cond (!v2.1)
 (some (false,()))
 ((at? a0.1.2.2.2.1 a1.2.2).bind fun v3 =>
 (cond (v3.1==v1)
 ((ba_ a0 v3.2.2).bind fun v4 =>
 (some (v4.1,())))
 (cond (v3.2.1==v1)
 ((ba_ a0 v3.2.2).bind fun v5 =>
 (some (v5.1,())))
 (some (false,())))))))
 (cond (a1.2.1==2)
 ((bc_ a1.2.2 0 (w64 ((a0.2.2.1.length:Int) - 1))).bind fun v6 =>
 (cond v6.1
 ((at? a0.2.2.1 a1.2.2).bind fun v7 =>
 (cond (v7==v1)
 ((at? a0.1.2.2.1 a1.2.2).bind fun v8 =>
 ((ba_ a0 v8.2.2).bind fun v9 =>
 (cond v9.1
 ((dc_ a0 a1.1).bind fun v10 =>
 (some ((decide (v10.1<3)),())))
 (some (false,())))))
 (some (false,()))))
 (some (false,()))))
 (cond (a1.2.1==3)
 ((bc_ a1.2.2 0 (w64 ((a0.2.2.1.length:Int) - 1))).bind fun v11 =>
 (cond v11.1
 ((at? a0.2.2.1 a1.2.2).bind fun v12 =>
 (some ((v12==(w64 ((-2) - a1.1))),())))
 (some (false,()))))
 (cond (a1.2.1==4)
 ((bc_ a1.2.2 0 (w64 ((a0.1.2.2.2.2.1.length:Int) - 1))).bind fun v13 =>
 (cond (!v13.1)
 (some (false,()))
 ((at? a0.1.2.2.2.2.1 a1.2.2).bind fun v14 =>
 (cond (v14.2.1==v1)
 ((((af_ (ρ:=(Unit⊕(Bool×Unit))) (fun (v15:(Int×Unit)) =>
 (cond (decide (v15.1<(v14.2.2.2.1.length:Int)))
 ((at? v14.2.2.2.1 v15.1).bind fun v16 =>
 ((at? a0.2.2.1 v16).bind fun v17 =>
 (cond (!(v17==(w64 ((-2) - a1.1))))
 (some (Sum.inr (Sum.inr ((decide (0≤v15.1)),()))))
 (some (Sum.inl ((w64 (v15.1+1)),()))))))
 (some (Sum.inr (Sum.inl ()))))) (0,())).bind fun v18 =>
 (ca_ v18 (fun v19=>(some ((decide (0≤(-1))),())))
 (fun v20=>(some v20))))).bind fun v21 =>
 (cond (!v21.1)
 ((ba_ a0 v14.2.2.2.2.1).bind fun v22 =>
 (cond v22.1
 ((((af_ (ρ:=(Unit⊕(Bool×Unit))) (fun (v23:(Int×Unit)) =>
 (cond (decide (v23.1<(v14.2.2.2.2.2.2.2.length:Int)))
 ((at? v14.2.2.2.2.2.2.2 v23.1).bind fun v24 =>
 ((at? a0.2.2.1 v24).bind fun v25 =>
 (cond (!(v25==(-1)))
 (some (Sum.inr (Sum.inr ((decide (0≤v23.1)),()))))
 (some (Sum.inl ((w64 (v23.1+1)),()))))))
 (some (Sum.inr (Sum.inl ()))))) (0,())).bind fun v26 =>
 (ca_ v26 (fun v27=>(some ((decide (0≤(-1))),())))
 (fun v28=>(some v28))))).bind fun v29 =>
 (cond (!v29.1)
 ((dc_ a0 a1.1).bind fun v30 =>
 (some ((decide ((w64 ((w64 (v30.1 - (v14.2.2.2.2.2.2.1.length:Int)))+(v14.2.2.2.2.2.2.2.length:Int)))≤3)),())))
 (some (false,()))))
 (some (false,()))))
 (some (false,()))))
 (some (false,()))))))
 (some (false,())))))))))
theorem x_152:au_ cx_152 an_152 152 [(.ref es_),ar_] [.bool]=fun x=>cu_ x.1 x.2.1:=by kernel_rfl
noncomputable def c_152:Con Tryz.prog:=aw_ _ _ 152 [(.ref es_),ar_] [.bool] _ x_152
def an_29:An:=(.p .z (.p .z (.p (.p .z (.lp [.v 4 .int] [] [.o (.s 20) ol_] 0 .z)) (.p (.p .z (.lp [.v 5 .int] [] [.o (.s 24) t_api_Way] 2 .z)) (.p (.p .z (.lp [.v 6 .int] [] [.o (.s 28) lo_] 4 .z)) (.p (.p .z (.lp [.v 8 .int] [] [.o (.s 32) xv_] 6 .z)) .z))))))
noncomputable def cs_29:List (Con Tryz.prog):=[c_68,c_69]
noncomputable def cl_29:List (Cpy Tryz.prog):=[]
noncomputable def cx_29:Cx Tryz.prog:=cxC cs_29 cl_29
noncomputable def kw_ (a0:ad_):Option (ad_×Unit) :=
 ((push? (α:=(List UInt8)) [] a0.1).bind fun v0 =>
 ((push? (α:=gn_) [] a0.2.1).bind fun v1 =>
 ((push? (α:=jl_) [] a0.2.2.1).bind fun v2 =>
 ((push? (α:=od_) [] a0.2.2.2.1).bind fun v3 =>
 ((push? (α:=cr_) [] a0.2.2.2.2.1).bind fun v4 =>
 ((push? (α:=ph_) [] a0.2.2.2.2.2.1).bind fun v5 =>
 ((cj_ a0.2.2.2.2.2.2.2).bind fun v6 =>
 ((af_ (ρ:=((List jl_)×Unit)) (fun (v7:(Int×((List jl_)×Unit))) =>
 (cond (decide (v7.1<(v7.2.1.length:Int)))
 ((at? v7.2.1 v7.1).bind fun v8 =>
 ((at? v7.2.1 v7.1).bind fun v9 =>
 ((cj_ v9.2.2).bind fun v10 =>
 ((at? v7.2.1 v7.1).bind fun v11 =>
 ((at? v7.2.1 v7.1).bind fun v12 =>
 (some (Sum.inl ((w64 (v7.1+1)),((v7.2.1.set v7.1.toNat (v12.1,(v12.2.1,v10.1))),())))))))))
 (some (Sum.inr (v7.2.1,()))))) (0,(v2,()))).bind fun v13 =>
 ((af_ (ρ:=((List od_)×Unit)) (fun (v14:(Int×((List od_)×Unit))) =>
 (cond (decide (v14.1<(v14.2.1.length:Int)))
 ((at? v14.2.1 v14.1).bind fun v15 =>
 ((at? v14.2.1 v14.1).bind fun v16 =>
 ((cj_ v16.2.2).bind fun v17 =>
 ((at? v14.2.1 v14.1).bind fun v18 =>
 ((at? v14.2.1 v14.1).bind fun v19 =>
 (some (Sum.inl ((w64 (v14.1+1)),((v14.2.1.set v14.1.toNat (v19.1,(v19.2.1,v17.1))),())))))))))
 (some (Sum.inr (v14.2.1,()))))) (0,(v3,()))).bind fun v20 =>
 ((af_ (ρ:=((List cr_)×Unit)) (fun (v21:(Int×((List cr_)×Unit))) =>
 (cond (decide (v21.1<(v21.2.1.length:Int)))
 ((at? v21.2.1 v21.1).bind fun v22 =>
 ((at? v21.2.1 v21.1).bind fun v23 =>
 ((di_ v23.2.2.2.1).bind fun v24 =>
 ((di_ v23.2.2.2.2.2.2.1).bind fun v25 =>
 ((di_ v23.2.2.2.2.2.2.2).bind fun v26 =>
 ((cj_ v23.2.2.2.2.1).bind fun v27 =>
 ((push? (α:=ab_) [] v23.2.2.2.2.2.1).bind fun v28 =>
 ((at? v21.2.1 v21.1).bind fun v29 =>
 ((at? v21.2.1 v21.1).bind fun v30 =>
 (some (Sum.inl ((w64 (v21.1+1)),((v21.2.1.set v21.1.toNat (v23.1,(v23.2.1,(v23.2.2.1,(v24.1,(v27.1,(v28,(v25.1,v26.1)))))))),())))))))))))))
 (some (Sum.inr (v21.2.1,()))))) (0,(v4,()))).bind fun v31 =>
 ((af_ (ρ:=((List ph_)×Unit)) (fun (v32:(Int×((List ph_)×Unit))) =>
 (cond (decide (v32.1<(v32.2.1.length:Int)))
 ((at? v32.2.1 v32.1).bind fun v33 =>
 ((at? v32.2.1 v32.1).bind fun v34 =>
 ((cj_ v34.1).bind fun v35 =>
 ((at? v32.2.1 v32.1).bind fun v36 =>
 ((at? v32.2.1 v32.1).bind fun v37 =>
 (some (Sum.inl ((w64 (v32.1+1)),((v32.2.1.set v32.1.toNat (v35.1,v37.2)),())))))))))
 (some (Sum.inr (v32.2.1,()))))) (0,(v5,()))).bind fun v38 =>
 (some ((v0,(v1,(v13.1,(v20.1,(v31.1,(v38.1,(a0.2.2.2.2.2.2.1,v6.1))))))),())))))))))))))
theorem x_29:au_ cx_29 an_29 29 [an_] [an_]=fun x=>kw_ x.1:=by kernel_rfl
noncomputable def c_29:Con Tryz.prog:=aw_ _ _ 29 [an_] [an_] _ x_29
noncomputable def ik_ (a0:ac_) (a1:aa_):Option (Bool×Unit) :=
 ((bk_ a1.1 a0.1.2.2.2.2.2.2.2).bind fun v0 =>
 (some (v0.1,())))
end
section
set_option maxRecDepth 100000
set_option maxHeartbeats 0
def an_59:An:=(.p .z (.p (.p .z (.ls [.v 5 .int] [] [] 0 (.p .z (.p (.p (.q [] .z .z) .z) .z)))) .z))
noncomputable def cs_59:List (Con Tryz.prog):=[c_98]
noncomputable def cl_59:List (Cpy Tryz.prog):=[]
noncomputable def cx_59:Cx Tryz.prog:=cxC cs_59 cl_59
noncomputable def cq_ (a0:ad_) (a1:(List bd_)):Option (Bool×Unit) :=
 ((af_ (ρ:=(Unit⊕(Bool×Unit))) (fun (v0:(Int×Unit)) =>
 (cond (decide (v0.1<(a1.length:Int)))
 ((at? a1 v0.1).bind fun v1 =>
 ((at? a1 v0.1).bind fun v2 =>
 ((gl_ a0 v1.1 v2.2.1).bind fun v3 =>
 (cond (!v3.1)
 (some (Sum.inr (Sum.inr (false,()))))
 (some (Sum.inl ((w64 (v0.1+1)),())))))))
 (some (Sum.inr (Sum.inl ()))))) (0,())).bind fun v4 =>
 (ca_ v4 (fun v5=>(some ((decide ((a1.length:Int)≤8)),())))
 (fun v6=>(some v6))))
theorem x_59:au_ cx_59 an_59 59 [an_,(.list bx_)] [.bool]=fun x=>cq_ x.1 x.2.1:=by kernel_rfl
noncomputable def c_59:Con Tryz.prog:=aw_ _ _ 59 [an_,(.list bx_)] [.bool] _ x_59
def an_93:An:=.z
noncomputable def cs_93:List (Con Tryz.prog):=[c_134]
noncomputable def cl_93:List (Cpy Tryz.prog):=[]
noncomputable def cx_93:Cx Tryz.prog:=cxC cs_93 cl_93
noncomputable def dp_ (a0:(List UInt8)):Option (Bool×Unit) :=
 (cond (decide ((a0.length:Int)≤12))
 ((hd_ a0).bind fun v0 =>
 (some (v0.1,())))
 (some (false,())))
theorem x_93:au_ cx_93 an_93 93 [.str] [.bool]=fun x=>dp_ x.1:=by kernel_rfl
noncomputable def c_93:Con Tryz.prog:=aw_ _ _ 93 [.str] [.bool] _ x_93
def an_57:An:=.z
noncomputable def cs_57:List (Con Tryz.prog):=[c_56,c_100]
noncomputable def cl_57:List (Cpy Tryz.prog):=[]
noncomputable def cx_57:Cx Tryz.prog:=cxC cs_57 cl_57
noncomputable def fm_ (a0:ab_) (a1:(List Int)):Option (Int×Unit) :=
 ((ec_ a0).bind fun v0 =>
 (cond (v0.1 != 0)
 (some (v0.1,()))
 ((gf_ a0 a1).bind fun v1 =>
 (cond (!v1.1)
 (some (12,()))
 (some (0,()))))))
theorem x_57:au_ cx_57 an_57 57 [al_,(.list .int)] [.int]=fun x=>fm_ x.1 x.2.1:=by kernel_rfl
noncomputable def c_57:Con Tryz.prog:=aw_ _ _ 57 [al_,(.list .int)] [.int] _ x_57
def an_137:An:=(.p .z (.p (.q [] .z .z) (.p .z (.p .z (.j0 [.v 8 .bool,.b (.s 7) [.keep,.val .int,.val .int,.val .int,.val .int,.val (.list .int),.keep]] (.p .z (.p .z (.p (.j0 [.v 8 .bool] .z .z) (.p .z (.p (.j0 [.v 8 .bool] .z .z) (.j0 [.v 72 .bool] .z (.p (.j0 [.v 8 .bool] .z .z) (.p .z (.p (.j0 [.v 8 .bool] .z .z) (.p .z (.p (.j0 [.v 8 .bool] .z .z) (.p .z (.p (.j0 [.v 8 .bool] .z .z) .z))))))))))))) .z)))))
noncomputable def cs_137:List (Con Tryz.prog):=[c_99,c_100,c_175]
noncomputable def cl_137:List (Cpy Tryz.prog):=[]
noncomputable def cx_137:Cx Tryz.prog:=cxC cs_137 cl_137
noncomputable def gg_ (a0:ab_) (a1:ak_):Option (Bool×Unit) :=
 ((bj_ a1.2.1 0 (w64 (a0.1 - 1))).bind fun v0 =>
 ((bj_ a1.2.2.1 0 (w64 (a0.1 - 1))).bind fun v1 =>
 (((cond (a1.1==1)
 (((cond v0.1
 ((bj_ a1.2.2.2.1 0 (w64 (a0.2 - 1))).bind fun v2 =>
 (some (v2.1,())))
 (some (false,())))).bind fun v3 =>
 (some (v3.1,((a1.2.1,(0,(a1.2.2.2.1,(0,([],()))))),()))))
 (cond (a1.1==2)
 (((cond v0.1
 (cond v1.1
 (cond (decide (a1.2.1≤a1.2.2.1))
 ((bj_ a1.2.2.2.1 0 100).bind fun v4 =>
 (some (v4.1,())))
 (some (false,())))
 (some (false,())))
 (some (false,())))).bind fun v5 =>
 (some (v5.1,((a1.2.1,(a1.2.2.1,(a1.2.2.2.1,(0,([],()))))),()))))
 (((cond (a1.1==3)
 (some ((a1.1==3),()))
 (some ((a1.1==4),())))).bind fun v6 =>
 (cond v6.1
 (((cond v0.1
 (cond v1.1
 (some ((a1.2.1 != a1.2.2.1),()))
 (some (false,())))
 (some (false,())))).bind fun v7 =>
 (some (v7.1,((a1.2.1,(a1.2.2.1,(0,(0,([],()))))),()))))
 (cond (a1.1==5)
 ((((bj_ a1.2.2.2.1 0 (w64 (a0.2 - 1))).bind fun v8 =>
 (cond v8.1
 ((bj_ a1.2.2.2.2.1 0 a0.1).bind fun v9 =>
 (some (v9.1,())))
 (some (false,()))))).bind fun v10 =>
 (some (v10.1,((0,(0,(a1.2.2.2.1,(a1.2.2.2.2.1,([],()))))),()))))
 (cond (a1.1==6)
 ((((gf_ a0 a1.2.2.2.2.2.1).bind fun v11 =>
 (cond v11.1
 ((bj_ a1.2.2.2.1 0 a0.1).bind fun v12 =>
 (cond v12.1
 ((bj_ a1.2.2.2.2.1 0 a0.1).bind fun v13 =>
 (some (v13.1,())))
 (some (false,()))))
 (some (false,()))))).bind fun v14 =>
 (some (v14.1,((0,(0,(a1.2.2.2.1,(a1.2.2.2.2.1,(a1.2.2.2.2.2.1,()))))),()))))
 (cond (a1.1==7)
 (((cond v0.1
 ((bj_ a1.2.2.2.1 2 10).bind fun v15 =>
 (cond v15.1
 ((bj_ a1.2.2.2.2.1 0 (w64 (a1.2.2.2.1 - 1))).bind fun v16 =>
 (some (v16.1,())))
 (some (false,()))))
 (some (false,())))).bind fun v17 =>
 (some (v17.1,((a1.2.1,(0,(a1.2.2.2.1,(a1.2.2.2.2.1,([],()))))),()))))
 (some (false,((0,(0,(0,(0,([],()))))),()))))))))))).bind fun v18 =>
 (cond v18.1
 ((im_ a1 (a1.1,(v18.2.1.1,(v18.2.1.2.1,(v18.2.1.2.2.1,(v18.2.1.2.2.2.1,(v18.2.1.2.2.2.2.1,a1.2.2.2.2.2.2))))))).bind fun v19 =>
 (some (v19.1,())))
 (some (false,()))))))
theorem x_137:au_ cx_137 an_137 137 [al_,ap_] [.bool]=fun x=>gg_ x.1 x.2.1:=by kernel_rfl
noncomputable def c_137:Con Tryz.prog:=aw_ _ _ 137 [al_,ap_] [.bool] _ x_137
def an_103:An:=(.p .z (.p .z (.j0 [.v 5 .bool] (.p .z (.p .z (.p (.q [] .z .z) (.p .z (.p (.p .z (.p (.p .z (.lp [.v 6 .int,.v 7 .int] [.v 6 .int] [] 1 .z)) .z)) (.p .z (.p (.q [] .z .z) (.p .z (.p (.q [] .z .z) (.p .z (.p (.q [] .z .z) (.p .z (.p .z (.p .z (.p (.q [] .z .z) .z))))))))))))))) .z)))
noncomputable def cs_103:List (Con Tryz.prog):=[c_138,c_139]
noncomputable def cl_103:List (Cpy Tryz.prog):=[]
noncomputable def cx_103:Cx Tryz.prog:=cxC cs_103 cl_103
noncomputable def fb_ (a0:ak_) (a1:(List Int)):Option (Bool×Unit) :=
 (((cond (a0.1==1)
 ((at? a1 a0.2.1).bind fun v0 =>
 (some ((v0==a0.2.2.2.1),())))
 (cond (a0.1==2)
 ((af_ (ρ:=(Int×Unit)) (fun (v1:(Int×(Int×Unit))) =>
 (cond (decide (v1.2.1≤a0.2.2.1))
 ((at? a1 v1.2.1).bind fun v2 =>
 (some (Sum.inl ((w64 (v1.1+v2)),((w64 (v1.2.1+1)),())))))
 (some (Sum.inr (v1.1,()))))) (0,(a0.2.1,()))).bind fun v3 =>
 (some ((v3.1==a0.2.2.2.1),())))
 (cond (a0.1==3)
 ((at? a1 a0.2.1).bind fun v4 =>
 ((at? a1 a0.2.2.1).bind fun v5 =>
 (some ((decide (v4<v5)),()))))
 (cond (a0.1==4)
 ((at? a1 a0.2.1).bind fun v6 =>
 ((at? a1 a0.2.2.1).bind fun v7 =>
 (some ((v6==v7),()))))
 (cond (a0.1==5)
 ((eb_ a1 a0.2.2.2.1).bind fun v8 =>
 (some ((v8.1==a0.2.2.2.2.1),())))
 (cond (a0.1==6)
 ((hw_ a1 a0.2.2.2.2.2.1).bind fun v9 =>
 (cond (v9.1==a0.2.2.2.1)
 (some ((v9.2.1==a0.2.2.2.2.1),()))
 (some (false,()))))
 (cond (a0.1==7)
 ((at? a1 a0.2.1).bind fun v10 =>
 ((md v10 a0.2.2.2.1).bind fun v11 =>
 (some ((v11==a0.2.2.2.2.1),()))))
 (some (false,())))))))))).bind fun v12 =>
 (some ((v12.1 != a0.2.2.2.2.2.2),())))
theorem x_103:au_ cx_103 an_103 103 [ap_,(.list .int)] [.bool]=fun x=>fb_ x.1 x.2.1:=by kernel_rfl
noncomputable def c_103:Con Tryz.prog:=aw_ _ _ 103 [ap_,(.list .int)] [.bool] _ x_103
def an_91:An:=(.p .z (.p .z (.p (.q [] .z .z) (.j0 [.o (.c (.s 8) 0) .int,.o (.c (.s 8) 1) .int,.o (.c (.s 8) 2) .int] (.p .z (.p .z (.p .z (.p .z (.p .z (.p .z (.p .z (.p .z (.p (.p .z (.p (.p .z (.lp [.v 12 .int] [] [.o (.c (.s 8) 1) .int] 1 .z)) (.p (.p .z (.lp [.v 13 .int] [] [.o (.c (.s 8) 1) .int] 3 .z)) (.p .z (.lp [.v 14 .int] [] [.o (.c (.s 8) 0) .int] 5 .z))))) .z))))))))) .z))))
def at_91:FuncId→An:=fun k=>.z
noncomputable def cs_91:List (Con Tryz.prog):=[c_133]
noncomputable def cl_91:List (Cpy Tryz.prog):=[]
noncomputable def cx_91:Cx Tryz.prog:=cxI at_91 (fun k=>Nat.beq k 133||false) (cxC cs_91 cl_91) 2
noncomputable def ge_ (a0:ad_) (a1:ai_) (a2:ag_):Option (ai_×Bool×Unit) :=
 ((push? (α:=Int) [] a1.1).bind fun v0 =>
 ((push? (α:=Int) [] a1.2.1).bind fun v1 =>
 ((push? (α:=Int) [] a1.2.2).bind fun v2 =>
 ((at? a1.2.2 a2.1).bind fun v3 =>
 (((cond (a2.2.1==1)
 ((at? a0.2.2.2.1 a2.2.2).bind fun v4 =>
 ((at? a0.2.2.2.1 a2.2.2).bind fun v5 =>
 ((at? v2 a2.1).bind fun v6 =>
 ((at? v2 a2.1).bind fun v7 =>
 (some (v0,(v1,((v2.set a2.1.toNat (w64 ((w64 (v4.1+v5.2.1)) - v3))),()))))))))
 (cond (a2.2.1==2)
 ((at? v1 a2.2.2).bind fun v8 =>
 ((at? v1 a2.2.2).bind fun v9 =>
 (some (v0,((v1.set a2.2.2.toNat (w64 ((-2) - a2.1))),(v2,()))))))
 (cond (a2.2.1==3)
 ((at? v1 a2.2.2).bind fun v10 =>
 ((at? v1 a2.2.2).bind fun v11 =>
 (some (v0,((v1.set a2.2.2.toNat v3),(v2,()))))))
 (cond (a2.2.1==4)
 ((at? a0.2.2.2.2.1 a2.2.2).bind fun v12 =>
 ((af_ (ρ:=((List Int)×Unit)) (fun (v13:(Int×((List Int)×Unit))) =>
 (cond (decide (v13.1<(v12.2.2.2.2.2.2.1.length:Int)))
 ((at? v12.2.2.2.2.2.2.1 v13.1).bind fun v14 =>
 ((at? v13.2.1 v14).bind fun v15 =>
 ((at? v13.2.1 v14).bind fun v16 =>
 (some (Sum.inl ((w64 (v13.1+1)),((v13.2.1.set v14.toNat (-1)),())))))))
 (some (Sum.inr (v13.2.1,()))))) (0,(v1,()))).bind fun v17 =>
 ((af_ (ρ:=((List Int)×Unit)) (fun (v18:(Int×((List Int)×Unit))) =>
 (cond (decide (v18.1<(v12.2.2.2.2.2.2.2.length:Int)))
 ((at? v12.2.2.2.2.2.2.2 v18.1).bind fun v19 =>
 ((at? v18.2.1 v19).bind fun v20 =>
 ((at? v18.2.1 v19).bind fun v21 =>
 (some (Sum.inl ((w64 (v18.1+1)),((v18.2.1.set v19.toNat (w64 ((-2) - a2.1))),())))))))
 (some (Sum.inr (v18.2.1,()))))) (0,(v17.1,()))).bind fun v22 =>
 ((af_ (ρ:=((List Int)×Unit)) (fun (v23:(Int×((List Int)×Unit))) =>
 (cond (decide (v23.1<(v12.2.2.2.2.2.1.length:Int)))
 ((at? v12.2.2.2.2.2.1 v23.1).bind fun v24 =>
 ((at? v12.2.2.2.2.2.1 v23.1).bind fun v25 =>
 ((at? v23.2.1 v24.1).bind fun v26 =>
 ((at? v23.2.1 v24.1).bind fun v27 =>
 (some (Sum.inl ((w64 (v23.1+1)),((v23.2.1.set v24.1.toNat v25.2),()))))))))
 (some (Sum.inr (v23.2.1,()))))) (0,(v0,()))).bind fun v28 =>
 (some (v28.1,(v22.1,(v2,()))))))))
 (some (v0,(v1,(v2,()))))))))).bind fun v29 =>
 ((gd_ a0 (v29.1,(v29.2.1,v29.2.2.1))).bind fun v30 =>
 (some (v30.1,(v30.2.1,())))))))))
theorem x_91:au_ cx_91 an_91 91 [an_,aq_,ar_] [aq_,.bool]=fun x=>ge_ x.1 x.2.1 x.2.2.1:=by kernel_rfl
noncomputable def c_91:Con Tryz.prog:=aw_ _ _ 91 [an_,aq_,ar_] [aq_,.bool] _ x_91
def an_105:An:=(.p .z (.p .z (.p (.p .z (.lp [.r 5 ar_ 71,.v 6 .int] [.r 5 ar_ 71] [] 0 (.p .z (.p (.p .z (.lp [.r 5 ar_ 71,.v 7 .int] [.r 5 ar_ 71] [] 2 (.p .z (.p (.p .z (.lp [.r 5 ar_ 71,.v 8 .int] [.r 5 ar_ 71] [] 4 (.p .z (.j0 [.r 5 ar_ 71] .z .z)))) .z)))) .z)))) .z)))
noncomputable def cs_105:List (Con Tryz.prog):=[c_140]
noncomputable def cl_105:List (Cpy Tryz.prog):=[]
noncomputable def cx_105:Cx Tryz.prog:=cxC cs_105 cl_105
noncomputable def el_ (a0:ad_) (a1:ai_):Option ((List ag_)×Unit) :=
 ((af_ (ρ:=((List ag_)×Unit)) (fun (v0:((List ag_)×(Int×Unit))) =>
 (cond (decide (v0.2.1<a0.2.2.2.2.2.2.1))
 ((af_ (ρ:=((List ag_)×Unit)) (fun (v1:((List ag_)×(Int×Unit))) =>
 (cond (decide (v1.2.1≤4))
 ((af_ (ρ:=((List ag_)×Unit)) (fun (v2:((List ag_)×(Int×Unit))) =>
 (cond (decide (v2.2.1<24))
 ((((ja_ a0 a1 (v0.2.1,(v1.2.1,v2.2.1))).bind fun v3 =>
 (cond v3.1
 ((push? (α:=ag_) v2.1 [(v0.2.1,(v1.2.1,v2.2.1))]).bind fun v4 =>
 (some (v4,())))
 (some (v2.1,()))))).bind fun v5 =>
 (some (Sum.inl (v5.1,((w64 (v2.2.1+1)),())))))
 (some (Sum.inr (v2.1,()))))) (v1.1,(0,()))).bind fun v6 =>
 (some (Sum.inl (v6.1,((w64 (v1.2.1+1)),())))))
 (some (Sum.inr (v1.1,()))))) (v0.1,(1,()))).bind fun v7 =>
 (some (Sum.inl (v7.1,((w64 (v0.2.1+1)),())))))
 (some (Sum.inr (v0.1,()))))) ([],(0,()))).bind fun v8 =>
 (some (v8.1,())))
theorem x_105:au_ cx_105 an_105 105 [an_,aq_] [(.list ar_)]=fun x=>el_ x.1 x.2.1:=by kernel_rfl
noncomputable def c_105:Con Tryz.prog:=aw_ _ _ 105 [an_,aq_] [(.list ar_)] _ x_105
def an_192:An:=(.p .z (.p (.p .z (.ls [.v 6 .int] [] [] 0 (.p .z (.p .z (.p (.p .z (.j0 [.v 18 .bool] .z .z)) .z))))) .z))
noncomputable def cs_192:List (Con Tryz.prog):=[c_221]
noncomputable def cl_192:List (Cpy Tryz.prog):=[]
noncomputable def cx_192:Cx Tryz.prog:=cxC cs_192 cl_192
noncomputable def ev_ (a0:(List UInt8)):Option (Bool×Unit) :=
 ((af_ (ρ:=(Unit⊕(Bool×Unit))) (fun (v0:(Int×Unit)) =>
 (cond (decide (v0.1<(a0.length:Int)))
 ((((at? a0 v0.1).bind fun v1 =>
 (cond (decide (((UInt8.toNat v1):Int)<97))
 (some (true,()))
 ((at? a0 v0.1).bind fun v2 =>
 (some ((decide (122<((UInt8.toNat v2):Int))),())))))).bind fun v3 =>
 (cond v3.1
 (some (Sum.inr (Sum.inr (false,()))))
 (some (Sum.inl ((w64 (v0.1+1)),())))))
 (some (Sum.inr (Sum.inl ()))))) (0,())).bind fun v4 =>
 (ca_ v4 (fun v5=>(cond (!(a0==[]))
 ((ct_ [[97,116],[115,116,97,116,101,115],[115,116,97,114,116],[103,111,110,101],[105,102],[108,111,99,107],[119,105,116,104],[115,101,116,115],[115,112,101,110,100,115],[98,114,105,110,103,115]] a0).bind fun v7 =>
 (some ((!v7.1),())))
 (some (false,()))))
 (fun v6=>(some v6))))
theorem x_192:au_ cx_192 an_192 192 [.str] [.bool]=fun x=>ev_ x.1:=by kernel_rfl
noncomputable def c_192:Con Tryz.prog:=aw_ _ _ 192 [.str] [.bool] _ x_192
def an_162:An:=.z
def at_162:FuncId→An:=fun k=>cond (Nat.beq k 146) (.p .z (.j0 [.v 4 .bool] .z .z)) (cond (Nat.beq k 179) (.p .z (.p (.p .z (.ls [.v 8 .int] [] [] 0 .z)) .z)) (.z))
noncomputable def cs_162:List (Con Tryz.prog):=[c_144]
noncomputable def cl_162:List (Cpy Tryz.prog):=[]
noncomputable def cx_162:Cx Tryz.prog:=cxI at_162 (fun k=>Nat.beq k 144||false) (cxC cs_162 cl_162) 4
noncomputable def dn_ (a0:ad_) (a1:(List bd_)):Option (Bool×Unit) :=
 (cond (decide ((a1.length:Int)≤8))
 ((((af_ (ρ:=(Unit⊕(Bool×Unit))) (fun (v0:(Int×Unit)) =>
 (cond (decide (v0.1<(a1.length:Int)))
 ((at? a1 v0.1).bind fun v1 =>
 ((ew_ a0 v1.1 v1.2.1).bind fun v2 =>
 (cond (!v2.1)
 (some (Sum.inr (Sum.inr ((decide (0≤v0.1)),()))))
 (some (Sum.inl ((w64 (v0.1+1)),()))))))
 (some (Sum.inr (Sum.inl ()))))) (0,())).bind fun v3 =>
 (ca_ v3 (fun v4=>(some ((decide (0≤(-1))),())))
 (fun v5=>(some v5))))).bind fun v6 =>
 (some ((!v6.1),())))
 (some (false,())))
theorem x_162:au_ cx_162 an_162 162 [an_,(.list bx_)] [.bool]=fun x=>dn_ x.1 x.2.1:=by kernel_rfl
noncomputable def c_162:Con Tryz.prog:=aw_ _ _ 162 [an_,(.list bx_)] [.bool] _ x_162
def an_206:An:=.z
def at_206:FuncId→An:=fun k=>cond (Nat.beq k 74) (.p .z (.j0 [.v 4 .bool] .z .z)) (cond (Nat.beq k 116) (.p .z (.p (.p .z (.ls [.v 8 .int] [] [] 0 .z)) .z)) (.z))
noncomputable def cs_206:List (Con Tryz.prog):=[c_232]
noncomputable def cl_206:List (Cpy Tryz.prog):=[]
noncomputable def cx_206:Cx Tryz.prog:=cxI at_206 (fun k=>Nat.beq k 232||false) (cxC cs_206 cl_206) 4
noncomputable def de_ (a0:ab_) (a1:(List Int)):Option (Bool×Unit) :=
 (cond ((a1.length:Int)==a0.1)
 ((((af_ (ρ:=(Unit⊕(Bool×Unit))) (fun (v0:(Int×Unit)) =>
 (cond (decide (v0.1<(a1.length:Int)))
 ((at? a1 v0.1).bind fun v1 =>
 ((cl_ a0 v1).bind fun v2 =>
 (cond (!v2.1)
 (some (Sum.inr (Sum.inr ((decide (0≤v0.1)),()))))
 (some (Sum.inl ((w64 (v0.1+1)),()))))))
 (some (Sum.inr (Sum.inl ()))))) (0,())).bind fun v3 =>
 (ca_ v3 (fun v4=>(some ((decide (0≤(-1))),())))
 (fun v5=>(some v5))))).bind fun v6 =>
 (some ((!v6.1),())))
 (some (false,())))
theorem x_206:au_ cx_206 an_206 206 [al_,(.list .int)] [.bool]=fun x=>de_ x.1 x.2.1:=by kernel_rfl
noncomputable def c_206:Con Tryz.prog:=aw_ _ _ 206 [al_,(.list .int)] [.bool] _ x_206
def an_209:An:=(.p .z (.p (.q [] .z .z) .z))
noncomputable def cs_209:List (Con Tryz.prog):=[c_234]
noncomputable def cl_209:List (Cpy Tryz.prog):=[]
noncomputable def cx_209:Cx Tryz.prog:=cxC cs_209 cl_209
noncomputable def fp_ (a0:ak_) (a1:(List Int)):Option (Bool×Unit) :=
 ((mr_ a0 a1).bind fun v0 =>
 (some ((v0.1 != a0.2.2.2.2.2.2),())))
theorem x_209:au_ cx_209 an_209 209 [ap_,(.list .int)] [.bool]=fun x=>fp_ x.1 x.2.1:=by kernel_rfl
noncomputable def c_209:Con Tryz.prog:=aw_ _ _ 209 [ap_,(.list .int)] [.bool] _ x_209
def an_10:An:=(.p .z (.p .z (.p (.p .z (.lp [.v 4 .int] [] [.b (.s 3) [.keep,.keep,.keep,.keep,.keep,.keep,.keep,.keep,.keep,.row (.list .int) 39,.keep,.keep]] 0 .z)) (.p (.p .z (.lp [.v 5 .int] [] [.o (.s 16) om_] 2 .z)) .z))))
noncomputable def cs_10:List (Con Tryz.prog):=[c_29,c_30]
noncomputable def cl_10:List (Cpy Tryz.prog):=[]
noncomputable def cx_10:Cx Tryz.prog:=cxC cs_10 cl_10
noncomputable def kv_ (a0:ac_):Option (ac_×Unit) :=
 ((kw_ a0.1).bind fun v0 =>
 ((push? (α:=ab_) [] a0.2.1).bind fun v1 =>
 ((push? (α:=cn_) [] a0.2.2.2.1).bind fun v2 =>
 ((af_ (ρ:=(((List (List Int))×Unit)×Unit)) (fun (v3:(Int×(((List (List Int))×Unit)×Unit))) =>
 (cond (decide (v3.1<(a0.2.2.1.length:Int)))
 ((at? a0.2.2.1 v3.1).bind fun v4 =>
 ((push? (α:=Int) [] v4).bind fun v5 =>
 ((push? (α:=(List Int)) v3.2.1.1 [v5]).bind fun v6 =>
 (some (Sum.inl ((w64 (v3.1+1)),((v6,()),())))))))
 (some (Sum.inr ((v3.2.1.1,()),()))))) (0,(([],()),()))).bind fun v7 =>
 ((af_ (ρ:=((List cn_)×Unit)) (fun (v8:(Int×((List cn_)×Unit))) =>
 (cond (decide (v8.1<(v8.2.1.length:Int)))
 ((at? v8.2.1 v8.1).bind fun v9 =>
 ((at? v8.2.1 v8.1).bind fun v10 =>
 ((push? (α:=bd_) [] v10.2.2.2.1).bind fun v11 =>
 ((at? v8.2.1 v8.1).bind fun v12 =>
 ((at? v8.2.1 v8.1).bind fun v13 =>
 ((at? (v8.2.1.set v8.1.toNat (v13.1,(v13.2.1,(v13.2.2.1,(v11,v13.2.2.2.2))))) v8.1).bind fun v14 =>
 ((at? (v8.2.1.set v8.1.toNat (v13.1,(v13.2.1,(v13.2.2.1,(v11,v13.2.2.2.2))))) v8.1).bind fun v15 =>
 ((gi_ v15.2.2.2.2).bind fun v16 =>
 ((at? (v8.2.1.set v8.1.toNat (v13.1,(v13.2.1,(v13.2.2.1,(v11,v13.2.2.2.2))))) v8.1).bind fun v17 =>
 ((at? (v8.2.1.set v8.1.toNat (v13.1,(v13.2.1,(v13.2.2.1,(v11,v13.2.2.2.2))))) v8.1).bind fun v18 =>
 (some (Sum.inl ((w64 (v8.1+1)),(((v8.2.1.set v8.1.toNat (v13.1,(v13.2.1,(v13.2.2.1,(v11,v13.2.2.2.2))))).set v8.1.toNat (v18.1,(v18.2.1,(v18.2.2.1,(v18.2.2.2.1,v16.1))))),()))))))))))))))
 (some (Sum.inr (v8.2.1,()))))) (0,(v2,()))).bind fun v19 =>
 (some ((v0.1,(v1,(v7.1.1,(v19.1,a0.2.2.2.2)))),())))))))
theorem x_10:au_ cx_10 an_10 10 [ao_] [ao_]=fun x=>kv_ x.1:=by kernel_rfl
noncomputable def c_10:Con Tryz.prog:=aw_ _ _ 10 [ao_] [ao_] _ x_10
noncomputable def hr_ (a0:ac_) (a1:ch_) (a2:Int):Option ((List Int)×Unit) :=
 ((mk? (α:=Int) (a1.1.length:Int) 0).bind fun v0 =>
 ((af_ (ρ:=((List Int)×Unit)) (fun (v1:(Int×((List Int)×Unit))) =>
 (cond (decide (v1.1<(v1.2.1.length:Int)))
 ((((at? v1.2.1 v1.1).bind fun v2 =>
 ((at? v1.2.1 v1.1).bind fun v3 =>
 ((at? a1.1 v1.1).bind fun v4 =>
 ((ik_ a0 v4).bind fun v5 =>
 (cond v5.1
 ((at? (v1.2.1.set v1.1.toNat (-1)) v1.1).bind fun v6 =>
 ((at? (v1.2.1.set v1.1.toNat (-1)) v1.1).bind fun v7 =>
 (some (((v1.2.1.set v1.1.toNat (-1)).set v1.1.toNat 0),()))))
 (some ((v1.2.1.set v1.1.toNat (-1)),())))))))).bind fun v8 =>
 (some (Sum.inl ((w64 (v1.1+1)),(v8.1,())))))
 (some (Sum.inr (v1.2.1,()))))) (0,(v0,()))).bind fun v9 =>
 ((af_ (ρ:=((List Int)×Unit)) (fun (v10:(Int×(Bool×((List Int)×Unit)))) =>
 (cond v10.2.1
 ((af_ (ρ:=(Bool×((List Int)×Unit))) (fun (v11:(Bool×(Int×((List Int)×Unit)))) =>
 (cond (decide (v11.2.1<(v11.2.2.1.length:Int)))
 ((af_ (ρ:=(Bool×((List Int)×Unit))) (fun (v12:(Bool×(Int×((List Int)×Unit)))) =>
 ((((at? a1.2 v11.2.1).bind fun v13 =>
 (cond (decide (v12.2.1<(v13.length:Int)))
 ((at? v12.2.2.1 v11.2.1).bind fun v14 =>
 ((at? v12.2.2.1 v11.2.1).bind fun v15 =>
 (some ((decide (v15<0)),()))))
 (some (false,()))))).bind fun v16 =>
 (cond v16.1
 ((((at? a1.2 v11.2.1).bind fun v17 =>
 ((at? v17 v12.2.1).bind fun v18 =>
 ((((at? v12.2.2.1 v18.2).bind fun v19 =>
 ((at? v12.2.2.1 v18.2).bind fun v20 =>
 (cond (v20==(w64 (v10.1 - 1)))
 ((ns_ v18 a2).bind fun v21 =>
 (some ((!v21.1),())))
 (some (false,())))))).bind fun v22 =>
 (cond v22.1
 ((at? v12.2.2.1 v11.2.1).bind fun v23 =>
 ((at? v12.2.2.1 v11.2.1).bind fun v24 =>
 (some (true,((v12.2.2.1.set v11.2.1.toNat v10.1),())))))
 (some (v12.1,(v12.2.2.1,())))))))).bind fun v25 =>
 (some (Sum.inl (v25.1,((w64 (v12.2.1+1)),(v25.2.1,()))))))
 (some (Sum.inr (v12.1,(v12.2.2.1,()))))))) (v11.1,(0,(v11.2.2.1,())))).bind fun v26 =>
 (some (Sum.inl (v26.1,((w64 (v11.2.1+1)),(v26.2.1,()))))))
 (some (Sum.inr (v11.1,(v11.2.2.1,())))))) (false,(0,(v10.2.2.1,())))).bind fun v27 =>
 (some (Sum.inl ((w64 (v10.1+1)),(v27.1,(v27.2.1,()))))))
 (some (Sum.inr (v10.2.2.1,()))))) (1,(true,(v9.1,())))).bind fun v28 =>
 (some (v28.1,())))))
end
section
set_option maxRecDepth 100000
set_option maxHeartbeats 0
def an_97:An:=(.p .z (.p .z (.p (.p .z (.ls [.v 6 .int] [] [] 0 .z)) (.p (.j0 [.v 73 .bool] .z .z) (.p (.p .z (.ls [.v 7 .int] [] [] 2 .z)) (.p (.p .z (.ls [.v 8 .int] [] [] 4 .z)) (.p (.p .z (.ls [.v 9 .int] [] [] 6 (.p .z (.p (.p .z (.p .z (.ls [.v 10 .int] [] [] 8 .z))) .z)))) .z)))))))
noncomputable def cs_97:List (Con Tryz.prog):=[c_93,c_95,c_96,c_98,c_135,c_136]
noncomputable def cl_97:List (Cpy Tryz.prog):=[]
noncomputable def cx_97:Cx Tryz.prog:=cxC cs_97 cl_97
noncomputable def mn_ (a0:ad_) (a1:Int):Option (Bool×Unit) :=
 ((at? a0.2.2.2.2.1 a1).bind fun v0 =>
 ((af_ (ρ:=(Unit⊕(Bool×Unit))) (fun (v1:(Int×Unit)) =>
 (cond (decide (v1.1<a1))
 ((at? a0.2.2.2.2.1 v1.1).bind fun v2 =>
 (cond (v2.1==v0.1)
 (some (Sum.inr (Sum.inr (false,()))))
 (some (Sum.inl ((w64 (v1.1+1)),())))))
 (some (Sum.inr (Sum.inl ()))))) (0,())).bind fun v3 =>
 (ca_ v3 (fun v4=>((((dp_ v0.1).bind fun v6 =>
 (cond (!v6.1)
 (some (true,()))
 ((cp_ a0 v0.2.1).bind fun v7 =>
 (cond (!v7.1)
 (some (true,()))
 ((bp_ v0.2.2.1 (-1) 7).bind fun v8 =>
 (cond (!v8.1)
 (some (true,()))
 ((dd_ a0 v0.2.2.2.1).bind fun v9 =>
 (cond (!v9.1)
 (some (true,()))
 ((dd_ a0 v0.2.2.2.2.2.2.1).bind fun v10 =>
 (cond (!v10.1)
 (some (true,()))
 ((dd_ a0 v0.2.2.2.2.2.2.2).bind fun v11 =>
 (cond (!v11.1)
 (some (true,()))
 (some ((decide (6<(v0.2.2.2.2.2.1.length:Int))),()))))))))))))))).bind fun v12 =>
 (cond v12.1
 (some (false,()))
 ((af_ (ρ:=(Unit⊕(Bool×Unit))) (fun (v13:(Int×Unit)) =>
 (cond (decide (v13.1<(v0.2.2.2.2.2.2.1.length:Int)))
 ((at? v0.2.2.2.2.2.2.1 v13.1).bind fun v14 =>
 ((lw_ v0.2.2.2.1 v14).bind fun v15 =>
 (cond (!v15.1)
 (some (Sum.inr (Sum.inr (false,()))))
 (some (Sum.inl ((w64 (v13.1+1)),()))))))
 (some (Sum.inr (Sum.inl ()))))) (0,())).bind fun v16 =>
 (ca_ v16 (fun v17=>((af_ (ρ:=(Unit⊕(Bool×Unit))) (fun (v19:(Int×Unit)) =>
 (cond (decide (v19.1<(v0.2.2.2.2.2.2.2.length:Int)))
 ((at? v0.2.2.2.2.2.2.2 v19.1).bind fun v20 =>
 ((lw_ v0.2.2.2.1 v20).bind fun v21 =>
 (cond v21.1
 (some (Sum.inr (Sum.inr (false,()))))
 (some (Sum.inl ((w64 (v19.1+1)),()))))))
 (some (Sum.inr (Sum.inl ()))))) (0,())).bind fun v22 =>
 (ca_ v22 (fun v23=>((af_ (ρ:=(Unit⊕(Bool×Unit))) (fun (v25:(Int×Unit)) =>
 (cond (decide (v25.1<(v0.2.2.2.2.2.1.length:Int)))
 ((at? v0.2.2.2.2.2.1 v25.1).bind fun v26 =>
 ((at? v0.2.2.2.2.2.1 v25.1).bind fun v27 =>
 ((gl_ a0 v26.1 v27.2).bind fun v28 =>
 (cond (!v28.1)
 (some (Sum.inr (Sum.inr (false,()))))
 ((af_ (ρ:=(Unit⊕((Int×Unit)⊕(Unit⊕(Bool×Unit))))) (fun (v29:(Int×Unit)) =>
 (cond (decide (v29.1<v25.1))
 ((at? v0.2.2.2.2.2.1 v29.1).bind fun v30 =>
 ((at? v0.2.2.2.2.2.1 v25.1).bind fun v31 =>
 (cond (v30.1==v31.1)
 (some (Sum.inr (Sum.inr (Sum.inr (Sum.inr (false,()))))))
 (some (Sum.inl ((w64 (v29.1+1)),()))))))
 (some (Sum.inr (Sum.inl ()))))) (0,())).bind fun v32 =>
 (ca_ v32 (fun v33=>(some (Sum.inl ((w64 (v25.1+1)),()))))
 (fun v34=>(some v34))))))))
 (some (Sum.inr (Sum.inl ()))))) (0,())).bind fun v35 =>
 (ca_ v35 (fun v36=>(some (true,())))
 (fun v37=>(some v37)))))
 (fun v24=>(some v24)))))
 (fun v18=>(some v18)))))))
 (fun v5=>(some v5)))))
theorem x_97:au_ cx_97 an_97 97 [an_,.int] [.bool]=fun x=>mn_ x.1 x.2.1:=by kernel_rfl
noncomputable def c_97:Con Tryz.prog:=aw_ _ _ 97 [an_,.int] [.bool] _ x_97
def an_102:An:=.z
noncomputable def cs_102:List (Con Tryz.prog):=[c_56,c_137]
noncomputable def cl_102:List (Cpy Tryz.prog):=[]
noncomputable def cx_102:Cx Tryz.prog:=cxC cs_102 cl_102
noncomputable def fn_ (a0:ab_) (a1:ak_):Option (Int×Unit) :=
 ((ec_ a0).bind fun v0 =>
 (cond (v0.1 != 0)
 (some (v0.1,()))
 ((gg_ a0 a1).bind fun v1 =>
 (cond (!v1.1)
 (some (11,()))
 (some (0,()))))))
theorem x_102:au_ cx_102 an_102 102 [al_,ap_] [.int]=fun x=>fn_ x.1 x.2.1:=by kernel_rfl
noncomputable def c_102:Con Tryz.prog:=aw_ _ _ 102 [al_,ap_] [.int] _ x_102
def an_52:An:=.z
noncomputable def cs_52:List (Con Tryz.prog):=[c_88,c_91]
noncomputable def cl_52:List (Cpy Tryz.prog):=[]
noncomputable def cx_52:Cx Tryz.prog:=cxC cs_52 cl_52
noncomputable def ku_ (a0:ac_) (a1:aa_) (a2:ag_):Option (aa_×Unit) :=
 ((ge_ a0.1 a1.1 a2).bind fun v0 =>
 ((ic_ a0 (v0.1,a1.2)).bind fun v1 =>
 (some (v1.1,()))))
theorem x_52:au_ cx_52 an_52 52 [ao_,aj_,ar_] [aj_]=fun x=>ku_ x.1 x.2.1 x.2.2.1:=by kernel_rfl
noncomputable def c_52:Con Tryz.prog:=aw_ _ _ 52 [ao_,aj_,ar_] [aj_] _ x_52
def an_235:An:=(.p .z (.p .z (.p .z (.p (.p .z (.ls [.v 6 .int] [] [] 0 (.p .z (.p (.p (.q [] .z .z) .z) .z)))) .z))))
noncomputable def cs_235:List (Con Tryz.prog):=[c_56,c_137]
noncomputable def cl_235:List (Cpy Tryz.prog):=[]
noncomputable def cx_235:Cx Tryz.prog:=cxC cs_235 cl_235
noncomputable def en_ (a0:ab_) (a1:(List ak_)):Option (Int×Unit) :=
 ((ec_ a0).bind fun v0 =>
 (cond (v0.1 != 0)
 (some (v0.1,()))
 (cond (decide (20<(a1.length:Int)))
 (some (2,()))
 ((af_ (ρ:=(Unit⊕(Int×Unit))) (fun (v1:(Int×Unit)) =>
 (cond (decide (v1.1<(a1.length:Int)))
 ((at? a1 v1.1).bind fun v2 =>
 ((gg_ a0 v2).bind fun v3 =>
 (cond (!v3.1)
 (some (Sum.inr (Sum.inr (11,()))))
 (some (Sum.inl ((w64 (v1.1+1)),()))))))
 (some (Sum.inr (Sum.inl ()))))) (0,())).bind fun v4 =>
 (ca_ v4 (fun v5=>(some (0,())))
 (fun v6=>(some v6)))))))
theorem x_235:au_ cx_235 an_235 235 [al_,(.list ap_)] [.int]=fun x=>en_ x.1 x.2.1:=by kernel_rfl
noncomputable def c_235:Con Tryz.prog:=aw_ _ _ 235 [al_,(.list ap_)] [.int] _ x_235
def an_246:An:=(.p .z (.p (.p .z (.ls [.v 5 .int] [] [] 0 .z)) .z))
noncomputable def cs_246:List (Con Tryz.prog):=[c_103]
noncomputable def cl_246:List (Cpy Tryz.prog):=[]
noncomputable def cx_246:Cx Tryz.prog:=cxC cs_246 cl_246
noncomputable def jc_ (a0:(List ak_)) (a1:(List Int)):Option (Int×Unit) :=
 ((af_ (ρ:=(Unit⊕(Int×Unit))) (fun (v0:(Int×Unit)) =>
 (cond (decide (v0.1<(a0.length:Int)))
 ((at? a0 v0.1).bind fun v1 =>
 ((fb_ v1 a1).bind fun v2 =>
 (cond (!v2.1)
 (some (Sum.inr (Sum.inr (v0.1,()))))
 (some (Sum.inl ((w64 (v0.1+1)),()))))))
 (some (Sum.inr (Sum.inl ()))))) (0,())).bind fun v3 =>
 (ca_ v3 (fun v4=>(some ((-1),())))
 (fun v5=>(some v5))))
theorem x_246:au_ cx_246 an_246 246 [(.list ap_),(.list .int)] [.int]=fun x=>jc_ x.1 x.2.1:=by kernel_rfl
noncomputable def c_246:Con Tryz.prog:=aw_ _ _ 246 [(.list ap_),(.list .int)] [.int] _ x_246
def an_163:An:=(.p .z (.p (.j0 [.v 35 .bool] (.q [] .z .z) .z) (.p (.j0 [.v 60 .bool] .z .z) (.p .z (.p .z (.p (.j0 [.v 72 .bool] .z .z) (.p (.p .z (.ls [.v 76 .int] [] [] 0 (.p .z (.p .z (.p (.p .z (.p .z (.j0 [.v 96 .bool] .z .z))) .z))))) .z)))))))
def at_163:FuncId→An:=fun k=>cond (Nat.beq k 74) (.p .z (.j0 [.v 4 .bool] .z .z)) (cond (Nat.beq k 116) (.p .z (.p (.p .z (.ls [.v 8 .int] [] [] 0 .z)) .z)) (cond (Nat.beq k 197) (.p .z (.j0 [.v 6 .bool] .z .z)) (cond (Nat.beq k 202) (.p .z (.j0 [.v 4 .bool] .z .z)) (cond (Nat.beq k 228) (.p .z (.j0 [.v 6 .int] .z .z)) (cond (Nat.beq k 229) (.p .z (.p (.p .z (.ls [.v 8 .int] [] [] 0 .z)) .z)) (cond (Nat.beq k 242) (.p .z (.p (.p .z (.ls [.v 8 .int] [] [] 0 .z)) .z)) (cond (Nat.beq k 243) (.p .z (.p (.q [] .z .z) .z)) (.z))))))))
noncomputable def cs_163:List (Con Tryz.prog):=[c_126,c_144,c_145,c_192,c_198,c_199]
noncomputable def cl_163:List (Cpy Tryz.prog):=[]
noncomputable def cx_163:Cx Tryz.prog:=cxI at_163 (fun k=>Nat.beq k 126||Nat.beq k 144||Nat.beq k 145||Nat.beq k 192||Nat.beq k 198||Nat.beq k 199||false) (cxC cs_163 cl_163) 12
noncomputable def pa_ (a0:ad_) (a1:Int) (a2:cr_):Option (Bool×Unit) :=
 ((((sub? a0.2.2.2.2.1 0 a1).bind fun v0 =>
 ((((ev_ a2.1).bind fun v1 =>
 (cond v1.1
 (cond (decide ((a2.1.length:Int)≤12))
 ((((af_ (ρ:=(Unit⊕(Int×Unit))) (fun (v2:(Int×Unit)) =>
 (cond (decide (v2.1<(v0.length:Int)))
 ((at? v0 v2.1).bind fun v3 =>
 (cond (v3.1==a2.1)
 (some (Sum.inr (Sum.inr (v2.1,()))))
 (some (Sum.inl ((w64 (v2.1+1)),())))))
 (some (Sum.inr (Sum.inl ()))))) (0,())).bind fun v4 =>
 (ca_ v4 (fun v5=>(some ((-1),())))
 (fun v6=>(some v6))))).bind fun v7 =>
 (some ((decide (v7.1<0)),())))
 (some (false,())))
 (some (false,()))))).bind fun v8 =>
 (cond (!v8.1)
 (some (true,()))
 ((bc_ a2.2.1 0 (w64 ((a0.1.length:Int) - 1))).bind fun v9 =>
 (cond (!v9.1)
 (some (true,()))
 ((bc_ a2.2.2.1 (-1) 7).bind fun v10 =>
 (some ((!v10.1),()))))))))).bind fun v11 =>
 (cond v11.1
 (some (false,()))
 ((((gq_ a0 a2.2.2.2.1).bind fun v12 =>
 (cond (!v12.1)
 (some (true,()))
 ((gq_ a0 a2.2.2.2.2.2.2.1).bind fun v13 =>
 (cond (!v13.1)
 (some (true,()))
 ((gq_ a0 a2.2.2.2.2.2.2.2).bind fun v14 =>
 (cond (!v14.1)
 (some (true,()))
 (some ((decide (6<(a2.2.2.2.2.2.1.length:Int))),()))))))))).bind fun v15 =>
 (cond v15.1
 (some (false,()))
 ((((((af_ (ρ:=(Unit⊕(Bool×Unit))) (fun (v16:(Int×Unit)) =>
 (cond (decide (v16.1<(a2.2.2.2.2.2.2.1.length:Int)))
 ((at? a2.2.2.2.2.2.2.1 v16.1).bind fun v17 =>
 ((bh_ a2.2.2.2.1 v17).bind fun v18 =>
 (cond (!v18.1)
 (some (Sum.inr (Sum.inr ((decide (0≤v16.1)),()))))
 (some (Sum.inl ((w64 (v16.1+1)),()))))))
 (some (Sum.inr (Sum.inl ()))))) (0,())).bind fun v19 =>
 (ca_ v19 (fun v20=>(some ((decide (0≤(-1))),())))
 (fun v21=>(some v21))))).bind fun v22 =>
 (cond v22.1
 (some (true,()))
 ((((af_ (ρ:=(Unit⊕(Bool×Unit))) (fun (v23:(Int×Unit)) =>
 (cond (decide (v23.1<(a2.2.2.2.2.2.2.2.length:Int)))
 ((at? a2.2.2.2.2.2.2.2 v23.1).bind fun v24 =>
 ((bh_ a2.2.2.2.1 v24).bind fun v25 =>
 (cond v25.1
 (some (Sum.inr (Sum.inr ((decide (0≤v23.1)),()))))
 (some (Sum.inl ((w64 (v23.1+1)),()))))))
 (some (Sum.inr (Sum.inl ()))))) (0,())).bind fun v26 =>
 (ca_ v26 (fun v27=>(some ((decide (0≤(-1))),())))
 (fun v28=>(some v28))))).bind fun v29 =>
 (some (v29.1,())))))).bind fun v30 =>
 (cond v30.1
 (some (false,()))
 ((af_ (ρ:=(Unit⊕(Bool×Unit))) (fun (v31:(Int×Unit)) =>
 (cond (decide (v31.1<(a2.2.2.2.2.2.1.length:Int)))
 ((at? a2.2.2.2.2.2.1 v31.1).bind fun v32 =>
 ((sub? a2.2.2.2.2.2.1 0 v31.1).bind fun v33 =>
 ((((af_ (ρ:=(Unit⊕(Bool×Unit))) (fun (v34:(Int×Unit)) =>
 (cond (decide (v34.1<(v33.length:Int)))
 ((at? v33 v34.1).bind fun v35 =>
 (cond (v35.1==v32.1)
 (some (Sum.inr (Sum.inr ((decide (0≤v34.1)),()))))
 (some (Sum.inl ((w64 (v34.1+1)),())))))
 (some (Sum.inr (Sum.inl ()))))) (0,())).bind fun v36 =>
 (ca_ v36 (fun v37=>(some ((decide (0≤(-1))),())))
 (fun v38=>(some v38))))).bind fun v39 =>
 ((((ew_ a0 v32.1 v32.2).bind fun v40 =>
 (cond (!v40.1)
 (some (true,()))
 (some (v39.1,()))))).bind fun v41 =>
 (cond v41.1
 (some (Sum.inr (Sum.inr (false,()))))
 (some (Sum.inl ((w64 (v31.1+1)),()))))))))
 (some (Sum.inr (Sum.inl ()))))) (0,())).bind fun v42 =>
 (ca_ v42 (fun v43=>(some (true,())))
 (fun v44=>(some v44))))))))))
theorem x_163:au_ cx_163 an_163 163 [an_,.int,lo_] [.bool]=fun x=>pa_ x.1 x.2.1 x.2.2.1:=by kernel_rfl
noncomputable def c_163:Con Tryz.prog:=aw_ _ _ 163 [an_,.int,lo_] [.bool] _ x_163
def an_165:An:=.z
def at_165:FuncId→An:=fun k=>cond (Nat.beq k 204) (.p .z (.j0 [.v 4 .bool] .z .z)) (cond (Nat.beq k 230) (.p .z (.p (.p .z (.ls [.v 8 .int] [] [] 0 .z)) .z)) (.z))
noncomputable def cs_165:List (Con Tryz.prog):=[c_119,c_206]
noncomputable def cl_165:List (Cpy Tryz.prog):=[]
noncomputable def cx_165:Cx Tryz.prog:=cxI at_165 (fun k=>Nat.beq k 119||Nat.beq k 206||false) (cxC cs_165 cl_165) 4
noncomputable def hf_ (a0:ab_) (a1:(List (List Int))):Option (Int×Unit) :=
 ((ed_ a0).bind fun v0 =>
 (cond (v0.1 != 0)
 (some (v0.1,()))
 ((((af_ (ρ:=(Unit⊕(Bool×Unit))) (fun (v1:(Int×Unit)) =>
 (cond (decide (v1.1<(a1.length:Int)))
 ((at? a1 v1.1).bind fun v2 =>
 ((de_ a0 v2).bind fun v3 =>
 (cond (!v3.1)
 (some (Sum.inr (Sum.inr ((decide (0≤v1.1)),()))))
 (some (Sum.inl ((w64 (v1.1+1)),()))))))
 (some (Sum.inr (Sum.inl ()))))) (0,())).bind fun v4 =>
 (ca_ v4 (fun v5=>(some ((decide (0≤(-1))),())))
 (fun v6=>(some v6))))).bind fun v7 =>
 (cond v7.1
 (some (12,()))
 (some (0,()))))))
theorem x_165:au_ cx_165 an_165 165 [al_,(.list (.list .int))] [.int]=fun x=>hf_ x.1 x.2.1:=by kernel_rfl
noncomputable def c_165:Con Tryz.prog:=aw_ _ _ 165 [al_,(.list (.list .int))] [.int] _ x_165
def an_233:An:=(.p .z (.p .z (.p .z (.j0 [.v 6 .bool,.b (.s 5) [.keep,.val .int,.val .int,.val .int,.val .int,.val (.list .int),.keep]] (.p .z (.p .z (.p .z (.p .z (.p .z (.j0 [.v 65 .bool] .z .z)))))) .z))))
noncomputable def cs_233:List (Con Tryz.prog):=[c_164,c_206,c_232,c_244]
noncomputable def cl_233:List (Cpy Tryz.prog):=[]
noncomputable def cx_233:Cx Tryz.prog:=cxC cs_233 cl_233
noncomputable def df_ (a0:ab_) (a1:ak_):Option (Bool×Unit) :=
 (((cond (a1.1==1)
 ((bq_ a0 a1.2.1).bind fun v0 =>
 (cond v0.1
 ((cl_ a0 a1.2.2.2.1).bind fun v1 =>
 (some (v1.1,((a1.2.1,(0,(a1.2.2.2.1,(0,([],()))))),()))))
 (some (false,((a1.2.1,(0,(a1.2.2.2.1,(0,([],()))))),())))))
 (cond (a1.1==2)
 ((bq_ a0 a1.2.1).bind fun v2 =>
 (cond v2.1
 ((bq_ a0 a1.2.2.1).bind fun v3 =>
 (cond v3.1
 (cond (decide (a1.2.1≤a1.2.2.1))
 ((bu_ a1.2.2.2.1 0 100).bind fun v4 =>
 (some (v4.1,((a1.2.1,(a1.2.2.1,(a1.2.2.2.1,(0,([],()))))),()))))
 (some (false,((a1.2.1,(a1.2.2.1,(a1.2.2.2.1,(0,([],()))))),()))))
 (some (false,((a1.2.1,(a1.2.2.1,(a1.2.2.2.1,(0,([],()))))),())))))
 (some (false,((a1.2.1,(a1.2.2.1,(a1.2.2.2.1,(0,([],()))))),())))))
 (((cond (a1.1==3)
 (some ((a1.1==3),()))
 (some ((a1.1==4),())))).bind fun v5 =>
 (cond v5.1
 ((bq_ a0 a1.2.1).bind fun v6 =>
 (cond v6.1
 ((bq_ a0 a1.2.2.1).bind fun v7 =>
 (cond v7.1
 (some ((a1.2.1 != a1.2.2.1),((a1.2.1,(a1.2.2.1,(0,(0,([],()))))),())))
 (some (false,((a1.2.1,(a1.2.2.1,(0,(0,([],()))))),())))))
 (some (false,((a1.2.1,(a1.2.2.1,(0,(0,([],()))))),())))))
 (cond (a1.1==5)
 ((cl_ a0 a1.2.2.2.1).bind fun v8 =>
 (cond v8.1
 ((bu_ a1.2.2.2.2.1 0 a0.1).bind fun v9 =>
 (some (v9.1,((0,(0,(a1.2.2.2.1,(a1.2.2.2.2.1,([],()))))),()))))
 (some (false,((0,(0,(a1.2.2.2.1,(a1.2.2.2.2.1,([],()))))),())))))
 (cond (a1.1==6)
 ((bu_ a1.2.2.2.1 0 a0.1).bind fun v10 =>
 (cond v10.1
 ((bu_ a1.2.2.2.2.1 0 a0.1).bind fun v11 =>
 (cond v11.1
 ((de_ a0 a1.2.2.2.2.2.1).bind fun v12 =>
 (some (v12.1,((0,(0,(a1.2.2.2.1,(a1.2.2.2.2.1,(a1.2.2.2.2.2.1,()))))),()))))
 (some (false,((0,(0,(a1.2.2.2.1,(a1.2.2.2.2.1,(a1.2.2.2.2.2.1,()))))),())))))
 (some (false,((0,(0,(a1.2.2.2.1,(a1.2.2.2.2.1,(a1.2.2.2.2.2.1,()))))),())))))
 (cond (a1.1==7)
 ((bq_ a0 a1.2.1).bind fun v13 =>
 (cond v13.1
 ((bu_ a1.2.2.2.1 2 10).bind fun v14 =>
 (cond v14.1
 ((bu_ a1.2.2.2.2.1 0 (w64 (a1.2.2.2.1 - 1))).bind fun v15 =>
 (some (v15.1,((a1.2.1,(0,(a1.2.2.2.1,(a1.2.2.2.2.1,([],()))))),()))))
 (some (false,((a1.2.1,(0,(a1.2.2.2.1,(a1.2.2.2.2.1,([],()))))),())))))
 (some (false,((a1.2.1,(0,(a1.2.2.2.1,(a1.2.2.2.2.1,([],()))))),())))))
 (some (false,((0,(0,(0,(0,([],()))))),()))))))))))).bind fun v16 =>
 (cond v16.1
 (cond (a1.2.1==v16.2.1.1)
 (cond (a1.2.2.1==v16.2.1.2.1)
 (cond (a1.2.2.2.1==v16.2.1.2.2.1)
 (cond (a1.2.2.2.2.1==v16.2.1.2.2.2.1)
 (some (((a1.2.2.2.2.2.1.length:Int)==(v16.2.1.2.2.2.2.1.length:Int)),()))
 (some (false,())))
 (some (false,())))
 (some (false,())))
 (some (false,())))
 (some (false,()))))
theorem x_233:au_ cx_233 an_233 233 [al_,ap_] [.bool]=fun x=>df_ x.1 x.2.1:=by kernel_rfl
noncomputable def c_233:Con Tryz.prog:=aw_ _ _ 233 [al_,ap_] [.bool] _ x_233
def an_262:An:=.z
def at_262:FuncId→An:=fun k=>cond (Nat.beq k 259) (.p .z (.p (.p .z (.ls [.v 8 .int] [] [] 0 .z)) .z)) (.z)
noncomputable def cs_262:List (Con Tryz.prog):=[c_209]
noncomputable def cl_262:List (Cpy Tryz.prog):=[]
noncomputable def cx_262:Cx Tryz.prog:=cxI at_262 (fun k=>Nat.beq k 209||false) (cxC cs_262 cl_262) 3
noncomputable def fq_ (a0:(List ak_)) (a1:(List Int)):Option (Int×Unit) :=
 ((af_ (ρ:=(Unit⊕(Int×Unit))) (fun (v0:(Int×Unit)) =>
 (cond (decide (v0.1<(a0.length:Int)))
 ((at? a0 v0.1).bind fun v1 =>
 ((fp_ v1 a1).bind fun v2 =>
 (cond (!v2.1)
 (some (Sum.inr (Sum.inr (v0.1,()))))
 (some (Sum.inl ((w64 (v0.1+1)),()))))))
 (some (Sum.inr (Sum.inl ()))))) (0,())).bind fun v3 =>
 (ca_ v3 (fun v4=>(some ((-1),())))
 (fun v5=>(some v5))))
theorem x_262:au_ cx_262 an_262 262 [(.list ap_),(.list .int)] [.int]=fun x=>fq_ x.1 x.2.1:=by kernel_rfl
noncomputable def c_262:Con Tryz.prog:=aw_ _ _ 262 [(.list ap_),(.list .int)] [.int] _ x_262
end
end Go.Proofs.YtmdlefagpcmllaaGreatDoor.Rx
namespace Go.Proofs.YtmdlefagpcmllaaGreatDoor.Rx
open Go Pad Rex
section
def wi (a b c:Int):Bool:=decide (b≤a)&&decide (a≤c)
theorem cc_ {a b c:Int}:wi a b c=true↔b≤a∧a≤c:=by simp [wi]
theorem wi_of (a b c:Int):(cond (decide (b≤a)) (some ((decide (a≤c)),())) (some (false,())))=some (wi a b c,()):=by
  unfold wi
  cases decide (b≤a) <;> rfl
theorem dq_ (a b c:Int):bc_ a b c=some (wi a b c,()):=wi_of a b c
theorem jr_ (a b c:Int):bw_ a b c=some (wi a b c,()):=wi_of a b c
theorem ff_ (a b c:Int):bp_ a b c=some (wi a b c,()):=wi_of a b c
theorem ya_ (a b c:Int):id_ a b c=some (wi a b c,()):=wi_of a b c
theorem beqc {α:Type} [BEq α] [LawfulBEq α] (x y:α):(y==x)=(x==y):=by
  rw [j7_,f5_,f5_]
  exact eq_comm
theorem gw_ {α:Type} [BEq α] [LawfulBEq α] (l:List α) (x:α):l.any (x == ·)=l.contains x:=by
  induction l with
  | nil=>rfl
  | cons y l ih=>simp [List.contains_cons,ih]
theorem Index_int {l:List Int} {x:Int} (hl:Sm l.length):∃ i:Int,ek_ l x=some (i,())∧decide (0≤i)=l.contains x:=by
  unfold ek_
  have h1:=np_ l (fun i y=>cond (x==y) (some (Sum.inr ((i:Int),()):Unit⊕(Int×Unit))) none) (fun i=>((i:Int),())) (r0:=Sum.inl ())
    (body:=fun (v0:(Int×Unit)) =>
     (cond (decide (v0.1<(l.length:Int)))
     ((at? l v0.1).bind fun v1 =>
     (cond (x==v1)
     (some (Sum.inr (Sum.inr (v0.1,()))))
     (some (Sum.inl ((w64 (v0.1+1)),())))))
     (some (Sum.inr (Sum.inl ())))))
    (fun i y hy=>by
      have hi:=am_ hy
      simp only [dlt hi,a4_,ah_ hy,a0_,ay_ (show Sm i by omega)]
      cases x==y <;> rfl)
    (by simp only [dnl,a2_])
  rcases zi_ (q:=fun y=>x==y) (f:=fun i=>(Sum.inr ((i:Int),()):Unit⊕(Int×Unit))) l 0 with ⟨h2,h3⟩ | ⟨i,h2,h3⟩
  · refine ⟨-1,d8_ (congrArg (fun o=>Option.bind o _) h1) ?_,by rw [← gw_,h3]; rfl⟩
    rw [h2]; rfl
  · refine ⟨i,d8_ (congrArg (fun o=>Option.bind o _) h1) ?_,by rw [← gw_,h3]; exact b2_ (by omega)⟩
    rw [h2]; rfl
theorem oe_ {l:List Int} {x:Int} (hl:Sm l.length):bh_ l x=some (l.contains x,()):=by
  obtain ⟨i,h1,h2⟩:=Index_int (x:=x) hl
  unfold bh_
  rw [h1,a0_,h2]
theorem Index_string {l:List (List UInt8)} {x:List UInt8} (hl:Sm l.length):∃ i:Int,dm_ l x=some (i,())∧decide (0≤i)=l.contains x:=by
  unfold dm_
  rcases zi_ (q:=fun y=>x==y) (f:=fun i=>(Sum.inr ((i:Int),()):Unit⊕(Int×Unit))) l 0 with ⟨h2,h3⟩ | ⟨i,h2,h3⟩
  · refine ⟨-1,bn_ l (fun i y=>cond (x==y) (some (Sum.inr ((i:Int),()):Unit⊕(Int×Unit))) none) (fun i=>((i:Int),())) (r0:=Sum.inl ()) (fun i y hy => ?_) ?_ ?_,by rw [← gw_,h3]; rfl⟩
    · have hi:=am_ hy
      simp only [dlt hi,a4_,ah_ hy,a0_,ay_ (show Sm i by omega)]
      cases x==y <;> rfl
    · simp only [dnl,a2_]
    · rw [h2]; rfl
  · refine ⟨i,bn_ l (fun i y=>cond (x==y) (some (Sum.inr ((i:Int),()):Unit⊕(Int×Unit))) none) (fun i=>((i:Int),())) (r0:=Sum.inl ()) (fun i y hy => ?_) ?_ ?_,by rw [← gw_,h3]; exact b2_ (by omega)⟩
    · have hi:=am_ hy
      simp only [dlt hi,a4_,ah_ hy,a0_,ay_ (show Sm i by omega)]
      cases x==y <;> rfl
    · simp only [dnl,a2_]
    · rw [h2]; rfl
theorem xe_ {l:List (List UInt8)} {x:List UInt8} (hl:Sm l.length):ct_ l x=some (l.contains x,()):=by
  obtain ⟨i,h1,h2⟩:=Index_string (x:=x) hl
  unfold ct_
  rw [h1,a0_,h2]
theorem ref02_in {l:List Int} {x:Int} (hl:Sm l.length):lw_ l x=some (l.contains x,()):=by
  unfold lw_
  refine bn_ l (fun i y=>cond (x==y) (some (Sum.inr (true,()):Unit⊕(Bool×Unit))) none) (fun i=>((i:Int),())) (r0:=Sum.inl ()) (fun i y hy => ?_) ?_ ?_
  · have hi:=am_ hy
    simp only [dlt hi,a4_,ah_ hy,a0_,ay_ (show Sm i by omega)]
    rw [beqc x y]
    cases x==y <;> rfl
  · simp only [dnl,a2_]
  · rw [gz_ (q:=fun y=>x==y),gw_]
    cases l.contains x <;> rfl
def xp_ (c:UInt8):Bool:=decide (97≤(c.toNat:Int))&&decide ((c.toNat:Int)≤122)
def okW (t:List UInt8):Bool:=t.all xp_&&(!(t==[])&&!(reserved.contains t))
def okN (t:List UInt8):Bool:=decide ((t.length:Int)≤12)&&okW t
theorem lower_of (c:UInt8):(cond (decide (((UInt8.toNat c):Int)<97)) (some (true,())) (some ((decide (122<((UInt8.toNat c):Int))),())))=some (!(xp_ c),()):=by
  unfold xp_
  by_cases h1:((UInt8.toNat c):Int)<97
  · rw [b2_ h1,b7_ (by omega:¬ (97:Int)≤(c.toNat:Int))]; rfl
  · rw [b7_ h1,b2_ (by omega:(97:Int)≤(c.toNat:Int))]
    by_cases h2:122<((UInt8.toNat c):Int)
    · rw [b2_ h2,b7_ (by omega:¬ ((UInt8.toNat c):Int)≤122)]; rfl
    · rw [b7_ h2,b2_ (by omega:((UInt8.toNat c):Int)≤122)]; rfl
theorem nq_ {t:List UInt8} (hl:Sm t.length):af_ (ρ:=(Unit⊕(Bool×Unit))) (fun (v0:(Int×Unit)) =>
 (cond (decide (v0.1<(t.length:Int)))
 ((((at? t v0.1).bind fun v1 =>
 (cond (decide (((UInt8.toNat v1):Int)<97))
 (some (true,()))
 ((at? t v0.1).bind fun v2 =>
 (some ((decide (122<((UInt8.toNat v2):Int))),())))))).bind fun v3 =>
 (cond v3.1
 (some (Sum.inr (Sum.inr (false,()))))
 (some (Sum.inl ((w64 (v0.1+1)),())))))
 (some (Sum.inr (Sum.inl ()))))) (0,())=some (cond (t.all xp_) (Sum.inl ()) (Sum.inr (false,()))):=by
  refine d8_ (np_ t (fun i c=>cond (xp_ c) none (some (Sum.inr (false,()):Unit⊕(Bool×Unit)))) (fun i=>((i:Int),())) (r0:=Sum.inl ()) (fun i y hy => ?_) ?_) ?_
  · have hi:=am_ hy
    simp only [dlt hi,a4_,ah_ hy,a0_,ay_ (show Sm i by omega),lower_of]
    cases xp_ y <;> rfl
  · simp only [dnl,a2_]
  · rw [ir_]
    cases t.all xp_ <;> rfl
theorem room_word {t:List UInt8} (hl:Sm t.length):ev_ t=some (okW t,()):=by
  unfold ev_
  refine d8_ (congrArg (fun o=>Option.bind o _) (nq_ hl)) ?_
  unfold okW
  rw [a0_]
  cases t.all xp_ with
  | false=>rfl
  | true =>
    simp only [a4_,c0_]
    cases t==[] with
    | true=>rfl
    | false =>
      simp only [g7_,a4_,c0_]
      rw [xe_ (by decide),a0_]
      rfl
theorem zn_ {t:List UInt8} (hl:Sm t.length):hd_ t=some (okW t,()):=by
  unfold hd_
  refine d8_ (congrArg (fun o=>Option.bind o _) (nq_ hl)) ?_
  unfold okW
  rw [a0_]
  cases t.all xp_ with
  | false=>rfl
  | true =>
    simp only [a4_,c0_]
    refine bn_ reserved (fun i y=>cond (t==y) (some (Sum.inr (false,()):Unit⊕(Bool×Unit))) none) (fun i=>((i:Int),())) (r0:=Sum.inl ()) (fun i y hy => ?_) ?_ ?_
    · have hi:=am_ hy
      have h10:i<10:=hi
      have hy':=hy
      unfold reserved at hy'
      refine d8_ (congrArg (fun c=>cond c _ _) (dlt hi)) ?_
      simp only [a4_,ah_ hy',a0_,ay_ (show Sm i by omega)]
      rw [beqc t y]
      cases t==y <;> rfl
    · rfl
    · rw [gz_ (q:=fun y=>t==y),gw_]
      cases reserved.contains t with
      | true=>simp
      | false=>simp
theorem play_word {t:List UInt8} (hl:Sm t.length):mp_ t=some (okW t,()):=by
  unfold mp_
  have h0:(((cond (t==[]) (some ((t==[]),())) (cond (t==[97,116]) (some ((t==[97,116]),())) (cond (t==[115,116,97,116,101,115]) (some ((t==[115,116,97,116,101,115]),())) (cond (t==[115,116,97,114,116]) (some ((t==[115,116,97,114,116]),()))
     (cond (t==[103,111,110,101]) (some ((t==[103,111,110,101]),())) (cond (t==[105,102]) (some ((t==[105,102]),())) (cond (t==[108,111,99,107]) (some ((t==[108,111,99,107]),())) (cond (t==[119,105,116,104]) (some ((t==[119,105,116,104]),()))
     (cond (t==[115,101,116,115]) (some ((t==[115,101,116,115]),())) (cond (t==[115,112,101,110,100,115]) (some ((t==[115,112,101,110,100,115]),())) (some ((t==[98,114,105,110,103,115]),()))))))))))))):Option (Bool×Unit))=some ((t==[]||reserved.contains t),()):=by
    unfold reserved
    simp only [List.contains_cons,List.contains_nil,g0_]
    cases t==[] with
    | true=>rfl
    | false =>
    cases t==[97,116] with
    | true=>rfl
    | false =>
    cases t==[115,116,97,116,101,115] with
    | true=>rfl
    | false =>
    cases t==[115,116,97,114,116] with
    | true=>rfl
    | false =>
    cases t==[103,111,110,101] with
    | true=>rfl
    | false =>
    cases t==[105,102] with
    | true=>rfl
    | false =>
    cases t==[108,111,99,107] with
    | true=>rfl
    | false =>
    cases t==[119,105,116,104] with
    | true=>rfl
    | false =>
    cases t==[115,101,116,115] with
    | true=>rfl
    | false =>
    cases t==[115,112,101,110,100,115] with
    | true=>rfl
    | false=>rfl
  refine d8_ (congrArg (fun o=>Option.bind o _) h0) ?_
  rw [a0_]
  unfold okW
  cases hz:(t==[]||reserved.contains t) with
  | true =>
    have:(!(t==[])&&!(reserved.contains t))=false:=by
      rw [← Bool.not_or,hz]; rfl
    rw [this,f7_]
    rfl
  | false =>
    have:(!(t==[])&&!(reserved.contains t))=true:=by
      rw [← Bool.not_or,hz]; rfl
    rw [this,h4_]
    simp only [a2_]
    refine d8_ (congrArg (fun o=>Option.bind o _) (nq_ hl)) ?_
    rw [a0_]
    cases t.all xp_ <;> rfl
theorem jq_ {t:List UInt8} (hl:Sm t.length):dp_ t=some (okN t,()):=by
  unfold dp_ okN
  rw [zn_ hl]
  cases decide ((t.length:Int)≤12) <;> rfl
end
section
def nb_ (things:List gn_) (th n:Int):Bool:=wi th 0 (w64 ((things.length:Int) - 1))&&match at? things th with
  | some t=>wi n 0 (w64 (t.2.2.1 - 1))
  | none=>false
theorem at_of_wi {α:Type} {l:List α} {i:Int} (hl:Sm l.length) (h:wi i 0 (w64 ((l.length:Int) - 1))=true):∃ x,at? l i=some x:=by
  rw [fv_ (by omega) (by omega)] at h
  obtain ⟨h1,h2⟩:=cc_.1 h
  obtain ⟨x,hx⟩:=bb_ (l:=l) (i:=i.toNat) (by omega)
  exact ⟨x,by rw [show i=((i.toNat:Nat):Int) by omega]; exact ah_ hx⟩
theorem os_ {r:ad_} (hl:Sm r.2.1.length) (th n:Int):ew_ r th n=some (nb_ r.2.1 th n,()):=by
  unfold ew_ nb_
  rw [dq_,a0_]
  cases h:wi th 0 (w64 ((r.2.1.length:Int) - 1)) with
  | false=>rfl
  | true =>
    obtain ⟨x,hx⟩:=at_of_wi hl h
    simp only [a4_,hx,a0_,dq_,c0_]
theorem qn_ {r:ad_} (hl:Sm r.2.1.length) (th n:Int):gl_ r th n=some (nb_ r.2.1 th n,()):=by
  unfold gl_ nb_
  rw [ff_,a0_]
  cases h:wi th 0 (w64 ((r.2.1.length:Int) - 1)) with
  | false=>rfl
  | true =>
    obtain ⟨x,hx⟩:=at_of_wi hl h
    simp only [a4_,hx,a0_,ff_,c0_]
def cOk (things:List gn_) (c:List bd_):Bool:=decide ((c.length:Int)≤8)&&c.all fun l=>nb_ things l.1 l.2.1
theorem sq_ {α:Type} (l:List α) (q:α→Bool):(!(l.any fun x=>!(q x)))=l.all q:=by
  induction l with
  | nil=>rfl
  | cons x l ih =>
    rw [p0_,List.all_cons,← ih]
    cases q x <;> rfl
theorem jh_ {r:ad_} (hl:Sm r.2.1.length) (c:List bd_):dn_ r c=some (cOk r.2.1 c,()):=by
  unfold dn_ cOk
  cases h8:decide ((c.length:Int)≤8) with
  | false=>rfl
  | true =>
    have h8:=g8_ h8
    simp only [a4_,c0_]
    refine d8_ (congrArg (fun o=>Option.bind o _) (lf_ (show Sm c.length by omega) (fun l=>!(nb_ r.2.1 l.1 l.2.1)) (fun i y hy => ?_) ?_)) ?_
    · simp only [dlt (am_ hy),a4_,ah_ hy,a0_,os_ hl]
      cases nb_ r.2.1 y.1 y.2.1 <;> rfl
    · simp only [dnl,a2_]
    · rw [a0_]
      exact congrArg (fun b=>some (b,())) (sq_ c _)
theorem go_ {r:ad_} (hl:Sm r.2.1.length) {c:List bd_} (hc:Sm c.length):cq_ r c=some (cOk r.2.1 c,()):=by
  unfold cq_ cOk
  refine bn_ c (fun i l=>cond (nb_ r.2.1 l.1 l.2.1) none (some (Sum.inr (false,()):Unit⊕(Bool×Unit)))) (fun i=>((i:Int),())) (r0:=Sum.inl ()) (fun i y hy => ?_) ?_ ?_
  · have hi:=am_ hy
    simp only [dlt hi,a4_,ah_ hy,a0_,ay_ (show Sm i by omega),qn_ hl]
    cases nb_ r.2.1 y.1 y.2.1 <;> rfl
  · simp only [dnl,a2_]
  · rw [ir_ (q:=fun l:bd_=>nb_ r.2.1 l.1 l.2.1)]
    cases c.all fun l=>nb_ r.2.1 l.1 l.2.1 with
    | true=>rw [h4_]; rfl
    | false=>rw [f7_]; rfl
theorem play_valid {r:ad_} (hl:Sm r.2.1.length) (c:List bd_):kz_ r c=some (cOk r.2.1 c,()):=by
  unfold kz_ cOk
  cases h8:decide ((c.length:Int)≤8) with
  | false=>rfl
  | true =>
    have h8:=g8_ h8
    simp only [a4_,c0_]
    refine d8_ (congrArg (fun o=>Option.bind o _) (lf_ (show Sm c.length by omega) (fun l=>!(nb_ r.2.1 l.1 l.2.1)) (fun i y hy => ?_) ?_)) ?_
    · simp only [dlt (am_ hy),a4_,ah_ hy,a0_,jr_,nb_]
      cases h:wi y.1 0 (w64 ((r.2.1.length:Int) - 1)) with
      | false=>rfl
      | true =>
        obtain ⟨x,hx⟩:=at_of_wi hl h
        simp only [e5_,a2_,hx,a0_,c0_]
        cases wi y.2.1 0 (w64 (x.2.2.1 - 1)) <;> rfl
    · simp only [dnl,a2_]
    · rw [a0_]
      exact congrArg (fun b=>some (b,())) (sq_ c _)
end
section
def prv (l:List Int) (i:Nat):Int:=match i with
  | 0=>-1
  | j+1=>(l[j]?).getD 0
def badP (np:Nat) (l:List Int) (i:Nat) (x:Int):Bool:=decide (x≤prv l i)||decide ((np:Int)≤x)
def badQ (np:Nat) (l:List Int) (i:Nat) (x:Int):Bool:=!(wi x 0 ((np:Int) - 1))||(decide (0<i)&&decide (x≤prv l i))
def ki_ (np:Nat) (l:List Int):Bool:=(fy_ (fun i x=>cond (badP np l i x) (some ()) none) 0 l).isNone
theorem vb_ {α ρ:Type} {q:Nat→α→Bool} {r:ρ}:∀ (l:List α) (i:Nat),fy_ (fun i x=>cond (q i x) (some r) none) i l=cond (fy_ (fun i x=>cond (q i x) (some ()) none) i l).isNone none (some r)
  | [],_=>rfl
  | x::l,i=>by
    unfold fy_
    cases q i x with
    | true=>rfl
    | false=>exact vb_ l (i+1)
theorem zh_ {α:Type} {q:Nat→α→Bool} (l:List α):(fy_ (fun i x=>cond (q i x) (some ()) none) 0 l).isNone=true↔∀ i x,l[i]?=some x→q i x=false:=by
  rw [Option.isNone_iff_eq_none,hy_]
  constructor
  · intro h i x hx
    have:=h i x hx
    rw [b0_] at this
    cases hq:q i x with
    | false=>rfl
    | true=>rw [hq] at this; cases this
  · intro h i x hx
    rw [b0_,h i x hx]
    rfl
theorem asc_eq (np:Nat) (l:List Int):(fy_ (fun i x=>cond (badQ np l i x) (some ()) none) 0 l).isNone=ki_ np l:=by
  rw [j7_]
  unfold ki_
  rw [zh_,zh_]
  constructor
  · intro h i x hx
    have h0:=h i x hx
    unfold badQ at h0
    rw [c2_] at h0
    obtain ⟨h1,h2⟩:=h0
    have h1:wi x 0 ((np:Int) - 1)=true:=by simpa using h1
    obtain ⟨h3,h4⟩:=cc_.1 h1
    unfold badP
    rw [c2_]
    refine ⟨?_,b7_ (by omega)⟩
    cases i with
    | zero=>exact b7_ (by show ¬ x≤-1; omega)
    | succ j =>
      have:decide (0<j+1)=true:=b2_ (by omega)
      rw [this,c0_] at h2
      exact h2
  · intro h
    have pos:∀ (i:Nat) (x:Int),l[i]?=some x→0≤x∧x<np:=by
      intro i
      induction i with
      | zero =>
        intro x hx
        have h0:=h 0 x hx
        unfold badP at h0
        rw [c2_] at h0
        have h1:=d6_ h0.1
        have h2:=d6_ h0.2
        have h1:¬ x≤-1:=h1
        omega
      | succ j ih =>
        intro x hx
        have h0:=h (j+1) x hx
        unfold badP at h0
        rw [c2_] at h0
        have h1:=d6_ h0.1
        have h2:=d6_ h0.2
        obtain ⟨y,hy⟩:=bb_ (l:=l) (i:=j) (by have:=am_ hx; omega)
        have h3:=ih y hy
        have h1:¬ x≤(l[j]?).getD 0:=h1
        rw [hy] at h1
        have h1:¬ x≤y:=h1
        omega
    intro i x hx
    have h0:=h i x hx
    unfold badP at h0
    rw [c2_] at h0
    have hp:=pos i x hx
    unfold badQ
    have:wi x 0 ((np:Int) - 1)=true:=cc_.2 ⟨hp.1,by omega⟩
    rw [this,h0.1,f7_]
    rfl
theorem rp_ {r:ad_} {l:List Int} (hl:Sm l.length):gq_ r l=some (ki_ r.2.2.1.length l,()):=by
  unfold gq_
  refine bn_ l (fun i x=>cond (badP r.2.2.1.length l i x) (some (Sum.inr (false,()):Unit⊕(Bool×Unit))) none) (fun i=>(prv l i,((i:Int),()))) (r0:=Sum.inl ()) (fun i y hy => ?_) ?_ ?_
  · have hi:=am_ hy
    simp only [dlt hi,a4_,ah_ hy,a0_,ay_ (show Sm i by omega),badP]
    have hn:prv l (i+1)=y:=by show (l[i]?).getD 0=y; rw [hy]; rfl
    cases decide (y≤prv l i) with
    | true=>rfl
    | false =>
      simp only [a2_,k3_,a0_,hn]
      cases decide ((r.2.2.1.length:Int)≤y) <;> rfl
  · simp only [dnl,a2_]
  · rw [vb_]
    unfold ki_
    cases (fy_ (fun i x=>cond (badP r.2.2.1.length l i x) (some ()) none) 0 l).isNone <;> rfl
theorem jp_ {r:ad_} (hp:Sm r.2.2.1.length) {l:List Int} (hl:Sm l.length):dd_ r l=some (ki_ r.2.2.1.length l,()):=by
  unfold dd_
  refine bn_ l (fun i x=>cond (badQ r.2.2.1.length l i x) (some (Sum.inr (false,()):Unit⊕(Bool×Unit))) none) (fun i=>((i:Int),())) (r0:=Sum.inl ()) (fun i y hy => ?_) ?_ ?_
  · have hi:=am_ hy
    rw [show w64 ((r.2.2.1.length:Int) - 1)=(r.2.2.1.length:Int) - 1 from fv_ (by omega) (by omega)]
    simp only [dlt hi,a4_,ah_ hy,a0_,ay_ (show Sm i by omega),ff_,badQ]
    cases wi y 0 ((r.2.2.1.length:Int) - 1) with
    | false=>rfl
    | true =>
      simp only [e5_,a2_,k3_]
      cases i with
      | zero=>rfl
      | succ j =>
        obtain ⟨z,hz⟩:=bb_ (l:=l) (i:=j) (by omega)
        have e:w64 (((j+1:Nat):Int) - 1)=(j:Int):=by rw [fv_ (by omega) (by omega)]; omega
        have hn:prv l (j+1)=z:=by show (l[j]?).getD 0=z; rw [hz]; rfl
        rw [show decide (0<((j+1:Nat):Int))=true from b2_ (by omega),e,ah_ hz,hn,show decide (0<j+1)=true from b2_ (by omega)]
        simp only [a4_,a0_,c0_]
        cases decide (y≤z) <;> rfl
  · simp only [dnl,a2_]
  · rw [vb_,asc_eq]
    cases ki_ r.2.2.1.length l <;> rfl
end
end Go.Proofs.YtmdlefagpcmllaaGreatDoor.Rx
namespace Go.Proofs.YtmdlefagpcmllaaGreatDoor.Rx
open Go Pad Rex Go.Proofs
section
set_option maxRecDepth 100000
set_option maxHeartbeats 0
def an_55:An:=(.p .z (.p (.j0 [.v 46 .bool] .z .z) (.p .z (.p (.p .z (.ls [.v 3 .int] [] [] 0 (.p .z (.p (.j0 [.v 70 .bool] .z .z) .z)))) (.p .z (.p (.p .z (.ls [.r 4 .str 9,.v 5 .int] [] [] 2 (.p .z (.p (.p .z (.p .z (.j0 [.v 118 .bool] .z .z))) .z)))) (.p .z (.p (.p .z (.ls [.r 4 .str 9,.v 7 .int] [] [] 4 (.p .z (.p (.p .z (.p .z (.p (.j0 [.v 156 .bool] .z .z) .z))) .z)))) (.p (.p .z (.ls [.v 9 .int] [] [] 6 (.p .z (.p (.p .z (.p (.j0 [.v 192 .bool] .z .z) .z)) .z)))) (.p (.p .z (.ls [.v 11 .int] [] [] 8 (.p .z (.p (.p .z (.p (.q [] .z .z) .z)) .z)))) (.p (.p .z (.ls [.v 12 .int] [] [] 10 (.p .z (.p (.p (.p (.q [] .z .z) .z) (.p (.q [] .z .z) .z)) .z)))) .z)))))))))))
noncomputable def cs_55:List (Con Tryz.prog):=[c_59,c_93,c_94,c_95,c_96,c_97,c_98]
noncomputable def cl_55:List (Cpy Tryz.prog):=[]
noncomputable def cx_55:Cx Tryz.prog:=cxC cs_55 cl_55
noncomputable def fl_ (a0:ad_):Option (Int×Unit) :=
 (((cond (decide (8<(a0.1.length:Int)))
 (some (true,()))
 (cond (decide (12<(a0.2.1.length:Int)))
 (some (true,()))
 (cond (decide (10<(a0.2.2.1.length:Int)))
 (some (true,()))
 (cond (decide (16<(a0.2.2.2.1.length:Int)))
 (some (true,()))
 (cond (decide (24<(a0.2.2.2.2.1.length:Int)))
 (some (true,()))
 (some ((decide (12<(a0.2.2.2.2.2.1.length:Int))),())))))))).bind fun v0 =>
 (cond v0.1
 (some (2,()))
 (cond ((a0.1.length:Int)==0)
 (some (22,()))
 ((af_ (ρ:=(Unit⊕(Int×Unit))) (fun (v1:(Int×Unit)) =>
 (cond (decide (v1.1<(a0.1.length:Int)))
 ((((at? a0.1 v1.1).bind fun v2 =>
 ((dp_ v2).bind fun v3 =>
 (cond (!v3.1)
 (some (true,()))
 ((fj_ a0.1 v1.1).bind fun v4 =>
 (some (v4.1,()))))))).bind fun v5 =>
 (cond v5.1
 (some (Sum.inr (Sum.inr (22,()))))
 (some (Sum.inl ((w64 (v1.1+1)),())))))
 (some (Sum.inr (Sum.inl ()))))) (0,())).bind fun v6 =>
 (ca_ v6 (fun v7=>((af_ (ρ:=(Unit⊕(Int×Unit))) (fun (v9:((List (List UInt8))×(Int×Unit))) =>
 (cond (decide (v9.2.1<(a0.2.1.length:Int)))
 ((at? a0.2.1 v9.2.1).bind fun v10 =>
 ((push? (α:=(List UInt8)) v9.1 [v10.1]).bind fun v11 =>
 ((((dp_ v10.1).bind fun v12 =>
 (cond (!v12.1)
 (some (true,()))
 ((fj_ v11 v9.2.1).bind fun v13 =>
 (cond v13.1
 (some (true,()))
 ((cp_ a0 v10.2.1).bind fun v14 =>
 (cond (!v14.1)
 (some (true,()))
 ((bp_ v10.2.2.1 2 6).bind fun v15 =>
 (cond (!v15.1)
 (some (true,()))
 ((bp_ v10.2.2.2 0 (w64 (v10.2.2.1 - 1))).bind fun v16 =>
 (some ((!v16.1),())))))))))))).bind fun v17 =>
 (cond v17.1
 (some (Sum.inr (Sum.inr (21,()))))
 (some (Sum.inl (v11,((w64 (v9.2.1+1)),()))))))))
 (some (Sum.inr (Sum.inl ()))))) ([],(0,()))).bind fun v18 =>
 (ca_ v18 (fun v19=>((af_ (ρ:=(Unit⊕(Int×Unit))) (fun (v21:((List (List UInt8))×(Int×Unit))) =>
 (cond (decide (v21.2.1<(a0.2.2.1.length:Int)))
 ((at? a0.2.2.1 v21.2.1).bind fun v22 =>
 ((push? (α:=(List UInt8)) v21.1 [v22.1]).bind fun v23 =>
 ((((dp_ v22.1).bind fun v24 =>
 (cond (!v24.1)
 (some (true,()))
 ((fj_ v23 v21.2.1).bind fun v25 =>
 (cond v25.1
 (some (true,()))
 (cond (v22.2.1 != (-1))
 ((cp_ a0 v22.2.1).bind fun v26 =>
 (some ((!v26.1),())))
 (some (false,())))))))).bind fun v27 =>
 (cond v27.1
 (some (Sum.inr (Sum.inr (24,()))))
 ((cq_ a0 v22.2.2).bind fun v28 =>
 (cond (!v28.1)
 (some (Sum.inr (Sum.inr (25,()))))
 (some (Sum.inl (v23,((w64 (v21.2.1+1)),()))))))))))
 (some (Sum.inr (Sum.inl ()))))) ([],(0,()))).bind fun v29 =>
 (ca_ v29 (fun v30=>((af_ (ρ:=(Unit⊕(Int×Unit))) (fun (v32:(Int×Unit)) =>
 (cond (decide (v32.1<(a0.2.2.2.1.length:Int)))
 ((at? a0.2.2.2.1 v32.1).bind fun v33 =>
 ((((cp_ a0 v33.1).bind fun v34 =>
 (cond (!v34.1)
 (some (true,()))
 ((cp_ a0 v33.2.1).bind fun v35 =>
 (cond (!v35.1)
 (some (true,()))
 (some ((v33.1==v33.2.1),()))))))).bind fun v36 =>
 (cond v36.1
 (some (Sum.inr (Sum.inr (23,()))))
 ((cq_ a0 v33.2.2).bind fun v37 =>
 (cond (!v37.1)
 (some (Sum.inr (Sum.inr (25,()))))
 (some (Sum.inl ((w64 (v32.1+1)),()))))))))
 (some (Sum.inr (Sum.inl ()))))) (0,())).bind fun v38 =>
 (ca_ v38 (fun v39=>((af_ (ρ:=(Unit⊕(Int×Unit))) (fun (v41:(Int×Unit)) =>
 (cond (decide (v41.1<(a0.2.2.2.2.1.length:Int)))
 ((mn_ a0 v41.1).bind fun v42 =>
 (cond (!v42.1)
 (some (Sum.inr (Sum.inr (26,()))))
 ((at? a0.2.2.2.2.1 v41.1).bind fun v43 =>
 ((cq_ a0 v43.2.2.2.2.1).bind fun v44 =>
 (cond (!v44.1)
 (some (Sum.inr (Sum.inr (25,()))))
 (some (Sum.inl ((w64 (v41.1+1)),()))))))))
 (some (Sum.inr (Sum.inl ()))))) (0,())).bind fun v45 =>
 (ca_ v45 (fun v46=>((af_ (ρ:=(Unit⊕(Int×Unit))) (fun (v48:(Int×Unit)) =>
 (cond (decide (v48.1<(a0.2.2.2.2.2.1.length:Int)))
 ((at? a0.2.2.2.2.2.1 v48.1).bind fun v49 =>
 ((at? a0.2.2.2.2.2.1 v48.1).bind fun v50 =>
 ((gl_ a0 v49.2.1 v50.2.2).bind fun v51 =>
 (cond (!v51.1)
 (some (Sum.inr (Sum.inr (27,()))))
 ((at? a0.2.2.2.2.2.1 v48.1).bind fun v52 =>
 ((cq_ a0 v52.1).bind fun v53 =>
 (cond (!v53.1)
 (some (Sum.inr (Sum.inr (25,()))))
 (some (Sum.inl ((w64 (v48.1+1)),()))))))))))
 (some (Sum.inr (Sum.inl ()))))) (0,())).bind fun v54 =>
 (ca_ v54 (fun v55=>((bp_ a0.2.2.2.2.2.2.1 1 4).bind fun v57 =>
 (cond (!v57.1)
 (some (1,()))
 ((cq_ a0 a0.2.2.2.2.2.2.2).bind fun v58 =>
 (cond (!v58.1)
 (some (25,()))
 (some (0,())))))))
 (fun v56=>(some v56)))))
 (fun v47=>(some v47)))))
 (fun v40=>(some v40)))))
 (fun v31=>(some v31)))))
 (fun v20=>(some v20)))))
 (fun v8=>(some v8)))))))
theorem x_55:au_ cx_55 an_55 55 [an_] [.int]=fun x=>fl_ x.1:=by kernel_rfl
noncomputable def c_55:Con Tryz.prog:=aw_ _ _ 55 [an_] [.int] _ x_55
def an_58:An:=(.p .z (.p .z (.p (.p .z (.ls [.v 6 .int] [] [] 0 .z)) (.p (.j0 [.v 50 .bool] .z .z) .z))))
noncomputable def cs_58:List (Con Tryz.prog):=[c_60,c_93,c_101,c_102,c_103]
noncomputable def cl_58:List (Cpy Tryz.prog):=[]
noncomputable def cx_58:Cx Tryz.prog:=cxC cs_58 cl_58
noncomputable def iw_ (a0:ac_) (a1:Int):Option (Bool×Unit) :=
 ((at? a0.2.2.2.1 a1).bind fun v0 =>
 ((af_ (ρ:=(Unit⊕(Bool×Unit))) (fun (v1:(Int×Unit)) =>
 (cond (decide (v1.1<a1))
 ((at? a0.2.2.2.1 v1.1).bind fun v2 =>
 (cond (v2.1==v0.1)
 (some (Sum.inr (Sum.inr (false,()))))
 (some (Sum.inl ((w64 (v1.1+1)),())))))
 (some (Sum.inr (Sum.inl ()))))) (0,())).bind fun v3 =>
 (ca_ v3 (fun v4=>((((dp_ v0.1).bind fun v6 =>
 (cond (!v6.1)
 (some (true,()))
 ((id_ v0.2.1 0 (w64 ((a0.1.1.length:Int) - 1))).bind fun v7 =>
 (cond (!v7.1)
 (some (true,()))
 ((id_ v0.2.2.1 (-1) (w64 ((a0.2.1.length:Int) - 1))).bind fun v8 =>
 (some ((!v8.1),())))))))).bind fun v9 =>
 (cond v9.1
 (some (false,()))
 (cond (v0.2.2.1==(-1))
 ((ks_ v0.2.2.2.2).bind fun v10 =>
 (some (v10.1,())))
 ((at? a0.2.1 v0.2.2.1).bind fun v11 =>
 ((fn_ v11 v0.2.2.2.2).bind fun v12 =>
 (cond (v12.1==0)
 ((at? a0.2.2.1 v0.2.2.1).bind fun v13 =>
 ((fb_ v0.2.2.2.2 v13).bind fun v14 =>
 (some (v14.1,()))))
 (some (false,())))))))))
 (fun v5=>(some v5)))))
theorem x_58:au_ cx_58 an_58 58 [ao_,.int] [.bool]=fun x=>iw_ x.1 x.2.1:=by kernel_rfl
noncomputable def c_58:Con Tryz.prog:=aw_ _ _ 58 [ao_,.int] [.bool] _ x_58
def an_236:An:=(.p .z (.p .z (.p (.p .z (.lp [.v 5 .int,.v 6 .int] [.v 5 .int] [] 0 .z)) (.p .z (.p (.p .z (.lp [.r 7 (.list .int) 39,.v 8 .int] [.r 7 (.list .int) 39] [] 2 (.p .z (.j0 [.r 7 (.list .int) 39] (.p .z (.p .z (.p (.p .z (.lp [.v 10 .int,.v 11 .int] [] [.o (.s 9) .int] 4 .z)) .z))) .z)))) .z)))))
noncomputable def cs_236:List (Con Tryz.prog):=[c_246]
noncomputable def cl_236:List (Cpy Tryz.prog):=[]
noncomputable def cx_236:Cx Tryz.prog:=cxC cs_236 cl_236
noncomputable def mo_ (a0:ab_) (a1:(List ak_)):Option ((List (List Int))×Unit) :=
 ((af_ (ρ:=(Int×Unit)) (fun (v0:(Int×(Int×Unit))) =>
 (cond (decide (v0.2.1<a0.1))
 (some (Sum.inl ((w64 (v0.1 * a0.2)),((w64 (v0.2.1+1)),()))))
 (some (Sum.inr (v0.1,()))))) (1,(0,()))).bind fun v1 =>
 ((af_ (ρ:=((List (List Int))×Unit)) (fun (v2:((List (List Int))×(Int×Unit))) =>
 (cond (decide (v2.2.1<v1.1))
 ((((mk? (α:=Int) a0.1 0).bind fun v3 =>
 ((af_ (ρ:=((List Int)×Unit)) (fun (v4:(Int×(Int×((List Int)×Unit)))) =>
 (cond (decide (0≤v4.2.1))
 ((md v4.1 a0.2).bind fun v5 =>
 ((at? v4.2.2.1 v4.2.1).bind fun v6 =>
 ((at? v4.2.2.1 v4.2.1).bind fun v7 =>
 ((dv v4.1 a0.2).bind fun v8 =>
 (some (Sum.inl (v8,((w64 (v4.2.1 - 1)),((v4.2.2.1.set v4.2.1.toNat v5),())))))))))
 (some (Sum.inr (v4.2.2.1,()))))) (v2.2.1,((w64 (a0.1 - 1)),(v3,())))).bind fun v9 =>
 ((jc_ a1 v9.1).bind fun v10 =>
 (cond (decide (v10.1<0))
 ((push? (α:=(List Int)) v2.1 [v9.1]).bind fun v11 =>
 (some (v11,())))
 (some (v2.1,()))))))).bind fun v12 =>
 (some (Sum.inl (v12.1,((w64 (v2.2.1+1)),())))))
 (some (Sum.inr (v2.1,()))))) ([],(0,()))).bind fun v13 =>
 (some (v13.1,()))))
theorem x_236:au_ cx_236 an_236 236 [al_,(.list ap_)] [(.list (.list .int))]=fun x=>mo_ x.1 x.2.1:=by kernel_rfl
noncomputable def c_236:Con Tryz.prog:=aw_ _ _ 236 [al_,(.list ap_)] [(.list (.list .int))] _ x_236
def an_118:An:=(.p .z (.p (.j0 [.v 49 .bool] .z .z) (.p .z (.p (.p .z (.ls [.v 54 .int] [] [] 0 .z)) (.p .z (.p (.p .z (.ls [.v 74 .int] [] [] 2 (.p .z (.p .z (.p (.p .z (.j0 [.v 108 .bool] .z .z)) .z))))) (.p (.p .z (.ls [.v 113 .int] [] [] 4 (.p .z (.p .z (.p (.p .z (.p (.j0 [.v 137 .bool] .z .z) .z)) .z))))) (.p (.p .z (.ls [.v 147 .int] [] [] 6 (.p .z (.p .z (.p (.p .z (.p (.j0 [.v 169 .bool] .z .z) .z)) .z))))) (.p (.p .z (.ls [.v 179 .int] [] [] 8 .z)) (.p (.p .z (.ls [.v 198 .int] [] [] 10 .z)) .z))))))))))
def at_118:FuncId→An:=fun k=>cond (Nat.beq k 156) (.p .z (.j0 [.v 6 .bool] .z .z)) (cond (Nat.beq k 158) (.p .z (.j0 [.v 6 .bool] .z .z)) (cond (Nat.beq k 160) (.p .z (.j0 [.v 6 .bool] .z .z)) (cond (Nat.beq k 193) (.p .z (.j0 [.v 6 .int] .z .z)) (cond (Nat.beq k 194) (.p .z (.j0 [.v 6 .int] .z .z)) (cond (Nat.beq k 195) (.p .z (.j0 [.v 6 .int] .z .z)) (cond (Nat.beq k 222) (.p .z (.p (.p .z (.ls [.v 8 .int] [] [] 0 .z)) .z)) (cond (Nat.beq k 223) (.p .z (.p (.q [] .z .z) .z)) (cond (Nat.beq k 224) (.p .z (.p (.p .z (.ls [.v 8 .int] [] [] 0 .z)) .z)) (cond (Nat.beq k 225) (.p .z (.p (.q [] .z .z) .z)) (cond (Nat.beq k 226) (.p .z (.p (.p .z (.ls [.v 8 .int] [] [] 0 .z)) .z)) (cond (Nat.beq k 227) (.p .z (.p (.q [] .z .z) .z)) (.z))))))))))))
noncomputable def cs_118:List (Con Tryz.prog):=[c_144,c_145,c_157,c_159,c_161,c_162,c_163,c_192]
noncomputable def cl_118:List (Cpy Tryz.prog):=[]
noncomputable def cx_118:Cx Tryz.prog:=cxI at_118 (fun k=>Nat.beq k 144||Nat.beq k 145||Nat.beq k 157||Nat.beq k 159||Nat.beq k 161||Nat.beq k 162||Nat.beq k 163||Nat.beq k 192||false) (cxC cs_118 cl_118) 12
noncomputable def fa_ (a0:ad_):Option (Int×Unit) :=
 (((cond (decide (8<(a0.1.length:Int)))
 (some (true,()))
 (cond (decide (12<(a0.2.1.length:Int)))
 (some (true,()))
 (cond (decide (10<(a0.2.2.1.length:Int)))
 (some (true,()))
 (cond (decide (16<(a0.2.2.2.1.length:Int)))
 (some (true,()))
 (cond (decide (24<(a0.2.2.2.2.1.length:Int)))
 (some (true,()))
 (some ((decide (12<(a0.2.2.2.2.2.1.length:Int))),())))))))).bind fun v0 =>
 (cond v0.1
 (some (2,()))
 ((af_ (ρ:=(Unit⊕(Int×Unit))) (fun (v1:(Int×Unit)) =>
 (cond (decide (v1.1<(a0.1.length:Int)))
 ((at? a0.1 v1.1).bind fun v2 =>
 ((sub? a0.1 0 v1.1).bind fun v3 =>
 ((((ev_ v2).bind fun v4 =>
 (cond v4.1
 (cond (decide ((v2.length:Int)≤12))
 ((((af_ (ρ:=(Unit⊕(Int×Unit))) (fun (v5:(Int×Unit)) =>
 (cond (decide (v5.1<(v3.length:Int)))
 ((at? v3 v5.1).bind fun v6 =>
 (cond (v6==v2)
 (some (Sum.inr (Sum.inr (v5.1,()))))
 (some (Sum.inl ((w64 (v5.1+1)),())))))
 (some (Sum.inr (Sum.inl ()))))) (0,())).bind fun v7 =>
 (ca_ v7 (fun v8=>(some ((-1),())))
 (fun v9=>(some v9))))).bind fun v10 =>
 (some ((decide (v10.1<0)),())))
 (some (false,())))
 (some (false,()))))).bind fun v11 =>
 (cond (!v11.1)
 (some (Sum.inr (Sum.inr (22,()))))
 (some (Sum.inl ((w64 (v1.1+1)),())))))))
 (some (Sum.inr (Sum.inl ()))))) (0,())).bind fun v12 =>
 (ca_ v12 (fun v13=>(cond ((a0.1.length:Int)==0)
 (some (22,()))
 ((af_ (ρ:=(Unit⊕(Int×Unit))) (fun (v15:(Int×Unit)) =>
 (cond (decide (v15.1<(a0.2.1.length:Int)))
 ((at? a0.2.1 v15.1).bind fun v16 =>
 ((((sub? a0.2.1 0 v15.1).bind fun v17 =>
 ((((ev_ v16.1).bind fun v18 =>
 (cond v18.1
 (cond (decide ((v16.1.length:Int)≤12))
 ((((af_ (ρ:=(Unit⊕(Int×Unit))) (fun (v19:(Int×Unit)) =>
 (cond (decide (v19.1<(v17.length:Int)))
 ((at? v17 v19.1).bind fun v20 =>
 (cond (v20.1==v16.1)
 (some (Sum.inr (Sum.inr (v19.1,()))))
 (some (Sum.inl ((w64 (v19.1+1)),())))))
 (some (Sum.inr (Sum.inl ()))))) (0,())).bind fun v21 =>
 (ca_ v21 (fun v22=>(some ((-1),())))
 (fun v23=>(some v23))))).bind fun v24 =>
 (some ((decide (v24.1<0)),())))
 (some (false,())))
 (some (false,()))))).bind fun v25 =>
 (cond (!v25.1)
 (some (true,()))
 ((bc_ v16.2.1 0 (w64 ((a0.1.length:Int) - 1))).bind fun v26 =>
 (cond (!v26.1)
 (some (true,()))
 ((bc_ v16.2.2.1 2 6).bind fun v27 =>
 (cond (!v27.1)
 (some (true,()))
 ((bc_ v16.2.2.2 0 (w64 (v16.2.2.1 - 1))).bind fun v28 =>
 (some ((!v28.1),()))))))))))).bind fun v29 =>
 (cond v29.1
 (some (Sum.inr (Sum.inr (21,()))))
 (some (Sum.inl ((w64 (v15.1+1)),()))))))
 (some (Sum.inr (Sum.inl ()))))) (0,())).bind fun v30 =>
 (ca_ v30 (fun v31=>((af_ (ρ:=(Unit⊕(Int×Unit))) (fun (v33:(Int×Unit)) =>
 (cond (decide (v33.1<(a0.2.2.1.length:Int)))
 ((at? a0.2.2.1 v33.1).bind fun v34 =>
 ((((sub? a0.2.2.1 0 v33.1).bind fun v35 =>
 ((((ev_ v34.1).bind fun v36 =>
 (cond v36.1
 (cond (decide ((v34.1.length:Int)≤12))
 ((((af_ (ρ:=(Unit⊕(Int×Unit))) (fun (v37:(Int×Unit)) =>
 (cond (decide (v37.1<(v35.length:Int)))
 ((at? v35 v37.1).bind fun v38 =>
 (cond (v38.1==v34.1)
 (some (Sum.inr (Sum.inr (v37.1,()))))
 (some (Sum.inl ((w64 (v37.1+1)),())))))
 (some (Sum.inr (Sum.inl ()))))) (0,())).bind fun v39 =>
 (ca_ v39 (fun v40=>(some ((-1),())))
 (fun v41=>(some v41))))).bind fun v42 =>
 (some ((decide (v42.1<0)),())))
 (some (false,())))
 (some (false,()))))).bind fun v43 =>
 (cond (!v43.1)
 (some (true,()))
 ((bc_ v34.2.1 0 (w64 ((a0.1.length:Int) - 1))).bind fun v44 =>
 (cond (!v44.1)
 (some ((v34.2.1 != (-1)),()))
 (some (false,())))))))).bind fun v45 =>
 (cond v45.1
 (some (Sum.inr (Sum.inr (24,()))))
 ((dn_ a0 v34.2.2).bind fun v46 =>
 (cond (!v46.1)
 (some (Sum.inr (Sum.inr (25,()))))
 (some (Sum.inl ((w64 (v33.1+1)),()))))))))
 (some (Sum.inr (Sum.inl ()))))) (0,())).bind fun v47 =>
 (ca_ v47 (fun v48=>((af_ (ρ:=(Unit⊕(Int×Unit))) (fun (v50:(Int×Unit)) =>
 (cond (decide (v50.1<(a0.2.2.2.1.length:Int)))
 ((at? a0.2.2.2.1 v50.1).bind fun v51 =>
 ((((bc_ v51.1 0 (w64 ((a0.1.length:Int) - 1))).bind fun v52 =>
 (cond (!v52.1)
 (some (true,()))
 ((bc_ v51.2.1 0 (w64 ((a0.1.length:Int) - 1))).bind fun v53 =>
 (cond (!v53.1)
 (some (true,()))
 (some ((v51.1==v51.2.1),()))))))).bind fun v54 =>
 (cond v54.1
 (some (Sum.inr (Sum.inr (23,()))))
 ((dn_ a0 v51.2.2).bind fun v55 =>
 (cond (!v55.1)
 (some (Sum.inr (Sum.inr (25,()))))
 (some (Sum.inl ((w64 (v50.1+1)),()))))))))
 (some (Sum.inr (Sum.inl ()))))) (0,())).bind fun v56 =>
 (ca_ v56 (fun v57=>((af_ (ρ:=(Unit⊕(Int×Unit))) (fun (v59:(Int×Unit)) =>
 (cond (decide (v59.1<(a0.2.2.2.2.1.length:Int)))
 ((at? a0.2.2.2.2.1 v59.1).bind fun v60 =>
 ((pa_ a0 v59.1 v60).bind fun v61 =>
 (cond (!v61.1)
 (some (Sum.inr (Sum.inr (26,()))))
 ((dn_ a0 v60.2.2.2.2.1).bind fun v62 =>
 (cond (!v62.1)
 (some (Sum.inr (Sum.inr (25,()))))
 (some (Sum.inl ((w64 (v59.1+1)),()))))))))
 (some (Sum.inr (Sum.inl ()))))) (0,())).bind fun v63 =>
 (ca_ v63 (fun v64=>((af_ (ρ:=(Unit⊕(Int×Unit))) (fun (v66:(Int×Unit)) =>
 (cond (decide (v66.1<(a0.2.2.2.2.2.1.length:Int)))
 ((at? a0.2.2.2.2.2.1 v66.1).bind fun v67 =>
 ((ew_ a0 v67.2.1 v67.2.2).bind fun v68 =>
 (cond (!v68.1)
 (some (Sum.inr (Sum.inr (27,()))))
 ((dn_ a0 v67.1).bind fun v69 =>
 (cond (!v69.1)
 (some (Sum.inr (Sum.inr (25,()))))
 (some (Sum.inl ((w64 (v66.1+1)),()))))))))
 (some (Sum.inr (Sum.inl ()))))) (0,())).bind fun v70 =>
 (ca_ v70 (fun v71=>((bc_ a0.2.2.2.2.2.2.1 1 4).bind fun v73 =>
 (cond (!v73.1)
 (some (1,()))
 ((dn_ a0 a0.2.2.2.2.2.2.2).bind fun v74 =>
 (cond (!v74.1)
 (some (25,()))
 (some (0,())))))))
 (fun v72=>(some v72)))))
 (fun v65=>(some v65)))))
 (fun v58=>(some v58)))))
 (fun v49=>(some v49)))))
 (fun v32=>(some v32))))))
 (fun v14=>(some v14))))))
theorem x_118:au_ cx_118 an_118 118 [an_] [.int]=fun x=>fa_ x.1:=by kernel_rfl
noncomputable def c_118:Con Tryz.prog:=aw_ _ _ 118 [an_] [.int] _ x_118
def an_120:An:=.z
noncomputable def cs_120:List (Con Tryz.prog):=[c_165]
noncomputable def cl_120:List (Cpy Tryz.prog):=[]
noncomputable def cx_120:Cx Tryz.prog:=cxC cs_120 cl_120
noncomputable def dw_ (a0:ab_) (a1:(List Int)):Option (Int×Unit) :=
 ((hf_ a0 [a1]).bind fun v0 =>
 (some (v0.1,())))
theorem x_120:au_ cx_120 an_120 120 [al_,(.list .int)] [.int]=fun x=>dw_ x.1 x.2.1:=by kernel_rfl
noncomputable def c_120:Con Tryz.prog:=aw_ _ _ 120 [al_,(.list .int)] [.int] _ x_120
def an_208:An:=.z
noncomputable def cs_208:List (Con Tryz.prog):=[c_119,c_233]
noncomputable def cl_208:List (Cpy Tryz.prog):=[]
noncomputable def cx_208:Cx Tryz.prog:=cxC cs_208 cl_208
noncomputable def fr_ (a0:ab_) (a1:ak_):Option (Int×Unit) :=
 ((ed_ a0).bind fun v0 =>
 (cond (v0.1 != 0)
 (some (v0.1,()))
 ((df_ a0 a1).bind fun v1 =>
 (cond (!v1.1)
 (some (11,()))
 (some (0,()))))))
theorem x_208:au_ cx_208 an_208 208 [al_,ap_] [.int]=fun x=>fr_ x.1 x.2.1:=by kernel_rfl
noncomputable def c_208:Con Tryz.prog:=aw_ _ _ 208 [al_,ap_] [.int] _ x_208
def an_239:An:=.z
def at_239:FuncId→An:=fun k=>cond (Nat.beq k 251) (.p .z (.j0 [.v 4 .bool] .z .z)) (cond (Nat.beq k 259) (.p .z (.p (.p .z (.ls [.v 8 .int] [] [] 0 .z)) .z)) (.z))
noncomputable def cs_239:List (Con Tryz.prog):=[c_119,c_233]
noncomputable def cl_239:List (Cpy Tryz.prog):=[]
noncomputable def cx_239:Cx Tryz.prog:=cxI at_239 (fun k=>Nat.beq k 119||Nat.beq k 233||false) (cxC cs_239 cl_239) 4
noncomputable def ep_ (a0:ab_) (a1:(List ak_)):Option (Int×Unit) :=
 ((ed_ a0).bind fun v0 =>
 (cond (v0.1 != 0)
 (some (v0.1,()))
 (cond (decide (20<(a1.length:Int)))
 (some (2,()))
 ((((af_ (ρ:=(Unit⊕(Bool×Unit))) (fun (v1:(Int×Unit)) =>
 (cond (decide (v1.1<(a1.length:Int)))
 ((at? a1 v1.1).bind fun v2 =>
 ((df_ a0 v2).bind fun v3 =>
 (cond (!v3.1)
 (some (Sum.inr (Sum.inr ((decide (0≤v1.1)),()))))
 (some (Sum.inl ((w64 (v1.1+1)),()))))))
 (some (Sum.inr (Sum.inl ()))))) (0,())).bind fun v4 =>
 (ca_ v4 (fun v5=>(some ((decide (0≤(-1))),())))
 (fun v6=>(some v6))))).bind fun v7 =>
 (cond v7.1
 (some (11,()))
 (some (0,())))))))
theorem x_239:au_ cx_239 an_239 239 [al_,(.list ap_)] [.int]=fun x=>ep_ x.1 x.2.1:=by kernel_rfl
noncomputable def c_239:Con Tryz.prog:=aw_ _ _ 239 [al_,(.list ap_)] [.int] _ x_239
def an_240:An:=(.p .z (.p (.p .z (.rf [4] .z .z)) .z))
def at_240:FuncId→An:=fun k=>cond (Nat.beq k 260) (.p .z (.p .z (.rf [2,3] .z .z))) (cond (Nat.beq k 265) (.p .z (.ls [] [] [.y (.c (.y (.s 0) 3) 0),.y (.s 0),.o (.s 3) .int,.b (.y (.c (.y (.s 0) 3) 0) 4) [.val .int]] 0 (.p .z (.p .z (.p (.lp [.v 4 .int] [.v 4 .int] [.o (.s 3) .int] 2 (.p (.j0 [.v 26 .bool] .z .z) .z)) .z))))) (.z))
noncomputable def cs_240:List (Con Tryz.prog):=[c_262]
noncomputable def cl_240:List (Cpy Tryz.prog):=[]
noncomputable def cx_240:Cx Tryz.prog:=cxI at_240 (fun k=>Nat.beq k 262||false) (cxC cs_240 cl_240) 9
noncomputable def eo_ (a0:ab_) (a1:(List ak_)):Option (Int×Unit) :=
 ((mk? (α:=Int) a0.1 0).bind fun v0 =>
 ((af_ (ρ:=((Unit×(Unit×((List Int)×((Int×Unit)×Unit))))⊕(Int×Unit))) (fun (v1:(Unit×(Unit×((List Int)×((Int×Unit)×Unit))))) =>
 ((fq_ a1 v1.2.2.1).bind fun v2 =>
 (cond (decide (v2.1<0))
 ((af_ (ρ:=(Int×((List Int)×Unit))) (fun (v3:(Int×((List Int)×Unit))) =>
 (((cond (decide (0≤v3.1))
 ((at? v3.2.1 v3.1).bind fun v4 =>
 ((at? v3.2.1 v3.1).bind fun v5 =>
 (some ((v5==(w64 (a0.2 - 1))),()))))
 (some (false,())))).bind fun v6 =>
 (cond v6.1
 ((at? v3.2.1 v3.1).bind fun v7 =>
 ((at? v3.2.1 v3.1).bind fun v8 =>
 (some (Sum.inl ((w64 (v3.1 - 1)),((v3.2.1.set v3.1.toNat 0),()))))))
 (some (Sum.inr (v3.1,(v3.2.1,()))))))) ((w64 (a0.1 - 1)),(v1.2.2.1,()))).bind fun v9 =>
 (cond (decide (v9.1<0))
 (some (Sum.inr (Sum.inr ((w64 (v1.2.2.2.1.1+1)),()))))
 ((at? v9.2.1 v9.1).bind fun v10 =>
 ((at? v9.2.1 v9.1).bind fun v11 =>
 ((at? v9.2.1 v9.1).bind fun v12 =>
 ((at? v9.2.1 v9.1).bind fun v13 =>
 (some (Sum.inl ((),((),((v9.2.1.set v9.1.toNat (w64 (v11+1))),(((w64 (v1.2.2.2.1.1+1)),()),()))))))))))))
 ((af_ (ρ:=(Int×((List Int)×Unit))) (fun (v14:(Int×((List Int)×Unit))) =>
 (((cond (decide (0≤v14.1))
 ((at? v14.2.1 v14.1).bind fun v15 =>
 ((at? v14.2.1 v14.1).bind fun v16 =>
 (some ((v16==(w64 (a0.2 - 1))),()))))
 (some (false,())))).bind fun v17 =>
 (cond v17.1
 ((at? v14.2.1 v14.1).bind fun v18 =>
 ((at? v14.2.1 v14.1).bind fun v19 =>
 (some (Sum.inl ((w64 (v14.1 - 1)),((v14.2.1.set v14.1.toNat 0),()))))))
 (some (Sum.inr (v14.1,(v14.2.1,()))))))) ((w64 (a0.1 - 1)),(v1.2.2.1,()))).bind fun v20 =>
 (cond (decide (v20.1<0))
 (some (Sum.inr (Sum.inr (v1.2.2.2.1.1,()))))
 ((at? v20.2.1 v20.1).bind fun v21 =>
 ((at? v20.2.1 v20.1).bind fun v22 =>
 ((at? v20.2.1 v20.1).bind fun v23 =>
 ((at? v20.2.1 v20.1).bind fun v24 =>
 (some (Sum.inl ((),((),((v20.2.1.set v20.1.toNat (w64 (v22+1))),((v1.2.2.2.1.1,()),()))))))))))))))) ((),((),(v0,((0,()),()))))).bind fun v25 =>
 (ca_ v25 (fun v26=>(some (v26.2.2.2.1.1,())))
 (fun v27=>(some v27)))))
theorem x_240:au_ cx_240 an_240 240 [al_,(.list ap_)] [.int]=fun x=>eo_ x.1 x.2.1:=by kernel_rfl
noncomputable def c_240:Con Tryz.prog:=aw_ _ _ 240 [al_,(.list ap_)] [.int] _ x_240
end
end Go.Proofs.YtmdlefagpcmllaaGreatDoor.Rx
namespace Go.Proofs.YtmdlefagpcmllaaGreatDoor.Rx
open Go Pad Rex
section
theorem on_ {α:Type} {l:List α} {i:Nat} (h:i≤l.length):sub? l 0 (i:Int)=some (l.take i):=by
  unfold sub?
  rw [if_pos ⟨m3_ 0,by omega,by omega⟩]
  simp
def twN {α:Type} (nm:α→List UInt8) (l:List α) (i:Nat) (t:List UInt8):Bool:=(l.take i).any fun y=>nm y==t
theorem pt_ {l:List (List UInt8)} {i:Nat} {x:List UInt8} (hl:Sm l.length) (hx:l[i]?=some x):fj_ l (i:Int)=some (twN id l i x,()):=by
  have hi:=am_ hx
  have hle:(l.take i).length=i:=by rw [c7_]; omega
  unfold fj_
  refine bn_ (l.take i) (fun _ y=>cond (id y==x) (some (Sum.inr (true,()):Unit⊕(Bool×Unit))) none) (fun i=>((i:Int),())) (r0:=Sum.inl ()) (fun k y hy => ?_) ?_ ?_
  · have hk:=am_ hy
    have hy':l[k]?=some y:=by
      rw [i8_] at hy
      split at hy
      · exact hy
      · cases hy
    simp only [dlt (show k<i by omega),a4_,ah_ hy',ah_ hx,a0_,ay_ (show Sm k by omega),id]
    cases y==x <;> rfl
  · rw [hle]
    simp only [dnl,a2_]
  · rw [gz_ (q:=fun y=>id y==x)]
    unfold twN
    cases (l.take i).any fun y=>id y==x <;> rfl
theorem ho_ {r:ad_} (p:Int):cp_ r p=some (wi p 0 (w64 ((r.1.length:Int) - 1)),()):=by
  unfold cp_
  rw [ff_,a0_]
structure SmR (r:ad_):Prop where
  pl:Sm r.1.length
  th:Sm r.2.1.length
  pr:Sm r.2.2.1.length
  wy:Sm r.2.2.2.1.length
  ac:Sm r.2.2.2.2.1.length
  au:Sm r.2.2.2.2.2.1.length
  go:Sm r.2.2.2.2.2.2.2.length
  pln:∀ x ∈ r.1,Sm x.length
  thn:∀ x ∈ r.2.1,Sm x.1.length
  prn:∀ x ∈ r.2.2.1,Sm x.1.length∧Sm x.2.2.length
  wyn:∀ x ∈ r.2.2.2.1,Sm x.2.2.length
  acn:∀ x ∈ r.2.2.2.2.1,Sm x.1.length∧Sm x.2.2.2.1.length∧Sm x.2.2.2.2.1.length∧Sm x.2.2.2.2.2.1.length∧Sm x.2.2.2.2.2.2.1.length∧Sm x.2.2.2.2.2.2.2.length
  aun:∀ x ∈ r.2.2.2.2.2.1,Sm x.1.length
theorem ax_ {α:Type} {l:List α} {i:Nat} {x:α} (h:l[i]?=some x):x ∈ l:=b5_ h
def qv_ (r:ad_) (p:Int):Bool:=wi p 0 (w64 ((r.1.length:Int) - 1))
def frN {α:Type} (nm:α→List UInt8) (l:List α) (i:Nat) (t:List UInt8):Bool:=okN t&&!(twN nm l i t)
def plOk (r:ad_) (i:Nat) (x:List UInt8):Bool:=frN id r.1 i x
def thOk (r:ad_) (i:Nat) (x:gn_):Bool:=frN (·.1) r.2.1 i x.1&&(qv_ r x.2.1&&(wi x.2.2.1 2 6&&wi x.2.2.2 0 (w64 (x.2.2.1 - 1))))
def prOk (r:ad_) (i:Nat) (x:jl_):Bool:=frN (·.1) r.2.2.1 i x.1&&(qv_ r x.2.1||x.2.1==(-1))
def wyOk (r:ad_) (x:od_):Bool:=qv_ r x.1&&(qv_ r x.2.1&&!(x.1==x.2.1))
def rl_ (a:Bool) (e:Int) (b:Bool) (f:Int):Option Int:=cond a (cond b none (some f)) (some e)
def ke_ (a:Bool) (e:Int):Option Int:=cond a none (some e)
def left (o:Option Int):Unit⊕(Int×Unit):=match o with
  | none=>.inl ()
  | some e=>.inr (e,())
theorem left_map (o:Option Int):(o.map fun e=>(Sum.inr (e,()):Unit⊕(Int×Unit))).getD (Sum.inl ())=left o:=by cases o <;> rfl
theorem bs_ {α:Type} (l:List α) (p:Nat→α→Option Int) {body:(Int×Unit)→Option ((Int×Unit)⊕(Unit⊕(Int×Unit)))} {τ:Type} {K:(Unit⊕(Int×Unit))→Option τ} {x:Option τ}
    (h:∀ (i:Nat) y,l[i]?=some y→body ((i:Int),())=some (match p i y with | none=>.inl (((i+1:Nat):Int),()) | some e=>.inr (.inr (e,())))) (e:body ((l.length:Int),())=some (.inr (.inl ()))) (hk:K (left (fy_ p 0 l))=x) :
    (af_ body (0,())).bind K=x:=by
  refine bn_ l (fun i y=>(p i y).map fun e=>(Sum.inr (e,()):Unit⊕(Int×Unit))) (fun i=>((i:Int),())) (r0:=Sum.inl ()) (fun i y hy => ?_) e ?_
  · rw [h i y hy]
    cases p i y <;> rfl
  · rw [zg_,left_map]
    exact hk
theorem yu_ {α β:Type} (l:List α) (p:Nat→α→Option Int) (F:Nat→β) {body:(β×(Int×Unit))→Option ((β×(Int×Unit))⊕(Unit⊕(Int×Unit)))} {τ:Type} {K:(Unit⊕(Int×Unit))→Option τ} {x:Option τ} {b0:β} (h0:F 0=b0)
    (h:∀ (i:Nat) y,l[i]?=some y→body (F i,((i:Int),()))=some (match p i y with | none=>.inl (F (i+1),(((i+1:Nat):Int),())) | some e=>.inr (.inr (e,())))) (e:body (F l.length,((l.length:Int),()))=some (.inr (.inl ()))) (hk:K (left (fy_ p 0 l))=x) :
    (af_ body (b0,(0,()))).bind K=x:=by
  subst h0
  refine bn_ l (fun i y=>(p i y).map fun e=>(Sum.inr (e,()):Unit⊕(Int×Unit))) (fun i=>(F i,((i:Int),()))) (r0:=Sum.inl ()) (fun i y hy => ?_) e ?_
  · rw [h i y hy]
    cases p i y <;> rfl
  · rw [zg_,left_map]
    exact hk
theorem ei_ {o:Option Int} {K:Unit→Option (Int×Unit)} {k:Int} (h:K ()=some (k,())):ca_ (left o) K (fun y=>some y)=some (o.getD k,()):=by
  cases o with
  | none=>exact h
  | some e=>rfl
end
section
def qi_ (r:ad_) (l:List ab_) (i:Nat) (x:ab_):Bool:=nb_ r.2.1 x.1 x.2&&!((l.take i).any fun y=>y.1==x.1)
def tv_ (r:ad_) (i:Nat) (a:cr_):Bool :=
  frN (·.1) r.2.2.2.2.1 i a.1&&(qv_ r a.2.1&&(wi a.2.2.1 (-1) 7&&(ki_ r.2.2.1.length a.2.2.2.1&&(ki_ r.2.2.1.length a.2.2.2.2.2.2.1&&(ki_ r.2.2.1.length a.2.2.2.2.2.2.2&&(!(decide (6<(a.2.2.2.2.2.1.length:Int)))
    && ((a.2.2.2.2.2.2.1.all fun p=>a.2.2.2.1.contains p)&&(!(a.2.2.2.2.2.2.2.any fun p=>a.2.2.2.1.contains p)
      && (fy_ (fun i x=>cond (qi_ r a.2.2.2.2.2.1 i x) none (some ())) 0 a.2.2.2.2.2.1).isNone))))))))
theorem ro_ {α ρ:Type} {q:Nat→α→Bool} {r:ρ}:∀ (l:List α) (i:Nat),fy_ (fun i x=>cond (q i x) none (some r)) i l=cond (fy_ (fun i x=>cond (q i x) none (some ())) i l).isNone none (some r)
  | [],_=>rfl
  | x::l,i=>by
    unfold fy_
    cases q i x with
    | false=>rfl
    | true=>exact ro_ l (i+1)
theorem ud_ {α:Type} {l:List α} (hl:Sm l.length) (nm:α→List UInt8) {t:List UInt8} (ht:Sm t.length) :
    ((ev_ t).bind fun v1=>cond v1.1 (cond (decide ((t.length:Int)≤12)) ((((af_ (ρ:=Unit⊕(Int×Unit)) (fun (v:Int×Unit)=>cond (decide (v.1<(l.length:Int))) ((at? l v.1).bind fun y=>cond (nm y==t) (some (Sum.inr (Sum.inr (v.1,())))) (some (Sum.inl (w64 (v.1+1),())))) (some (Sum.inr (Sum.inl ())))) (0,())).bind fun v=>ca_ v (fun _=>some ((-1:Int),())) (fun w=>some w))).bind fun v=>some (decide (v.1<0),())) (some (false,()))) (some (false,())))
      = some (okN t&&!(l.any fun y=>nm y==t),()):=by
  rw [room_word ht,a0_]
  obtain ⟨n,h1,h2,_⟩:=if_lt hl (fun y=>nm y==t) (body:=fun (v:Int×Unit)=>cond (decide (v.1<(l.length:Int))) ((at? l v.1).bind fun y=>cond (nm y==t) (some (Sum.inr (Sum.inr (v.1,())))) (some (Sum.inl (w64 (v.1+1),())))) (some (Sum.inr (Sum.inl ())))) (fun i y hy=>by
    simp only [dlt (am_ hy),a4_,ah_ hy,a0_]
    cases nm y==t <;> rfl) (by simp only [dnl,a2_])
  rw [h1,a0_,h2]
  unfold okN
  cases okW t with
  | false=>rw [f7_,e0_]; rfl
  | true=>cases decide ((t.length:Int)≤12) <;> rfl
theorem uy_ {α:Type} {l:List α} (h:Sm l.length) (i:Nat):Sm (l.take i).length:=by
  rw [c7_]
  exact c3_ (m2_ _ _) h
theorem room_act {r:ad_} (h:SmR r) {i:Nat} {a:cr_} (ha:r.2.2.2.2.1[i]?=some a):pa_ r (i:Int) a=some (tv_ r i a,()):=by
  have hi:=am_ ha
  obtain ⟨s1,s2,s3,s4,s5,s6⟩:=h.acn a (ax_ ha)
  unfold pa_
  refine d8_ (congrArg (fun o=>Option.bind o _) (?_:_=some (!(frN (·.1) r.2.2.2.2.1 i a.1&&(qv_ r a.2.1&&wi a.2.2.1 (-1) 7)),()))) ?_
  · rw [on_ (f8_ hi),a0_]
    refine d8_ (congrArg (fun o=>Option.bind o _) (ud_ (uy_ h.ac i) (·.1) s1)) ?_
    unfold frN twN qv_
    rw [a0_]
    cases okN a.1&&!((r.2.2.2.2.1.take i).any fun y=>y.1==a.1) with
    | false=>rfl
    | true =>
      simp only [dq_,a0_]
      cases wi a.2.1 0 (w64 ((r.1.length:Int) - 1)) with
      | false=>rfl
      | true=>rfl
  · rw [a0_]
    unfold tv_
    cases frN (·.1) r.2.2.2.2.1 i a.1 with
    | false=>rfl
    | true =>
    cases qv_ r a.2.1 with
    | false=>rfl
    | true =>
    cases wi a.2.2.1 (-1) 7 with
    | false=>rfl
    | true =>
      simp only [e5_,a2_,c0_,rp_ s2,rp_ s5,rp_ s6,a0_]
      cases ki_ r.2.2.1.length a.2.2.2.1 with
      | false=>rfl
      | true =>
      cases ki_ r.2.2.1.length a.2.2.2.2.2.2.1 with
      | false=>rfl
      | true =>
      cases ki_ r.2.2.1.length a.2.2.2.2.2.2.2 with
      | false=>rfl
      | true =>
      cases h6:decide (6<(a.2.2.2.2.2.1.length:Int)) with
      | true=>rfl
      | false =>
      simp only [e5_,g7_,a2_,c0_,a0_]
      refine d8_ (congrArg (fun o=>Option.bind o _) (?_:_=some (!((a.2.2.2.2.2.2.1.all fun p=>a.2.2.2.1.contains p)&&!(a.2.2.2.2.2.2.2.any fun p=>a.2.2.2.1.contains p)),()))) ?_
      · refine d8_ (congrArg (fun o=>Option.bind o _) (lf_ s5 (fun p=>!(a.2.2.2.1.contains p)) (fun i y hy => ?_) ?_)) ?_
        · simp only [dlt (am_ hy),a4_,ah_ hy,a0_,oe_ s2]
          cases a.2.2.2.1.contains y <;> rfl
        · simp only [dnl,a2_]
        rw [a0_,← sq_ a.2.2.2.2.2.2.1]
        cases a.2.2.2.2.2.2.1.any fun p=>!(a.2.2.2.1.contains p) with
        | true=>rfl
        | false =>
        refine d8_ (congrArg (fun o=>Option.bind o _) (lf_ s6 (fun p=>a.2.2.2.1.contains p) (fun i y hy => ?_) ?_)) ?_
        · simp only [dlt (am_ hy),a4_,ah_ hy,a0_,oe_ s2]
          cases a.2.2.2.1.contains y <;> rfl
        · simp only [dnl,a2_]
        cases a.2.2.2.2.2.2.2.any fun p=>a.2.2.2.1.contains p <;> rfl
      · rw [a0_]
        cases a.2.2.2.2.2.2.1.all fun p=>a.2.2.2.1.contains p with
        | false=>rfl
        | true =>
        cases a.2.2.2.2.2.2.2.any fun p=>a.2.2.2.1.contains p with
        | true=>rfl
        | false =>
          simp only [e5_,g7_,a2_,c0_]
          refine bn_ a.2.2.2.2.2.1 (fun i x=>cond (qi_ r a.2.2.2.2.2.1 i x) none (some (Sum.inr (false,()):Unit⊕(Bool×Unit)))) (fun i=>((i:Int),())) (r0:=Sum.inl ()) (fun k y hy => ?_) ?_ ?_
          · have hk:=am_ hy
            simp only [dlt hk,a4_,ah_ hy,a0_,ay_ (show Sm k by omega),on_ (f8_ hk)]
            refine d8_ (congrArg (fun o=>Option.bind o _) (lf_ (uy_ s4 k) (fun z=>z.1==y.1) (fun n z hz => ?_) ?_)) ?_
            · simp only [dlt (am_ hz),a4_,ah_ hz,a0_]
              cases z.1==y.1 <;> rfl
            · simp only [dnl,a2_]
            · rw [a0_,os_ h.th]
              unfold qi_
              cases nb_ r.2.1 y.1 y.2 with
              | false=>rfl
              | true =>
                cases (a.2.2.2.2.2.1.take k).any fun z=>z.1==y.1 <;> rfl
          · simp only [dnl,a2_]
          · rw [ro_]
            cases (fy_ (fun i x=>cond (qi_ r a.2.2.2.2.2.1 i x) none (some ())) 0 a.2.2.2.2.2.1).isNone <;> rfl
end
section
def manyR (r:ad_):Bool:=decide (8<(r.1.length:Int))||(decide (12<(r.2.1.length:Int))||(decide (10<(r.2.2.1.length:Int))||(decide (16<(r.2.2.2.1.length:Int))||(decide (24<(r.2.2.2.2.1.length:Int))||decide (12<(r.2.2.2.2.2.1.length:Int))))))
theorem many_of (r:ad_):(cond (decide (8<(r.1.length:Int)))
 (some (true,()))
 (cond (decide (12<(r.2.1.length:Int)))
 (some (true,()))
 (cond (decide (10<(r.2.2.1.length:Int)))
 (some (true,()))
 (cond (decide (16<(r.2.2.2.1.length:Int)))
 (some (true,()))
 (cond (decide (24<(r.2.2.2.2.1.length:Int)))
 (some (true,()))
 (some ((decide (12<(r.2.2.2.2.2.1.length:Int))),())))))))=some (manyR r,()):=by
  unfold manyR
  cases decide (8<(r.1.length:Int)) with
  | true=>rfl
  | false =>
  cases decide (12<(r.2.1.length:Int)) with
  | true=>rfl
  | false =>
  cases decide (10<(r.2.2.1.length:Int)) with
  | true=>rfl
  | false =>
  cases decide (16<(r.2.2.2.1.length:Int)) with
  | true=>rfl
  | false =>
  cases decide (24<(r.2.2.2.2.1.length:Int)) with
  | true=>rfl
  | false=>rfl
def cv_ (r:ad_):Int :=
  cond (manyR r) 2 ((fy_ (fun i x=>ke_ (plOk r i x) 22) 0 r.1).getD
    (cond ((r.1.length:Int)==0) 22 ((fy_ (fun i x=>ke_ (thOk r i x) 21) 0 r.2.1).getD
      ((fy_ (fun i x=>rl_ (prOk r i x) 24 (cOk r.2.1 x.2.2) 25) 0 r.2.2.1).getD
        ((fy_ (fun _ x=>rl_ (wyOk r x) 23 (cOk r.2.1 x.2.2) 25) 0 r.2.2.2.1).getD
          ((fy_ (fun i x=>rl_ (tv_ r i x) 26 (cOk r.2.1 x.2.2.2.2.1) 25) 0 r.2.2.2.2.1).getD
            ((fy_ (fun _ x=>rl_ (nb_ r.2.1 x.2.1 x.2.2) 27 (cOk r.2.1 x.1) 25) 0 r.2.2.2.2.2.1).getD
              (cond (wi r.2.2.2.2.2.2.1 1 4) (cond (cOk r.2.1 r.2.2.2.2.2.2.2) 0 25) 1))))))))
theorem rq_ {r:ad_} (h:SmR r):fa_ r=some (cv_ r,()):=by
  unfold fa_
  refine d8_ (congrArg (fun o=>Option.bind o _) (many_of r)) ?_
  rw [a0_]
  unfold cv_
  cases manyR r with
  | true=>rfl
  | false =>
  simp only [a2_]
  refine bs_ r.1 (fun i x=>ke_ (plOk r i x) 22) (fun i y hy => ?_) ?_ (ei_ ?_)
  · have hi:=am_ hy
    simp only [dlt hi,a4_,ah_ hy,a0_,ay_ (show Sm i from c3_ (f8_ hi) h.pl),on_ (f8_ hi)]
    refine d8_ (congrArg (fun o=>Option.bind o _) (ud_ (uy_ h.pl i) id (h.pln y (ax_ hy)))) ?_
    unfold ke_ plOk frN twN
    rw [a0_]
    cases okN y&&!((r.1.take i).any fun z=>id z==y) <;> rfl
  · simp only [dnl,a2_]
  cases (r.1.length:Int)==0 with
  | true=>rfl
  | false =>
  simp only [a2_]
  refine bs_ r.2.1 (fun i x=>ke_ (thOk r i x) 21) (fun i y hy => ?_) ?_ (ei_ ?_)
  · have hi:=am_ hy
    simp only [dlt hi,a4_,ah_ hy,a0_,ay_ (show Sm i from c3_ (f8_ hi) h.th),on_ (f8_ hi)]
    refine d8_ (congrArg (fun o=>Option.bind o _) (d8_ (congrArg (fun o=>Option.bind o _) (ud_ (uy_ h.th i) (·.1) (h.thn y (ax_ hy)))) (?_:_=some (!(thOk r i y),())))) ?_
    · simp only [dq_,a0_]
      unfold thOk frN twN qv_
      cases okN y.1&&!((r.2.1.take i).any fun z=>z.1==y.1) with
      | false=>rfl
      | true =>
        cases wi y.2.1 0 (w64 ((r.1.length:Int) - 1)) with
        | false=>rfl
        | true =>
          cases wi y.2.2.1 2 6 with
          | false=>rfl
          | true=>rfl
    · rw [a0_]
      unfold ke_
      cases thOk r i y <;> rfl
  · simp only [dnl,a2_]
  refine bs_ r.2.2.1 (fun i x=>rl_ (prOk r i x) 24 (cOk r.2.1 x.2.2) 25) (fun i y hy => ?_) ?_ (ei_ ?_)
  · have hi:=am_ hy
    simp only [dlt hi,a4_,ah_ hy,a0_,ay_ (show Sm i from c3_ (f8_ hi) h.pr),on_ (f8_ hi)]
    refine d8_ (congrArg (fun o=>Option.bind o _) (d8_ (congrArg (fun o=>Option.bind o _) (ud_ (uy_ h.pr i) (·.1) (h.prn y (ax_ hy)).1)) (?_:_=some (!(prOk r i y),())))) ?_
    · simp only [dq_,a0_]
      unfold prOk frN twN qv_
      cases okN y.1&&!((r.2.2.1.take i).any fun z=>z.1==y.1) with
      | false=>rfl
      | true =>
        cases wi y.2.1 0 (w64 ((r.1.length:Int) - 1)) with
        | false=>rfl
        | true=>rfl
    · rw [a0_,jh_ h.th,a0_]
      unfold rl_
      cases prOk r i y with
      | false=>rfl
      | true=>cases cOk r.2.1 y.2.2 <;> rfl
  · simp only [dnl,a2_]
  refine bs_ r.2.2.2.1 (fun i x=>rl_ (wyOk r x) 23 (cOk r.2.1 x.2.2) 25) (fun i y hy => ?_) ?_ (ei_ ?_)
  · have hi:=am_ hy
    simp only [dlt hi,a4_,ah_ hy,a0_,ay_ (show Sm i from c3_ (f8_ hi) h.wy)]
    refine d8_ (congrArg (fun o=>Option.bind o _) (?_:_=some (!(wyOk r y),()))) ?_
    · simp only [dq_,a0_]
      unfold wyOk qv_
      cases wi y.1 0 (w64 ((r.1.length:Int) - 1)) with
      | false=>rfl
      | true =>
        cases wi y.2.1 0 (w64 ((r.1.length:Int) - 1)) with
        | false=>rfl
        | true=>simp
    · rw [a0_,jh_ h.th,a0_]
      unfold rl_
      cases wyOk r y with
      | false=>rfl
      | true=>cases cOk r.2.1 y.2.2 <;> rfl
  · simp only [dnl,a2_]
  refine bs_ r.2.2.2.2.1 (fun i x=>rl_ (tv_ r i x) 26 (cOk r.2.1 x.2.2.2.2.1) 25) (fun i y hy => ?_) ?_ (ei_ ?_)
  · have hi:=am_ hy
    simp only [dlt hi,a4_,ah_ hy,a0_,ay_ (show Sm i from c3_ (f8_ hi) h.ac),room_act h hy,jh_ h.th]
    unfold rl_
    cases tv_ r i y with
    | false=>rfl
    | true=>cases cOk r.2.1 y.2.2.2.2.1 <;> rfl
  · simp only [dnl,a2_]
  refine bs_ r.2.2.2.2.2.1 (fun i x=>rl_ (nb_ r.2.1 x.2.1 x.2.2) 27 (cOk r.2.1 x.1) 25) (fun i y hy => ?_) ?_ (ei_ ?_)
  · have hi:=am_ hy
    simp only [dlt hi,a4_,ah_ hy,a0_,ay_ (show Sm i from c3_ (f8_ hi) h.au),os_ h.th,jh_ h.th]
    unfold rl_
    cases nb_ r.2.1 y.2.1 y.2.2 with
    | false=>rfl
    | true=>cases cOk r.2.1 y.1 <;> rfl
  · simp only [dnl,a2_]
  rw [dq_,a0_,jh_ h.th,a0_]
  cases wi r.2.2.2.2.2.2.1 1 4 with
  | false=>rfl
  | true=>cases cOk r.2.1 r.2.2.2.2.2.2.2 <;> rfl
end
section
theorem th_ {α ρ σ τ:Type} (l:List α) (k:Nat) (hk:k≤l.length) (p:Nat→α→Option ρ) (F:Nat→σ) {r0:ρ} {body:σ→Option (σ⊕ρ)} {K:ρ→Option τ} {x:Option τ}
    (h:∀ i x,i<k→l[i]?=some x→body (F i)=some (match p i x with | none=>.inl (F (i+1)) | some r=>.inr r)) (e:body (F k)=some (.inr r0)) (hx:K ((fy_ p 0 (l.take k)).getD r0)=x) :
    (af_ body (F 0)).bind K=x:=by
  have hle:(l.take k).length=k:=by rw [c7_]; omega
  refine bn_ (l.take k) p F (fun i x hx => ?_) (by rw [hle]; exact e) hx
  rw [i8_] at hx
  split at hx
  · exact h i x ‹_› hx
  · cases hx
theorem ref02_act {r:ad_} (h:SmR r) {i:Nat} {a:cr_} (ha:r.2.2.2.2.1[i]?=some a):mn_ r (i:Int)=some (tv_ r i a,()):=by
  have hi:=am_ ha
  have hac:=h.ac
  obtain ⟨s1,s2,s3,s4,s5,s6⟩:=h.acn a (ax_ ha)
  unfold mn_
  rw [ah_ ha,a0_]
  refine th_ r.2.2.2.2.1 i (f8_ hi) (fun _ y=>cond (y.1==a.1) (some (Sum.inr (false,()):Unit⊕(Bool×Unit))) none) (fun i=>((i:Int),())) (r0:=Sum.inl ()) (fun k y hk hy => ?_) ?_ ?_
  · simp only [dlt hk,a4_,ah_ hy,a0_,ay_ (show Sm k by omega)]
    cases y.1==a.1 <;> rfl
  · simp only [dnl,a2_]
  rw [gz_ (q:=fun y:cr_=>y.1==a.1)]
  unfold tv_ frN twN
  cases (r.2.2.2.2.1.take i).any fun y=>y.1==a.1 with
  | true=>rw [e5_,f7_,e0_]; rfl
  | false =>
  simp only [a2_,j0_,yy_,g7_,h4_]
  refine d8_ (congrArg (fun o=>Option.bind o _) (?_:_=some (!(okN a.1&&(qv_ r a.2.1&&(wi a.2.2.1 (-1) 7&&(ki_ r.2.2.1.length a.2.2.2.1&&(ki_ r.2.2.1.length a.2.2.2.2.2.2.1&&(ki_ r.2.2.1.length a.2.2.2.2.2.2.2&&!(decide (6<(a.2.2.2.2.2.1.length:Int))))))))),()))) ?_
  · simp only [jq_ s1,ho_,ff_,jp_ h.pr s2,jp_ h.pr s5,jp_ h.pr s6,a0_]
    unfold qv_
    cases okN a.1 with
    | false=>rfl
    | true =>
    cases wi a.2.1 0 (w64 ((r.1.length:Int) - 1)) with
    | false=>rfl
    | true =>
    cases wi a.2.2.1 (-1) 7 with
    | false=>rfl
    | true =>
    cases ki_ r.2.2.1.length a.2.2.2.1 with
    | false=>rfl
    | true =>
    cases ki_ r.2.2.1.length a.2.2.2.2.2.2.1 with
    | false=>rfl
    | true =>
    cases ki_ r.2.2.1.length a.2.2.2.2.2.2.2 with
    | false=>rfl
    | true=>simp
  rw [a0_]
  cases okN a.1 with
  | false=>rfl
  | true =>
  cases qv_ r a.2.1 with
  | false=>rfl
  | true =>
  cases wi a.2.2.1 (-1) 7 with
  | false=>rfl
  | true =>
  cases ki_ r.2.2.1.length a.2.2.2.1 with
  | false=>rfl
  | true =>
  cases ki_ r.2.2.1.length a.2.2.2.2.2.2.1 with
  | false=>rfl
  | true =>
  cases ki_ r.2.2.1.length a.2.2.2.2.2.2.2 with
  | false=>rfl
  | true =>
  cases decide (6<(a.2.2.2.2.2.1.length:Int)) with
  | true=>rfl
  | false =>
  simp only [c0_,e5_,g7_,a2_]
  refine bn_ a.2.2.2.2.2.2.1 (fun _ y=>cond (a.2.2.2.1.contains y) none (some (Sum.inr (false,()):Unit⊕(Bool×Unit)))) (fun i=>((i:Int),())) (r0:=Sum.inl ()) (fun k y hy => ?_) ?_ ?_
  · have hk:=am_ hy
    simp only [dlt hk,a4_,ah_ hy,a0_,ay_ (show Sm k by omega),ref02_in s2]
    cases a.2.2.2.1.contains y <;> rfl
  · simp only [dnl,a2_]
  rw [ir_ (q:=fun y=>a.2.2.2.1.contains y)]
  cases a.2.2.2.2.2.2.1.all fun y=>a.2.2.2.1.contains y with
  | false=>rfl
  | true =>
  simp only [a4_,j0_,yy_,c0_]
  refine bn_ a.2.2.2.2.2.2.2 (fun _ y=>cond (a.2.2.2.1.contains y) (some (Sum.inr (false,()):Unit⊕(Bool×Unit))) none) (fun i=>((i:Int),())) (r0:=Sum.inl ()) (fun k y hy => ?_) ?_ ?_
  · have hk:=am_ hy
    simp only [dlt hk,a4_,ah_ hy,a0_,ay_ (show Sm k by omega),ref02_in s2]
    cases a.2.2.2.1.contains y <;> rfl
  · simp only [dnl,a2_]
  rw [gz_ (q:=fun y=>a.2.2.2.1.contains y)]
  cases a.2.2.2.2.2.2.2.any fun y=>a.2.2.2.1.contains y with
  | true=>rfl
  | false =>
  simp only [a2_,j0_,yy_,g7_,c0_]
  refine bn_ a.2.2.2.2.2.1 (fun i x=>cond (qi_ r a.2.2.2.2.2.1 i x) none (some (Sum.inr (false,()):Unit⊕(Bool×Unit)))) (fun i=>((i:Int),())) (r0:=Sum.inl ()) (fun k y hy => ?_) ?_ ?_
  · have hk:=am_ hy
    simp only [dlt hk,a4_,ah_ hy,a0_,ay_ (show Sm k by omega),qn_ h.th]
    unfold qi_
    cases nb_ r.2.1 y.1 y.2 with
    | false=>rfl
    | true =>
    simp only [e5_,a2_,c0_]
    refine th_ a.2.2.2.2.2.1 k (f8_ hk) (fun _ z=>cond (z.1==y.1) (some (Sum.inr (Sum.inr (Sum.inr (false,()))):Unit⊕((Int×Unit)⊕(Unit⊕(Bool×Unit))))) none) (fun i=>((i:Int),())) (r0:=Sum.inl ()) (fun n z hn hz => ?_) ?_ ?_
    · simp only [dlt hn,a4_,ah_ hz,a0_,ay_ (show Sm n by omega)]
      cases z.1==y.1 <;> rfl
    · simp only [dnl,a2_]
    rw [gz_ (q:=fun z:ab_=>z.1==y.1)]
    cases (a.2.2.2.2.2.1.take k).any fun z=>z.1==y.1 <;> rfl
  · simp only [dnl,a2_]
  rw [ro_]
  cases (fy_ (fun i x=>cond (qi_ r a.2.2.2.2.2.1 i x) none (some ())) 0 a.2.2.2.2.2.1).isNone <;> rfl
theorem push_take {α:Type} {nm:α→List UInt8} {l:List α} (hl:Sm l.length) {i:Nat} {x:α} (hx:l[i]?=some x):push? (α:=List UInt8) ((l.take i).map nm) [nm x]=some ((l.take (i+1)).map nm):=by
  have hi:=am_ hx
  unfold push?
  rw [if_pos (by
    simp only [c9_,c7_,d4_]
    omega)]
  rw [d2_,hx,i6_]
  rfl
theorem twN_map {α:Type} {nm:α→List UInt8} {l:List α} {i:Nat} {t:List UInt8}:twN id ((l.take (i+1)).map nm) i t=twN nm l i t:=by
  unfold twN
  rw [← List.map_take,List.take_take,Nat.min_eq_left (Nat.le_succ i),List.any_map]
  rfl
theorem map_at {α:Type} {nm:α→List UInt8} {l:List α} {i:Nat} {x:α} (hx:l[i]?=some x):((l.take (i+1)).map nm)[i]?=some (nm x):=by
  rw [d7_,i8_,if_pos (Nat.lt_succ_self i),hx]
  rfl
theorem pu_ {r:ad_} (h:SmR r):fl_ r=some (cv_ r,()):=by
  unfold fl_
  refine d8_ (congrArg (fun o=>Option.bind o _) (many_of r)) ?_
  rw [a0_]
  unfold cv_
  cases manyR r with
  | true=>rfl
  | false =>
  simp only [a2_]
  cases he:(r.1.length:Int)==0 with
  | true =>
    have:r.1=[]:=by
      have:=f5_.1 he
      exact h3_ (by omega)
    rw [this]
    rfl
  | false =>
  simp only [a2_]
  refine bs_ r.1 (fun i x=>ke_ (plOk r i x) 22) (fun i y hy => ?_) ?_ (ei_ ?_)
  · have hi:=am_ hy
    simp only [dlt hi,a4_,ah_ hy,a0_,ay_ (show Sm i from c3_ (f8_ hi) h.pl),jq_ (h.pln y (ax_ hy)),pt_ h.pl hy]
    unfold ke_ plOk frN
    cases okN y with
    | false=>rfl
    | true=>cases twN id r.1 i y <;> rfl
  · simp only [dnl,a2_]
  refine yu_ r.2.1 (fun i x=>ke_ (thOk r i x) 21) (fun i=>(r.2.1.take i).map (·.1)) rfl (fun i y hy => ?_) ?_ (ei_ ?_)
  · have hi:=am_ hy
    have hs:Sm ((r.2.1.take (i+1)).map (·.1)).length:=by
      rw [c9_,c7_]
      exact c3_ (m2_ _ _) h.th
    simp only [dlt hi,a4_,ah_ hy,a0_,ay_ (show Sm i from c3_ (f8_ hi) h.th),push_take h.th hy,jq_ (h.thn y (ax_ hy)),pt_ hs (map_at hy),twN_map,ho_,ff_]
    unfold ke_ thOk frN qv_
    cases okN y.1 with
    | false=>rfl
    | true =>
    cases twN (·.1) r.2.1 i y.1 with
    | true=>rfl
    | false =>
    cases wi y.2.1 0 (w64 ((r.1.length:Int) - 1)) with
    | false=>rfl
    | true =>
    cases wi y.2.2.1 2 6 with
    | false=>rfl
    | true=>cases wi y.2.2.2 0 (w64 (y.2.2.1 - 1)) <;> rfl
  · simp only [dnl,a2_]
  refine yu_ r.2.2.1 (fun i x=>rl_ (prOk r i x) 24 (cOk r.2.1 x.2.2) 25) (fun i=>(r.2.2.1.take i).map (·.1)) rfl (fun i y hy => ?_) ?_ (ei_ ?_)
  · have hi:=am_ hy
    obtain ⟨s1,s2⟩:=h.prn y (ax_ hy)
    have hs:Sm ((r.2.2.1.take (i+1)).map (·.1)).length:=by
      rw [c9_,c7_]
      exact c3_ (m2_ _ _) h.pr
    simp only [dlt hi,a4_,ah_ hy,a0_,ay_ (show Sm i from c3_ (f8_ hi) h.pr),push_take h.pr hy,jq_ s1,pt_ hs (map_at hy),twN_map,ho_,go_ h.th s2]
    unfold rl_ prOk frN qv_
    cases okN y.1 with
    | false=>rfl
    | true =>
    cases twN (·.1) r.2.2.1 i y.1 with
    | true=>rfl
    | false =>
    have e:(y.2.1 != -1) = !(y.2.1==-1):=rfl
    rw [e]
    cases y.2.1==-1 with
    | true =>
      cases wi y.2.1 0 (w64 ((r.1.length:Int) - 1)) <;> cases cOk r.2.1 y.2.2 <;> rfl
    | false =>
      cases wi y.2.1 0 (w64 ((r.1.length:Int) - 1)) <;> cases cOk r.2.1 y.2.2 <;> rfl
  · simp only [dnl,a2_]
  refine bs_ r.2.2.2.1 (fun i x=>rl_ (wyOk r x) 23 (cOk r.2.1 x.2.2) 25) (fun i y hy => ?_) ?_ (ei_ ?_)
  · have hi:=am_ hy
    simp only [dlt hi,a4_,ah_ hy,a0_,ay_ (show Sm i from c3_ (f8_ hi) h.wy),ho_,go_ h.th (h.wyn y (ax_ hy))]
    unfold rl_ wyOk qv_
    cases wi y.1 0 (w64 ((r.1.length:Int) - 1)) with
    | false=>rfl
    | true =>
    cases wi y.2.1 0 (w64 ((r.1.length:Int) - 1)) with
    | false=>rfl
    | true=>cases y.1==y.2.1 <;> cases cOk r.2.1 y.2.2 <;> rfl
  · simp only [dnl,a2_]
  refine bs_ r.2.2.2.2.1 (fun i x=>rl_ (tv_ r i x) 26 (cOk r.2.1 x.2.2.2.2.1) 25) (fun i y hy => ?_) ?_ (ei_ ?_)
  · have hi:=am_ hy
    simp only [dlt hi,a4_,ah_ hy,a0_,ay_ (show Sm i from c3_ (f8_ hi) h.ac),ref02_act h hy,go_ h.th (h.acn y (ax_ hy)).2.2.1]
    unfold rl_
    cases tv_ r i y with
    | false=>rfl
    | true=>cases cOk r.2.1 y.2.2.2.2.1 <;> rfl
  · simp only [dnl,a2_]
  refine bs_ r.2.2.2.2.2.1 (fun i x=>rl_ (nb_ r.2.1 x.2.1 x.2.2) 27 (cOk r.2.1 x.1) 25) (fun i y hy => ?_) ?_ (ei_ ?_)
  · have hi:=am_ hy
    simp only [dlt hi,a4_,ah_ hy,a0_,ay_ (show Sm i from c3_ (f8_ hi) h.au),qn_ h.th,go_ h.th (h.aun y (ax_ hy))]
    unfold rl_
    cases nb_ r.2.1 y.2.1 y.2.2 with
    | false=>rfl
    | true=>cases cOk r.2.1 y.1 <;> rfl
  · simp only [dnl,a2_]
  rw [ff_,a0_,go_ h.th h.go,a0_]
  cases wi r.2.2.2.2.2.2.1 1 4 with
  | false=>rfl
  | true=>cases cOk r.2.1 r.2.2.2.2.2.2.2 <;> rfl
end
section
theorem iv_ {α τ:Type} (l:List α) (hl:Sm l.length) (q:α→Bool) {body:(Int×Unit)→Option ((Int×Unit)⊕(Unit⊕(Bool×Unit)))} {K:(Unit⊕(Bool×Unit))→Option τ} {x:Option τ}
    (h:∀ (i:Nat) y,l[i]?=some y→body ((i:Int),())=some (cond (q y) (.inr (.inr (true,()))) (.inl (w64 ((i:Int)+1),())))) (e:body ((l.length:Int),())=some (.inr (.inl ()))) (hx:K (cond (l.any q) (.inr (true,())) (.inl ()))=x) :
    (af_ body (0,())).bind K=x:=by
  refine bn_ l (fun i y=>cond (q y) (some (Sum.inr (true,()):Unit⊕(Bool×Unit))) none) (fun i=>((i:Int),())) (r0:=Sum.inl ()) (fun i y hy => ?_) e ?_
  · have hi:=am_ hy
    rw [h i y hy,ay_ (show Sm i by omega)]
    cases q y <;> rfl
  · rw [gz_ (q:=q)]
    cases hq:l.any q <;> rw [hq] at hx <;> exact hx
theorem hi_ {α:Type} {l:List α} {q:α→Bool} (h:l.any q=false):∀ x ∈ l,q x=false:=by
  intro x hx
  cases hq:q x with
  | false=>rfl
  | true=>rw [k0_.2 ⟨x,hx,hq⟩] at h; cases h
theorem nlt {n:Nat} {k:Int} (h:decide (k<(n:Int))=false) (hk:k≤1000000000):Sm n:=by
  have:=d6_ h
  omega
def manyF (r:ad_):Bool:=decide (12<(r.1.length:Int))||(decide (15<(r.2.1.length:Int))||(decide (14<(r.2.2.1.length:Int))||(decide (20<(r.2.2.2.1.length:Int))||(decide (30<(r.2.2.2.2.1.length:Int))||(decide (15<(r.2.2.2.2.2.1.length:Int))||decide (20<(r.2.2.2.2.2.2.2.length:Int)))))))
theorem manyF_of (r:ad_):(cond (decide (12<(r.1.length:Int)))
 (some (true,()))
 (cond (decide (15<(r.2.1.length:Int)))
 (some (true,()))
 (cond (decide (14<(r.2.2.1.length:Int)))
 (some (true,()))
 (cond (decide (20<(r.2.2.2.1.length:Int)))
 (some (true,()))
 (cond (decide (30<(r.2.2.2.2.1.length:Int)))
 (some (true,()))
 (cond (decide (15<(r.2.2.2.2.2.1.length:Int)))
 (some (true,()))
 (some ((decide (20<(r.2.2.2.2.2.2.2.length:Int))),()))))))))=some (manyF r,()):=by
  unfold manyF
  cases decide (12<(r.1.length:Int)) with
  | true=>rfl
  | false =>
  cases decide (15<(r.2.1.length:Int)) with
  | true=>rfl
  | false =>
  cases decide (14<(r.2.2.1.length:Int)) with
  | true=>rfl
  | false =>
  cases decide (20<(r.2.2.2.1.length:Int)) with
  | true=>rfl
  | false =>
  cases decide (30<(r.2.2.2.2.1.length:Int)) with
  | true=>rfl
  | false =>
  cases decide (15<(r.2.2.2.2.2.1.length:Int)) with
  | true=>rfl
  | false=>rfl
theorem law02_Far (r:ad_):∃ b,mq_ r=some (b,())∧(b=false→SmR r∧r.2.1.length≤15∧r.2.2.2.2.2.2.2.length≤20∧r.2.2.2.2.1.length≤30):=by
  unfold mq_
  have e0:=manyF_of r
  cases hm:manyF r with
  | true =>
    rw [hm] at e0
    exact ⟨true,d8_ (congrArg (fun o=>Option.bind o _) e0) rfl,fun h=>by cases h⟩
  | false =>
  rw [hm] at e0
  unfold manyF at hm
  simp only [c2_] at hm
  obtain ⟨h1,h2,h3,h4,h5,h6,h7⟩:=hm
  have l1:=nlt h1 (by decide)
  have l2:=nlt h2 (by decide)
  have l3:=nlt h3 (by decide)
  have l4:=nlt h4 (by decide)
  have l5:=nlt h5 (by decide)
  have l6:=nlt h6 (by decide)
  have l7:=nlt h7 (by decide)
  have b2:=d6_ h2
  have b5:=d6_ h5
  have b7:=d6_ h7
  let qa:cr_→Bool:=fun y=>decide (100<(y.1.length:Int))||(decide (20<(y.2.2.2.2.1.length:Int))||(decide (20<(y.2.2.2.1.length:Int))||(decide (20<(y.2.2.2.2.2.1.length:Int))||(decide (20<(y.2.2.2.2.2.2.1.length:Int))||decide (20<(y.2.2.2.2.2.2.2.length:Int))))))
  let b1:=r.1.any fun x=>decide (100<(x.length:Int))
  let bt:=r.2.1.any fun x=>decide (100<(x.1.length:Int))
  let bp:=r.2.2.1.any fun x=>decide (100<(x.1.length:Int))||decide (20<(x.2.2.length:Int))
  let bw:=r.2.2.2.1.any fun x=>decide (20<(x.2.2.length:Int))
  let ba:=r.2.2.2.2.1.any qa
  let bo:=r.2.2.2.2.2.1.any fun x=>decide (20<(x.1.length:Int))
  refine ⟨b1||(bt||(bp||(bw||(ba||bo)))),?_,?_⟩
  · refine d8_ (congrArg (fun o=>Option.bind o _) e0) ?_
    rw [a0_]
    simp only [a2_]
    refine iv_ r.1 l1 (fun x=>decide (100<(x.length:Int))) (fun i y hy => ?_) ?_ ?_
    · simp only [dlt (am_ hy),a4_,ah_ hy,a0_]
      cases decide (100<(y.length:Int)) <;> rfl
    · simp only [dnl,a2_]
    show ca_ (cond b1 _ _) _ _=_
    cases b1 with
    | true=>rfl
    | false =>
    refine iv_ r.2.1 l2 (fun x=>decide (100<(x.1.length:Int))) (fun i y hy => ?_) ?_ ?_
    · simp only [dlt (am_ hy),a4_,ah_ hy,a0_]
      cases decide (100<(y.1.length:Int)) <;> rfl
    · simp only [dnl,a2_]
    show ca_ (cond bt _ _) _ _=_
    cases bt with
    | true=>rfl
    | false =>
    refine iv_ r.2.2.1 l3 (fun x=>decide (100<(x.1.length:Int))||decide (20<(x.2.2.length:Int))) (fun i y hy => ?_) ?_ ?_
    · simp only [dlt (am_ hy),a4_,ah_ hy,a0_]
      cases decide (100<(y.1.length:Int)) with
      | true=>rfl
      | false=>cases decide (20<(y.2.2.length:Int)) <;> rfl
    · simp only [dnl,a2_]
    show ca_ (cond bp _ _) _ _=_
    cases bp with
    | true=>rfl
    | false =>
    refine iv_ r.2.2.2.1 l4 (fun x=>decide (20<(x.2.2.length:Int))) (fun i y hy => ?_) ?_ ?_
    · simp only [dlt (am_ hy),a4_,ah_ hy,a0_]
      cases decide (20<(y.2.2.length:Int)) <;> rfl
    · simp only [dnl,a2_]
    show ca_ (cond bw _ _) _ _=_
    cases bw with
    | true=>rfl
    | false =>
    refine iv_ r.2.2.2.2.1 l5 qa (fun i y hy => ?_) ?_ ?_
    · simp only [dlt (am_ hy),a4_,ah_ hy,a0_,qa]
      cases decide (100<(y.1.length:Int)) with
      | true=>rfl
      | false =>
      cases decide (20<(y.2.2.2.2.1.length:Int)) with
      | true=>rfl
      | false =>
      cases decide (20<(y.2.2.2.1.length:Int)) with
      | true=>rfl
      | false =>
      cases decide (20<(y.2.2.2.2.2.1.length:Int)) with
      | true=>rfl
      | false =>
      cases decide (20<(y.2.2.2.2.2.2.1.length:Int)) with
      | true=>rfl
      | false=>cases decide (20<(y.2.2.2.2.2.2.2.length:Int)) <;> rfl
    · simp only [dnl,a2_]
    show ca_ (cond ba _ _) _ _=_
    cases ba with
    | true=>rfl
    | false =>
    refine iv_ r.2.2.2.2.2.1 l6 (fun x=>decide (20<(x.1.length:Int))) (fun i y hy => ?_) ?_ ?_
    · simp only [dlt (am_ hy),a4_,ah_ hy,a0_]
      cases decide (20<(y.1.length:Int)) <;> rfl
    · simp only [dnl,a2_]
    show ca_ (cond bo _ _) _ _=_
    cases bo <;> rfl
  · intro hb
    simp only [c2_] at hb
    obtain ⟨g1,g2,g3,g4,g5,g6⟩:=hb
    refine ⟨⟨l1,l2,l3,l4,l5,l6,l7,fun x hx=>nlt (hi_ g1 x hx) (by decide),fun x hx=>nlt (hi_ g2 x hx) (by decide),fun x hx => ?_,fun x hx=>nlt (hi_ g4 x hx) (by decide),fun x hx => ?_,fun x hx=>nlt (hi_ g6 x hx) (by decide)⟩,by omega,by omega,by omega⟩
    · have:=hi_ g3 x hx
      simp only [c2_] at this
      exact ⟨nlt this.1 (by decide),nlt this.2 (by decide)⟩
    · have:=hi_ g5 x hx
      simp only [qa,c2_] at this
      obtain ⟨a1,a2,a3,a4,a5,a6⟩:=this
      exact ⟨nlt a1 (by decide),nlt a3 (by decide),nlt a2 (by decide),nlt a4 (by decide),nlt a5 (by decide),nlt a6 (by decide)⟩
structure SmG (g:ac_):Prop where
  room:SmR g.1
  th:g.1.2.1.length≤15
  go:g.1.2.2.2.2.2.2.2.length≤20
  ac:g.1.2.2.2.2.1.length≤30
  lk:g.2.1.length≤10
  cd:g.2.2.1.length≤10
  nt:g.2.2.2.1.length≤20
  lkn:∀ x ∈ g.2.1,¬ (3<x.1∧5<x.2)
  cdn:∀ x ∈ g.2.2.1,x.length≤10
  ntn:∀ x ∈ g.2.2.2.1,x.1.length≤100∧x.2.2.2.1.length≤20∧x.2.2.2.2.2.2.2.2.2.1.length≤10
theorem law04_Far (g:ac_):∃ b,kc_ g=some (b,())∧(b=false→SmG g):=by
  unfold kc_
  obtain ⟨b0,e0,h0⟩:=law02_Far g.1
  rw [e0]
  simp only [a0_]
  cases b0 with
  | true=>exact ⟨true,rfl,fun h=>by cases h⟩
  | false =>
  obtain ⟨r1,r2,r3,r4⟩:=h0 rfl
  cases h1:decide (10<(g.2.1.length:Int)) with
  | true=>exact ⟨true,rfl,fun h=>by cases h⟩
  | false =>
  cases h2:decide (10<(g.2.2.1.length:Int)) with
  | true=>exact ⟨true,rfl,fun h=>by cases h⟩
  | false =>
  cases h3:decide (20<(g.2.2.2.1.length:Int)) with
  | true=>exact ⟨true,rfl,fun h=>by cases h⟩
  | false =>
  have l1:=nlt h1 (by decide)
  have l2:=nlt h2 (by decide)
  have l3:=nlt h3 (by decide)
  let ql:ab_→Bool:=fun y=>decide (3<y.1)&&decide (5<y.2)
  let qn:cn_→Bool:=fun y=>decide (100<(y.1.length:Int))||(decide (20<(y.2.2.2.1.length:Int))||decide (10<(y.2.2.2.2.2.2.2.2.2.1.length:Int)))
  let b1:=g.2.1.any ql
  let b2:=g.2.2.1.any fun x=>decide (10<(x.length:Int))
  let b3:=g.2.2.2.1.any qn
  refine ⟨b1||(b2||b3),?_,?_⟩
  · simp only [a0_,a2_]
    refine iv_ g.2.1 l1 ql (fun i y hy => ?_) ?_ ?_
    · simp only [dlt (am_ hy),a4_,ah_ hy,a0_,ql]
      cases decide (3<y.1) with
      | false=>rfl
      | true=>cases decide (5<y.2) <;> rfl
    · simp only [dnl,a2_]
    show ca_ (cond b1 _ _) _ _=_
    cases b1 with
    | true=>rfl
    | false =>
    refine iv_ g.2.2.1 l2 (fun x=>decide (10<(x.length:Int))) (fun i y hy => ?_) ?_ ?_
    · simp only [dlt (am_ hy),a4_,ah_ hy,a0_]
      cases decide (10<(y.length:Int)) <;> rfl
    · simp only [dnl,a2_]
    show ca_ (cond b2 _ _) _ _=_
    cases b2 with
    | true=>rfl
    | false =>
    refine iv_ g.2.2.2.1 l3 qn (fun i y hy => ?_) ?_ ?_
    · simp only [dlt (am_ hy),a4_,ah_ hy,a0_,qn]
      cases decide (100<(y.1.length:Int)) with
      | true=>rfl
      | false =>
      cases decide (20<(y.2.2.2.1.length:Int)) with
      | true=>rfl
      | false=>cases decide (10<(y.2.2.2.2.2.2.2.2.2.1.length:Int)) <;> rfl
    · simp only [dnl,a2_]
    show ca_ (cond b3 _ _) _ _=_
    cases b3 <;> rfl
  · intro hb
    simp only [c2_] at hb
    obtain ⟨g1,g2,g3⟩:=hb
    have c1:=d6_ h1
    have c2:=d6_ h2
    have c3:=d6_ h3
    refine ⟨r1,r2,r3,r4,by omega,by omega,by omega,fun x hx => ?_,fun x hx => ?_,fun x hx => ?_⟩
    · have:=hi_ g1 x hx
      intro hc
      simp only [ql,b2_ hc.1,b2_ hc.2] at this
      cases this
    · have:=d6_ (hi_ g2 x hx)
      omega
    · have:=hi_ g3 x hx
      simp only [qn,c2_] at this
      have d1:=d6_ this.1
      have d2:=d6_ this.2.1
      have d3:=d6_ this.2.2
      omega
end
end Go.Proofs.YtmdlefagpcmllaaGreatDoor.Rx
namespace Go.Proofs.YtmdlefagpcmllaaGreatDoor.Rx
open Go Pad Rex Go.Proofs
section
set_option maxRecDepth 100000
set_option maxHeartbeats 0
def an_22:An:=(.p .z (.p .z (.p .z (.p (.j0 [.v 24 .bool] .z .z) (.p (.p .z (.ls [.v 4 .int] [] [] 0 .z)) (.p .z (.p (.p .z (.ls [.v 6 .int] [] [] 2 (.p .z (.p (.p (.q [] .z .z) .z) .z)))) (.p (.p .z (.ls [.v 7 .int] [] [] 4 (.p .z (.p (.p (.q [] .z .z) .z) .z)))) (.p (.p .z (.ls [.v 8 .int] [] [] 6 (.p .z (.p (.p .z (.p (.q [] .z .z) .z)) .z)))) .z)))))))))
noncomputable def cs_22:List (Con Tryz.prog):=[c_55,c_56,c_57,c_58,c_59,c_60]
noncomputable def cl_22:List (Cpy Tryz.prog):=[]
noncomputable def cx_22:Cx Tryz.prog:=cxC cs_22 cl_22
noncomputable def hc_ (a0:ac_):Option (Int×Unit) :=
 ((fl_ a0.1).bind fun v0 =>
 (cond (v0.1 != 0)
 (some (v0.1,()))
 (((cond (decide (8<(a0.2.1.length:Int)))
 (some (true,()))
 (some ((decide (16<(a0.2.2.2.1.length:Int))),())))).bind fun v1 =>
 (cond v1.1
 (some (2,()))
 ((af_ (ρ:=(Unit⊕(Int×Unit))) (fun (v2:(Int×Unit)) =>
 (cond (decide (v2.1<(a0.2.1.length:Int)))
 ((at? a0.2.1 v2.1).bind fun v3 =>
 ((ec_ v3).bind fun v4 =>
 (cond (v4.1 != 0)
 (some (Sum.inr (Sum.inr (v4.1,()))))
 (some (Sum.inl ((w64 (v2.1+1)),()))))))
 (some (Sum.inr (Sum.inl ()))))) (0,())).bind fun v5 =>
 (ca_ v5 (fun v6=>(cond ((a0.2.2.1.length:Int) != (a0.2.1.length:Int))
 (some (12,()))
 ((af_ (ρ:=(Unit⊕(Int×Unit))) (fun (v8:(Int×Unit)) =>
 (cond (decide (v8.1<(a0.2.2.1.length:Int)))
 ((at? a0.2.1 v8.1).bind fun v9 =>
 ((at? a0.2.2.1 v8.1).bind fun v10 =>
 ((fm_ v9 v10).bind fun v11 =>
 (cond (v11.1 != 0)
 (some (Sum.inr (Sum.inr (12,()))))
 (some (Sum.inl ((w64 (v8.1+1)),())))))))
 (some (Sum.inr (Sum.inl ()))))) (0,())).bind fun v12 =>
 (ca_ v12 (fun v13=>((af_ (ρ:=(Unit⊕(Int×Unit))) (fun (v15:(Int×Unit)) =>
 (cond (decide (v15.1<(a0.1.2.2.2.2.1.length:Int)))
 ((at? a0.1.2.2.2.2.1 v15.1).bind fun v16 =>
 (cond (decide ((a0.2.1.length:Int)≤v16.2.2.1))
 (some (Sum.inr (Sum.inr (26,()))))
 (some (Sum.inl ((w64 (v15.1+1)),())))))
 (some (Sum.inr (Sum.inl ()))))) (0,())).bind fun v17 =>
 (ca_ v17 (fun v18=>((af_ (ρ:=(Unit⊕(Int×Unit))) (fun (v20:(Int×Unit)) =>
 (cond (decide (v20.1<(a0.2.2.2.1.length:Int)))
 ((iw_ a0 v20.1).bind fun v21 =>
 (cond (!v21.1)
 (some (Sum.inr (Sum.inr (40,()))))
 ((at? a0.2.2.2.1 v20.1).bind fun v22 =>
 ((cq_ a0.1 v22.2.2.2.1).bind fun v23 =>
 (cond (!v23.1)
 (some (Sum.inr (Sum.inr (25,()))))
 (some (Sum.inl ((w64 (v20.1+1)),()))))))))
 (some (Sum.inr (Sum.inl ()))))) (0,())).bind fun v24 =>
 (ca_ v24 (fun v25=>((id_ a0.2.2.2.2 1 100).bind fun v27 =>
 (cond (!v27.1)
 (some (1,()))
 (some (0,())))))
 (fun v26=>(some v26)))))
 (fun v19=>(some v19)))))
 (fun v14=>(some v14))))))
 (fun v7=>(some v7))))))))
theorem x_22:au_ cx_22 an_22 22 [ao_] [.int]=fun x=>hc_ x.1:=by kernel_rfl
noncomputable def c_22:Con Tryz.prog:=aw_ _ _ 22 [ao_] [.int] _ x_22
def an_131:An:=(.p .z (.p .z (.p .z (.p (.j0 [.v 38 .bool] .z .z) (.p (.p .z (.ls [.v 6 .int] [] [] 0 (.p .z (.p (.p (.q [] .z .z) .z) .z)))) (.p (.p .z (.ls [.v 7 .int] [] [] 2 (.p .z (.p (.p .z (.j0 [.v 83 .bool] .z .z)) .z)))) (.p (.p .z (.ls [.v 9 .int] [] [] 4 (.p .z (.p (.p (.q [] .z .z) .z) .z)))) .z)))))))
noncomputable def cs_131:List (Con Tryz.prog):=[c_55,c_95,c_96,c_98]
noncomputable def cl_131:List (Cpy Tryz.prog):=[]
noncomputable def cx_131:Cx Tryz.prog:=cxC cs_131 cl_131
noncomputable def em_ (a0:ad_) (a1:ai_):Option (Int×Unit) :=
 ((fl_ a0).bind fun v0 =>
 (cond (v0.1 != 0)
 (some (v0.1,()))
 (((cond ((a1.1.length:Int) != (a0.2.1.length:Int))
 (some (true,()))
 (cond ((a1.2.1.length:Int) != (a0.2.2.1.length:Int))
 (some (true,()))
 (some (((a1.2.2.length:Int) != a0.2.2.2.2.2.2.1),()))))).bind fun v1 =>
 (cond v1.1
 (some (28,()))
 ((af_ (ρ:=(Unit⊕(Int×Unit))) (fun (v2:(Int×Unit)) =>
 (cond (decide (v2.1<(a1.1.length:Int)))
 ((at? a1.1 v2.1).bind fun v3 =>
 ((gl_ a0 v2.1 v3).bind fun v4 =>
 (cond (!v4.1)
 (some (Sum.inr (Sum.inr (28,()))))
 (some (Sum.inl ((w64 (v2.1+1)),()))))))
 (some (Sum.inr (Sum.inl ()))))) (0,())).bind fun v5 =>
 (ca_ v5 (fun v6=>((af_ (ρ:=(Unit⊕(Int×Unit))) (fun (v8:(Int×Unit)) =>
 (cond (decide (v8.1<(a1.2.1.length:Int)))
 ((at? a1.2.1 v8.1).bind fun v9 =>
 ((((cp_ a0 v9).bind fun v10 =>
 (cond (!v10.1)
 (cond (v9 != (-1))
 ((bp_ v9 (w64 ((w64 ((-2) - a0.2.2.2.2.2.2.1))+1)) (-2)).bind fun v11 =>
 (some ((!v11.1),())))
 (some (false,())))
 (some (false,()))))).bind fun v12 =>
 (cond v12.1
 (some (Sum.inr (Sum.inr (28,()))))
 (some (Sum.inl ((w64 (v8.1+1)),()))))))
 (some (Sum.inr (Sum.inl ()))))) (0,())).bind fun v13 =>
 (ca_ v13 (fun v14=>((af_ (ρ:=(Unit⊕(Int×Unit))) (fun (v16:(Int×Unit)) =>
 (cond (decide (v16.1<(a1.2.2.length:Int)))
 ((at? a1.2.2 v16.1).bind fun v17 =>
 ((cp_ a0 v17).bind fun v18 =>
 (cond (!v18.1)
 (some (Sum.inr (Sum.inr (28,()))))
 (some (Sum.inl ((w64 (v16.1+1)),()))))))
 (some (Sum.inr (Sum.inl ()))))) (0,())).bind fun v19 =>
 (ca_ v19 (fun v20=>(some (0,())))
 (fun v21=>(some v21)))))
 (fun v15=>(some v15)))))
 (fun v7=>(some v7))))))))
theorem x_131:au_ cx_131 an_131 131 [an_,aq_] [.int]=fun x=>em_ x.1 x.2.1:=by kernel_rfl
noncomputable def c_131:Con Tryz.prog:=aw_ _ _ 131 [an_,aq_] [.int] _ x_131
def an_213:An:=.z
noncomputable def cs_213:List (Con Tryz.prog):=[c_235,c_236]
noncomputable def cl_213:List (Cpy Tryz.prog):=[]
noncomputable def cx_213:Cx Tryz.prog:=cxC cs_213 cl_213
noncomputable def jd_ (a0:ab_) (a1:(List ak_)):Option (Int×Int×Unit) :=
 ((en_ a0 a1).bind fun v0 =>
 (cond (v0.1 != 0)
 (some (0,(v0.1,())))
 ((mo_ a0 a1).bind fun v1 =>
 (some ((v1.1.length:Int),(0,()))))))
theorem x_213:au_ cx_213 an_213 213 [al_,(.list ap_)] [.int,.int]=fun x=>jd_ x.1 x.2.1:=by kernel_rfl
noncomputable def c_213:Con Tryz.prog:=aw_ _ _ 213 [al_,(.list ap_)] [.int,.int] _ x_213
def an_108:An:=(.p .z (.p .z (.p (.j0 [.v 40 .bool] .z .z) (.p (.p .z (.ls [.v 44 .int] [] [] 0 .z)) (.p (.p .z (.ls [.v 58 .int] [] [] 2 .z)) (.p (.p .z (.ls [.v 77 .int] [] [] 4 .z)) .z))))))
noncomputable def cs_108:List (Con Tryz.prog):=[c_118,c_144,c_145]
noncomputable def cl_108:List (Cpy Tryz.prog):=[]
noncomputable def cx_108:Cx Tryz.prog:=cxC cs_108 cl_108
noncomputable def bv_ (a0:ad_) (a1:ai_):Option (Int×Unit) :=
 ((fa_ a0).bind fun v0 =>
 (cond (v0.1 != 0)
 (some (v0.1,()))
 (((cond ((a1.1.length:Int) != (a0.2.1.length:Int))
 (some (true,()))
 (cond ((a1.2.1.length:Int) != (a0.2.2.1.length:Int))
 (some (true,()))
 (some (((a1.2.2.length:Int) != a0.2.2.2.2.2.2.1),()))))).bind fun v1 =>
 (cond v1.1
 (some (28,()))
 ((af_ (ρ:=(Unit⊕(Int×Unit))) (fun (v2:(Int×Unit)) =>
 (cond (decide (v2.1<(a1.1.length:Int)))
 ((at? a1.1 v2.1).bind fun v3 =>
 ((ew_ a0 v2.1 v3).bind fun v4 =>
 (cond (!v4.1)
 (some (Sum.inr (Sum.inr (28,()))))
 (some (Sum.inl ((w64 (v2.1+1)),()))))))
 (some (Sum.inr (Sum.inl ()))))) (0,())).bind fun v5 =>
 (ca_ v5 (fun v6=>((af_ (ρ:=(Unit⊕(Int×Unit))) (fun (v8:(Int×Unit)) =>
 (cond (decide (v8.1<(a1.2.1.length:Int)))
 ((at? a1.2.1 v8.1).bind fun v9 =>
 ((bc_ v9 (w64 ((w64 ((-2) - a0.2.2.2.2.2.2.1))+1)) (w64 ((a0.1.length:Int) - 1))).bind fun v10 =>
 (cond (!v10.1)
 (some (Sum.inr (Sum.inr (28,()))))
 (some (Sum.inl ((w64 (v8.1+1)),()))))))
 (some (Sum.inr (Sum.inl ()))))) (0,())).bind fun v11 =>
 (ca_ v11 (fun v12=>((af_ (ρ:=(Unit⊕(Int×Unit))) (fun (v14:(Int×Unit)) =>
 (cond (decide (v14.1<(a1.2.2.length:Int)))
 ((at? a1.2.2 v14.1).bind fun v15 =>
 ((bc_ v15 0 (w64 ((a0.1.length:Int) - 1))).bind fun v16 =>
 (cond (!v16.1)
 (some (Sum.inr (Sum.inr (28,()))))
 (some (Sum.inl ((w64 (v14.1+1)),()))))))
 (some (Sum.inr (Sum.inl ()))))) (0,())).bind fun v17 =>
 (ca_ v17 (fun v18=>(some (0,())))
 (fun v19=>(some v19)))))
 (fun v13=>(some v13)))))
 (fun v7=>(some v7))))))))
theorem x_108:au_ cx_108 an_108 108 [an_,aq_] [.int]=fun x=>bv_ x.1 x.2.1:=by kernel_rfl
noncomputable def c_108:Con Tryz.prog:=aw_ _ _ 108 [an_,aq_] [.int] _ x_108
def an_170:An:=.z
noncomputable def cs_170:List (Con Tryz.prog):=[c_120,c_208,c_209]
noncomputable def cl_170:List (Cpy Tryz.prog):=[]
noncomputable def cx_170:Cx Tryz.prog:=cxC cs_170 cl_170
noncomputable def jf_ (a0:ab_) (a1:ak_) (a2:(List Int)):Option (Bool×Int×Unit) :=
 ((fr_ a0 a1).bind fun v0 =>
 (cond (v0.1 != 0)
 (some (false,(v0.1,())))
 ((dw_ a0 a2).bind fun v1 =>
 (cond (v1.1 != 0)
 (some (false,(v1.1,())))
 ((fp_ a1 a2).bind fun v2 =>
 (some (v2.1,(0,()))))))))
theorem x_170:au_ cx_170 an_170 170 [al_,ap_,(.list .int)] [.bool,.int]=fun x=>jf_ x.1 x.2.1 x.2.2.1:=by kernel_rfl
noncomputable def c_170:Con Tryz.prog:=aw_ _ _ 170 [al_,ap_,(.list .int)] [.bool,.int] _ x_170
def an_82:An:=(.p .z (.p .z (.p .z (.p (.p .z (.lp [.v 23 .int] [] [.b (.s 5) [.row .int 3,.keep,.keep]] 0 .z)) (.p (.p .z (.lp [.v 38 .int] [] [.b (.s 5) [.keep,.row .int 3,.keep]] 2 .z)) .z)))))
def at_82:FuncId→An:=fun k=>cond (Nat.beq k 124) (.p .z (.p (.j0 [.v 6 .bool,.o (.c (.s 0) 8) .int] .z .z) .z)) (cond (Nat.beq k 172) (.p .z (.p (.p .z (.ls [.v 4 .int] [] [.o (.c (.s 0) 8) .int] 0 (.p .z (.p .z (.p (.j0 [.v 3 .int] .z .z) .z))))) .z)) (cond (Nat.beq k 210) (.p .z (.p (.p .z (.ls [.v 8 .int] [] [] 0 .z)) .z)) (cond (Nat.beq k 211) (.p .z (.j0 [.v 3 .bool] .z .z)) (.z))))
noncomputable def cs_82:List (Con Tryz.prog):=[c_110,c_118]
noncomputable def cl_82:List (Cpy Tryz.prog):=[xa_]
noncomputable def cx_82:Cx Tryz.prog:=cxI at_82 (fun k=>Nat.beq k 110||Nat.beq k 118||Nat.beq k 127||false) (cxC cs_82 cl_82) 6
noncomputable def ib_ (a0:ad_):Option (ai_×Int×Unit) :=
 ((fa_ a0).bind fun v0 =>
 (cond (v0.1 != 0)
 (some (([],([],[])),(v0.1,())))
 ((mk? (α:=Int) a0.2.2.2.2.2.2.1 0).bind fun v1 =>
 ((af_ (ρ:=(((List Int)×Unit)×Unit)) (fun (v2:(Int×(((List Int)×Unit)×Unit))) =>
 (cond (decide (v2.1<(a0.2.1.length:Int)))
 ((at? a0.2.1 v2.1).bind fun v3 =>
 ((push? (α:=Int) v2.2.1.1 [v3.2.2.2]).bind fun v4 =>
 (some (Sum.inl ((w64 (v2.1+1)),((v4,()),()))))))
 (some (Sum.inr ((v2.2.1.1,()),()))))) (0,(([],()),()))).bind fun v5 =>
 ((af_ (ρ:=(((List Int)×Unit)×Unit)) (fun (v6:(Int×(((List Int)×Unit)×Unit))) =>
 (cond (decide (v6.1<(a0.2.2.1.length:Int)))
 ((at? a0.2.2.1 v6.1).bind fun v7 =>
 ((push? (α:=Int) v6.2.1.1 [v7.2.1]).bind fun v8 =>
 (some (Sum.inl ((w64 (v6.1+1)),((v8,()),()))))))
 (some (Sum.inr ((v6.2.1.1,()),()))))) (0,(([],()),()))).bind fun v9 =>
 ((push? (α:=Int) [] v5.1.1).bind fun v10 =>
 ((push? (α:=Int) [] v9.1.1).bind fun v11 =>
 ((push? (α:=Int) [] v1).bind fun v12 =>
 ((((af_ (ρ:=(((List Int)×Unit)⊕(Bool×((List Int)×Unit)))) (fun (v13:(Int×((List Int)×Unit))) =>
 (cond (decide (v13.1<101))
 ((((af_ (ρ:=(Unit⊕(Int×Unit))) (fun (v14:(Int×Unit)) =>
 (cond (decide (v14.1<(a0.2.2.2.2.2.1.length:Int)))
 ((at? a0.2.2.2.2.2.1 v14.1).bind fun v15 =>
 ((((at? v13.2.1 v15.2.1).bind fun v16 =>
 ((at? v13.2.1 v15.2.1).bind fun v17 =>
 (cond (v17 != v15.2.2)
 ((ba_ (a0,(v13.2.1,(v11,v12))) v15.1).bind fun v18 =>
 (some (v18.1,())))
 (some (false,())))))).bind fun v19 =>
 (cond v19.1
 (some (Sum.inr (Sum.inr (v14.1,()))))
 (some (Sum.inl ((w64 (v14.1+1)),()))))))
 (some (Sum.inr (Sum.inl ()))))) (0,())).bind fun v20 =>
 (ca_ v20 (fun v21=>(some ((-1),())))
 (fun v22=>(some v22))))).bind fun v23 =>
 (cond (decide (v23.1<0))
 (some (Sum.inr (Sum.inr ((!true),(v13.2.1,())))))
 ((at? a0.2.2.2.2.2.1 v23.1).bind fun v24 =>
 ((at? a0.2.2.2.2.2.1 v23.1).bind fun v25 =>
 ((at? v13.2.1 v24.2.1).bind fun v26 =>
 ((at? v13.2.1 v24.2.1).bind fun v27 =>
 (some (Sum.inl ((w64 (v13.1+1)),((v13.2.1.set v24.2.1.toNat v25.2.2),()))))))))))
 (some (Sum.inr (Sum.inl (v13.2.1,())))))) (0,(v10,()))).bind fun v28 =>
 (ca_ v28 (fun v29=>(some ((!false),(v29.1,()))))
 (fun v30=>(some v30))))).bind fun v31 =>
 (cond v31.1
 (some (([],([],[])),(27,())))
 (some ((v31.2.1,(v11,v12)),(0,())))))))))))))
theorem x_82:au_ cx_82 an_82 82 [an_] [aq_,.int]=fun x=>ib_ x.1:=by kernel_rfl
noncomputable def c_82:Con Tryz.prog:=aw_ _ _ 82 [an_] [aq_,.int] _ x_82
def an_220:An:=.z
noncomputable def cs_220:List (Con Tryz.prog):=[c_239,c_240]
noncomputable def cl_220:List (Cpy Tryz.prog):=[]
noncomputable def cx_220:Cx Tryz.prog:=cxC cs_220 cl_220
noncomputable def cx_ (a0:ab_) (a1:(List ak_)):Option (Int×Int×Unit) :=
 ((ep_ a0 a1).bind fun v0 =>
 (cond (v0.1 != 0)
 (some (0,(v0.1,())))
 ((eo_ a0 a1).bind fun v1 =>
 (some (v1.1,(0,()))))))
theorem x_220:au_ cx_220 an_220 220 [al_,(.list ap_)] [.int,.int]=fun x=>cx_ x.1 x.2.1:=by kernel_rfl
noncomputable def c_220:Con Tryz.prog:=aw_ _ _ 220 [al_,(.list ap_)] [.int,.int] _ x_220
end
end Go.Proofs.YtmdlefagpcmllaaGreatDoor.Rx
namespace Go.Proofs.YtmdlefagpcmllaaGreatDoor.Rx
open Go Pad Rex
section
theorem jo_ {α ρ:Type} {p:Nat→α→Option ρ} {e:ρ} (h:∀ i x,p i x≠some e):∀ (l:List α) (i:Nat),fy_ p i l≠some e
  | [],_=>by simp [fy_]
  | x::l,i=>by
    unfold fy_
    cases hp:p i x with
    | some r =>
      intro he
      cases he
      exact h i x hp
    | none=>exact jo_ h l (i+1)
theorem gc_ {o:Option Int} {k:Int} (h:o.getD k=0) (hn:o≠some 0):o=none∧k=0:=by
  cases o with
  | none=>exact ⟨rfl,h⟩
  | some e =>
    have:e=0:=h
    subst this
    exact absurd rfl hn
theorem wu_ {a:Bool} {e:Int} (h:e≠0):ke_ a e≠some 0:=by
  unfold ke_
  cases a with
  | true=>simp
  | false=>simpa using h
theorem wt_ {a b:Bool} {e f:Int} (h:e≠0) (k:f≠0):rl_ a e b f≠some 0:=by
  unfold rl_
  cases a with
  | false=>simpa using h
  | true =>
    cases b with
    | true=>simp
    | false=>simpa using k
theorem kd_ {a:Bool} {e:Int} (h:ke_ a e=none):a=true:=by cases a with
  | true=>rfl
  | false=>cases h
theorem nt_ {a b:Bool} {e f:Int} (h:rl_ a e b f=none):a=true∧b=true:=by
  cases a with
  | false=>cases h
  | true=>cases b with
    | true=>exact ⟨rfl,rfl⟩
    | false=>cases h
theorem db_ {α ρ:Type} {p:Nat→α→Option ρ} {l:List α} (h:fy_ p 0 l=none) {i:Nat} {x:α} (hx:l[i]?=some x):p i x=none:=by
  have:=(hy_ l 0).1 h i x hx
  rwa [b0_] at this
structure OkR (r:ad_):Prop where
  many:manyR r=false
  pl:∀ (i:Nat) x,r.1[i]?=some x→plOk r i x=true
  ne:r.1≠[]
  th:∀ (i:Nat) x,r.2.1[i]?=some x→thOk r i x=true
  pr:∀ (i:Nat) x,r.2.2.1[i]?=some x→prOk r i x=true∧cOk r.2.1 x.2.2=true
  wy:∀ (i:Nat) x,r.2.2.2.1[i]?=some x→wyOk r x=true∧cOk r.2.1 x.2.2=true
  ac:∀ (i:Nat) x,r.2.2.2.2.1[i]?=some x→tv_ r i x=true∧cOk r.2.1 x.2.2.2.2.1=true
  au:∀ (i:Nat) x,r.2.2.2.2.2.1[i]?=some x→nb_ r.2.1 x.2.1 x.2.2=true∧cOk r.2.1 x.1=true
  py:wi r.2.2.2.2.2.2.1 1 4=true
  go:cOk r.2.1 r.2.2.2.2.2.2.2=true
theorem bl_ {r:ad_} (h:cv_ r=0):OkR r:=by
  unfold cv_ at h
  cases hm:manyR r with
  | true=>rw [hm] at h; exact absurd (show (2:Int)=0 from h) (by decide)
  | false =>
  rw [hm] at h
  have h:(fy_ (fun i x=>ke_ (plOk r i x) 22) 0 r.1).getD _=0:=h
  obtain ⟨h1,h⟩:=gc_ h (jo_ (fun i x=>wu_ (by decide)) _ _)
  cases he:(r.1.length:Int)==0 with
  | true=>rw [he] at h; exact absurd (show (22:Int)=0 from h) (by decide)
  | false =>
  rw [he] at h
  have h:(fy_ (fun i x=>ke_ (thOk r i x) 21) 0 r.2.1).getD _=0:=h
  obtain ⟨h2,h⟩:=gc_ h (jo_ (fun i x=>wu_ (by decide)) _ _)
  obtain ⟨h3,h⟩:=gc_ h (jo_ (fun i x=>wt_ (by decide) (by decide)) _ _)
  obtain ⟨h4,h⟩:=gc_ h (jo_ (fun i x=>wt_ (by decide) (by decide)) _ _)
  obtain ⟨h5,h⟩:=gc_ h (jo_ (fun i x=>wt_ (by decide) (by decide)) _ _)
  obtain ⟨h6,h⟩:=gc_ h (jo_ (fun i x=>wt_ (by decide) (by decide)) _ _)
  cases h7:wi r.2.2.2.2.2.2.1 1 4 with
  | false=>rw [h7] at h; exact absurd (show (1:Int)=0 from h) (by decide)
  | true =>
  rw [h7] at h
  cases h8:cOk r.2.1 r.2.2.2.2.2.2.2 with
  | false=>rw [h8] at h; exact absurd (show (25:Int)=0 from h) (by decide)
  | true =>
  refine ⟨hm,fun i x hx=>kd_ (db_ h1 hx),fun e => ?_,fun i x hx=>kd_ (db_ h2 hx),fun i x hx=>nt_ (db_ h3 hx),fun i x hx=>nt_ (db_ h4 hx),fun i x hx=>nt_ (db_ h5 hx),fun i x hx=>nt_ (db_ h6 hx),h7,h8⟩
  rw [e] at he
  cases he
def inR (r:ad_) (p:Int):Bool:=wi p (w64 ((w64 ((-2) - r.2.2.2.2.2.2.1))+1)) (w64 ((r.1.length:Int) - 1))
def lensS (r:ad_) (s:ai_):Bool:=((s.1.length:Int) != (r.2.1.length:Int))||(((s.2.1.length:Int) != (r.2.2.1.length:Int))||((s.2.2.length:Int) != r.2.2.2.2.2.2.1))
def ckS (r:ad_) (s:ai_):Int :=
  cond (lensS r s) 28 ((fy_ (fun i n=>ke_ (nb_ r.2.1 (i:Int) n) 28) 0 s.1).getD ((fy_ (fun _ p=>ke_ (inR r p) 28) 0 s.2.1).getD ((fy_ (fun _ p=>ke_ (qv_ r p) 28) 0 s.2.2).getD 0)))
def mt_ (r:ad_) (s:ai_):Int:=cond (cv_ r != 0) (cv_ r) (ckS r s)
theorem lens_of (r:ad_) (s:ai_):(cond ((s.1.length:Int) != (r.2.1.length:Int))
 (some (true,()))
 (cond ((s.2.1.length:Int) != (r.2.2.1.length:Int))
 (some (true,()))
 (some (((s.2.2.length:Int) != r.2.2.2.2.2.2.1),()))))=some (lensS r s,()):=by
  unfold lensS
  cases (s.1.length:Int) != (r.2.1.length:Int) with
  | true=>rfl
  | false =>
  cases (s.2.1.length:Int) != (r.2.2.1.length:Int) with
  | true=>rfl
  | false=>rfl
theorem lensS_ok {r:ad_} {s:ai_} (h:lensS r s=false):s.1.length=r.2.1.length∧s.2.1.length=r.2.2.1.length∧(s.2.2.length:Int)=r.2.2.2.2.2.2.1:=by
  unfold lensS at h
  simp only [c2_,bne_eq_false_iff_eq] at h
  omega
theorem et_ {r:ad_} (h:SmR r) (s:ai_):bv_ r s=some (mt_ r s,()):=by
  unfold bv_ mt_
  rw [rq_ h,a0_]
  cases hr:cv_ r != 0 with
  | true=>rfl
  | false =>
  have ok:=bl_ (by simpa using hr)
  simp only [a2_]
  refine d8_ (congrArg (fun o=>Option.bind o _) (lens_of r s)) ?_
  rw [a0_]
  unfold ckS
  cases hl:lensS r s with
  | true=>rfl
  | false =>
  obtain ⟨l1,l2,l3⟩:=lensS_ok hl
  have hp:=cc_.1 ok.py
  have m1:Sm s.1.length:=by rw [l1]; exact h.th
  have m2:Sm s.2.1.length:=by rw [l2]; exact h.pr
  have m3:Sm s.2.2.length:=by show s.2.2.length≤1000000000; omega
  simp only [a2_]
  refine bs_ s.1 (fun i n=>ke_ (nb_ r.2.1 (i:Int) n) 28) (fun i y hy => ?_) ?_ (ei_ ?_)
  · have hi:=am_ hy
    simp only [dlt hi,a4_,ah_ hy,a0_,ay_ (show Sm i by omega),os_ h.th]
    unfold ke_
    cases nb_ r.2.1 (i:Int) y <;> rfl
  · simp only [dnl,a2_]
  refine bs_ s.2.1 (fun _ p=>ke_ (inR r p) 28) (fun i y hy => ?_) ?_ (ei_ ?_)
  · have hi:=am_ hy
    simp only [dlt hi,a4_,ah_ hy,a0_,ay_ (show Sm i by omega),dq_]
    unfold ke_ inR
    cases wi y (w64 ((w64 ((-2) - r.2.2.2.2.2.2.1))+1)) (w64 ((r.1.length:Int) - 1)) <;> rfl
  · simp only [dnl,a2_]
  refine bs_ s.2.2 (fun _ p=>ke_ (qv_ r p) 28) (fun i y hy => ?_) ?_ (ei_ ?_)
  · have hi:=am_ hy
    simp only [dlt hi,a4_,ah_ hy,a0_,ay_ (show Sm i by omega),dq_]
    unfold ke_ qv_
    cases wi y 0 (w64 ((r.1.length:Int) - 1)) <;> rfl
  · simp only [dnl,a2_]
  rfl
theorem inR_eq {r:ad_} (h:SmR r) (hp:wi r.2.2.2.2.2.2.1 1 4=true) (p:Int):inR r p=(qv_ r p||(p==-1||wi p (w64 ((w64 ((-2) - r.2.2.2.2.2.2.1))+1)) (-2))):=by
  have hp:=cc_.1 hp
  have hpl:=h.pl
  have e1:w64 ((r.1.length:Int) - 1)=(r.1.length:Int) - 1:=fv_ (by omega) (by omega)
  have e2:w64 ((-2) - r.2.2.2.2.2.2.1)=(-2) - r.2.2.2.2.2.2.1:=fv_ (by omega) (by omega)
  have e3:w64 (((-2) - r.2.2.2.2.2.2.1)+1)=((-2) - r.2.2.2.2.2.2.1)+1:=fv_ (by omega) (by omega)
  unfold inR qv_
  rw [e1,e2,e3,j7_]
  simp only [c5_,cc_,f5_]
  omega
theorem tm_ {r:ad_} (h:SmR r) (s:ai_):em_ r s=some (mt_ r s,()):=by
  unfold em_ mt_
  rw [pu_ h,a0_]
  cases hr:cv_ r != 0 with
  | true=>rfl
  | false =>
  have ok:=bl_ (by simpa using hr)
  simp only [a2_]
  refine d8_ (congrArg (fun o=>Option.bind o _) (lens_of r s)) ?_
  rw [a0_]
  unfold ckS
  cases hl:lensS r s with
  | true=>rfl
  | false =>
  obtain ⟨l1,l2,l3⟩:=lensS_ok hl
  have hp:=cc_.1 ok.py
  have m1:Sm s.1.length:=by rw [l1]; exact h.th
  have m2:Sm s.2.1.length:=by rw [l2]; exact h.pr
  have m3:Sm s.2.2.length:=by show s.2.2.length≤1000000000; omega
  simp only [a2_]
  refine bs_ s.1 (fun i n=>ke_ (nb_ r.2.1 (i:Int) n) 28) (fun i y hy => ?_) ?_ (ei_ ?_)
  · have hi:=am_ hy
    simp only [dlt hi,a4_,ah_ hy,a0_,ay_ (show Sm i by omega),qn_ h.th]
    unfold ke_
    cases nb_ r.2.1 (i:Int) y <;> rfl
  · simp only [dnl,a2_]
  refine bs_ s.2.1 (fun _ p=>ke_ (inR r p) 28) (fun i y hy => ?_) ?_ (ei_ ?_)
  · have hi:=am_ hy
    simp only [dlt hi,a4_,ah_ hy,a0_,ay_ (show Sm i by omega),ho_,ff_]
    rw [inR_eq h ok.py]
    unfold ke_ qv_
    have e:(y != -1) = !(y==-1):=rfl
    rw [e]
    cases wi y 0 (w64 ((r.1.length:Int) - 1)) with
    | true=>rfl
    | false =>
    cases y==-1 with
    | true=>rfl
    | false=>cases wi y (w64 ((w64 ((-2) - r.2.2.2.2.2.2.1))+1)) (-2) <;> rfl
  · simp only [dnl,a2_]
  refine bs_ s.2.2 (fun _ p=>ke_ (qv_ r p) 28) (fun i y hy => ?_) ?_ (ei_ ?_)
  · have hi:=am_ hy
    simp only [dlt hi,a4_,ah_ hy,a0_,ay_ (show Sm i by omega),ho_]
    unfold ke_ qv_
    cases wi y 0 (w64 ((r.1.length:Int) - 1)) <;> rfl
  · simp only [dnl,a2_]
  rfl
end
section
def gi (l:List Int) (i:Int):Int:=(at? l i).getD 0
theorem mm_ {l:List Int} {i x:Int} (h:at? l i=some x):gi l i=x:=by unfold gi; rw [h]; rfl
theorem oc_ {l:List Int} {i:Int} (h0:0≤i) (h1:i<l.length):at? l i=some (gi l i):=by
  obtain ⟨x,hx⟩:=bb_ (l:=l) (i:=i.toNat) (by omega)
  have:at? l i=some x:=by rw [show i=((i.toNat:Nat):Int) by omega]; exact ah_ hx
  rw [this,mm_ this]
def InC (n:Nat) (c:List bd_):Prop:=∀ l ∈ c,0≤l.1∧l.1<n
theorem tf_ {things:List gn_} (hl:Sm things.length) {c:List bd_} (h:cOk things c=true):InC things.length c∧c.length≤8:=by
  unfold cOk at h
  rw [a1_] at h
  refine ⟨fun l hm => ?_,by have:=g8_ h.1; omega⟩
  have h2:=e8_.1 h.2 l hm
  unfold nb_ at h2
  rw [a1_] at h2
  have:=cc_.1 h2.1
  rw [fv_ (by omega) (by omega)] at this
  omega
def dh_ (th:List Int) (c:List bd_):Bool:=c.all fun l=>!((gi th l.1==l.2.1)==l.2.2)
theorem any_not {α:Type} (l:List α) (q:α→Bool):(!(l.any q))=l.all fun x=>!(q x):=by
  induction l with
  | nil=>rfl
  | cons x l ih =>
    rw [p0_,List.all_cons,← ih]
    cases q x <;> rfl
theorem ma_ {t:gx_} {c:List bd_} (hc:Sm c.length) (hi:InC t.2.1.length c):ba_ t c=some (dh_ t.2.1 c,()):=by
  unfold ba_ dh_
  refine d8_ (congrArg (fun o=>Option.bind o _) (lf_ hc (fun l=>(gi t.2.1 l.1==l.2.1)==l.2.2) (fun i y hy => ?_) ?_)) ?_
  · have:=hi y (ax_ hy)
    simp only [dlt (am_ hy),a4_,ah_ hy,oc_ this.1 this.2,a0_]
    cases (gi t.2.1 y.1==y.2.1)==y.2.2 <;> rfl
  · simp only [dnl,a2_]
  · rw [a0_]
    exact congrArg (fun b=>some (b,())) (any_not c _)
theorem iu_ {s:ai_} {c:List bd_} (hc:Sm c.length) (hi:InC s.1.length c):bk_ s c=some (dh_ s.1 c,()):=by
  unfold bk_ dh_
  refine bn_ c (fun i l=>cond ((gi s.1 l.1==l.2.1)==l.2.2) (some (Sum.inr (false,()):Unit⊕(Bool×Unit))) none) (fun i=>((i:Int),())) (r0:=Sum.inl ()) (fun i y hy => ?_) ?_ ?_
  · have:=hi y (ax_ hy)
    have hl:=am_ hy
    simp only [dlt hl,a4_,ah_ hy,oc_ this.1 this.2,a0_,ay_ (show Sm i by omega)]
    cases (gi s.1 y.1==y.2.1)==y.2.2 <;> rfl
  · simp only [dnl,a2_]
  · rw [gz_ (q:=fun l:bd_=>(gi s.1 l.1==l.2.1)==l.2.2),← any_not]
    cases c.any fun l=>(gi s.1 l.1==l.2.1)==l.2.2 <;> rfl
end
end Go.Proofs.YtmdlefagpcmllaaGreatDoor.Rx
namespace Go.Proofs.YtmdlefagpcmllaaGreatDoor.Rx
open Go Pad Rex Go.Proofs
section
set_option maxRecDepth 100000
set_option maxHeartbeats 0
def an_129:An:=.z
noncomputable def cs_129:List (Con Tryz.prog):=[c_131,c_133]
noncomputable def cl_129:List (Cpy Tryz.prog):=[]
noncomputable def cx_129:Cx Tryz.prog:=cxC cs_129 cl_129
noncomputable def hv_ (a0:ad_) (a1:ai_):Option (ai_×Int×Unit) :=
 ((em_ a0 a1).bind fun v0 =>
 (cond (v0.1 != 0)
 (some (([],([],[])),(v0.1,())))
 ((gd_ a0 a1).bind fun v1 =>
 (cond (!v1.2.1)
 (some (([],([],[])),(27,())))
 (some (v1.1,(0,())))))))
theorem x_129:au_ cx_129 an_129 129 [an_,aq_] [aq_,.int]=fun x=>hv_ x.1 x.2.1:=by kernel_rfl
noncomputable def c_129:Con Tryz.prog:=aw_ _ _ 129 [an_,aq_] [aq_,.int] _ x_129
def an_177:An:=(.p .z (.p (.q [] .z .z) .z))
noncomputable def cs_177:List (Con Tryz.prog):=[c_213,c_214]
noncomputable def cl_177:List (Cpy Tryz.prog):=[]
noncomputable def cx_177:Cx Tryz.prog:=cxC cs_177 cl_177
noncomputable def il_ (a0:ac_) (a1:Int) (a2:(List Int)):Option (Int×Unit) :=
 ((at? a0.2.1 a1).bind fun v0 =>
 ((ix_ a0 a2).bind fun v1 =>
 ((jd_ v0 v1.1).bind fun v2 =>
 (some (v2.1,())))))
theorem x_177:au_ cx_177 an_177 177 [ao_,.int,(.list .int)] [.int]=fun x=>il_ x.1 x.2.1 x.2.2.1:=by kernel_rfl
noncomputable def c_177:Con Tryz.prog:=aw_ _ _ 177 [ao_,.int,(.list .int)] [.int] _ x_177
noncomputable abbrev pm_:Gb:=⟨Gb.ev,fun c p=>cond (Nat.beq c 922781712&&eqS p "room.go:184") true (cond (Nat.beq c 427825153&&eqS p "room.go:183") true (cond (Nat.beq c 130027520&&eqS p "room.go:183") true (Gb.fz c p))),Gb.gd,Gb.gl,fun c=>cond (Nat.beq c 922781712) (some es_) (cond (Nat.beq c 427825153) (some aq_) (cond (Nat.beq c 130027520) (some an_) (none))),Gb.rw⟩
def an_66:An:=.z
def at_66:FuncId→An:=fun k=>.z
noncomputable def cs_66:List (@Con pm_ Tryz.prog _):=[@cvG instGb pm_ Tryz.prog _ (fun _=>rfl) (fun _=>rfl) c_108,@cvG instGb pm_ Tryz.prog _ (fun _=>rfl) (fun _=>rfl) c_110,@cpCon pm_ Tryz.prog _ xa_]
noncomputable def cx_66:@Cx pm_ Tryz.prog _:=@cxI pm_ Tryz.prog _ at_66 (fun k=>Nat.beq k 108||Nat.beq k 110||Nat.beq k 127||false) (@cxC pm_ Tryz.prog _ cs_66 []) 2
noncomputable def jy_ (a0:ad_) (a1:ai_):Option (Bool×Int×Unit) :=
 ((bv_ a0 a1).bind fun v0 =>
 (cond (v0.1 != 0)
 (some (false,(v0.1,())))
 ((((push? (α:=Int) [] a1.1).bind fun v1 =>
 (some (v1,())))).bind fun v2 =>
 ((((push? (α:=Int) [] a1.2.1).bind fun v3 =>
 (some (v3,())))).bind fun v4 =>
 ((((push? (α:=Int) [] a1.2.2).bind fun v5 =>
 (some (v5,())))).bind fun v6 =>
 ((ba_ (a0,(v2.1,(v4.1,v6.1))) a0.2.2.2.2.2.2.2).bind fun v7 =>
 (some (v7.1,(0,())))))))))
theorem x_66:@au_ pm_ Tryz.prog _ cx_66 an_66 66 [an_,aq_] [.bool,.int]=fun x=>jy_ x.1 x.2.1:=by kernel_rfl
noncomputable def c_66:Con Tryz.prog:=@cvG pm_ instGb Tryz.prog _ (fun _=>rfl) (fun _=>rfl) <| @aw_ pm_ Tryz.prog _ _ _ 66 [an_,aq_] [.bool,.int] _ x_66
def an_121:An:=(.p .z (.p .z (.p (.j0 [.v 49 .bool] .z .z) (.p .z (.p (.q [] .z .z) .z)))))
def at_121:FuncId→An:=fun k=>cond (Nat.beq k 166) (.p .z (.j0 [.v 4 .bool] .z .z)) (cond (Nat.beq k 207) (.p .z (.p (.p .z (.ls [.v 8 .int] [] [] 0 .z)) .z)) (.z))
noncomputable def cs_121:List (Con Tryz.prog):=[c_123,c_168,c_169,c_170]
noncomputable def cl_121:List (Cpy Tryz.prog):=[]
noncomputable def cx_121:Cx Tryz.prog:=cxI at_121 (fun k=>Nat.beq k 123||Nat.beq k 168||Nat.beq k 169||Nat.beq k 170||false) (cxC cs_121 cl_121) 4
noncomputable def la_ (a0:ac_) (a1:Int) (a2:cn_):Option (Bool×Unit) :=
 ((sub? a0.2.2.2.1 0 a1).bind fun v0 =>
 ((((af_ (ρ:=(Unit⊕(Bool×Unit))) (fun (v1:(Int×Unit)) =>
 (cond (decide (v1.1<(v0.length:Int)))
 ((at? v0 v1.1).bind fun v2 =>
 (cond (v2.1==a2.1)
 (some (Sum.inr (Sum.inr ((decide (0≤v1.1)),()))))
 (some (Sum.inl ((w64 (v1.1+1)),())))))
 (some (Sum.inr (Sum.inl ()))))) (0,())).bind fun v3 =>
 (ca_ v3 (fun v4=>(some ((decide (0≤(-1))),())))
 (fun v5=>(some v5))))).bind fun v6 =>
 ((((mp_ a2.1).bind fun v7 =>
 (cond (!v7.1)
 (some (true,()))
 (cond (decide (12<(a2.1.length:Int)))
 (some (true,()))
 (cond v6.1
 (some (true,()))
 ((bw_ a2.2.1 0 (w64 ((a0.1.1.length:Int) - 1))).bind fun v8 =>
 (cond (!v8.1)
 (some (true,()))
 ((bw_ a2.2.2.1 (-1) (w64 ((a0.2.1.length:Int) - 1))).bind fun v9 =>
 (some ((!v9.1),())))))))))).bind fun v10 =>
 (cond v10.1
 (some (false,()))
 (cond (decide (a2.2.2.1<0))
 ((ka_ a2.2.2.2.2).bind fun v11 =>
 (some (v11.1,())))
 ((at? a0.2.1 a2.2.2.1).bind fun v12 =>
 ((at? a0.2.2.1 a2.2.2.1).bind fun v13 =>
 ((jf_ v12 a2.2.2.2.2 v13).bind fun v14 =>
 (cond (v14.2.1==0)
 (some (v14.1,()))
 (some (false,())))))))))))
theorem x_121:au_ cx_121 an_121 121 [ao_,.int,om_] [.bool]=fun x=>la_ x.1 x.2.1 x.2.2.1:=by kernel_rfl
noncomputable def c_121:Con Tryz.prog:=aw_ _ _ 121 [ao_,.int,om_] [.bool] _ x_121
def an_125:An:=.z
def at_125:FuncId→An:=fun k=>.z
noncomputable def cs_125:List (Con Tryz.prog):=[c_108,c_110,c_162]
noncomputable def cl_125:List (Cpy Tryz.prog):=[xa_]
noncomputable def cx_125:Cx Tryz.prog:=cxI at_125 (fun k=>Nat.beq k 108||Nat.beq k 110||Nat.beq k 127||Nat.beq k 162||false) (cxC cs_125 cl_125) 2
noncomputable def ez_ (a0:ad_) (a1:ai_) (a2:(List bd_)):Option (Bool×Int×Unit) :=
 ((bv_ a0 a1).bind fun v0 =>
 (cond (v0.1 != 0)
 (some (false,(v0.1,())))
 ((dn_ a0 a2).bind fun v1 =>
 (cond (!v1.1)
 (some (false,(25,())))
 ((push? (α:=Int) [] a1.1).bind fun v2 =>
 ((push? (α:=Int) [] a1.2.1).bind fun v3 =>
 ((push? (α:=Int) [] a1.2.2).bind fun v4 =>
 ((ba_ (a0,(v2,(v3,v4))) a2).bind fun v5 =>
 (some (v5.1,(0,())))))))))))
theorem x_125:au_ cx_125 an_125 125 [an_,aq_,(.list bx_)] [.bool,.int]=fun x=>ez_ x.1 x.2.1 x.2.2.1:=by kernel_rfl
noncomputable def c_125:Con Tryz.prog:=aw_ _ _ 125 [an_,aq_,(.list bx_)] [.bool,.int] _ x_125
def an_113:An:=(.p .z (.p .z (.p .z (.p (.p .z (.rf [4,7] .z .z)) .z))))
def at_113:FuncId→An:=fun k=>cond (Nat.beq k 184) (.p .z (.lp [.v 9 .int] [] [.y (.s 0),.b (.y (.s 0) 4) [.row ar_ 71]] 0 (.p .z (.p .z (.p (.p .z (.p .z (.lp [.v 26 .int] [] [.y (.s 0),.b (.y (.s 0) 4) [.row ar_ 71]] 2 (.p .z (.p .z (.p (.p .z (.p .z (.lp [.v 32 .int] [] [.y (.s 0),.b (.y (.s 0) 4) [.row ar_ 71]] 4 (.p .z (.p .z (.j0 [.y (.s 0),.b (.y (.s 0) 4) [.row ar_ 71]] .z .z)))))) .z)))))) .z))))) (.z)
noncomputable def cs_113:List (Con Tryz.prog):=[c_108,c_152]
noncomputable def cl_113:List (Cpy Tryz.prog):=[xa_]
noncomputable def cx_113:Cx Tryz.prog:=cxI at_113 (fun k=>Nat.beq k 108||Nat.beq k 127||Nat.beq k 152||false) (cxC cs_113 cl_113) 6
noncomputable def ey_ (a0:ad_) (a1:ai_):Option ((List ag_)×Int×Unit) :=
 ((bv_ a0 a1).bind fun v0 =>
 (cond (v0.1 != 0)
 (some ([],(v0.1,())))
 ((push? (α:=Int) [] a1.1).bind fun v1 =>
 ((push? (α:=Int) [] a1.2.1).bind fun v2 =>
 ((push? (α:=Int) [] a1.2.2).bind fun v3 =>
 ((af_ (ρ:=(Unit×(((List ag_)×Unit)×Unit))) (fun (v4:(Int×(Unit×(((List ag_)×Unit)×Unit)))) =>
 (cond (decide (v4.1<a0.2.2.2.2.2.2.1))
 ((af_ (ρ:=(Unit×(((List ag_)×Unit)×Unit))) (fun (v5:(Int×(Unit×(((List ag_)×Unit)×Unit)))) =>
 (cond (decide (v5.1<(([0,(a0.2.2.2.1.length:Int),(a0.2.2.1.length:Int),(a0.2.2.1.length:Int),(a0.2.2.2.2.1.length:Int)]).length:Int)))
 ((at? [0,(a0.2.2.2.1.length:Int),(a0.2.2.1.length:Int),(a0.2.2.1.length:Int),(a0.2.2.2.2.1.length:Int)] v5.1).bind fun v6 =>
 ((at? [0,(a0.2.2.2.1.length:Int),(a0.2.2.1.length:Int),(a0.2.2.1.length:Int),(a0.2.2.2.2.1.length:Int)] v5.1).bind fun v7 =>
 ((af_ (ρ:=(Unit×(((List ag_)×Unit)×Unit))) (fun (v8:(Int×(Unit×(((List ag_)×Unit)×Unit)))) =>
 (cond (decide (v8.1<v7))
 ((((cu_ (a0,(v1,(v2,v3))) (v4.1,(v5.1,v8.1))).bind fun v9 =>
 (cond v9.1
 ((push? (α:=ag_) v8.2.2.1.1 [(v4.1,(v5.1,v8.1))]).bind fun v10 =>
 (some ((),((v10,()),()))))
 (some ((),((v8.2.2.1.1,()),())))))).bind fun v11 =>
 (some (Sum.inl ((w64 (v8.1+1)),((),((v11.2.1.1,()),()))))))
 (some (Sum.inr ((),((v8.2.2.1.1,()),())))))) (0,((),((v5.2.2.1.1,()),())))).bind fun v12 =>
 (some (Sum.inl ((w64 (v5.1+1)),((),((v12.2.1.1,()),()))))))))
 (some (Sum.inr ((),((v5.2.2.1.1,()),())))))) (0,((),((v4.2.2.1.1,()),())))).bind fun v13 =>
 (some (Sum.inl ((w64 (v4.1+1)),((),((v13.2.1.1,()),()))))))
 (some (Sum.inr ((),((v4.2.2.1.1,()),())))))) (0,((),(([],()),())))).bind fun v14 =>
 (some (v14.2.1.1,(0,())))))))))
theorem x_113:au_ cx_113 an_113 113 [an_,aq_] [(.list ar_),.int]=fun x=>ey_ x.1 x.2.1:=by kernel_rfl
noncomputable def c_113:Con Tryz.prog:=aw_ _ _ 113 [an_,aq_] [(.list ar_),.int] _ x_113
def an_154:An:=(.p .z (.p .z (.p .z (.p .z (.j0 [.o (.c (.s 9) 8) .int,.o (.c (.s 9) 9) .int,.o (.c (.s 9) 10) .int] .z .z)))))
def at_154:FuncId→An:=fun k=>cond (Nat.beq k 124) (.p .z (.p (.j0 [.v 6 .bool,.o (.c (.s 0) 8) .int] .z .z) .z)) (cond (Nat.beq k 172) (.p .z (.p (.p .z (.ls [.v 4 .int] [] [.o (.c (.s 0) 8) .int] 0 (.p .z (.p .z (.p (.j0 [.v 3 .int] .z .z) .z))))) .z)) (cond (Nat.beq k 191) (.p .z (.p .z (.p .z (.p .z (.p .z (.p .z (.p .z (.p .z (.p .z (.p .z (.p (.p .z (.p (.p .z (.lp [.v 96 .int] [] [.o (.c (.s 0) 9) .int] 1 .z)) (.p (.p .z (.lp [.v 111 .int] [] [.o (.c (.s 0) 9) .int] 3 .z)) (.p .z (.lp [.v 127 .int] [] [.o (.c (.s 0) 8) .int] 5 .z))))) .z))))))))))) (cond (Nat.beq k 210) (.p .z (.p (.p .z (.ls [.v 8 .int] [] [] 0 .z)) .z)) (cond (Nat.beq k 211) (.p .z (.j0 [.v 3 .bool] .z .z)) (.z)))))
noncomputable def cs_154:List (Con Tryz.prog):=[c_108,c_110,c_152]
noncomputable def cl_154:List (Cpy Tryz.prog):=[xa_]
noncomputable def cx_154:Cx Tryz.prog:=cxI at_154 (fun k=>Nat.beq k 108||Nat.beq k 110||Nat.beq k 127||Nat.beq k 152||false) (cxC cs_154 cl_154) 7
noncomputable def ex_ (a0:ad_) (a1:ai_) (a2:ag_):Option (ai_×Int×Unit) :=
 ((bv_ a0 a1).bind fun v0 =>
 (cond (v0.1 != 0)
 (some (([],([],[])),(v0.1,())))
 ((push? (α:=Int) [] a1.1).bind fun v1 =>
 ((push? (α:=Int) [] a1.2.1).bind fun v2 =>
 ((push? (α:=Int) [] a1.2.2).bind fun v3 =>
 ((cu_ (a0,(v1,(v2,v3))) a2).bind fun v4 =>
 (cond (!v4.1)
 (some (([],([],[])),(29,())))
 (((cond (a2.2.1==1)
 ((at? a0.2.2.2.1 a2.2.2).bind fun v5 =>
 ((at? v3 a2.1).bind fun v6 =>
 ((at? v3 a2.1).bind fun v7 =>
 ((at? v3 a2.1).bind fun v8 =>
 ((at? v3 a2.1).bind fun v9 =>
 (some (v1,(v2,((v3.set a2.1.toNat (w64 ((w64 (v5.1+v5.2.1)) - v7))),())))))))))
 (cond (a2.2.1==2)
 ((at? v2 a2.2.2).bind fun v10 =>
 ((at? v2 a2.2.2).bind fun v11 =>
 (some (v1,((v2.set a2.2.2.toNat (w64 ((-2) - a2.1))),(v3,()))))))
 (cond (a2.2.1==3)
 ((at? v3 a2.1).bind fun v12 =>
 ((at? v3 a2.1).bind fun v13 =>
 ((at? v2 a2.2.2).bind fun v14 =>
 ((at? v2 a2.2.2).bind fun v15 =>
 (some (v1,((v2.set a2.2.2.toNat v13),(v3,()))))))))
 (cond (a2.2.1==4)
 ((at? a0.2.2.2.2.1 a2.2.2).bind fun v16 =>
 ((af_ (ρ:=((List Int)×Unit)) (fun (v17:(Int×((List Int)×Unit))) =>
 (cond (decide (v17.1<(v16.2.2.2.2.2.2.1.length:Int)))
 ((at? v16.2.2.2.2.2.2.1 v17.1).bind fun v18 =>
 ((at? v17.2.1 v18).bind fun v19 =>
 ((at? v17.2.1 v18).bind fun v20 =>
 (some (Sum.inl ((w64 (v17.1+1)),((v17.2.1.set v18.toNat (-1)),())))))))
 (some (Sum.inr (v17.2.1,()))))) (0,(v2,()))).bind fun v21 =>
 ((af_ (ρ:=((List Int)×Unit)) (fun (v22:(Int×((List Int)×Unit))) =>
 (cond (decide (v22.1<(v16.2.2.2.2.2.2.2.length:Int)))
 ((at? v16.2.2.2.2.2.2.2 v22.1).bind fun v23 =>
 ((at? v22.2.1 v23).bind fun v24 =>
 ((at? v22.2.1 v23).bind fun v25 =>
 (some (Sum.inl ((w64 (v22.1+1)),((v22.2.1.set v23.toNat (w64 ((-2) - a2.1))),())))))))
 (some (Sum.inr (v22.2.1,()))))) (0,(v21.1,()))).bind fun v26 =>
 ((af_ (ρ:=((List Int)×Unit)) (fun (v27:(Int×((List Int)×Unit))) =>
 (cond (decide (v27.1<(v16.2.2.2.2.2.1.length:Int)))
 ((at? v16.2.2.2.2.2.1 v27.1).bind fun v28 =>
 ((at? v27.2.1 v28.1).bind fun v29 =>
 ((at? v27.2.1 v28.1).bind fun v30 =>
 (some (Sum.inl ((w64 (v27.1+1)),((v27.2.1.set v28.1.toNat v28.2),())))))))
 (some (Sum.inr (v27.2.1,()))))) (0,(v1,()))).bind fun v31 =>
 (some (v31.1,(v26.1,(v3,()))))))))
 (some (v1,(v2,(v3,()))))))))).bind fun v32 =>
 ((((af_ (ρ:=(((List Int)×Unit)⊕(Bool×((List Int)×Unit)))) (fun (v33:(Int×((List Int)×Unit))) =>
 (cond (decide (v33.1<101))
 ((((af_ (ρ:=(Unit⊕(Int×Unit))) (fun (v34:(Int×Unit)) =>
 (cond (decide (v34.1<(a0.2.2.2.2.2.1.length:Int)))
 ((at? a0.2.2.2.2.2.1 v34.1).bind fun v35 =>
 ((((at? v33.2.1 v35.2.1).bind fun v36 =>
 ((at? v33.2.1 v35.2.1).bind fun v37 =>
 (cond (v37 != v35.2.2)
 ((ba_ (a0,(v33.2.1,(v32.2.1,v32.2.2.1))) v35.1).bind fun v38 =>
 (some (v38.1,())))
 (some (false,())))))).bind fun v39 =>
 (cond v39.1
 (some (Sum.inr (Sum.inr (v34.1,()))))
 (some (Sum.inl ((w64 (v34.1+1)),()))))))
 (some (Sum.inr (Sum.inl ()))))) (0,())).bind fun v40 =>
 (ca_ v40 (fun v41=>(some ((-1),())))
 (fun v42=>(some v42))))).bind fun v43 =>
 (cond (decide (v43.1<0))
 (some (Sum.inr (Sum.inr ((!true),(v33.2.1,())))))
 ((at? a0.2.2.2.2.2.1 v43.1).bind fun v44 =>
 ((at? a0.2.2.2.2.2.1 v43.1).bind fun v45 =>
 ((at? v33.2.1 v44.2.1).bind fun v46 =>
 ((at? v33.2.1 v44.2.1).bind fun v47 =>
 (some (Sum.inl ((w64 (v33.1+1)),((v33.2.1.set v44.2.1.toNat v45.2.2),()))))))))))
 (some (Sum.inr (Sum.inl (v33.2.1,())))))) (0,(v32.1,()))).bind fun v48 =>
 (ca_ v48 (fun v49=>(some ((!false),(v49.1,()))))
 (fun v50=>(some v50))))).bind fun v51 =>
 (cond v51.1
 (some (([],([],[])),(27,())))
 (some ((v51.2.1,(v32.2.1,v32.2.2.1)),(0,())))))))))))))
theorem x_154:au_ cx_154 an_154 154 [an_,aq_,ar_] [aq_,.int]=fun x=>ex_ x.1 x.2.1 x.2.2.1:=by kernel_rfl
noncomputable def c_154:Con Tryz.prog:=aw_ _ _ 154 [an_,aq_,ar_] [aq_,.int] _ x_154
end
section
set_option maxRecDepth 100000
set_option maxHeartbeats 0
def an_87:An:=(.p .z (.p .z (.p .z (.p .z (.p (.p .z (.lp [.v 6 .int] [] [.b (.s 5) [.row .int 3,.keep,.keep]] 0 .z)) (.p (.p .z (.lp [.v 7 .int] [] [.b (.s 5) [.keep,.row .int 3,.keep]] 2 .z)) .z))))))
noncomputable def cs_87:List (Con Tryz.prog):=[c_55,c_129]
noncomputable def cl_87:List (Cpy Tryz.prog):=[]
noncomputable def cx_87:Cx Tryz.prog:=cxC cs_87 cl_87
noncomputable def jb_ (a0:ad_):Option (ai_×Int×Unit) :=
 ((fl_ a0).bind fun v0 =>
 (cond (v0.1 != 0)
 (some (([],([],[])),(v0.1,())))
 ((mk? (α:=Int) a0.2.2.2.2.2.2.1 0).bind fun v1 =>
 ((af_ (ρ:=(((List Int)×Unit)×Unit)) (fun (v2:(Int×(((List Int)×Unit)×Unit))) =>
 (cond (decide (v2.1<(a0.2.1.length:Int)))
 ((at? a0.2.1 v2.1).bind fun v3 =>
 ((push? (α:=Int) v2.2.1.1 [v3.2.2.2]).bind fun v4 =>
 (some (Sum.inl ((w64 (v2.1+1)),((v4,()),()))))))
 (some (Sum.inr ((v2.2.1.1,()),()))))) (0,(([],()),()))).bind fun v5 =>
 ((af_ (ρ:=(((List Int)×Unit)×Unit)) (fun (v6:(Int×(((List Int)×Unit)×Unit))) =>
 (cond (decide (v6.1<(a0.2.2.1.length:Int)))
 ((at? a0.2.2.1 v6.1).bind fun v7 =>
 ((push? (α:=Int) v6.2.1.1 [v7.2.1]).bind fun v8 =>
 (some (Sum.inl ((w64 (v6.1+1)),((v8,()),()))))))
 (some (Sum.inr ((v6.2.1.1,()),()))))) (0,(([],()),()))).bind fun v9 =>
 ((hv_ a0 (v5.1.1,(v9.1.1,v1))).bind fun v10 =>
 (some (v10.1,(v10.2.1,())))))))))
theorem x_87:au_ cx_87 an_87 87 [an_] [aq_,.int]=fun x=>jb_ x.1:=by kernel_rfl
noncomputable def c_87:Con Tryz.prog:=aw_ _ _ 87 [an_] [aq_,.int] _ x_87
def an_141:An:=(.p .z (.p (.q [] .z .z) .z))
noncomputable def cs_141:List (Con Tryz.prog):=[c_177,c_178]
noncomputable def cl_141:List (Cpy Tryz.prog):=[]
noncomputable def cx_141:Cx Tryz.prog:=cxC cs_141 cl_141
noncomputable def kt_ (a0:ac_) (a1:aa_) (a2:Int):Option (Bool×Unit) :=
 ((hb_ a0 a1 a2).bind fun v0 =>
 ((il_ a0 a2 v0.1).bind fun v1 =>
 (some ((decide (v1.1≤a0.2.2.2.2)),()))))
theorem x_141:au_ cx_141 an_141 141 [ao_,aj_,.int] [.bool]=fun x=>kt_ x.1 x.2.1 x.2.2.1:=by kernel_rfl
noncomputable def c_141:Con Tryz.prog:=aw_ _ _ 141 [ao_,aj_,.int] [.bool] _ x_141
def an_81:An:=(.p .z (.p .z (.p (.j0 [.v 28 .bool] .z .z) (.p (.p .z (.ls [.v 32 .int] [] [] 0 .z)) (.p .z (.p (.p .z (.ls [.v 52 .int] [] [] 2 .z)) (.p (.p .z (.ls [.v 70 .int] [] [] 4 .z)) (.p (.p .z (.ls [.v 84 .int] [] [] 6 .z)) .z))))))))
noncomputable def cs_81:List (Con Tryz.prog):=[c_118,c_119,c_120,c_121,c_122,c_123]
noncomputable def cl_81:List (Cpy Tryz.prog):=[]
noncomputable def cx_81:Cx Tryz.prog:=cxC cs_81 cl_81
noncomputable def gt_ (a0:ac_):Option (Int×Unit) :=
 ((fa_ a0.1).bind fun v0 =>
 (cond (v0.1 != 0)
 (some (v0.1,()))
 (((cond (decide (8<(a0.2.1.length:Int)))
 (some (true,()))
 (some ((decide (16<(a0.2.2.2.1.length:Int))),())))).bind fun v1 =>
 (cond v1.1
 (some (2,()))
 ((af_ (ρ:=(Unit⊕(Int×Unit))) (fun (v2:(Int×Unit)) =>
 (cond (decide (v2.1<(a0.2.1.length:Int)))
 ((at? a0.2.1 v2.1).bind fun v3 =>
 ((ed_ v3).bind fun v4 =>
 (cond (v4.1 != 0)
 (some (Sum.inr (Sum.inr (v4.1,()))))
 (some (Sum.inl ((w64 (v2.1+1)),()))))))
 (some (Sum.inr (Sum.inl ()))))) (0,())).bind fun v5 =>
 (ca_ v5 (fun v6=>(cond ((a0.2.2.1.length:Int) != (a0.2.1.length:Int))
 (some (12,()))
 ((af_ (ρ:=(Unit⊕(Int×Unit))) (fun (v8:(Int×Unit)) =>
 (cond (decide (v8.1<(a0.2.1.length:Int)))
 ((at? a0.2.1 v8.1).bind fun v9 =>
 ((at? a0.2.2.1 v8.1).bind fun v10 =>
 ((dw_ v9 v10).bind fun v11 =>
 (cond (v11.1 != 0)
 (some (Sum.inr (Sum.inr (12,()))))
 (some (Sum.inl ((w64 (v8.1+1)),())))))))
 (some (Sum.inr (Sum.inl ()))))) (0,())).bind fun v12 =>
 (ca_ v12 (fun v13=>((af_ (ρ:=(Unit⊕(Int×Unit))) (fun (v15:(Int×Unit)) =>
 (cond (decide (v15.1<(a0.1.2.2.2.2.1.length:Int)))
 ((at? a0.1.2.2.2.2.1 v15.1).bind fun v16 =>
 (cond (decide ((a0.2.1.length:Int)≤v16.2.2.1))
 (some (Sum.inr (Sum.inr (26,()))))
 (some (Sum.inl ((w64 (v15.1+1)),())))))
 (some (Sum.inr (Sum.inl ()))))) (0,())).bind fun v17 =>
 (ca_ v17 (fun v18=>((af_ (ρ:=(Unit⊕(Int×Unit))) (fun (v20:(Int×Unit)) =>
 (cond (decide (v20.1<(a0.2.2.2.1.length:Int)))
 ((at? a0.2.2.2.1 v20.1).bind fun v21 =>
 ((la_ a0 v20.1 v21).bind fun v22 =>
 (cond (!v22.1)
 (some (Sum.inr (Sum.inr (40,()))))
 ((kz_ a0.1 v21.2.2.2.1).bind fun v23 =>
 (cond (!v23.1)
 (some (Sum.inr (Sum.inr (25,()))))
 (some (Sum.inl ((w64 (v20.1+1)),()))))))))
 (some (Sum.inr (Sum.inl ()))))) (0,())).bind fun v24 =>
 (ca_ v24 (fun v25=>((bw_ a0.2.2.2.2 1 100).bind fun v27 =>
 (cond (!v27.1)
 (some (1,()))
 (some (0,())))))
 (fun v26=>(some v26)))))
 (fun v19=>(some v19)))))
 (fun v14=>(some v14))))))
 (fun v7=>(some v7))))))))
theorem x_81:au_ cx_81 an_81 81 [ao_] [.int]=fun x=>gt_ x.1:=by kernel_rfl
noncomputable def c_81:Con Tryz.prog:=aw_ _ _ 81 [ao_] [.int] _ x_81
end
section
set_option maxRecDepth 100000
set_option maxHeartbeats 0
def an_49:An:=.z
noncomputable def cs_49:List (Con Tryz.prog):=[c_22,c_87,c_88]
noncomputable def cl_49:List (Cpy Tryz.prog):=[]
noncomputable def cx_49:Cx Tryz.prog:=cxC cs_49 cl_49
noncomputable def iz_ (a0:ac_):Option (aa_×Int×Unit) :=
 ((hc_ a0).bind fun v0 =>
 (cond (v0.1 != 0)
 (some ((([],([],[])),[]),(v0.1,())))
 ((jb_ a0.1).bind fun v1 =>
 (cond (v1.2.1 != 0)
 (some ((([],([],[])),[]),(v1.2.1,())))
 ((mk? (α:=Bool) (a0.2.2.2.1.length:Int) false).bind fun v2 =>
 ((ic_ a0 (v1.1,v2)).bind fun v3 =>
 (some (v3.1,(0,())))))))))
theorem x_49:au_ cx_49 an_49 49 [ao_] [aj_,.int]=fun x=>iz_ x.1:=by kernel_rfl
noncomputable def c_49:Con Tryz.prog:=aw_ _ _ 49 [ao_] [aj_,.int] _ x_49
def an_106:An:=(.p .z (.p .z (.p .z (.p (.q [] .z .z) .z))))
noncomputable def cs_106:List (Con Tryz.prog):=[c_91,c_141]
noncomputable def cl_106:List (Cpy Tryz.prog):=[]
noncomputable def cx_106:Cx Tryz.prog:=cxC cs_106 cl_106
noncomputable def gh_ (a0:ac_) (a1:aa_) (a2:ag_):Option (Bool×Unit) :=
 ((ge_ a0.1 a1.1 a2).bind fun v0 =>
 (cond (!v0.2.1)
 (some (false,()))
 (cond (a2.2.1 != 4)
 (some (true,()))
 ((at? a0.1.2.2.2.2.1 a2.2.2).bind fun v1 =>
 (cond (decide (v1.2.2.1<0))
 (some (true,()))
 ((at? a0.1.2.2.2.2.1 a2.2.2).bind fun v2 =>
 ((kt_ a0 a1 v2.2.2.1).bind fun v3 =>
 (some (v3.1,())))))))))
theorem x_106:au_ cx_106 an_106 106 [ao_,aj_,ar_] [.bool]=fun x=>gh_ x.1 x.2.1 x.2.2.1:=by kernel_rfl
noncomputable def c_106:Con Tryz.prog:=aw_ _ _ 106 [ao_,aj_,ar_] [.bool] _ x_106
def an_46:An:=.z
def at_46:FuncId→An:=fun k=>cond (Nat.beq k 83) (.p .z (.lp [.v 12 .int] [] [.o (.c (.s 0) 15) .bool,.m (.c (.s 0) 16) .int .int] 0 (.p .z (.p .z (.j0 [.o (.c (.s 0) 15) .bool,.m (.c (.s 0) 16) .int .int] (.p .z (.p .z (.j0 [.v 55 .bool] .z .z))) .z))))) (.z)
noncomputable def cs_46:List (Con Tryz.prog):=[c_81,c_82,c_125,c_126]
noncomputable def cl_46:List (Cpy Tryz.prog):=[xa_,cp_128]
noncomputable def cx_46:Cx Tryz.prog:=cxI at_46 (fun k=>Nat.beq k 81||Nat.beq k 82||Nat.beq k 125||Nat.beq k 126||Nat.beq k 127||Nat.beq k 128||false) (cxC cs_46 cl_46) 3
noncomputable def lb_ (a0:ac_):Option (aa_×Int×Unit) :=
 ((gt_ a0).bind fun v0 =>
 (cond (v0.1 != 0)
 (some ((([],([],[])),[]),(v0.1,())))
 ((ib_ a0.1).bind fun v1 =>
 (cond (v1.2.1 != 0)
 (some ((([],([],[])),[]),(v1.2.1,())))
 ((mk? (α:=Bool) (a0.2.2.2.1.length:Int) false).bind fun v2 =>
 ((af_ (ρ:=((List Bool)×((List ab_)×Unit))) (fun (v3:(Int×((List Bool)×((List ab_)×Unit)))) =>
 (cond (decide (v3.1<(a0.2.2.2.1.length:Int)))
 ((((at? a0.2.2.2.1 v3.1).bind fun v4 =>
 ((ez_ a0.1 v1.1 v4.2.2.2.1).bind fun v5 =>
 (((cond v5.1
 ((bh_ v1.1.2.2 v4.2.1).bind fun v6 =>
 (cond v6.1
 ((at? v3.2.1 v3.1).bind fun v7 =>
 ((at? v3.2.1 v3.1).bind fun v8 =>
 (some ((!v8),()))))
 (some (false,()))))
 (some (false,())))).bind fun v9 =>
 (cond v9.1
 ((at? v3.2.1 v3.1).bind fun v10 =>
 ((at? v3.2.1 v3.1).bind fun v11 =>
 (some ((v3.2.1.set v3.1.toNat true),((mdel v3.2.2.1 v4.2.2.1),())))))
 (some (v3.2.1,(v3.2.2.1,())))))))).bind fun v12 =>
 (some (Sum.inl ((w64 (v3.1+1)),(v12.1,(v12.2.1,()))))))
 (some (Sum.inr (v3.2.1,(v3.2.2.1,())))))) (0,(v2,([],())))).bind fun v13 =>
 ((push? (α:=Int) [] v1.1.1).bind fun v14 =>
 ((push? (α:=Int) [] v1.1.2.1).bind fun v15 =>
 ((push? (α:=Int) [] v1.1.2.2).bind fun v16 =>
 ((push? (α:=Bool) [] v13.1).bind fun v17 =>
 (some (((v14,(v15,v16)),v17),(0,())))))))))))))
theorem x_46:au_ cx_46 an_46 46 [ao_] [aj_,.int]=fun x=>lb_ x.1:=by kernel_rfl
noncomputable def c_46:Con Tryz.prog:=aw_ _ _ 46 [ao_] [aj_,.int] _ x_46
def an_150:An:=.z
noncomputable def cs_150:List (Con Tryz.prog):=[c_81,c_108]
noncomputable def cl_150:List (Cpy Tryz.prog):=[]
noncomputable def cx_150:Cx Tryz.prog:=cxC cs_150 cl_150
noncomputable def dz_ (a0:ac_) (a1:aa_):Option (Int×Unit) :=
 ((gt_ a0).bind fun v0 =>
 (cond (v0.1 != 0)
 (some (v0.1,()))
 ((bv_ a0.1 a1.1).bind fun v1 =>
 (cond (v1.1 != 0)
 (some (v1.1,()))
 (cond ((a1.2.length:Int) != (a0.2.2.2.1.length:Int))
 (some (28,()))
 (some (0,())))))))
theorem x_150:au_ cx_150 an_150 150 [ao_,aj_] [.int]=fun x=>dz_ x.1 x.2.1:=by kernel_rfl
noncomputable def c_150:Con Tryz.prog:=aw_ _ _ 150 [ao_,aj_] [.int] _ x_150
end
section
set_option maxRecDepth 100000
set_option maxHeartbeats 0
def an_62:An:=(.p .z (.p .z (.p .z (.p (.p .z (.lp [.r 5 ar_ 71,.v 7 .int] [.r 5 ar_ 71] [] 0 (.p .z (.j0 [.r 5 ar_ 71] (.p (.q [] .z .z) .z) .z)))) .z))))
noncomputable def cs_62:List (Con Tryz.prog):=[c_105,c_106]
noncomputable def cl_62:List (Cpy Tryz.prog):=[]
noncomputable def cx_62:Cx Tryz.prog:=cxC cs_62 cl_62
noncomputable def iy_ (a0:ac_) (a1:aa_):Option ((List ag_)×Unit) :=
 ((el_ a0.1 a1.1).bind fun v0 =>
 ((af_ (ρ:=((List ag_)×Unit)) (fun (v1:((List ag_)×(Int×Unit))) =>
 (cond (decide (v1.2.1<(v0.1.length:Int)))
 ((((at? v0.1 v1.2.1).bind fun v2 =>
 ((gh_ a0 a1 v2).bind fun v3 =>
 (cond v3.1
 ((at? v0.1 v1.2.1).bind fun v4 =>
 ((push? (α:=ag_) v1.1 [v4]).bind fun v5 =>
 (some (v5,()))))
 (some (v1.1,())))))).bind fun v6 =>
 (some (Sum.inl (v6.1,((w64 (v1.2.1+1)),())))))
 (some (Sum.inr (v1.1,()))))) ([],(0,()))).bind fun v7 =>
 (some (v7.1,()))))
theorem x_62:au_ cx_62 an_62 62 [ao_,aj_] [(.list ar_)]=fun x=>iy_ x.1 x.2.1:=by kernel_rfl
noncomputable def c_62:Con Tryz.prog:=aw_ _ _ 62 [ao_,aj_] [(.list ar_)] _ x_62
def an_72:An:=(.p .z (.p .z (.p .z (.p .z (.p .z (.p (.p .z (.lp [.r 4 ar_ 71,.v 32 .int] [.r 4 ar_ 71] [.m (.c (.s 6) 16) .int .int] 0 (.p .z (.p .z (.j0 [.r 4 ar_ 71,.m (.c (.s 6) 16) .int .int] (.p .z (.j0 [.v 39 .bool,.m (.c (.s 6) 16) .int .int] .z .z)) .z))))) .z))))))
def at_72:FuncId→An:=fun k=>cond (Nat.beq k 83) (.p .z (.lp [.v 12 .int] [] [.o (.c (.s 0) 15) .bool,.m (.c (.s 0) 16) .int .int] 0 (.p .z (.p .z (.j0 [.o (.c (.s 0) 15) .bool,.m (.c (.s 0) 16) .int .int] (.p .z (.p .z (.j0 [.v 55 .bool] .z .z))) .z))))) (cond (Nat.beq k 114) (.p .z (.p .z (.j0 [.m (.c (.s 0) 16) .int .int,.m (.s 23) .int .int] (.j0 [.v 41 .bool] .z (.p (.p .z (.j0 [.m (.c (.s 0) 16) .int .int] .z .z)) .z)) (.p (.j0 [.v 70 .bool,.o (.s 21) .bool,.m (.s 23) .int .int,.b (.s 5) [.keep,.keep,.keep,.keep,.keep,.keep,.keep,.keep,.keep,.keep,.keep,.keep,.val (.list .int),.val (.list .int),.val (.list .int),.keep,.keep]] .z .z) .z)))) (cond (Nat.beq k 115) (.p .z (.p (.j0 [.v 38 .bool,.m (.c (.s 0) 16) .int .int] .z .z) .z)) (cond (Nat.beq k 153) (.p .z (.p .z (.j0 [.m (.c (.s 0) 16) .int .int] (.p .z (.p (.p .z (.p .z (.j0 [.v 37 .bool] .z .z))) .z)) .z))) (cond (Nat.beq k 218) (.p .z (.p (.p .z (.lp [.r 6 .int 3,.r 7 ap_ 83,.v 13 .int] [.r 6 .int 3,.r 7 ap_ 83] [] 0 (.p .z (.p .z (.j0 [.r 6 .int 3,.r 7 ap_ 83] (.p .z (.j0 [.v 26 .bool] .z .z)) .z))))) .z)) (.z)))))
noncomputable def cs_72:List (Con Tryz.prog):=[c_113,c_123,c_125,c_126,c_150,c_154,c_220]
noncomputable def cl_72:List (Cpy Tryz.prog):=[cp_128]
noncomputable def cx_72:Cx Tryz.prog:=cxI at_72 (fun k=>Nat.beq k 113||Nat.beq k 123||Nat.beq k 125||Nat.beq k 126||Nat.beq k 128||Nat.beq k 150||Nat.beq k 154||Nat.beq k 220||false) (cxC cs_72 cl_72) 9
noncomputable def pb_ (a0:ac_) (a1:aa_):Option ((List ag_)×Int×Unit) :=
 ((dz_ a0 a1).bind fun v0 =>
 (cond (v0.1 != 0)
 (cond (v0.1 != 0)
 (some ([],(v0.1,())))
 ((ey_ a0.1 a1.1).bind fun v1 =>
 (cond (v1.2.1 != 0)
 (some ([],(v1.2.1,())))
 none)))
 ((push? (α:=Bool) [] a1.2).bind fun v2 =>
 ((ey_ a0.1 a1.1).bind fun v3 =>
 (cond (v3.2.1 != 0)
 (some ([],(v3.2.1,())))
 ((af_ (ρ:=((List ag_)×((List ab_)×Unit))) (fun (v4:((List ag_)×(Int×((List ab_)×Unit)))) =>
 (cond (decide (v4.2.1<(v3.1.length:Int)))
 ((((at? v3.1 v4.2.1).bind fun v5 =>
 ((((push? (α:=Bool) [] v2).bind fun v6 =>
 (((((cond (v5.2.1==4)
 ((bw_ v5.2.2 0 (w64 ((a0.1.2.2.2.2.1.length:Int) - 1))).bind fun v7 =>
 (some (v7.1,())))
 (some (false,())))).bind fun v8 =>
 (cond v8.1
 ((at? a0.1.2.2.2.2.1 v5.2.2).bind fun v9 =>
 (((cond (decide (v9.2.2.1<0))
 (some (v4.2.2.1,()))
 (((cond ((fh_ 0 v4.2.2.1 v9.2.2.1)==0)
 ((af_ (ρ:=((List Int)×((List ak_)×Unit))) (fun (v10:((List Int)×((List ak_)×(Int×Unit)))) =>
 (cond (decide (v10.2.2.1<(a0.2.2.2.1.length:Int)))
 ((((at? a0.2.2.2.1 v10.2.2.1).bind fun v11 =>
 (((cond (v11.2.2.1==v9.2.2.1)
 ((at? v2 v10.2.2.1).bind fun v12 =>
 ((at? v2 v10.2.2.1).bind fun v13 =>
 (some (v13,()))))
 (some (false,())))).bind fun v14 =>
 (cond v14.1
 ((push? (α:=Int) v10.1 [v10.2.2.1]).bind fun v15 =>
 ((push? (α:=ak_) v10.2.1 [v11.2.2.2.2]).bind fun v16 =>
 (some (v15,(v16,())))))
 (some (v10.1,(v10.2.1,()))))))).bind fun v17 =>
 (some (Sum.inl (v17.1,(v17.2.1,((w64 (v10.2.2.1+1)),()))))))
 (some (Sum.inr (v10.1,(v10.2.1,())))))) ([],([],(0,())))).bind fun v18 =>
 ((at? a0.2.1 v9.2.2.1).bind fun v19 =>
 ((cx_ v19 v18.2.1).bind fun v20 =>
 (((cond (v20.2.1==0)
 (some ((decide (v20.1≤a0.2.2.2.2)),()))
 (some (false,())))).bind fun v21 =>
 (cond v21.1
 (some ((ju_ (ju_ v4.2.2.1 v9.2.2.1 2) v9.2.2.1 1),()))
 (some ((ju_ v4.2.2.1 v9.2.2.1 2),())))))))
 (some (v4.2.2.1,())))).bind fun v22 =>
 (some (v22.1,()))))).bind fun v23 =>
 (some (v23.1,((ju_ [] v9.2.2.1 (fh_ 0 v23.1 v9.2.2.1)),())))))
 (some (v4.2.2.1,([],())))))).bind fun v24 =>
 (((((cond (v5.2.1==4)
 ((bw_ v5.2.2 0 (w64 ((a0.1.2.2.2.2.1.length:Int) - 1))).bind fun v25 =>
 (cond v25.1
 ((at? a0.1.2.2.2.2.1 v5.2.2).bind fun v26 =>
 (cond (decide (v26.2.2.1<0))
 (some ((!true),(v24.2.1,())))
 (((cond ((fh_ 0 v24.2.1 v26.2.2.1)==0)
 ((af_ (ρ:=((List Int)×((List ak_)×Unit))) (fun (v27:((List Int)×((List ak_)×(Int×Unit)))) =>
 (cond (decide (v27.2.2.1<(a0.2.2.2.1.length:Int)))
 ((((at? a0.2.2.2.1 v27.2.2.1).bind fun v28 =>
 (((cond (v28.2.2.1==v26.2.2.1)
 ((at? v6 v27.2.2.1).bind fun v29 =>
 ((at? v6 v27.2.2.1).bind fun v30 =>
 (some (v30,()))))
 (some (false,())))).bind fun v31 =>
 (cond v31.1
 ((push? (α:=Int) v27.1 [v27.2.2.1]).bind fun v32 =>
 ((push? (α:=ak_) v27.2.1 [v28.2.2.2.2]).bind fun v33 =>
 (some (v32,(v33,())))))
 (some (v27.1,(v27.2.1,()))))))).bind fun v34 =>
 (some (Sum.inl (v34.1,(v34.2.1,((w64 (v27.2.2.1+1)),()))))))
 (some (Sum.inr (v27.1,(v27.2.1,())))))) ([],([],(0,())))).bind fun v35 =>
 ((at? a0.2.1 v26.2.2.1).bind fun v36 =>
 ((cx_ v36 v35.2.1).bind fun v37 =>
 (((cond (v37.2.1==0)
 (some ((decide (v37.1≤a0.2.2.2.2)),()))
 (some (false,())))).bind fun v38 =>
 (cond v38.1
 (some ((ju_ (ju_ v24.2.1 v26.2.2.1 2) v26.2.2.1 1),()))
 (some ((ju_ v24.2.1 v26.2.2.1 2),())))))))
 (some (v24.2.1,())))).bind fun v39 =>
 (some ((!((fh_ 0 v39.1 v26.2.2.1)==1)),(v39.1,()))))))
 (some (false,(v24.2.1,())))))
 (some (false,(v24.2.1,()))))).bind fun v40 =>
 (cond v40.1
 (some ((!false),(v6,(v40.2.1,((a1.1.1,(a1.1.2.1,(a1.1.2.2,()))),())))))
 ((ex_ a0.1 a1.1 v5).bind fun v41 =>
 (cond (v41.2.1 != 0)
 (some ((!false),(v6,(v40.2.1,((a1.1.1,(a1.1.2.1,(a1.1.2.2,()))),())))))
 ((af_ (ρ:=((List Bool)×((List ab_)×Unit))) (fun (v42:(Int×((List Bool)×((List ab_)×Unit)))) =>
 (cond (decide (v42.1<(a0.2.2.2.1.length:Int)))
 ((((at? a0.2.2.2.1 v42.1).bind fun v43 =>
 ((ez_ a0.1 v41.1 v43.2.2.2.1).bind fun v44 =>
 (((cond v44.1
 ((bh_ v41.1.2.2 v43.2.1).bind fun v45 =>
 (cond v45.1
 ((at? v42.2.1 v42.1).bind fun v46 =>
 ((at? v42.2.1 v42.1).bind fun v47 =>
 (some ((!v47),()))))
 (some (false,()))))
 (some (false,())))).bind fun v48 =>
 (cond v48.1
 ((at? v42.2.1 v42.1).bind fun v49 =>
 ((at? v42.2.1 v42.1).bind fun v50 =>
 (some ((v42.2.1.set v42.1.toNat true),((mdel v42.2.2.1 v43.2.2.1),())))))
 (some (v42.2.1,(v42.2.2.1,())))))))).bind fun v51 =>
 (some (Sum.inl ((w64 (v42.1+1)),(v51.1,(v51.2.1,()))))))
 (some (Sum.inr (v42.2.1,(v42.2.2.1,())))))) (0,(v6,(v40.2.1,())))).bind fun v52 =>
 (some ((!true),(v52.1,(v52.2.1,((v41.1.1,(v41.1.2.1,(v41.1.2.2,()))),()))))))))))).bind fun v53 =>
 (cond v53.1
 (some (false,(v24.1,())))
 (some (true,(v24.1,())))))))).bind fun v54 =>
 (cond v54.1
 ((push? (α:=ag_) v4.1 [v5]).bind fun v55 =>
 (some (v55,(v54.2.1,()))))
 (some (v4.1,(v54.2.1,()))))))).bind fun v56 =>
 (some (Sum.inl (v56.1,((w64 (v4.2.1+1)),(v56.2.1,()))))))
 (some (Sum.inr (v4.1,(v4.2.2.1,())))))) ([],(0,([],())))).bind fun v57 =>
 (some (v57.1,(0,())))))))))
theorem x_72:au_ cx_72 an_72 72 [ao_,aj_] [(.list ar_),.int]=fun x=>pb_ x.1 x.2.1:=by kernel_rfl
noncomputable def c_72:Con Tryz.prog:=aw_ _ _ 72 [ao_,aj_] [(.list ar_),.int] _ x_72
def an_73:An:=(.p .z (.p .z (.p .z (.p (.j0 [.v 23 .bool,.o (.c (.s 8) 15) .bool,.m (.c (.s 8) 16) .int .int,.b (.s 8) [.keep,.keep,.keep,.keep,.keep,.keep,.keep,.keep,.keep,.keep,.keep,.keep,.val (.list .int),.val (.list .int),.val (.list .int),.keep,.keep]] .z .z) .z))))
def at_73:FuncId→An:=fun k=>cond (Nat.beq k 83) (.p .z (.lp [.v 12 .int] [] [.o (.c (.s 0) 15) .bool,.m (.c (.s 0) 16) .int .int] 0 (.p .z (.p .z (.j0 [.o (.c (.s 0) 15) .bool,.m (.c (.s 0) 16) .int .int] (.p .z (.p .z (.j0 [.v 55 .bool] .z .z))) .z))))) (cond (Nat.beq k 115) (.p .z (.p (.j0 [.v 38 .bool,.m (.c (.s 0) 16) .int .int] .z .z) .z)) (cond (Nat.beq k 153) (.p .z (.p .z (.j0 [.m (.c (.s 0) 16) .int .int] (.p .z (.p (.p .z (.p .z (.j0 [.v 37 .bool] .z .z))) .z)) .z))) (cond (Nat.beq k 218) (.p .z (.p (.p .z (.lp [.r 6 .int 3,.r 7 ap_ 83,.v 13 .int] [.r 6 .int 3,.r 7 ap_ 83] [] 0 (.p .z (.p .z (.j0 [.r 6 .int 3,.r 7 ap_ 83] (.p .z (.j0 [.v 26 .bool] .z .z)) .z))))) .z)) (.z))))
noncomputable def cs_73:List (Con Tryz.prog):=[c_123,c_125,c_126,c_150,c_154,c_220]
noncomputable def cl_73:List (Cpy Tryz.prog):=[xa_,cp_128]
noncomputable def cx_73:Cx Tryz.prog:=cxI at_73 (fun k=>Nat.beq k 123||Nat.beq k 125||Nat.beq k 126||Nat.beq k 127||Nat.beq k 128||Nat.beq k 150||Nat.beq k 154||Nat.beq k 220||false) (cxC cs_73 cl_73) 9
noncomputable def kb_ (a0:ac_) (a1:aa_) (a2:ag_):Option (aa_×Int×Unit) :=
 ((dz_ a0 a1).bind fun v0 =>
 (cond (v0.1 != 0)
 (cond (v0.1 != 0)
 (some ((([],([],[])),[]),(v0.1,())))
 none)
 ((push? (α:=Bool) [] a1.2).bind fun v1 =>
 (((((cond (a2.2.1==4)
 ((bw_ a2.2.2 0 (w64 ((a0.1.2.2.2.2.1.length:Int) - 1))).bind fun v2 =>
 (cond v2.1
 ((at? a0.1.2.2.2.2.1 a2.2.2).bind fun v3 =>
 (cond (decide (v3.2.2.1<0))
 (some ((!true),([],())))
 ((((af_ (ρ:=((List Int)×((List ak_)×Unit))) (fun (v4:((List Int)×((List ak_)×(Int×Unit)))) =>
 (cond (decide (v4.2.2.1<(a0.2.2.2.1.length:Int)))
 ((((at? a0.2.2.2.1 v4.2.2.1).bind fun v5 =>
 (((cond (v5.2.2.1==v3.2.2.1)
 ((at? v1 v4.2.2.1).bind fun v6 =>
 ((at? v1 v4.2.2.1).bind fun v7 =>
 (some (v7,()))))
 (some (false,())))).bind fun v8 =>
 (cond v8.1
 ((push? (α:=Int) v4.1 [v4.2.2.1]).bind fun v9 =>
 ((push? (α:=ak_) v4.2.1 [v5.2.2.2.2]).bind fun v10 =>
 (some (v9,(v10,())))))
 (some (v4.1,(v4.2.1,()))))))).bind fun v11 =>
 (some (Sum.inl (v11.1,(v11.2.1,((w64 (v4.2.2.1+1)),()))))))
 (some (Sum.inr (v4.1,(v4.2.1,())))))) ([],([],(0,())))).bind fun v12 =>
 ((at? a0.2.1 v3.2.2.1).bind fun v13 =>
 ((cx_ v13 v12.2.1).bind fun v14 =>
 (((cond (v14.2.1==0)
 (some ((decide (v14.1≤a0.2.2.2.2)),()))
 (some (false,())))).bind fun v15 =>
 (cond v15.1
 (some ((ju_ (ju_ [] v3.2.2.1 2) v3.2.2.1 1),()))
 (some ((ju_ [] v3.2.2.1 2),())))))))).bind fun v16 =>
 (some ((!((fh_ 0 v16.1 v3.2.2.1)==1)),(v16.1,()))))))
 (some (false,([],())))))
 (some (false,([],()))))).bind fun v17 =>
 (cond v17.1
 (some ((!false),(v1,(v17.2.1,((a1.1.1,(a1.1.2.1,(a1.1.2.2,()))),())))))
 ((ex_ a0.1 a1.1 a2).bind fun v18 =>
 (cond (v18.2.1 != 0)
 (some ((!false),(v1,(v17.2.1,((a1.1.1,(a1.1.2.1,(a1.1.2.2,()))),())))))
 ((af_ (ρ:=((List Bool)×((List ab_)×Unit))) (fun (v19:(Int×((List Bool)×((List ab_)×Unit)))) =>
 (cond (decide (v19.1<(a0.2.2.2.1.length:Int)))
 ((((at? a0.2.2.2.1 v19.1).bind fun v20 =>
 ((ez_ a0.1 v18.1 v20.2.2.2.1).bind fun v21 =>
 (((cond v21.1
 ((bh_ v18.1.2.2 v20.2.1).bind fun v22 =>
 (cond v22.1
 ((at? v19.2.1 v19.1).bind fun v23 =>
 ((at? v19.2.1 v19.1).bind fun v24 =>
 (some ((!v24),()))))
 (some (false,()))))
 (some (false,())))).bind fun v25 =>
 (cond v25.1
 ((at? v19.2.1 v19.1).bind fun v26 =>
 ((at? v19.2.1 v19.1).bind fun v27 =>
 (some ((v19.2.1.set v19.1.toNat true),((mdel v19.2.2.1 v20.2.2.1),())))))
 (some (v19.2.1,(v19.2.2.1,())))))))).bind fun v28 =>
 (some (Sum.inl ((w64 (v19.1+1)),(v28.1,(v28.2.1,()))))))
 (some (Sum.inr (v19.2.1,(v19.2.2.1,())))))) (0,(v1,(v17.2.1,())))).bind fun v29 =>
 (some ((!true),(v29.1,(v29.2.1,((v18.1.1,(v18.1.2.1,(v18.1.2.2,()))),()))))))))))).bind fun v30 =>
 (cond v30.1
 (some ((([],([],[])),[]),(29,())))
 ((push? (α:=Int) [] v30.2.2.2.1.1).bind fun v31 =>
 ((push? (α:=Int) [] v30.2.2.2.1.2.1).bind fun v32 =>
 ((push? (α:=Int) [] v30.2.2.2.1.2.2.1).bind fun v33 =>
 ((push? (α:=Bool) [] v30.2.1).bind fun v34 =>
 (some (((v31,(v32,v33)),v34),(0,()))))))))))))
theorem x_73:au_ cx_73 an_73 73 [ao_,aj_,ar_] [aj_,.int]=fun x=>kb_ x.1 x.2.1 x.2.2.1:=by kernel_rfl
noncomputable def c_73:Con Tryz.prog:=aw_ _ _ 73 [ao_,aj_,ar_] [aj_,.int] _ x_73
end
section
set_option maxRecDepth 100000
set_option maxHeartbeats 0
def an_23:An:=(.p .z (.p .z (.p .z (.p .z (.p .z (.p (.p .z (.ls [.v 8 .int] [] [.m (.s 7) .str .int,.b (.s 2) [.val (.list aj_),.val (.list (.list ci_))],.b (.s 6) [.row aj_ 105,.row (.list ci_) 93]] 0 (.p .z (.p (.p .z (.p .z (.p (.p .z (.ls [.r 10 ci_ 96,.v 11 .int] [.r 10 ci_ 96] [.m (.s 7) .str .int,.b (.s 2) [.val (.list aj_),.val (.list (.list ci_))],.b (.s 6) [.row aj_ 105,.keep]] 2 (.p .z (.p (.p .z (.p .z (.js [.v 13 .int,.m (.s 7) .str .int,.b (.s 2) [.val (.list aj_),.val (.list (.list ci_))],.b (.s 6) [.row aj_ 105,.keep]] .z .z))) .z)))) .z))) .z)))) .z))))))
noncomputable def cs_23:List (Con Tryz.prog):=[c_49,c_52,c_61,c_62]
noncomputable def cl_23:List (Cpy Tryz.prog):=[]
noncomputable def cx_23:Cx Tryz.prog:=cxC cs_23 cl_23
noncomputable def du_ (a0:ac_):Option (ch_×Int×Unit) :=
 ((iz_ a0).bind fun v0 =>
 (cond (v0.2.1 != 0)
 (some (([],[]),(v0.2.1,())))
 ((hq_ v0.1).bind fun v1 =>
 ((af_ (ρ:=(((List ((List UInt8)×Int))×(((List aa_)×((List (List ae_))×Unit))×(((List aa_)×((List (List ae_))×Unit))×Unit)))⊕(ch_×(Int×Unit)))) (fun (v2:(Int×((List ((List UInt8)×Int))×(((List aa_)×((List (List ae_))×Unit))×(((List aa_)×((List (List ae_))×Unit))×Unit))))) =>
 (cond (decide (v2.1<(v2.2.2.2.1.1.length:Int)))
 ((at? v2.2.2.2.1.1 v2.1).bind fun v3 =>
 ((at? v2.2.2.2.1.1 v2.1).bind fun v4 =>
 ((iy_ a0 v4).bind fun v5 =>
 ((af_ (ρ:=(((List ae_)×((List ((List UInt8)×Int))×(((List aa_)×((List (List ae_))×Unit))×(((List aa_)×Unit)×Unit))))⊕((Int×((List ((List UInt8)×Int))×(((List aa_)×((List (List ae_))×Unit))×(((List aa_)×((List (List ae_))×Unit))×Unit))))⊕(((List ((List UInt8)×Int))×(((List aa_)×((List (List ae_))×Unit))×(((List aa_)×((List (List ae_))×Unit))×Unit)))⊕(ch_×(Int×Unit)))))) (fun (v6:((List ae_)×(Int×((List ((List UInt8)×Int))×(((List aa_)×((List (List ae_))×Unit))×(((List aa_)×Unit)×Unit)))))) =>
 (cond (decide (v6.2.1<(v5.1.length:Int)))
 ((at? v6.2.2.2.2.1.1 v2.1).bind fun v7 =>
 ((at? v6.2.2.2.2.1.1 v2.1).bind fun v8 =>
 ((at? v5.1 v6.2.1).bind fun v9 =>
 ((ku_ a0 v8 v9).bind fun v10 =>
 ((hq_ v10.1).bind fun v11 =>
 (((cond (!(mhas v6.2.2.1 v11.1))
 (cond ((v6.2.2.2.2.1.1.length:Int)==3000)
 (some (Sum.inr (Sum.inr (Sum.inr (Sum.inr (Sum.inr (([],[]),(2,()))))))))
 ((hq_ v10.1).bind fun v12 =>
 ((push? (α:=aa_) v6.2.2.2.2.1.1 [v10.1]).bind fun v13 =>
 (some (Sum.inl ((v6.2.2.2.2.1.1.length:Int),((ju_ v6.2.2.1 v12.1 (v6.2.2.2.2.1.1.length:Int)),((v6.2.2.2.1.1,(v6.2.2.2.1.2.1,())),((v13,()),())))))))))
 (some (Sum.inl ((fh_ 0 v6.2.2.1 v11.1),(v6.2.2.1,((v6.2.2.2.1.1,(v6.2.2.2.1.2.1,())),((v6.2.2.2.2.1.1,()),())))))))).bind fun v14 =>
 (ca_ v14 (fun v15=>((at? v5.1 v6.2.1).bind fun v17 =>
 ((push? (α:=ae_) v6.1 [(v17,v15.1)]).bind fun v18 =>
 (some (Sum.inl (v18,((w64 (v6.2.1+1)),(v15.2.1,((v15.2.2.1.1,(v15.2.2.1.2.1,())),((v15.2.2.2.1.1,()),()))))))))))
 (fun v16=>(some v16)))))))))
 (some (Sum.inr (Sum.inl (v6.1,(v6.2.2.1,((v6.2.2.2.1.1,(v6.2.2.2.1.2.1,())),((v6.2.2.2.2.1.1,()),()))))))))) ([],(0,(v2.2.1,((v2.2.2.1.1,(v2.2.2.1.2.1,())),((v2.2.2.2.1.1,()),())))))).bind fun v19 =>
 (ca_ v19 (fun v20=>((push? (α:=(List ae_)) v2.2.2.2.1.2.1 [v20.1]).bind fun v22 =>
 (some (Sum.inl ((w64 (v2.1+1)),(v20.2.1,((v20.2.2.1.1,(v20.2.2.1.2.1,())),((v20.2.2.2.1.1,(v22,())),()))))))))
 (fun v21=>(some v21)))))))
 (some (Sum.inr (Sum.inl (v2.2.1,((v2.2.2.1.1,(v2.2.2.1.2.1,())),((v2.2.2.2.1.1,(v2.2.2.2.1.2.1,())),())))))))) (0,((ju_ [] v1.1 0),(([],([],())),(([v0.1],([],())),()))))).bind fun v23 =>
 (ca_ v23 (fun v24=>(some ((v24.2.2.1.1,v24.2.2.1.2.1),(0,()))))
 (fun v25=>(some v25)))))))
theorem x_23:au_ cx_23 an_23 23 [ao_] [mb_,.int]=fun x=>du_ x.1:=by kernel_rfl
noncomputable def c_23:Con Tryz.prog:=aw_ _ _ 23 [ao_] [mb_,.int] _ x_23
def an_32:An:=(.p .z (.p .z (.p .z (.p .z (.j0 [.m (.s 26) .str .int,.b (.s 6) [.row aj_ 105,.keep,.keep]] .z (.p (.p .z (.ls [.v 7 .int] [] [.m (.s 26) .str .int,.b (.s 2) [.val (.list aj_),.val (.list (.list ci_))],.b (.s 6) [.row aj_ 105,.row (.list ci_) 93,.keep]] 0 (.p .z (.p (.p .z (.p .z (.p .z (.p (.p .z (.ls [.r 10 ci_ 96,.v 61 .int] [.r 10 ci_ 96] [.m (.s 26) .str .int,.b (.s 2) [.val (.list aj_),.val (.list (.list ci_))],.b (.s 6) [.row aj_ 105,.keep,.keep]] 2 (.p .z (.p .z (.p (.p .z (.p .z (.p .z (.j0 [.v 15 .int,.v 16 .bool,.m (.s 26) .str .int,.b (.s 6) [.row aj_ 105,.keep,.keep]] .z .z)))) .z))))) .z)))) .z)))) .z))))))
def at_32:FuncId→An:=fun k=>.z
noncomputable def cs_32:List (Con Tryz.prog):=[c_46,c_72,c_73,c_111]
noncomputable def cl_32:List (Cpy Tryz.prog):=[]
noncomputable def cx_32:Cx Tryz.prog:=cxI at_32 (fun k=>Nat.beq k 46||Nat.beq k 72||Nat.beq k 73||Nat.beq k 111||false) (cxC cs_32 cl_32) 2
noncomputable def dv_ (a0:ac_):Option (ch_×Int×Unit) :=
 ((lb_ a0).bind fun v0 =>
 (cond (v0.2.1 != 0)
 (some (([],[]),(v0.2.1,())))
 ((((jz_ v0.1).bind fun v1 =>
 (some ((ju_ [] v1.1 0),((([]++[v0.1]),()),()))))).bind fun v2 =>
 ((af_ (ρ:=(((List ((List UInt8)×Int))×(((List aa_)×((List (List ae_))×Unit))×(((List aa_)×((List (List ae_))×Unit))×Unit)))⊕(ch_×(Int×Unit)))) (fun (v3:(Int×((List ((List UInt8)×Int))×(((List aa_)×((List (List ae_))×Unit))×(((List aa_)×((List (List ae_))×Unit))×Unit))))) =>
 (cond (decide (v3.1<(v3.2.2.2.1.1.length:Int)))
 ((at? v3.2.2.2.1.1 v3.1).bind fun v4 =>
 ((at? v3.2.2.2.1.1 v3.1).bind fun v5 =>
 ((pb_ a0 v5).bind fun v6 =>
 (cond (v6.2.1 != 0)
 (some (Sum.inr (Sum.inr (([],[]),(v6.2.1,())))))
 ((af_ (ρ:=(((List ae_)×((List ((List UInt8)×Int))×(((List aa_)×((List (List ae_))×Unit))×(((List aa_)×Unit)×Unit))))⊕((Int×((List ((List UInt8)×Int))×(((List aa_)×((List (List ae_))×Unit))×(((List aa_)×((List (List ae_))×Unit))×Unit))))⊕(((List ((List UInt8)×Int))×(((List aa_)×((List (List ae_))×Unit))×(((List aa_)×((List (List ae_))×Unit))×Unit)))⊕(ch_×(Int×Unit)))))) (fun (v7:((List ae_)×(Int×((List ((List UInt8)×Int))×(((List aa_)×((List (List ae_))×Unit))×(((List aa_)×Unit)×Unit)))))) =>
 (cond (decide (v7.2.1<(v6.1.length:Int)))
 ((at? v6.1 v7.2.1).bind fun v8 =>
 ((at? v7.2.2.2.2.1.1 v3.1).bind fun v9 =>
 ((at? v7.2.2.2.2.1.1 v3.1).bind fun v10 =>
 ((kb_ a0 v10 v8).bind fun v11 =>
 (cond (v11.2.1 != 0)
 (some (Sum.inr (Sum.inr (Sum.inr (Sum.inr (([],[]),(v11.2.1,())))))))
 ((((jz_ v11.1).bind fun v12 =>
 (cond (mhas v7.2.2.1 v12.1)
 (some ((fh_ 0 v7.2.2.1 v12.1),(true,(v7.2.2.1,((v7.2.2.2.2.1.1,()),())))))
 (cond ((v7.2.2.2.2.1.1.length:Int)==3000)
 (some (0,(false,(v7.2.2.1,((v7.2.2.2.2.1.1,()),())))))
 ((push? (α:=aa_) v7.2.2.2.2.1.1 [v11.1]).bind fun v13 =>
 (some ((v7.2.2.2.2.1.1.length:Int),(true,((ju_ v7.2.2.1 v12.1 (v7.2.2.2.2.1.1.length:Int)),((v13,()),())))))))))).bind fun v14 =>
 (cond (!v14.2.1)
 (some (Sum.inr (Sum.inr (Sum.inr (Sum.inr (([],[]),(2,())))))))
 ((push? (α:=ae_) v7.1 [(v8,v14.1)]).bind fun v15 =>
 (some (Sum.inl (v15,((w64 (v7.2.1+1)),(v14.2.2.1,((v7.2.2.2.1.1,(v7.2.2.2.1.2.1,())),((v14.2.2.2.1.1,()),())))))))))))))))
 (some (Sum.inr (Sum.inl (v7.1,(v7.2.2.1,((v7.2.2.2.1.1,(v7.2.2.2.1.2.1,())),((v7.2.2.2.2.1.1,()),()))))))))) ([],(0,(v3.2.1,((v3.2.2.1.1,(v3.2.2.1.2.1,())),((v3.2.2.2.1.1,()),())))))).bind fun v16 =>
 (ca_ v16 (fun v17=>((push? (α:=(List ae_)) v3.2.2.2.1.2.1 [v17.1]).bind fun v19 =>
 (some (Sum.inl ((w64 (v3.1+1)),(v17.2.1,((v17.2.2.1.1,(v17.2.2.1.2.1,())),((v17.2.2.2.1.1,(v19,())),()))))))))
 (fun v18=>(some v18))))))))
 (some (Sum.inr (Sum.inl (v3.2.1,((v3.2.2.1.1,(v3.2.2.1.2.1,())),((v3.2.2.2.1.1,(v3.2.2.2.1.2.1,())),())))))))) (0,(v2.1,(([],([],())),((v2.2.1.1,([],())),()))))).bind fun v20 =>
 (ca_ v20 (fun v21=>(some ((v21.2.2.1.1,v21.2.2.1.2.1),(0,()))))
 (fun v22=>(some v22)))))))
theorem x_32:au_ cx_32 an_32 32 [ao_] [mb_,.int]=fun x=>dv_ x.1:=by kernel_rfl
noncomputable def c_32:Con Tryz.prog:=aw_ _ _ 32 [ao_] [mb_,.int] _ x_32
end
end Go.Proofs.YtmdlefagpcmllaaGreatDoor.Rx
