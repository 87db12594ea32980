/- A part of the proof: what the functions of the program compute, shown over the model. -/
import Derived.Calls
import Derived.Tactics
import Derived.TacticsIn
import Derived.OrdersIn
import Derived.CallsIn
import Derived.Laws.OwnMore
import Derived.Laws.Rows
import Derived.Laws.MakeOwn
import Derived.Laws.Wrap64
import Derived.Laws.Bits
import Derived.Laws.StructEq
import Derived.Laws.Slices
import Derived.MapKept
set_option linter.unusedSectionVars false
set_option linter.unusedVariables false
set_option linter.unusedSimpArgs false
namespace Go.Proofs.YtgeehfnbhbibeaaGreatDoor.Pad
open Go
section
theorem a0_ {α β:Type _} (a:α) (f:α→Option β):(some a).bind f=f a:=rfl
abbrev a1_:=@Bool.and_eq_true
theorem a2_ {α:Type _} {a b:α}:cond false a b=b:=rfl
abbrev a3_:=@Nat.eq_of_beq_eq_true
abbrev a4_:=@List.getElem?_eq_some_iff
theorem a5_ {α:Type _} {a b:α}:cond true a b=a:=rfl
abbrev a6_:=@Option.some.inj
abbrev a7_:=@List.getElem?_eq_getElem
abbrev a8_:=@Array.getD_eq_getD_getElem?
abbrev a9_:=@List.length_append
abbrev b0_:=@Nat.zero_add
abbrev b1_:=@List.getElem?_append_left
abbrev b2_:=@List.mem_of_getElem?
abbrev b3_:=@List.append_assoc
abbrev b4_:=@List.getElem?_eq_none
abbrev b5_:=@List.mem_append
abbrev b6_:=@Nat.le_of_ble_eq_true
abbrev b7_:=@List.getElem?_set_ne
abbrev b8_:=@Bool.or_eq_false_iff
abbrev b9_:=@decide_eq_true
theorem c0_ (b:Bool):(true&&b)=b:=rfl
abbrev c1_:=@Int.toNat_natCast
abbrev c2_:=@decide_eq_false
abbrev c3_:=@Nat.le_refl
theorem c4_ {α:Type _} {a:α} {l:List α}:(a::l).length=l.length+1:=rfl
abbrev c5_:=@Nat.le_trans
abbrev c6_:=@List.getElem?_append_right
abbrev c7_:=@List.length_take
abbrev c8_:=@Bool.or_eq_true
abbrev c9_:=@List.perm_middle
abbrev d0_:=@List.mem_filter
abbrev d1_:=@Array.getElem?_eq_getElem
abbrev d2_:=@List.mem_map
abbrev d3_:=@List.length_map
abbrev d4_:=@beq_self_eq_true
abbrev d5_:=@List.getElem?_map
abbrev d6_:=@List.take_add_one
abbrev d7_:=@of_decide_eq_false
abbrev d8_:=@List.mem_cons
abbrev d9_:=@List.length_singleton
abbrev e0_:=@List.getElem?_toArray
abbrev e1_:=@List.take_length
theorem e2_:(!true)=false:=rfl
abbrev e3_:=@List.mem_singleton
theorem e4_ (b:Bool):(false&&b)=false:=rfl
abbrev e5_:=@Eq.trans
abbrev e6_:=@List.mem_cons_of_mem
abbrev e7_:=@List.append_nil
abbrev e8_:=@List.length_replicate
abbrev e9_:=@List.getElem?_set_self
abbrev f0_:=@List.mem_cons_self
abbrev f1_:=@List.ext_getElem?
abbrev f2_:=@List.getElem?_of_mem
abbrev f3_:=@List.all_eq_true
abbrev f4_:=@Option.map_eq_some_iff
abbrev f5_:=@Nat.lt_of_lt_of_le
abbrev f6_:=@List.length_set
abbrev f7_:=@Bool.and_false
abbrev f8_:=@of_decide_eq_true
abbrev f9_:=@Nat.le_of_lt
abbrev g0_:=@Nat.beq_refl
abbrev g1_:=@List.take_append_drop
theorem g2_ {α:Type _} {a b:α}:(some a).getD b=a:=rfl
theorem g3_ {α β:Type _} {a:α} {f:α→β}:(some a).map f=some (f a):=rfl
abbrev g4_:=@List.getElem?_set
abbrev g5_:=@beq_iff_eq
abbrev g6_:=@List.take_of_length_le
abbrev g7_:=@Array.getElem?_replicate
abbrev g8_:=@List.nil_append
theorem g9_:(!false)=true:=rfl
abbrev h0_:=@bne_self_eq_false
abbrev h1_:=@Bool.and_true
abbrev h2_:=@Array.getElem?_setIfInBounds_ne
abbrev h3_:=@List.getElem?_zip_eq_some
abbrev h4_:=@List.eq_nil_of_length_eq_zero
abbrev h5_:=@Nat.ble_eq_true_of_le
abbrev h6_:=@if_false
abbrev h7_:=@Nat.add_sub_cancel_left
abbrev h8_:=@List.map_cons
abbrev h9_:=@List.getElem?_cons_succ
abbrev i0_:=@Bool.or_false
abbrev i1_:=@Nat.mul_le_mul_right
abbrev i2_:=@Array.getElem?_eq_some_iff
abbrev i3_:=@Prod.mk.inj
abbrev i4_:=@List.length_range
abbrev i5_:=@List.drop_eq_getElem_cons
abbrev i6_:=@List.map_append
abbrev i7_:=@Classical.choose_spec
abbrev i8_:=@List.getElem?_take
abbrev i9_:=@Array.all_eq_true'
abbrev j0_:=@Option.getD_none
abbrev j1_:=@Nat.add_mul
abbrev j2_:=@List.length_drop
abbrev j3_:=@List.countP_cons
abbrev j4_:=@List.getElem?_replicate
abbrev j5_:=@Array.getElem?_setIfInBounds
abbrev j6_:=@Nat.pow_succ
abbrev j7_:=@List.length_nil
abbrev j8_:=@Bool.eq_iff_iff
abbrev j9_:=@Nat.mod_eq_of_lt
abbrev k0_:=@Nat.mul_comm
abbrev k1_:=@List.length_filter_le
abbrev k2_:=@List.countP_le_length
abbrev k3_:=@Bool.false_or
abbrev k4_:=@Nat.zero_le
abbrev k5_:=@List.take_zero
abbrev k6_:=@Decidable.byContradiction
abbrev k7_:=@List.mem_of_mem_take
abbrev k8_:=@Array.toArray_toList
abbrev k9_:=@if_true
abbrev l0_:=@List.nodup_cons
abbrev l1_:=@Bool.not_eq_true'
abbrev l2_:=@Nat.sub_self
abbrev l3_:=@Nat.lt_or_ge
abbrev l4_:=@List.replicate_succ
abbrev l5_:=@List.getElem?_cons_zero
abbrev l6_:=@List.cons_append
abbrev l7_:=@List.any_eq_true
abbrev l8_:=@decide_eq_true_iff
abbrev l9_:=@List.Perm.append_left
abbrev m0_:=@List.getD_eq_getElem?_getD
abbrev m1_:=@Nat.min_le_right
abbrev m2_:=@List.map_congr_left
abbrev m3_:=@List.getElem?_range
abbrev m4_:=@List.filter_eq_self
abbrev m5_:=@Int.le_refl
theorem m6_ (n:Nat):n+0=n:=rfl
abbrev m7_:=@Nat.add_right_cancel_iff
abbrev m8_:=@or_self
abbrev m9_:=@List.length_zip
abbrev n0_:=@List.length_eq_zero_iff
abbrev n1_:=@List.filter_append
abbrev n2_:=@true_or
abbrev n3_:=@or_true
abbrev n4_:=@bne_iff_ne
abbrev n5_:=@Ne.symm
abbrev n6_:=@Nat.lt_trichotomy
abbrev n7_:=@List.nodup_append
abbrev n8_:=@List.foldl_append
abbrev n9_:=@List.mem_range
abbrev o0_:=@List.mem_append_right
abbrev o1_:=@List.filterMap_append
abbrev o2_:=@Bool.or_true
abbrev o3_:=@List.drop_length
abbrev o4_:=@List.mem_append_left
abbrev o5_:=@List.cons.inj
abbrev o6_:=@beq_eq_false_iff_ne
abbrev o7_:=@List.filter_sublist
abbrev o8_:=@List.mem_or_eq_of_mem_set
abbrev o9_:=@List.getElem?_eq_none_iff
abbrev p0_:=@Option.some.injEq
abbrev p1_:=@List.length_filterMap_le
abbrev p2_:=@List.getElem?_take_of_lt
abbrev p3_:=@List.flatMap_cons
abbrev p4_:=@decide_eq_false_iff_not
abbrev p5_:=@List.filter_cons_of_pos
abbrev p6_:=@List.filter_cons_of_neg
abbrev p7_:=@List.any_cons
abbrev p8_:=@List.singleton_append
abbrev p9_:=@List.set_append_right
abbrev q0_:=@List.replicate_succ'
abbrev q1_:=@List.mem_of_mem_drop
abbrev q2_:=@Nat.mul_one
abbrev q3_:=@List.getElem_of_mem
abbrev q4_:=@List.flatMap_append
abbrev q5_:=@Array.length_toList
variable {ro:Option Nat}
def FW (ro:Option Nat):Fence:={ fn:=λ_=>True,depth:=none,alive:=false,round:=ro }
theorem cf7 (k:Nat):(FW ro).room k:=λ_ h=>by cases h
theorem bh4 {P:Program} {f:FuncId} {args:Array Value} {w:World} {R:Ending→World→Prop} {k:Nat}:CallsIn (FW ro) k P f args w R↔Calls P f args w R :=
 (show CallsIn (FW ro) k P f args w R↔CallsIn Fence.wide k P f args w R from Iff.rfl).trans callsIn_wide
structure Fr where
 g:Nat→Value
 ds:List Deferred
instance :CoeFun Fr (λ_=>Nat→Value):=⟨Fr.g⟩
def upv (f:Nat→Value) (d:Nat) (v:Value):Nat→Value:=λi=>cond (Nat.beq i d) v (f i)
theorem ch4 (f:Nat→Value) (d:Nat) (v:Value):upv f d v d=v:=by simp[upv]
theorem bm8 (f:Nat→Value) (d:Nat) (v:Value) {i:Nat} (h:i≠d):upv f d v i=f i:=by
 have:Nat.beq i d=false:=by cases hb:Nat.beq i d with
  | false=>rfl
  | true=>exact absurd (a3_ hb) h
 simp[upv,this]
def upd (f:Fr) (d:Nat) (v:Value):Fr:=⟨λi=>cond (Nat.beq i d) v (f i),f.ds⟩
def wy_ (f:Fr) (d:Option Nat) (v:Value):Fr:=match d with | some d=>upd f d v | none=>f
theorem nm_ (f:Fr) (d:Nat) (v:Value):upd f d v d=v:=by simp[upd]
theorem wx_ (f:Fr) (d:Nat) (v:Value) {i:Nat} (h:i≠d):upd f d v i=f i:=bm8 f d v h
structure Fits (n:Nat) (a:Act) (f:Fr):Prop where
 size:a.tmps.size=n
 defers:a.defers=f.ds
 at_:∀ i,a.tmps.getD i undef=f i
def ev (f:Fr):Operand→Value
 | .tmp t=>f t
 | .const v=>v
 | .global g=>.pointer (some ⟨g,0,none⟩)
 | .func k=>.func (.func k) #[] #[]
theorem Fits.eval {n:Nat} {a:Act} {f:Fr} (h:Fits n a f):a.eval=ev f:=by
 funext x
 cases x with
 | tmp t=>exact h.at_ t
 | const v=>rfl
 | global g=>rfl
 | func k=>rfl
theorem Fits.put {n:Nat} {a:Act} {f:Fr} (h:Fits n a f) {d:Nat} (hd:Nat.blt d n=true) (v:Value):Fits n (a.put (some d) v) (upd f d v):=by
 have hlt:d<n:=by have:=b6_ hd;omega
 refine⟨by simp[Act.put,h.size],h.defers,λi => ?_⟩
 by_cases e:i=d
 ·subst e
  rw[nm_]
  have:i<a.tmps.size:=by rw[h.size];exact hlt
  simp[Act.put,a8_,this]
 ·rw[wx_ _ _ _ e,← h.at_ i]
  simp[Act.put,a8_,n5_ e]
def ey_ (n:Nat):Option Nat→Bool
 | some d=>Nat.blt d n
 | none=>true
theorem Fits.putO {n:Nat} {a:Act} {f:Fr} (h:Fits n a f) {d:Option Nat} (hd:ey_ n d=true) (v:Value):Fits n (a.put d v) (wy_ f d v):=by
 cases d with
 | none=>exact h
 | some d=>exact h.put hd v
theorem Fits.enter {n:Nat} {args:Array Value} (hn:args.size≤n) :
  Fits n { tmps:=args++Array.replicate (n - args.size) undef,defers:=[] } ⟨λi=>args.getD i undef,[]⟩:=by
 refine⟨by simp;omega,rfl,λi => ?_⟩
 simp only[a8_,Array.getElem?_append,g7_]
 split
 ·rfl
 ·rename_i h
  have:args[i]?=none:=by simp;omega
  rw[this]
  split<;>rfl
section code
variable {P:Program} {n:Nat}
def Ends (n:Nat) (N R:Fr→World→Prop) (X:Nat→Fr→World→Prop) (e:Exit) (a:Act) (w:World):Prop :=
 ∃ f,Fits n a f∧match e with
  | .normal=>N f w
  | .ret=>R f w
  | .exit i=>X i f w
  | _=>False
def WP (P:Program) (n:Nat) (ro:Option Nat) (c:Code) (N R:Fr→World→Prop) (X:Nat→Fr→World→Prop) (f:Fr) (w:World):Prop :=
 ∀ a,Fits n a f→c.wpIn (FW ro) 0 P (Ends n N R X) a w
variable {N R:Fr→World→Prop} {X:Nat→Fr→World→Prop} {f:Fr} {w:World}
theorem WP.mono {c:Code} {N' R':Fr→World→Prop} {X':Nat→Fr→World→Prop} (h:WP P n ro c N R X f w)
  (hN:∀ f w,N f w→N' f w) (hR:∀ f w,R f w→R' f w) (hX:∀ i f w,X i f w→X' i f w):WP P n ro c N' R' X' f w:=by
 intro a ha
 refine Go.wpIn_mono (h a ha) λe a w hq => ?_
 obtain⟨f,hf,hq⟩:=hq
 refine⟨f,hf,?_⟩
 cases e<;>first | exact hN _ _ hq | exact hR _ _ hq | exact hX _ _ _ hq | exact hq
theorem bi_ {x y:Code} (h:WP P n ro x (λf w=>WP P n ro y N R X f w) R X f w):WP P n ro (.seq x y) N R X f w:=by
 intro a ha
 refine Go.wpIn_seq (Go.wpIn_mono (h a ha) λe a w hq => ?_)
 obtain⟨f,hf,hq⟩:=hq
 cases e with
 | normal=>exact hq a hf
 | ret=>exact⟨f,hf,hq⟩
 | exit i=>exact⟨f,hf,hq⟩
 | goto l=>exact hq.elim
 | panic c=>exact hq.elim
 | outgrown=>exact hq.elim
theorem lv_ (h:N f w):WP P n ro .skip N R X f w:=λ_ ha=>Go.wpIn_skip ⟨f,ha,h⟩
theorem wv_ (h:R f w):WP P n ro .ret N R X f w:=λ_ ha=>Go.wpIn_ret ⟨f,ha,h⟩
theorem sd_ {i:Nat} (h:X i f w):WP P n ro (.exit i) N R X f w:=λ_ ha=>Go.wpIn_exit ⟨f,ha,h⟩
theorem ex_ {i:Nat} {c:Code} (h:WP P n ro c N R (λj=>cond (Nat.beq j i) N (X j)) f w):WP P n ro (.block i c) N R X f w:=by
 intro a ha
 refine Go.wpIn_block (Go.wpIn_mono (h a ha) λe a w hq => ?_)
 obtain⟨f,hf,hq⟩:=hq
 cases e with
 | normal=>exact⟨f,hf,hq⟩
 | ret=>exact⟨f,hf,hq⟩
 | exit j =>
  by_cases e:j=i
  ·subst e
   simp only[Exit.inBlock,k9_]
   have:Nat.beq j j=true:=g0_ j
   simp only[this,a5_] at hq
   exact⟨f,hf,hq⟩
  ·simp only[Exit.inBlock,e,h6_]
   have:Nat.beq j i=false:=by cases hb:Nat.beq j i with
    | false=>rfl
    | true=>exact absurd (a3_ hb) e
   simp only[this,a2_] at hq
   exact⟨f,hf,hq⟩
 | goto l=>exact hq.elim
 | panic c=>exact hq.elim
 | outgrown=>exact hq.elim
theorem mw_ {c:Operand} {x y:Code} {b:Bool} (hc:ev f c = .bool b) (hb:b=true) (h:WP P n ro x N R X f w):WP P n ro (.cond c x y) N R X f w:=by
 intro a ha
 subst hb
 exact Go.wpIn_cond_true (by rw[ha.eval];exact hc) (h a ha)
theorem ji_ {c:Operand} {x y:Code} {b:Bool} (hc:ev f c = .bool b) (hb:b=false) (h:WP P n ro y N R X f w):WP P n ro (.cond c x y) N R X f w:=by
 intro a ha
 subst hb
 exact Go.wpIn_cond_false (by rw[ha.eval];exact hc) (h a ha)
theorem sc_ {σ:Type} {c:Code} (I:σ→Fr→World→Prop) (μ:σ→Nat) (s:σ) (h0:I s f w)
  (round:∀ s f w,I s f w→WP P n ro c (λf' w'=>∃ s',μ s'<μ s∧I s' f' w') R X f w):WP P n ro (.loop c) N R X f w:=by
 intro a ha b k cs hro hb hr
 have key:∀ m,∀ s f w a,μ s=m→I s f w→Fits n a f →
   ∃ e a' w',Ends n N R X e a' w'∧ArrivesIn (Machine.fenced P (FW ro)) P (lone (b.atR a (.code c::.inLoop c::k)) cs w) b k cs e a' w':=by
  intro m
  induction m using Nat.strongRecOn with
  | _ m ih =>
   intro s f w a hm hI ha
   obtain⟨e,a₁,w₁,hq,harr⟩:=round s f w hI a ha b (.inLoop c::k) cs hro hb hr
   obtain⟨f₁,hf₁,hq⟩:=hq
   cases e with
   | normal =>
    obtain⟨s',hlt,hI'⟩:=hq
    obtain⟨e₂,a₂,w₂,hq₂,harr₂⟩:=ih (μ s') (hm ▸ hlt) s' f₁ w₁ a₁ rfl hI' hf₁
    exact⟨e₂,a₂,w₂,hq₂,.of_steps (StepsIn.trans harr (.one (fenced_calm hb hr rfl) stepR_inLoop)) harr₂⟩
   | exit id=>exact⟨_,a₁,w₁,⟨f₁,hf₁,hq⟩,.pass (x:=.inLoop c) rfl (λ_ _=>.inl (by simp)) harr⟩
   | goto l=>exact hq.elim
   | ret=>exact⟨_,a₁,w₁,⟨f₁,hf₁,hq⟩,.pass (x:=.inLoop c) rfl (λ_ _=>.inl (by simp)) harr⟩
   | panic ch=>exact hq.elim
   | outgrown=>exact hq.elim
 obtain⟨e,a',w',hq,harr⟩:=key _ s f w a rfl h0 ha
 exact⟨e,a',w',hq,.of_steps (.one (fenced_calm hb hr rfl) stepR_loop) harr⟩
end code
def forN {σ ρ:Type} (body:Nat→σ→Option (σ⊕ρ)):Nat→Nat→σ→Option (σ⊕ρ)
 | 0,_,s=>some (.inl s)
 | k+1,i,s =>
  match body i s with
  | none=>none
  | some (.inl s')=>forN body k (i+1) s'
  | some (.inr r)=>some (.inr r)
def fk_ {σ ρ:Type} (body:σ→Option (σ⊕ρ)):Nat→σ→Option ρ
 | 0,_=>none
 | k+1,s =>
  match body s with
  | none=>none
  | some (.inl s')=>fk_ body k s'
  | some (.inr r)=>some r
theorem uc_ {σ ρ:Type} {body:σ→Option (σ⊕ρ)} {r:ρ}:∀ {k m:Nat} {s:σ},fk_ body k s=some r→k≤m→fk_ body m s=some r
 | 0,_,_,h,_=>by simp[fk_] at h
 | k+1,0,_,_,hm=>by omega
 | k+1,m+1,s,h,hm=>by
  unfold fk_ at h ⊢
  cases hb:body s with
  | none=>rw[hb] at h;cases h
  | some o=>cases o with
   | inl s'=>rw[hb] at h;exact uc_ (k:=k) (m:=m) h (by omega)
   | inr r'=>rw[hb] at h;exact h
theorem ap2 {σ ρ:Type} {body:σ→Option (σ⊕ρ)} {r r':ρ} {k m:Nat} {s:σ} (h:fk_ body k s=some r) (h':fk_ body m s=some r'):r=r':=by
 have a:=uc_ h (Nat.le_max_left k m)
 have b:=uc_ h' (Nat.le_max_right k m)
 rw[a] at b
 exact a6_ b
noncomputable def af_ {σ ρ:Type} (body:σ→Option (σ⊕ρ)) (s:σ):Option ρ :=
 @dite _ (∃ k r,fk_ body k s=some r) (Classical.propDecidable _) (λh=>some (Classical.choose (i7_ h))) (λ_=>none)
theorem ho_ {σ ρ:Type} {body:σ→Option (σ⊕ρ)} {s:σ} {r:ρ}:af_ body s=some r↔∃ k,fk_ body k s=some r:=by
 unfold af_
 constructor
 ·intro h
  split at h
  ·rename_i hex
   have hs:=i7_ (i7_ hex)
   rw[a6_ h] at hs
   exact⟨_,hs⟩
  ·cases h
 ·rintro⟨k,hk⟩
  have hex:∃ k r,fk_ body k s=some r:=⟨k,r,hk⟩
  rw[dif_pos hex]
  exact congrArg some (ap2 (i7_ (i7_ hex)) hk)
theorem ak9 {σ ρ:Type} (body:σ→Option (σ⊕ρ)) (s:σ) :
  af_ body s=match body s with | none=>none | some (.inl s')=>af_ body s' | some (.inr r)=>some r:=by
 apply Option.ext
 intro r
 rw[ho_]
 constructor
 ·rintro⟨k,hk⟩
  cases k with
  | zero=>simp[fk_] at hk
  | succ k =>
   unfold fk_ at hk
   cases hb:body s with
   | none=>rw[hb] at hk;cases hk
   | some o=>cases o with
    | inl s'=>rw[hb] at hk;exact ho_.2 ⟨k,hk⟩
    | inr r'=>rw[hb] at hk;exact hk
 ·intro h
  cases hb:body s with
  | none=>rw[hb] at h;cases h
  | some o=>cases o with
   | inl s' =>
    rw[hb] at h
    obtain⟨k,hk⟩:=ho_.1 h
    exact⟨k+1,by unfold fk_;rw[hb];exact hk⟩
   | inr r'=>rw[hb] at h;exact⟨1,by unfold fk_;rw[hb];exact h⟩
section loops
variable {P:Program} {n:Nat} {N R:Fr→World→Prop} {X:Nat→Fr→World→Prop} {f:Fr} {w:World}
theorem wp_forN {σ ρ:Type} {c:Code} {body:Nat→σ→Option (σ⊕ρ)} {k:Nat} {s0:σ} {out:σ⊕ρ} (I:Nat→σ→Fr→World→Prop)
  (hrun:forN body k 0 s0=some out) (h0:I 0 s0 f w)
  (round:∀ i s f w o,i<k→I i s f w→body i s=some o→(∀ r,o = .inr r→out = .inr r) →
   WP P n ro c (λf' w'=>∃ s',o = .inl s'∧I (i+1) s' f' w') R X f w)
  (last:∀ s f w,out = .inl s→I k s f w→WP P n ro c (λ_ _=>False) R X f w):WP P n ro (.loop c) N R X f w:=by
 refine sc_ (σ:=Nat×Nat×σ) (λg f w=>g.1+g.2.1=k+1∧1≤g.1∧I g.2.1 g.2.2 f w∧forN body (g.1 - 1) g.2.1 g.2.2=some out) (λg=>g.1) (k+1,0,s0) ⟨by simp,by simp,h0,hrun⟩ ?_
 rintro⟨m,i,s⟩ f w ⟨hm,hm1,hI,hr⟩
 simp only at hm hm1 hI hr
 cases m with
 | zero=>omega
 | succ m =>
  cases m with
  | zero =>
   simp only[b0_,l2_,forN] at hr
   have:i=k:=by omega
   subst this
   exact (last s f w (a6_ hr).symm hI).mono (λ_ _ h=>h.elim) (λ_ _ h=>h) (λ_ _ _ h=>h)
  | succ m =>
   simp only[Nat.add_sub_cancel,forN] at hr
   cases hb:body i s with
   | none=>rw[hb] at hr;cases hr
   | some o =>
    rw[hb] at hr
    refine (round i s f w o (by omega) hI hb ?_).mono ?_ (λ_ _ h=>h) (λ_ _ _ h=>h)
    ·rintro r rfl
     exact (a6_ hr).symm
    ·rintro f' w' ⟨s',rfl,hI'⟩
     exact⟨(m+1,i+1,s'),by simp,by simp;omega,by simp,hI',by simpa using hr⟩
theorem ak8 {σ ρ:Type} {c:Code} {body:σ→Option (σ⊕ρ)} {s0:σ} {out:ρ} (I:σ→Fr→World→Prop)
  (hrun:af_ body s0=some out) (h0:I s0 f w)
  (round:∀ s f w o,I s f w→body s=some o→(∀ r,o = .inr r→out=r) →
   WP P n ro c (λf' w'=>∃ s',o = .inl s'∧I s' f' w') R X f w):WP P n ro (.loop c) N R X f w:=by
 obtain⟨k,hk⟩:=ho_.1 hrun
 refine sc_ (σ:=Nat×σ) (λg f w=>I g.2 f w∧fk_ body g.1 g.2=some out) (λg=>g.1) (k,s0) ⟨h0,hk⟩ ?_
 rintro⟨m,s⟩ f w ⟨hI,hr⟩
 simp only at hI hr
 cases m with
 | zero=>simp[fk_] at hr
 | succ m =>
  unfold fk_ at hr
  cases hb:body s with
  | none=>rw[hb] at hr;cases hr
  | some o =>
   rw[hb] at hr
   refine (round s f w o hI hb ?_).mono ?_ (λ_ _ h=>h) (λ_ _ _ h=>h)
   ·rintro r rfl
    exact (a6_ hr).symm
   ·rintro f' w' ⟨s',rfl,hI'⟩
    exact⟨(m,s'),by simp,hI',hr⟩
end loops
end
section
abbrev Hp:=Nat→Option Obj
namespace Hp
def emp:Hp:=λ_=>none
def one (g:Nat) (o:Obj):Hp:=λb=>if b=g then some o else none
def un (h k:Hp):Hp:=λb=>(h b).or (k b)
def Le (h k:Hp):Prop:=∀ b o,h b=some o→k b=some o
def Disj (h k:Hp):Prop:=∀ b,h b=none∨k b=none
def In (h:Hp) (w:World):Prop:=∀ b o,h b=some o→w.heap[b]?=some o
theorem Le.refl (h:Hp):h.Le h:=λ_ _ e=>e
theorem Le.trans {a b c:Hp} (h:a.Le b) (k:b.Le c):a.Le c:=λx o e=>k x o (h x o e)
theorem le_un_left (h k:Hp):h.Le (un h k):=λb o e=>by simp[un,e]
theorem le_un_right {h k:Hp} (d:Disj h k):k.Le (un h k):=λb o e=>by
 rcases d b with hn | hn
 ·simp[un,hn,e]
 ·rw[hn] at e;cases e
theorem un_le {h k m:Hp} (a:h.Le m) (b:k.Le m):(un h k).Le m:=λx o e=>by
 unfold un at e
 cases hh:h x with
 | none=>rw[hh] at e;exact b x o (by simpa using e)
 | some y=>rw[hh] at e;simp at e;subst e;exact a x y hh
theorem Disj.symm {h k:Hp} (d:Disj h k):Disj k h:=λb=>(d b).symm
theorem Disj.mono {h k h' k':Hp} (d:Disj h k) (a:h'.Le h) (b:k'.Le k):Disj h' k':=λx=>by
 rcases d x with e | e
 ·left
  cases hx:h' x with
  | none=>rfl
  | some o=>rw[a x o hx] at e;cases e
 ·right
  cases hx:k' x with
  | none=>rfl
  | some o=>rw[b x o hx] at e;cases e
theorem Disj.un {h k m:Hp} (a:Disj h m) (b:Disj k m):Disj (Hp.un h k) m:=λx=>by
 rcases a x with e | e
 ·rcases b x with e' | e'
  ·left;simp[Hp.un,e,e']
  ·exact .inr e'
 ·exact .inr e
theorem un_comm {h k:Hp} (d:Disj h k):un h k=un k h:=by
 funext b
 rcases d b with e | e<;>simp[un,e]
theorem un_assoc (a b c:Hp):un (un a b) c=un a (un b c):=by
 funext x
 simp[un,Option.or_assoc]
theorem In.mono {h k:Hp} {w:World} (a:h.Le k) (i:k.In w):h.In w:=λb o e=>i b o (a b o e)
end Hp
structure PH where
 m:Hp
 os:Os
 out:Array (Nat×ByteArray)
structure PH.Le (S T:PH):Prop where
 m:S.m.Le T.m
 os:T.os=S.os
 out:T.out=S.out
theorem PH.Le.refl (S:PH):S.Le S:=⟨Hp.Le.refl _,rfl,rfl⟩
theorem PH.Le.trans {S T U:PH} (a:S.Le T) (b:T.Le U):S.Le U:=⟨a.m.trans b.m,b.os.trans a.os,b.out.trans a.out⟩
structure HP where
 p:PH→Hp→Prop
 mono:∀ {S T:PH} {h:Hp},S.Le T→p S h→p T h
def HP.exact (h:Hp):HP:=⟨λ_ k=>k=h,λ_ e=>e⟩
def Own (w:World) (S:PH):Hp→List HP→Prop
 | U,[]=>U.In w
 | U,A::O=>∃ h,A.p S h∧Hp.Disj h U∧Own w S (Hp.un h U) O
structure Inv (w:World) (S:PH) (O:List HP):Prop where
 os:w.os=S.os
 out:w.output=S.out
 own:Own w S S.m O
theorem Own.antitone {w:World} {S:PH}:∀ {O:List HP} {U V:Hp},V.Le U→Own w S U O→Own w S V O
 | [],_,_,hle,h=>Hp.In.mono hle h
 | A::O,U,V,hle,⟨h,hA,hd,hr⟩=>⟨h,hA,hd.mono (Hp.Le.refl _) hle,Own.antitone (Hp.un_le (Hp.le_un_left _ _) ((hle.trans (Hp.le_un_right hd)))) hr⟩
theorem Own.in_ {w:World} {S:PH}:∀ {O:List HP} {U:Hp},Own w S U O→U.In w
 | [],_,h=>h
 | _::_,_,⟨_,_,hd,hr⟩=>Hp.In.mono (Hp.le_un_right hd) (Own.in_ hr)
theorem Own.upS {w:World} {S T:PH} (hst:S.Le T):∀ {O:List HP} {U:Hp},Own w S U O→Own w T U O
 | [],_,h=>h
 | A::O,U,⟨h,hA,hd,hr⟩=>⟨h,A.mono hst hA,hd,Own.upS hst hr⟩
theorem Own.swap {w:World} {S:PH} {A B:HP} {O:List HP} {U:Hp}:Own w S U (A::B::O)→Own w S U (B::A::O):=by
 rintro⟨h,hA,hd,k,hB,hd',hr⟩
 have dk:Hp.Disj k h:=hd'.mono (Hp.Le.refl _) (Hp.le_un_left _ _)
 have du:Hp.Disj k U:=hd'.mono (Hp.Le.refl _) (Hp.le_un_right hd)
 refine⟨k,hB,du,h,hA,?_,?_⟩
 ·exact Hp.Disj.symm (Hp.Disj.un dk hd.symm)
 ·rw[← Hp.un_assoc,Hp.un_comm dk.symm,Hp.un_assoc]
  exact hr
theorem Own.cons_congr {w:World} {S:PH} {A:HP} {O O':List HP} (h:∀ U,Own w S U O→Own w S U O') {U:Hp}:Own w S U (A::O)→Own w S U (A::O'):=by
 rintro⟨k,hA,hd,hr⟩
 exact⟨k,hA,hd,h _ hr⟩
theorem Own.perm {w:World} {S:PH} {O O':List HP} (hp:O.Perm O'):∀ U,Own w S U O→Own w S U O':=by
 induction hp with
 | nil=>exact λ_ h=>h
 | cons A _ ih=>exact λU h=>Own.cons_congr ih h
 | swap A B l=>exact λU h=>Own.swap h
 | trans _ _ a b=>exact λU h=>b U (a U h)
section
variable {w w':World} {S T:PH} {O O':List HP} {A B:HP}
theorem Inv.perm (h:Inv w S O) (hp:O.Perm O'):Inv w S O':=⟨h.os,h.out,Own.perm hp _ h.own⟩
theorem Inv.swap (h:Inv w S (A::B::O)):Inv w S (B::A::O):=⟨h.os,h.out,Own.swap h.own⟩
theorem Inv.in_ (h:Inv w S O):S.m.In w:=Own.in_ h.own
theorem Inv.drop (h:Inv w S (A::O)):Inv w S O:=by
 obtain⟨k,_,hd,hr⟩:=h.own
 exact⟨h.os,h.out,Own.antitone (Hp.le_un_right hd) hr⟩
theorem Inv.drops:∀ {l:List HP},Inv w S (l++O)→Inv w S O
 | [],h=>h
 | _::_,h=>Inv.drops (Inv.drop h)
theorem Own.exactly {w:World} {S:PH}:∀ {O:List HP} {U:Hp},Own w S U O →
  ∃ hs:List Hp,Own w S U (hs.map HP.exact)∧(∀ w' S' V,Own w' S' V (hs.map HP.exact)→Own w' S V O)
 | [],U,h=>⟨[],h,λ_ _ _ h=>h⟩
 | A::O,U,⟨h,hA,hd,hr⟩=>by
  obtain⟨hs,h1,h2⟩:=Own.exactly hr
  refine⟨h::hs,⟨h,rfl,hd,h1⟩,?_⟩
  rintro w' S' V ⟨k,rfl,hd',hr'⟩
  exact⟨_,hA,hd',h2 _ _ _ hr'⟩
theorem Inv.exactly (h:Inv w S O):∃ Fr:List HP,Inv w S Fr∧∀ {w' T},Inv w' T Fr→S.Le T→Inv w' S O:=by
 obtain⟨hs,h1,h2⟩:=Own.exactly h.own
 refine⟨hs.map HP.exact,⟨h.os,h.out,h1⟩,λ{w' T} h' hst=>⟨h'.os.trans hst.os,h'.out.trans hst.out,?_⟩⟩
 exact Own.antitone hst.m (h2 _ _ _ h'.own)
theorem Inv.freeze (h:Inv w S (A::O)):∃ T k,S.Le T∧Inv w T O∧A.p S k∧k.Le T.m:=by
 obtain⟨k,hA,hd,hr⟩:=h.own
 have hle:S.Le ⟨Hp.un k S.m,S.os,S.out⟩:=⟨Hp.le_un_right hd,rfl,rfl⟩
 exact⟨⟨Hp.un k S.m,S.os,S.out⟩,k,hle,⟨h.os,h.out,Own.upS hle hr⟩,hA,Hp.le_un_left _ _⟩
def HP.Free (A:HP):Prop:=∀ S T h,A.p S h→A.p T h
theorem Own.world (hh:∀ (b:Nat) (o:Obj),w.heap[b]?=some o→w'.heap[b]?=some o):∀ {O:List HP} {U:Hp},Own w S U O→Own w' S U O
 | [],_,h=>λb o e=>hh b o (h b o e)
 | A::O,U,⟨k,hA,hd,hr⟩=>⟨k,hA,hd,Own.world hh hr⟩
theorem Inv.world (h:Inv w S O) (hos:w'.os=w.os) (hout:w'.output=w.output) (hh:∀ (b:Nat) (o:Obj),w.heap[b]?=some o→w'.heap[b]?=some o):Inv w' S O :=
 ⟨hos.trans h.os,hout.trans h.out,Own.world hh h.own⟩
theorem Inv.drew (h:Inv w S O):Inv w.drew S O:=h.world rfl rfl λ_ _ e=>e
theorem Own.lt:∀ {O:List HP} {U:Hp},Own w S U O→∀ b o,U b=some o→b<w.heap.size:=by
 intro O U h b o e
 have:=Own.in_ h b o e
 exact (i2_.1 this).1
theorem Own.new {o:Obj} (hw:w'=w.alloc o):∀ {O:List HP} {U:Hp},Own w S U O→Hp.Disj (Hp.one w.heap.size o) U∧Own w' S (Hp.un (Hp.one w.heap.size o) U) O
 | [],U,h=>by
  have hd:Hp.Disj (Hp.one w.heap.size o) U:=λb=>by
   by_cases e:b=w.heap.size
   ·right
    cases hu:U b with
    | none=>rfl
    | some x=>have:=Own.lt (O:=[]) h b x hu;omega
   ·left;simp[Hp.one,e]
  refine⟨hd,?_⟩
  intro b x e
  subst hw
  unfold Hp.un Hp.one at e
  by_cases hb:b=w.heap.size
  ·subst hb
   simp at e
   subst e
   exact heap_alloc_new w o
  ·simp[hb] at e
   have:=h b x e
   rw[heap_alloc_old w o b (i2_.1 this).1]
   exact this
 | A::O,U,⟨k,hA,hd,hr⟩=>by
  obtain⟨hd',hr'⟩:=Own.new hw hr
  have d1:Hp.Disj (Hp.one w.heap.size o) k:=hd'.mono (Hp.Le.refl _) (Hp.le_un_left _ _)
  have d2:Hp.Disj (Hp.one w.heap.size o) U:=hd'.mono (Hp.Le.refl _) (Hp.le_un_right hd)
  refine⟨d2,k,hA,Hp.Disj.symm (Hp.Disj.un d1 hd.symm),?_⟩
  rw[← Hp.un_assoc,Hp.un_comm d1.symm,Hp.un_assoc]
  exact hr'
theorem Inv.new (h:Inv w S O) (o:Obj):Inv (w.alloc o) S (HP.exact (Hp.one w.heap.size o)::O):=by
 obtain⟨hd,hr⟩:=Own.new (w':=w.alloc o) rfl h.own
 exact⟨h.os,h.out,_,rfl,hd,hr⟩
theorem Own.turn {k k':Hp} (hdom:∀ b,k b=none↔k' b=none) (hw:∀ b,k b=none→w'.heap[b]?=w.heap[b]?) (hin:k'.In w') :
  ∀ {O:List HP} {U:Hp},Hp.Disj k U→Own w S (Hp.un k U) O→Own w' S (Hp.un k' U) O
 | [],U,hd,h=>by
  intro b o e
  unfold Hp.un at e
  cases hk:k' b with
  | some x=>rw[hk] at e;simp at e;subst e;exact hin b x hk
  | none =>
   rw[hk] at e
   simp at e
   rw[hw b ((hdom b).2 hk)]
   exact h b o (Hp.le_un_right hd b o e)
 | A::O,U,hd,⟨m,hA,hd',hr⟩=>by
  have d1:Hp.Disj m k:=hd'.mono (Hp.Le.refl _) (Hp.le_un_left _ _)
  have d2:Hp.Disj m U:=hd'.mono (Hp.Le.refl _) (Hp.le_un_right hd)
  have d1':Hp.Disj m k':=λb=>by
   rcases d1 b with e | e
   ·exact .inl e
   ·exact .inr ((hdom b).1 e)
  have ddu:Hp.Disj k' U:=λb=>by
   rcases hd b with e | e
   ·exact .inl ((hdom b).1 e)
   ·exact .inr e
  refine⟨m,hA,Hp.Disj.symm (Hp.Disj.un d1'.symm d2.symm),?_⟩
  have hr':Own w S (Hp.un k (Hp.un m U)) O:=by
   rw[← Hp.un_assoc,Hp.un_comm d1.symm,Hp.un_assoc]
   exact hr
  have:=Own.turn hdom hw hin (U:=Hp.un m U) (Hp.Disj.symm (Hp.Disj.un d1 hd.symm)) hr'
  rw[← Hp.un_assoc,Hp.un_comm d1',Hp.un_assoc]
  exact this
theorem Inv.turn {k k':Hp} (h:Inv w S (HP.exact k::O)) (hos:w'.os=w.os) (hout:w'.output=w.output)
  (hdom:∀ b,k b=none↔k' b=none) (hw:∀ b,k b=none→w'.heap[b]?=w.heap[b]?) (hin:k'.In w'):Inv w' S (HP.exact k'::O):=by
 obtain⟨m,rfl,hd,hr⟩:=h.own
 refine⟨hos.trans h.os,hout.trans h.out,k',rfl,λb => ?_,Own.turn hdom hw hin hd hr⟩
 rcases hd b with e | e
 ·exact .inl ((hdom b).1 e)
 ·exact .inr e
theorem Inv.open_ (h:Inv w S (A::O)):∃ k,A.p S k∧Inv w S (HP.exact k::O):=by
 obtain⟨k,hA,hd,hr⟩:=h.own
 exact⟨k,hA,h.os,h.out,k,rfl,hd,hr⟩
theorem Inv.shut {k:Hp} (h:Inv w S (HP.exact k::O)) (hA:A.p S k):Inv w S (A::O):=by
 obtain⟨m,rfl,hd,hr⟩:=h.own
 exact⟨h.os,h.out,_,hA,hd,hr⟩
theorem Inv.front {k:Hp} (h:Inv w S (HP.exact k::O)):k.In w:=by
 obtain⟨m,rfl,hd,hr⟩:=h.own
 exact Hp.In.mono (Hp.le_un_left _ _) (Own.in_ hr)
end
def lu_ (g:Nat) (T:TypeId) (cs:Array Value):HP:=HP.exact (Hp.one g (.cells cs T (0,0)))
section
variable {w:World} {S:PH} {O:List HP} {g:Nat} {T:TypeId} {cs cs':Array Value}
theorem Inv.blk (h:Inv w S (lu_ g T cs::O)):w.heap[g]?=some (.cells cs T (0,0)):=Inv.front h g _ (by simp[Hp.one])
theorem Inv.cell (h:Inv w S (lu_ g T cs::O)) (i:Nat):w.cell? ⟨g,i,none⟩=cs[i]?:=cell_of_row w g i cs T (0,0) h.blk
theorem Inv.setRow (h:Inv w S (lu_ g T cs::O)):Inv (w.setRow g cs') S (lu_ g T cs'::O):=by
 have hb:=h.blk
 refine Inv.turn (w:=w) h rfl rfl (λb => ?_) (λb hn => ?_) (λb o e => ?_)
 ·by_cases e:b=g<;>simp[Hp.one,e]
 ·have hne:b≠g:=by rintro rfl;simp[Hp.one] at hn
  exact setRow_other w g b cs' hne
 ·unfold Hp.one at e
  by_cases hbg:b=g
  ·subst hbg
   simp at e
   subst e
   exact setRow_heap w b cs cs' T (0,0) hb
  ·simp[hbg] at e
theorem Inv.alloc (h:Inv w S O) (T:TypeId) (cs:Array Value):Inv (w.alloc (.cells cs T)) S (lu_ w.heap.size T cs::O):=h.new _
end
end
section
variable {ro:Option Nat}
def PH.cell (S:PH) (a:Addr):Option Value :=
 match S.m a.block with
 | some (.cells c _ _)=>if a.spot.isSome then none else c[a.off]?
 | _=>none
theorem PH.cell_in {S:PH} {w:World} (h:S.m.In w) {a:Addr} {u:Value} (hc:S.cell a=some u):w.cell? a=some u:=by
 unfold PH.cell at hc
 cases hm:S.m a.block with
 | none=>rw[hm] at hc;cases hc
 | some o =>
  rw[hm] at hc
  have:=h _ _ hm
  unfold World.cell?
  rw[this]
  cases o<;>first | exact hc | cases hc
theorem PH.cell_le {S T:PH} (h:S.Le T) {a:Addr} {u:Value} (hc:S.cell a=some u):T.cell a=some u:=by
 unfold PH.cell at hc ⊢
 cases hm:S.m a.block with
 | none=>rw[hm] at hc;cases hc
 | some o=>rw[hm] at hc;rw[h.m _ _ hm];exact hc
class Enc (α:Type) where
 agg:Bool
 sz:Nat
 rep:PH→List Value→α→Prop
 len:∀ {S cs x},rep S cs x→cs.length=sz
 one:agg=false→sz=1
 cell1:∀ {S cs x},rep S cs x→∀ v ∈ cs,v.oneCell'=true
 mono:∀ {S T cs x},S.Le T→rep S cs x→rep T cs x
def mkV:Bool→List Value→Value
 | true,cs=>.agg cs.toArray
 | false,cs=>cs.headD undef
def RV {α:Type} [Enc α] (S:PH) (v:Value) (x:α):Prop:=∃ cs,Enc.rep S cs x∧v=mkV (Enc.agg α) cs
theorem RV.mono {α:Type} [Enc α] {S T:PH} {v:Value} {x:α} (h:RV S v x) (hle:S.Le T):RV T v x:=by
 obtain⟨cs,hr,hv⟩:=h
 exact⟨cs,Enc.mono hle hr,hv⟩
theorem RV.cells {α:Type} [Enc α] {S:PH} {v:Value} {x:α} (h:RV S v x):Enc.rep S v.cells.toList x:=by
 obtain⟨cs,hr,rfl⟩:=h
 cases ha:Enc.agg α with
 | true=>simpa [mkV,Value.cells] using hr
 | false =>
  have h1:=Enc.len hr
  rw[Enc.one ha] at h1
  match cs,h1 with
  | [c],_ =>
   have:=Enc.cell1 hr c (by simp)
   have e:(mkV false [c]).cells = #[c]:=by
    simp only[mkV,List.headD]
    cases c<;>first | rfl | (simp[Value.oneCell'] at this)
   rw[e]
   simpa using hr
instance :Enc Int where
 agg:=false
 sz:=1
 rep _ cs n:=cs=[.int .i64 n]
 len h:=by rw[h];rfl
 one _:=rfl
 cell1 h:=by intro v hv;rw[h] at hv;simp at hv;subst hv;rfl
 mono _ h:=h
instance :Enc Bool where
 agg:=false
 sz:=1
 rep _ cs b:=cs=[.bool b]
 len h:=by rw[h];rfl
 one _:=rfl
 cell1 h:=by intro v hv;rw[h] at hv;simp at hv;subst hv;rfl
 mono _ h:=h
theorem nb_ {S:PH} {v:Value} {n:Int} (h:RV S v n):v = .int .i64 n:=by
 obtain⟨cs,hr,rfl⟩:=h
 have hr:cs=[.int .i64 n]:=hr
 subst hr
 rfl
theorem at9 {S:PH} {v:Value} {n:Bool} (h:RV S v n):v = .bool n:=by
 obtain⟨cs,hr,rfl⟩:=h
 have hr:cs=[.bool n]:=hr
 subst hr
 rfl
theorem bp6 {S:PH} (n:Int):RV S (.int .i64 n) n:=⟨[.int .i64 n],rfl,rfl⟩
theorem ae2 {S:PH} (n:Bool):RV S (.bool n) n:=⟨[.bool n],rfl,rfl⟩
def RowAt {α:Type} [Enc α] (cell:Addr→Option Value) (S:PH) (ad:Addr) (l:List α):Prop :=
 ∀ i x,l[i]?=some x→∃ es,Enc.rep S es x∧∀ j u,es[j]?=some u→cell (ad.add (i * Enc.sz α+j))=some u
instance instEncList {α:Type} [Enc α]:Enc (List α) where
 agg:=false
 sz:=1
 rep S cs l:=∃ a cap,cs=[.slice a l.length cap]∧l.length≤cap∧cap≤maxLen∧(a=none→l=[]∧cap=0)∧∀ ad,a=some ad→RowAt S.cell S ad l
 len h:=by obtain⟨a,cap,e,_⟩:=h;rw[e];rfl
 one _:=rfl
 cell1 h:=by obtain⟨a,cap,e,_⟩:=h;intro v hv;rw[e] at hv;simp at hv;subst hv;rfl
 mono hle h:=by
  obtain⟨a,cap,e,hl,hm,hn,hr⟩:=h
  refine⟨a,cap,e,hl,hm,hn,λad ha i x hx => ?_⟩
  obtain⟨es,h1,h2⟩:=hr ad ha i x hx
  exact⟨es,Enc.mono hle h1,λj u hu=>PH.cell_le hle (h2 j u hu)⟩
theorem iw_ {α:Type} [Enc α] {S:PH} {v:Value} {l:List α} (h:RV S v l) :
  ∃ a cap,v = .slice a l.length cap∧l.length≤cap∧cap≤maxLen∧(a=none→l=[]∧cap=0)∧∀ ad,a=some ad→RowAt S.cell S ad l:=by
 obtain⟨cs,⟨a,cap,rfl,h⟩,rfl⟩:=h
 exact⟨a,cap,rfl,h⟩
theorem wd_ {α:Type} [Enc α] {S:PH} {l:List α} {a:Option Addr} {cap:Nat} (h:l.length≤cap∧cap≤maxLen∧(a=none→l=[]∧cap=0)∧∀ ad,a=some ad→RowAt S.cell S ad l) :
  RV S (.slice a l.length cap) l:=⟨_,⟨a,cap,rfl,h⟩,rfl⟩
theorem cs6 {α:Type} [Enc α] {S:PH}:RV S (.slice none 0 0) ([]:List α) :=
 wd_ (l:=([]:List α)) ⟨c3_ _,by simp[maxLen],λ_=>⟨rfl,rfl⟩,λ_ h=>by cases h⟩
instance instEncProd {α β:Type} [Enc α] [Enc β]:Enc (α×β) where
 agg:=true
 sz:=Enc.sz α+Enc.sz β
 rep S cs x:=∃ a b,cs=a++b∧Enc.rep S a x.1∧Enc.rep S b x.2
 len h:=by obtain⟨a,b,rfl,h1,h2⟩:=h;rw[a9_,Enc.len h1,Enc.len h2]
 one h:=by cases h
 cell1 h:=by
  obtain⟨a,b,rfl,h1,h2⟩:=h
  intro v hv
  rcases b5_.1 hv with h | h
  ·exact Enc.cell1 h1 v h
  ·exact Enc.cell1 h2 v h
 mono hle h:=by
  obtain⟨a,b,e,h1,h2⟩:=h
  exact⟨a,b,e,Enc.mono hle h1,Enc.mono hle h2⟩
@[reducible] def encBy {σ τ:Type} [Enc τ] (f:σ→τ):Enc σ where
 agg:=true
 sz:=Enc.sz τ
 rep S cs x:=Enc.rep S cs (f x)
 len h:=Enc.len h
 one h:=by cases h
 cell1 h:=Enc.cell1 h
 mono hle h:=Enc.mono hle h
theorem ez_ (a:Addr) (i j:Nat):(a.add i).add j=a.add (i+j):=by
 unfold Addr.add
 by_cases hi:i=0<;>by_cases hj:j=0<;>simp[hi,hj,Nat.add_assoc]
def PtT {α:Type} [Enc α] (w:World) (S:PH) (p:Value) (x:α):Prop :=
 ∃ a cs,p = .pointer (some a)∧Enc.rep S cs x∧∀ j u,cs[j]?=some u→w.cell? (a.add j)=some u
def ay_ (p:Value) (off:Nat):Value:=match p with
 | .pointer (some a)=>.pointer (some (a.add off))
 | v=>v
def cr_ (v:Value) (i:Int) (sz:Nat):Value:=match v with
 | .slice (some a) _ _=>.pointer (some (a.add (i.toNat * sz)))
 | v=>v
def at? {α:Type} (l:List α) (i:Int):Option α:=if 0≤i then l[i.toNat]? else none
theorem dg_ {α:Type} {l:List α} {i:Int} {x:α} (h:at? l i=some x):0≤i∧i.toNat<l.length∧l[i.toNat]?=some x:=by
 unfold at? at h
 split at h
 ·exact⟨‹_›,(a4_.1 h).1,h⟩
 ·cases h
theorem ay4 {α:Type} (l:List α) (i:Nat):at? l (i:Int)=l[i]?:=by
 unfold at?
 rw[if_pos (by omega),c1_]
theorem RV.elem {α:Type} [Enc α] {S:PH} {v:Value} {l:List α} (h:RV S v l) {w:World} (hin:S.m.In w) {i:Int} {x:α} (hx:at? l i=some x):PtT w S (cr_ v i (Enc.sz α)) x:=by
 obtain⟨a,cap,rfl,hl,hm,hn,hr⟩:=iw_ h
 obtain⟨h0,hlt,hx⟩:=dg_ hx
 cases a with
 | none=>rw[(hn rfl).1] at hlt;simp at hlt
 | some ad =>
  obtain⟨es,h1,h2⟩:=hr ad rfl _ _ hx
  refine⟨_,es,rfl,h1,λj u hu => ?_⟩
  rw[ez_]
  exact PH.cell_in hin (h2 j u hu)
def OP (P:Program) (n:Nat) (ro:Option Nat) (o:Oper) (f:Fr) (w:World) (K:Fr→World→Prop):Prop :=
 ∀ a,Fits n a f→∀ Q,o.wpIn (FW ro) 0 P a w (λa' w'=>∃ f',Fits n a' f'∧K f' w') Q
theorem qg_ {P:Program} {o:Oper} {e:Operand→Value} {w w':World} {x:Next} (h:(execOp e o).run P w = .ok x w') (hx:∀ d,x≠.defer d):(o.semAt ro e).run P w = .ok x w':=by
 rw[Oper.semAt_eq]
 ·exact h
 ·intro c hc
  obtain⟨d,op,ty,pos,af,gd⟩:=o
  simp only at hc
  subst hc
  simp only[execOp,Sem.run_bind] at h
  cases hq:(resolve e c ty).run P w with
  | halt y w''=>rw[hq] at h;cases h
  | ok y w'' =>
   rw[hq] at h
   simp only[Result.andThen_ok,Sem.run_pure] at h
   injection h with h1 h2
   exact hx _ h1.symm
section
variable {P:Program} {n:Nat} {o:Oper} {f:Fr} {w w':World} {K:Fr→World→Prop} {v:Value}
theorem OP.mono {K':Fr→World→Prop} (h:OP P n ro o f w K) (hk:∀ f w,K f w→K' f w):OP P n ro o f w K':=λa ha Q =>
 Oper.wpIn_mono (λa w ⟨f',hf,hk'⟩=>⟨f',hf,hk _ _ hk'⟩) (h a ha Q)
theorem cy_ {d:Nat} {op:Op} {ty:TypeId} {pos:String} {af:Array Edge} {gd:Option (Nat×Bool)} (hd:Nat.blt d n=true)
  (h:(execOp (ev f) ⟨some d,op,ty,pos,af,gd⟩).run P w = .ok (.value v) w') (k:K (upd f d v) w'):OP P n ro ⟨some d,op,ty,pos,af,gd⟩ f w K:=by
 intro a ha Q
 refine⟨λ_ _=>trivial,?_⟩
 rw[ha.eval,qg_ h (λ_ e=>by cases e)]
 exact⟨_,ha.put hd v,k⟩
theorem af7 {op:Op} {ty:TypeId} {pos:String} {af:Array Edge} {gd:Option (Nat×Bool)}
  (h:(execOp (ev f) ⟨none,op,ty,pos,af,gd⟩).run P w = .ok .skip w') (k:K f w'):OP P n ro ⟨none,op,ty,pos,af,gd⟩ f w K:=by
 intro a ha Q
 refine⟨λ_ _=>trivial,?_⟩
 rw[ha.eval,qg_ h (λ_ e=>by cases e)]
 exact⟨f,ha,k⟩
end
def WL (P:Program) (n:Nat) (ro:Option Nat) (ops:Array Oper) (N:Fr→World→Prop) (rest:List Oper) (f:Fr) (w:World):Prop :=
 ∀ (R:Fr→World→Prop) (X:Nat→Fr→World→Prop) a,Fits n a f→wpListIn (FW ro) 0 P ops (Ends n N R X) rest a w
section
variable {P:Program} {n:Nat} {ops:Array Oper} {N R:Fr→World→Prop} {X:Nat→Fr→World→Prop} {rest:List Oper} {f:Fr} {w:World}
theorem ba_ {i:Nat} {l:List Oper} (h:WL P n ro l.toArray N l f w):WP P n ro (.region i l.toArray false) N R X f w :=
 λa ha=>wpIn_region_lit (h R X a ha)
theorem dq_ (h:N f w):WL P n ro ops N [] f w:=λ_ _ _ ha=>wpListIn_nil ⟨f,ha,h⟩
theorem mq_ {o:Oper} (hg:o.guard=none) (h:OP P n ro o f w (WL P n ro ops N rest)):WL P n ro ops N (o::rest) f w:=by
 intro R X a ha
 unfold wpListIn
 rw[if_pos (by simp[Region.wanted,hg])]
 exact Oper.wpIn_mono (λa' w' ⟨f',hf,hk⟩=>hk R X a' hf) (h a ha _)
theorem se_ {a:Act} (ha:Fits n a f) {o:Oper} {j d:Nat} {b c:Bool} (hg:o.guard=some (j,b)) (hj:(ops[j]?).bind (·.dst)=some d) (hd:Nat.blt d n=true) (hv:f d = .bool c) :
  Region.wanted o (yielded ops a.tmps)=(c==b):=by
 have hlt:d<a.tmps.size:=by rw[ha.size];have:=b6_ hd;omega
 have:a.tmps[d]?=some (.bool c):=by
  have:=ha.at_ d
  rw[hv,a8_,d1_ hlt] at this
  rw[d1_ hlt]
  simpa using this
 simp[Region.wanted,hg,yielded,hj,this]
theorem ay8 {o:Oper} {j d:Nat} {b c:Bool} (hg:o.guard=some (j,b)) (hj:(ops[j]?).bind (·.dst)=some d) (hd:Nat.blt d n=true) (hv:f d = .bool c) (hc:c=b)
  (h:OP P n ro o f w (WL P n ro ops N rest)):WL P n ro ops N (o::rest) f w:=by
 intro R X a ha
 unfold wpListIn
 rw[if_pos (by rw[se_ ha hg hj hd hv];simp[hc])]
 exact Oper.wpIn_mono (λa' w' ⟨f',hf,hk⟩=>hk R X a' hf) (h a ha _)
theorem wl_skip {o:Oper} {j d:Nat} {b c:Bool} (hg:o.guard=some (j,b)) (hj:(ops[j]?).bind (·.dst)=some d) (hd:Nat.blt d n=true) (hv:f d = .bool c) (hc:c = !b) (ho:ey_ n o.dst=true)
  (h:WL P n ro ops N rest (wy_ f o.dst undef) w):WL P n ro ops N (o::rest) f w:=by
 intro R X a ha
 unfold wpListIn
 rw[if_neg (by rw[se_ ha hg hj hd hv,hc];cases b<;>simp)]
 exact⟨λ_ _=>trivial,h R X _ (ha.putO ho undef)⟩
end
end
section
variable {ro:Option Nat}
def w64 (n:Int):Int:=IntKind.i64.wrap n
theorem lw_ {n:Int} (h : -9223372036854775808≤n) (h':n≤9223372036854775807):w64 n=n:=by
 unfold w64
 rw[IntKind.wrap_i64]
 omega
def wu64 (n:Int):Int:=IntKind.u64.wrap n
def dv (a b:Int):Option Int:=if b=0 then none else some (w64 (a.tdiv b))
def md (a b:Int):Option Int:=if b=0 then none else some (a.tmod b)
theorem dv_some {a b c:Int} (h:dv a b=some c):b≠0∧c=w64 (a.tdiv b):=by
 unfold dv at h
 split at h
 ·cases h
 ·exact⟨‹_›,(a6_ h).symm⟩
theorem md_some {a b c:Int} (h:md a b=some c):b≠0∧c=a.tmod b:=by
 unfold md at h
 split at h
 ·cases h
 ·exact⟨‹_›,(a6_ h).symm⟩
def shlI (a b:Int):Int:=w64 (a * 2 ^ (min b.toNat 64))
def andI (a b:Int):Int:=w64 ((BitVec.ofInt 64 a &&& BitVec.ofInt 64 b).toNat)
def orI (a b:Int):Int:=w64 ((BitVec.ofInt 64 a ||| BitVec.ofInt 64 b).toNat)
def maxI (a b:Int):Int:=if b > a then b else a
def cm7 (a b:Int):Int:=if b<a then b else a
section
variable {P:Program} {n:Nat} {f:Fr} {w:World} {K:Fr→World→Prop} {d:Nat} {ty:TypeId} {pos:String} {af:Array Edge} {gd:Option (Nat×Bool)} {x y z:Operand} {v:Value} {T:TypeId}
theorem ns_ (hd:Nat.blt d n=true) (hv:ev f x=v) (k:K (upd f d v) w):OP P n ro ⟨some d,.move x,ty,pos,af,gd⟩ f w K :=
 cy_ hd (by simp[execOp,hv]) k
theorem pb_ (hd:Nat.blt d n=true) (hv:ev f x=v) (k:K (upd f d v) w):OP P n ro ⟨some d,.assign x,ty,pos,af,gd⟩ f w K :=
 cy_ hd (by simp[execOp,hv]) k
theorem op_pick {a b:Value} {c:Bool} (hd:Nat.blt d n=true) (hc:ev f x = .bool c) (ha:ev f y=a) (hb:ev f z=b) (k:K (upd f d (cond c a b)) w) :
  OP P n ro ⟨some d,.pick x y z,ty,pos,af,gd⟩ f w K :=
 cy_ hd (by cases c<;>simp[execOp,hc,ha,hb,asBool]) k
theorem bs8 {b:Value} {c:Bool} (hd:Nat.blt d n=true) (hc:ev f x = .bool c) (ht:c=false) (hb:ev f z=b) (k:K (upd f d b) w) :
  OP P n ro ⟨some d,.pick x y z,ty,pos,af,gd⟩ f w K :=
 op_pick hd hc rfl hb (by rw[ht];exact k)
section ints
variable {a b:Int} {t1 t2:TypeId}
theorem bt0 (hd:Nat.blt d n=true) (hx:ev f x = .int .i64 a) (hy:ev f y = .int .i64 b) (k:K (upd f d (.int .i64 (w64 (a+b)))) w):OP P n ro ⟨some d,.binOp .add t1 x y t2,ty,pos,af,gd⟩ f w K :=
 cy_ hd (by simp[execOp,hx,hy,eqGuard,binOp,Op.intArith,w64]) k
theorem aa4 {ik:IntKind} (hd:Nat.blt d n=true) (hx:ev f x = .int ik a) (hy:ev f y = .int ik b) (k:K (upd f d (.bool (decide (a<b)))) w):OP P n ro ⟨some d,.binOp .lss t1 x y t2,ty,pos,af,gd⟩ f w K :=
 cy_ hd (by simp[execOp,hx,hy,eqGuard,binOp,Op.intCmp]) k
theorem ct9 {ik:IntKind} (hd:Nat.blt d n=true) (hx:ev f x = .int ik a) (hy:ev f y = .int ik b) (k:K (upd f d (.bool (decide (b<a)))) w):OP P n ro ⟨some d,.binOp .gtr t1 x y t2,ty,pos,af,gd⟩ f w K :=
 cy_ hd (by simp[execOp,hx,hy,eqGuard,binOp,Op.intCmp]) k
theorem ct8 {src dst:TypeId} (hd:Nat.blt d n=true) (hx:ev f x = .int .i64 a) {ds:TypeDesc} (hs:P.underlying src=some ds) (ht:P.underlying dst=some (.int .u64)) (k:K (upd f d (.int .u64 (wu64 a))) w) :
  OP P n ro ⟨some d,.convert src dst x,ty,pos,af,gd⟩ f w K :=
 cy_ hd (by simp[execOp,hx,convert,run_underlying hs,run_underlying ht,Conv.intToInt,wu64]) k
end ints
theorem bp9 {a b:Bool} {t1:TypeId} (ht:P.underlying t1=some .bool):(Op.equal t1 (.bool a) (.bool b)).run P w = .ok (a==b) w:=by
 show (Op.equalIn (9999+1) t1 (.bool a) (.bool b)).run P w=_
 unfold Op.equalIn
 rw[Sem.run_bind,run_underlying ht]
 rfl
theorem aa5 {vs:Array Value} {i:Nat} (hd:Nat.blt d n=true) (hx:ev f x = .tuple vs) (hi:vs[i]?=some v) (k:K (upd f d v) w):OP P n ro ⟨some d,.extract x i,ty,pos,af,gd⟩ f w K :=
 cy_ hd (by simp[execOp,hx,Instr.extract,hi]) k
theorem bb6 {a:Option Addr} {l c:Nat} {E:TypeId} (hd:Nat.blt d n=true) (hT:P.underlying T=some (.slice E)) (hx:ev f x = .slice a l c) (k:K (upd f d (.int .i64 l)) w) :
  OP P n ro ⟨some d,.call ⟨.builtin .len,#[x],#[T]⟩,ty,pos,af,gd⟩ f w K :=
 cy_ hd (by simp[execOp,hx,resolve,invoke,builtin,Builtin.len_,run_underlying hT,goInt]) k
def cf6 (P:Program) (T:TypeId) (k off:Nat):Prop:=∀ w a,(Instr.fieldAt T (.pointer (some a)) k).run P w = .ok (.pointer (some (a.add off))) w
theorem PtT.ptr {α:Type} [Enc α] {S:PH} {p:Value} {x:α} (h:PtT w S p x):∃ a,p = .pointer (some a):=by
 obtain⟨a,_,e,_⟩:=h
 exact⟨a,e⟩
structure Shape (P:Program) (T:TypeId) (agg:Bool) (sz:Nat):Prop where
 agg:∀ w,(isAgg T).run P w = .ok agg w
 size:∀ w,(sizeOf T).run P w = .ok sz w
theorem ao0 {E:TypeId} {a:Addr} {l c sz:Nat} {i:Int} {agg:Bool} (hd:Nat.blt d n=true) (hT:P.underlying T=some (.slice E)) (hE:Shape P E agg sz)
  (hx:ev f x = .slice (some a) l c) (hi:ev f y = .int .i64 i) (h0:0≤i) (hl:i.toNat<l) (k:K (upd f d (.pointer (some (a.add (i.toNat * sz))))) w) :
  OP P n ro ⟨some d,.indexAddr T x y,ty,pos,af,gd⟩ f w K :=
 cy_ hd (by
  have h1:0≤i∧i<(l:Int):=⟨h0,by omega⟩
  simp[execOp,hx,hi,Instr.indexAt,asIntOf,run_underlying hT,h1,hE.size w]) k
theorem pa_ {α:Type} [Enc α] {S:PH} {ls:List α} {E:TypeId} {i:Int} {e:α} (hd:Nat.blt d n=true) (hT:P.underlying T=some (.slice E)) (hE:Shape P E (Enc.agg α) (Enc.sz α))
  (hx:ev f x=v) (hr:RV S v ls) (hi:ev f y = .int .i64 i) (he:at? ls i=some e) (k:K (upd f d (cr_ v i (Enc.sz α))) w) :
  OP P n ro ⟨some d,.indexAddr T x y,ty,pos,af,gd⟩ f w K:=by
 obtain⟨a,cap,rfl,hl,hm,hn,_⟩:=iw_ hr
 obtain⟨h0,hlt,_⟩:=dg_ he
 cases a with
 | none=>rw[(hn rfl).1] at hlt;simp at hlt
 | some ad=>exact ao0 hd hT hE hx hi h0 hlt k
theorem qi_ {α:Type} [Enc α] {S:PH} {p:Value} {e:α} (hT:Shape P T (Enc.agg α) (Enc.sz α)) (hp:PtT w S p e) :
  ∃ v,(Instr.loadAt T p).run P w = .ok v w∧RV S v e:=by
 obtain⟨a,cs,rfl,hr,hc⟩:=hp
 have hl:=Enc.len hr
 cases ha:Enc.agg α with
 | true =>
  refine⟨.agg cs.toArray,?_,cs,hr,by rw[ha];rfl⟩
  have h1:=hT.agg w
  rw[ha] at h1
  have h2:=run_loadCells_list (P:=P) w a cs hc
  rw[hl] at h2
  simp[Instr.loadAt,Instr.sureAddr,loadVar,h1,hT.size w,h2]
 | false =>
  have h1:=hT.agg w
  rw[ha] at h1
  have hs:=Enc.one (α:=α) ha
  rw[hs] at hl
  match cs,hl with
  | [c],_ =>
   have hcell:=hc 0 c rfl
   have e0:a.add 0=a:=by simp[Addr.add]
   rw[e0] at hcell
   refine⟨c,?_,[c],hr,by rw[ha];rfl⟩
   simp[Instr.loadAt,Instr.sureAddr,loadVar,h1,load,hcell,Sem.run]
theorem bs9 {α:Type} [Enc α] {S:PH} {e:α} (hd:Nat.blt d n=true) (hT:Shape P T (Enc.agg α) (Enc.sz α)) (hx:ev f x=v) (hp:PtT w S v e) (k:∀ u,RV S u e→K (upd f d u) w) :
  OP P n ro ⟨some d,.load T x,ty,pos,af,gd⟩ f w K:=by
 obtain⟨u,hu,hr⟩:=qi_ hT hp
 exact cy_ hd (by simp[execOp,hx,hu]) (k u hr)
theorem aw3 {S:PH} {e:Int} (hd:Nat.blt d n=true) (hT:Shape P T false 1) (hx:ev f x=v) (hp:PtT w S v e) (k:K (upd f d (.int .i64 e)) w) :
  OP P n ro ⟨some d,.load T x,ty,pos,af,gd⟩ f w K :=
 bs9 hd hT hx hp λu hu=>by rw[nb_ hu];exact k
section own
variable {S:PH} {O:List HP} {g i:Nat} {B:TypeId} {cs:Array Value}
theorem fj_ (g i j:Nat):(⟨g,i,none⟩:Addr).add j=⟨g,i+j,none⟩:=by unfold Addr.add;split<;>simp_all
def jc_ (cs:Array Value):Nat→List Value→Array Value
 | _,[]=>cs
 | i,v::vs=>jc_ (cs.setIfInBounds i v) (i+1) vs
theorem nr_ (vs:List Value):∀ (cs:Array Value) (i:Nat),i+vs.length≤cs.size→(cs.toList.take i++vs++cs.toList.drop (i+vs.length)).toArray=jc_ cs i vs:=by
 induction vs with
 | nil=>intro cs i _;simp[jc_]
 | cons v vs ih =>
  intro cs i h
  simp only[c4_] at h
  unfold jc_
  rw[← ih (cs.setIfInBounds i v) (i+1) (by simp;omega)]
  have e:=list_seg_step cs.toList i v vs (by simp;omega)
  apply congrArg
  simpa [Array.toList_setIfInBounds] using e.symm
theorem au1 {sz:Nat} (hT:∀ w,(sizeOf T).run P w = .ok sz w) (hI:Inv w S (lu_ g B cs::O)) (hs:v.cells.size=sz) (hb:i+sz≤cs.size) (h1:∀ u ∈ v.cells.toList,u.oneCell'=true) :
  ∃ w',(Instr.storeAt T (.pointer (some ⟨g,i,none⟩)) v).run P w = .ok () w'∧Inv w' S (lu_ g B (jc_ cs i v.cells.toList)::O):=by
 have hst:=run_storeCells_at P g i B v.cells.toList 0 cs w hI.blk (by simp;omega) h1
 simp only[m6_] at hst
 rw[nr_ v.cells.toList cs i (by simp;omega)] at hst
 refine⟨_,by simp[Instr.storeAt,Instr.sureAddr,storeVar,hT w,hs,hst];rfl,?_⟩
 exact hI.setRow
theorem cl3 {sz:Nat} {agg:Bool} (hT:Shape P T agg sz) (hI:Inv w S (lu_ g B cs::O)) (hx:ev f x = .pointer (some ⟨g,i,none⟩)) (hy:ev f y=v)
  (hs:v.cells.size=sz) (hb:i+sz≤cs.size) (h1:v.cells.toList.all (·.oneCell')=true) (k:∀ w',Inv w' S (lu_ g B (jc_ cs i v.cells.toList)::O)→K f w') :
  OP P n ro ⟨none,.store T x y,ty,pos,af,gd⟩ f w K:=by
 obtain⟨w',h,hI'⟩:=au1 hT.size hI hs hb (λu hu=>f3_.1 h1 u hu)
 exact af7 (by simp[execOp,hx,hy,h]) (k w' hI')
end own
end
end
section
variable {ro:Option Nat}
section repl
variable {α:Type} [Enc α]
def RepL (S:PH):List Value→List α→Prop
 | cs,[]=>cs=[]
 | cs,x::l=>∃ es rest,cs=es++rest∧Enc.rep S es x∧RepL S rest l
variable {S T:PH}
theorem RepL.len:∀ {l:List α} {cs:List Value},RepL S cs l→cs.length=l.length * Enc.sz α
 | [],cs,h=>by have h:cs=[]:=h;simp[h]
 | x::l,cs,⟨es,rest,e,h1,h2⟩=>by
  have:=RepL.len h2
  rw[e,a9_,Enc.len h1,this,c4_,j1_]
  omega
theorem RepL.mono (hle:S.Le T):∀ {l:List α} {cs:List Value},RepL S cs l→RepL T cs l
 | [],_,h=>h
 | _::_,_,⟨es,rest,e,h1,h2⟩=>⟨es,rest,e,Enc.mono hle h1,RepL.mono hle h2⟩
theorem RepL.append:∀ {l m:List α} {cs ds:List Value},RepL S cs l→RepL S ds m→RepL S (cs++ds) (l++m)
 | [],m,cs,ds,h,k=>by have h:cs=[]:=h;subst h;exact k
 | x::l,m,cs,ds,⟨es,rest,e,h1,h2⟩,k=>⟨es,rest++ds,by rw[e,b3_],h1,RepL.append h2 k⟩
theorem RepL.one {cs:List Value} {x:α} (h:Enc.rep S cs x):RepL S cs [x]:=⟨cs,[],by simp,h,rfl⟩
theorem RepL.cell1:∀ {l:List α} {cs:List Value},RepL S cs l→∀ v ∈ cs,v.oneCell'=true
 | [],cs,h,v,hv=>by have h:cs=[]:=h;subst h;simp at hv
 | x::l,cs,⟨es,rest,e,h1,h2⟩,v,hv=>by
  rw[e] at hv
  rcases b5_.1 hv with h | h
  ·exact Enc.cell1 h1 v h
  ·exact RepL.cell1 h2 v h
theorem RepL.cut:∀ {l:List α} {cs:List Value} {i:Nat} {x:α},RepL S cs l→l[i]?=some x →
  ∃ A es B,cs=A++(es++B)∧A.length=i * Enc.sz α∧Enc.rep S es x∧∀ es' x',Enc.rep S es' x'→RepL S (A++(es'++B)) (l.set i x')
 | [],_,_,_,_,h=>by simp at h
 | y::l,cs,0,x,⟨es,rest,e,h1,h2⟩,h=>by
  simp at h
  subst h
  exact⟨[],es,rest,e,by simp,h1,λes' x' h'=>⟨es',rest,rfl,h',h2⟩⟩
 | y::l,cs,i+1,x,⟨es,rest,e,h1,h2⟩,h=>by
  simp at h
  obtain⟨A,es0,B,e0,hA,hr,hset⟩:=RepL.cut h2 h
  refine⟨es++A,es0,B,by rw[e,e0,b3_],by rw[a9_,Enc.len h1,hA,j1_];omega,hr,λes' x' h' => ?_⟩
  exact⟨es,A++(es'++B),by rw[b3_],h1,hset es' x' h'⟩
theorem RepL.split:∀ {l:List α} {cs:List Value} (k:Nat),k≤l.length→RepL S cs l→∃ a b,cs=a++b∧RepL S a (l.take k)∧RepL S b (l.drop k)
 | l,cs,0,_,h=>⟨[],cs,rfl,rfl,h⟩
 | [],cs,k+1,hk,h=>by simp at hk
 | x::l,cs,k+1,hk,⟨es,rest,e,h1,h2⟩=>by
  obtain⟨a,b,e',ha,hb⟩:=RepL.split k (by simpa using hk) h2
  exact⟨es++a,b,by rw[e,e',b3_],⟨es,a,rfl,h1,ha⟩,hb⟩
theorem RepL.rowAt {cell:Addr→Option Value} {ad:Addr} {l:List α} {cs:List Value} (h:RepL S cs l) (hc:∀ j u,cs[j]?=some u→cell (ad.add j)=some u):RowAt cell S ad l:=by
 intro i x hx
 obtain⟨A,es,B,e,hA,hr,_⟩:=h.cut hx
 refine⟨es,hr,λj u hu=>hc _ _ ?_⟩
 rw[e,← hA,c6_ (by omega),h7_,b1_ (a4_.1 hu).1]
 exact hu
theorem RowAt.repL {cell:Addr→Option Value}:∀ {l:List α} {ad:Addr},RowAt cell S ad l→∃ cs,RepL S cs l∧∀ j u,cs[j]?=some u→cell (ad.add j)=some u
 | [],_,_=>⟨[],rfl,by simp⟩
 | x::l,ad,h=>by
  obtain⟨es,h1,h2⟩:=h 0 x rfl
  have hr:RowAt cell S (ad.add (Enc.sz α)) l:=by
   intro i y hy
   obtain⟨es',h1',h2'⟩:=h (i+1) y (by simpa using hy)
   refine⟨es',h1',λj u hu => ?_⟩
   rw[ez_]
   have:=h2' j u hu
   rw[j1_] at this
   rw[← this]
   congr 2
   omega
  obtain⟨cs,h3,h4⟩:=RowAt.repL hr
  refine⟨es++cs,⟨es,cs,rfl,h1,h3⟩,λj u hu => ?_⟩
  have hl:=Enc.len h1
  by_cases hj:j<es.length
  ·rw[b1_ hj] at hu
   have:=h2 j u hu
   simpa using this
  ·rw[c6_ (by omega)] at hu
   have:=h4 _ u hu
   rw[ez_,hl] at this
   rw[← this]
   congr 2
   omega
end repl
def RowP {α:Type} [Enc α] (T:TypeId) (v:Value) (l:List α) (S:PH) (h:Hp):Prop :=
 (v = .slice none 0 0∧l=[]∧h=Hp.emp) ∨
 ∃ (g cap:Nat) (pre ls post:List Value),v = .slice (some ⟨g,pre.length,none⟩) l.length cap∧h=Hp.one g (.cells (pre++(ls++post)).toArray T (0,0)) ∧
  RepL S ls l∧l.length≤cap∧cap≤maxLen∧cap * Enc.sz α≤l.length * Enc.sz α+post.length
def Row {α:Type} [Enc α] (T:TypeId) (v:Value) (l:List α):HP where
 p:=RowP T v l
 mono hle h:=by
  rcases h with h | ⟨g,cap,pre,ls,post,h1,h2,h3,h4⟩
  ·exact .inl h
  ·exact .inr ⟨g,cap,pre,ls,post,h1,h2,h3.mono hle,h4⟩
def Src {α:Type} [Enc α] (w:World) (S:PH) (u:Value) (ys:List α):Prop :=
 ∃ a cap,u = .slice a ys.length cap∧(a=none→ys=[])∧∀ ad,a=some ad→RowAt w.cell? S ad ys
section
variable {α:Type} [Enc α] {w:World} {S:PH} {O:List HP} {T:TypeId} {v:Value} {l:List α}
theorem RV.src {u:Value} {ys:List α} (h:RV S u ys) (hin:S.m.In w):Src w S u ys:=by
 obtain⟨a,cap,rfl,hl,hm,hn,hr⟩:=iw_ h
 exact⟨a,cap,rfl,λe=>(hn e).1,λad e i x hx=>by
  obtain⟨es,h1,h2⟩:=hr ad e i x hx
  exact⟨es,h1,λj u hu=>PH.cell_in hin (h2 j u hu)⟩⟩
theorem bg0 {g:Nat} {pre ls post:List Value} (hb:w.heap[g]?=some (.cells (pre++(ls++post)).toArray T (0,0))) :
  ∀ j u,ls[j]?=some u→w.cell? ((⟨g,pre.length,none⟩:Addr).add j)=some u:=by
 intro j u hu
 rw[fj_,cell_of_row w g _ _ T (0,0) hb]
 simp only[e0_]
 rw[c6_ (by omega),h7_,b1_ (a4_.1 hu).1]
 exact hu
theorem Inv.rowSrc (h:Inv w S (Row T v l::O)):Src w S v l:=by
 obtain⟨k,hk,hI⟩:=h.open_
 rcases hk with ⟨rfl,rfl,rfl⟩ | ⟨g,cap,pre,ls,post,rfl,rfl,h3,h4,h5,h6⟩
 ·exact⟨none,0,rfl,λ_=>rfl,λ_ e=>by cases e⟩
 ·refine⟨some ⟨g,pre.length,none⟩,cap,rfl,(λe=>by cases e),λad e => ?_⟩
  cases e
  have hb:=hI.front g _ (by simp[Hp.one];rfl)
  exact h3.rowAt (bg0 hb)
theorem Inv.rowForm (h:Inv w S (Row T v l::O)):∃ a cap,v = .slice a l.length cap∧l.length≤cap∧cap≤maxLen:=by
 obtain⟨k,hk,hI⟩:=h.open_
 rcases hk with ⟨rfl,rfl,rfl⟩ | ⟨g,cap,pre,ls,post,rfl,rfl,h3,h4,h5,h6⟩
 ·exact⟨none,0,rfl,c3_ _,by simp[maxLen]⟩
 ·exact⟨_,cap,rfl,h4,h5⟩
theorem Src.elem {u:Value} {ys:List α} (h:Src w S u ys) {i:Int} {x:α} (hx:at? ys i=some x):PtT w S (cr_ u i (Enc.sz α)) x:=by
 obtain⟨a,cap,rfl,hn,hr⟩:=h
 obtain⟨h0,hlt,hx⟩:=dg_ hx
 cases a with
 | none=>rw[hn rfl] at hlt;simp at hlt
 | some ad =>
  obtain⟨es,h1,h2⟩:=hr ad rfl _ _ hx
  exact⟨_,es,rfl,h1,λj u hu=>by rw[ez_];exact h2 j u hu⟩
theorem Inv.rowElem (h:Inv w S (Row T v l::O)) {i:Int} {x:α} (hx:at? l i=some x):PtT w S (cr_ v i (Enc.sz α)) x:=h.rowSrc.elem hx
theorem Inv.rowNil (h:Inv w S O):Inv w S (Row T (.slice none 0 0) ([]:List α)::O) :=
 ⟨h.os,h.out,Hp.emp,.inl ⟨rfl,rfl,rfl⟩,λ_=>.inl rfl,by
  have:Hp.un Hp.emp S.m=S.m:=by funext b;simp[Hp.un,Hp.emp]
  rw[this]
  exact h.own⟩
theorem RowP.rv {U:PH} {k:Hp} (h:RowP T v l S k) (hle:S.Le U) (hk:k.Le U.m):RV U v l:=by
 rcases h with ⟨rfl,rfl,rfl⟩ | ⟨g,cap,pre,ls,post,rfl,rfl,h3,h4,h5,h6⟩
 ·exact cs6
 ·refine wd_ ⟨h4,h5,(λe=>by cases e),λad e => ?_⟩
  cases e
  have hb:=hk g _ (by simp[Hp.one];rfl)
  refine (h3.mono hle).rowAt λj u hu => ?_
  rw[fj_]
  simp only[PH.cell,hb]
  simp only[e0_,Option.isSome_none,Bool.false_eq_true,h6_]
  rw[c6_ (by omega),h7_,b1_ (a4_.1 hu).1]
  exact hu
theorem Inv.rowFreeze (h:Inv w S (Row T v l::O)):∃ U,S.Le U∧Inv w U O∧RV U v l:=by
 obtain⟨U,k,h1,h2,h3,h4⟩:=h.freeze
 exact⟨U,h1,h2,RowP.rv h3 h1 h4⟩
theorem Inv.cellsFreeze {β:Type} [Enc β] {g:Nat} {cs:Array Value} {x:β} (h:Inv w S (lu_ g T cs::O)) (hx:Enc.rep S cs.toList x) :
  ∃ U,S.Le U∧Inv w U O∧Enc.rep U cs.toList x∧∀ j u,cs.toList[j]?=some u→U.cell ((⟨g,0,none⟩:Addr).add j)=some u:=by
 obtain⟨U,k,h1,h2,h3,h4⟩:=h.freeze
 refine⟨U,h1,h2,Enc.mono h1 hx,λj u hu => ?_⟩
 have h3:k=Hp.one g (.cells cs T (0,0)):=h3
 have hb:=h4 g (.cells cs T (0,0)) (by rw[h3];simp[Hp.one])
 rw[fj_]
 simp only[PH.cell,hb]
 simpa using hu
def PtS {β:Type} [Enc β] (S:PH) (p:Value) (x:β):Prop:=∃ a cs,p = .pointer (some a)∧Enc.rep S cs x∧∀ j u,cs[j]?=some u→S.cell (a.add j)=some u
theorem PtS.mono {β:Type} [Enc β] {U:PH} {p:Value} {x:β} (h:PtS S p x) (hle:S.Le U):PtS U p x:=by
 obtain⟨a,cs,e,h1,h2⟩:=h
 exact⟨a,cs,e,Enc.mono hle h1,λj u hu=>PH.cell_le hle (h2 j u hu)⟩
theorem PtS.at_ {β:Type} [Enc β] {p:Value} {x:β} (h:PtS S p x) (hI:Inv w S O):PtT w S p x:=by
 obtain⟨a,cs,e,h1,h2⟩:=h
 exact⟨a,cs,e,h1,λj u hu=>PH.cell_in hI.in_ (h2 j u hu)⟩
theorem Inv.boxFreeze {β:Type} [Enc β] {g:Nat} {u:Value} {x:β} (h:Inv w S (lu_ g T u.cells::O)) (hx:RV S u x) :
  ∃ U,S.Le U∧Inv w U O∧PtS U (.pointer (some ⟨g,0,none⟩)) x:=by
 obtain⟨U,h1,h2,h3,h4⟩:=h.cellsFreeze hx.cells
 exact⟨U,h1,h2,_,_,rfl,h3,h4⟩
end
section ops
variable {P:Program} {n:Nat} {f:Fr} {w:World} {K:Fr→World→Prop} {d:Nat} {ty:TypeId} {pos:String} {af:Array Edge} {gd:Option (Nat×Bool)} {x y z:Operand} {v u:Value} {T E:TypeId}
 {α:Type} [Enc α] {S:PH} {O:List HP} {l:List α} {e:α}
theorem bi3 {g:Nat} {T:TypeId} {cs cs':Array Value} (h:Inv w S (HP.exact (Hp.one g (.cells cs T (0,0)))::O)):Inv (w.setRow g cs') S (HP.exact (Hp.one g (.cells cs' T (0,0)))::O) :=
 Inv.setRow (T:=T) (cs:=cs) (cs':=cs') h
theorem bc6 {α:Type} (A B C X:List α) (h:B.length=X.length):(A++(B++C)).take A.length++X++(A++(B++C)).drop (A.length+X.length)=A++(X++C):=by
 rw[List.take_left,b3_]
 congr 2
 rw[← b3_,List.drop_append_of_le_length (by simp;omega)]
 rw[← h,← a9_,o3_]
 rfl
theorem ia_ {g:Nat} {A B C X:List Value} (hI:Inv w S (HP.exact (Hp.one g (.cells (A++(B++C)).toArray E (0,0)))::O)) (hl:B.length=X.length) (h1:∀ u ∈ X,u.oneCell'=true) :
  ∃ w',(storeCells ⟨g,A.length,none⟩ X).run P w = .ok () w'∧Inv w' S (HP.exact (Hp.one g (.cells (A++(X++C)).toArray E (0,0)))::O):=by
 have hb:=hI.front g _ (by simp[Hp.one];rfl)
 have hst:=run_storeCells_at P g A.length E X 0 _ w hb (by simp;omega) h1
 simp only[m6_,bc6 A B C X hl] at hst
 exact⟨_,hst,bi3 hI⟩
theorem rb_ {i:Int} {sz off:Nat} {agg:Bool} {e e':α} {A B C:List Value} (hT:Shape P T agg sz) (hI:Inv w S (Row E v l::O)) (hx:ev f x=ay_ (cr_ v i (Enc.sz α)) off) (hy:ev f y=u)
  (he:at? l i=some e)
  (hpart:∀ cs,Enc.rep S cs e→∃ A B C,cs=A++(B++C)∧A.length=off∧B.length=u.cells.toList.length∧Enc.rep S (A++(u.cells.toList++C)) e')
  (hs:u.cells.size=sz) (k:∀ w',Inv w' S (Row E v (l.set i.toNat e')::O)→K f w') :
  OP P n ro ⟨none,.store T x y,ty,pos,af,gd⟩ f w K:=by
 obtain⟨h,hk,hI'⟩:=hI.open_
 obtain⟨h0,hlt,hx'⟩:=dg_ he
 rcases hk with ⟨rfl,rfl,rfl⟩ | ⟨g,cap,pre,ls,post,rfl,rfl,h3,h4,h5,h6⟩
 ·simp at hlt
 ·obtain⟨A0,es,B0,e0,hA0,hr,hset⟩:=h3.cut hx'
  obtain⟨A1,B1,C1,e1,hA1,hB1,hr'⟩:=hpart es hr
  have hc:∀ q ∈ u.cells.toList,q.oneCell'=true:=λq hq=>Enc.cell1 hr' q (by simp at hq ⊢; exact .inr (.inl hq))
  have eq1:pre++(ls++post)=(pre++(A0++A1))++(B1++(C1++(B0++post))):=by
   rw[e0,e1];simp[b3_]
  rw[eq1] at hI'
  obtain⟨w',hst,hI''⟩:=ia_ (P:=P) hI' hB1 hc
  have hp:ev f x = .pointer (some ⟨g,(pre++(A0++A1)).length,none⟩):=by
   rw[hx]
   simp only[cr_,ay_,fj_]
   congr 3
   simp[hA0,hA1]
   omega
  refine af7 (w':=w') ?_ ?_
  ·simp[execOp,hp,hy,Instr.storeAt,Instr.sureAddr,storeVar,hT.size w,hs]
   have:=hst
   simp at this
   rw[this]
   rfl
  ·refine k w' (hI''.shut ?_)
   refine .inr ⟨g,cap,pre,A0++((A1++(u.cells.toList++C1))++B0),post,by simp,?_,hset _ _ hr',by simpa using h4,h5,by simpa using h6⟩
   simp[b3_]
theorem RepL.replicate {S:PH} {zc:List Value} {z:α} (h:Enc.rep S zc z):∀ k,RepL S (List.replicate k zc).flatten (List.replicate k z)
 | 0=>rfl
 | k+1=>by
  rw[l4_,l4_,List.flatten_cons]
  exact⟨zc,_,rfl,h,RepL.replicate h k⟩
theorem ma_ (z:Array Value) (k:Nat):(madeCells z (k * z.size)).toList=(List.replicate k z.toList).flatten:=by
 induction k with
 | zero=>simp[madeCells]
 | succ k ih =>
  have e:(madeCells z ((k+1) * z.size)).toList=(madeCells z (k * z.size)).toList++z.toList:=by
   apply f1_
   intro j
   have hz:(k+1) * z.size=k * z.size+z.size:=by rw[j1_];omega
   by_cases hj:j<k * z.size
   ·rw[b1_ (by simpa [madeCells] using hj)]
    simp[madeCells,hz,hj,f5_ hj (Nat.le_add_right _ _)]
   ·by_cases hj2:j<k * z.size+z.size
    ·rw[c6_ (by simp[madeCells];omega)]
     have h3:j - k * z.size<z.size:=by omega
     have h4:j % z.size=j - k * z.size:=by
      have:j=(j - k * z.size)+z.size * k:=by rw[k0_ z.size k];omega
      rw[this,Nat.add_mul_mod_self_left,j9_ h3]
      rw[k0_ z.size k];omega
     simp[madeCells,hz,hj2,h4,h3]
    ·rw[b4_ (by simp[madeCells,hz];omega),b4_ (by simp[madeCells];omega)]
  rw[e,ih,q0_,List.flatten_append]
  simp
structure ElemI (P:Program) (α:Type) [Enc α] (E:TypeId) (bytes:Nat) (z:Value) (zero:α) (i:TypeInfo):Prop where
 hi:P.info? E=some i
 hz:i.zero=some z
 hs:i.size=Enc.sz α
 hb:i.bytes=bytes
 hzs:z.cells.size=Enc.sz α
 rep:∀ S,Enc.rep S z.cells.toList zero
def cx0 (P:Program) (α:Type) [Enc α] (E:TypeId) (bytes:Nat) (z:Value) (zero:α):Prop:=∃ i,ElemI P α E bytes z zero i
def mk? {α:Type} (k:Int) (z:α):Option (List α):=if 0≤k∧k≤2147483648 then some (List.replicate k.toNat z) else none
def push? {α:Type} (l m:List α):Option (List α):=if l.length+m.length≤2147483648 then some (l++m) else none
theorem ag7 {α:Type} {k:Int} {z:α} {l:List α} (h:mk? k z=some l):0≤k∧k≤2147483648∧l=List.replicate k.toNat z:=by
 unfold mk? at h
 split at h
 ·exact⟨‹0≤k∧_›.1,‹0≤k∧_›.2,(a6_ h).symm⟩
 ·cases h
theorem bj6 {α:Type} {l m r:List α} (h:push? l m=some r):l.length+m.length≤2147483648∧r=l++m:=by
 unfold push? at h
 split at h
 ·exact⟨‹_›,(a6_ h).symm⟩
 ·cases h
theorem ve_ {bytes:Nat} {zv:Value} {zd:α} {c:Int} {r:List α} (hd:Nat.blt d n=true) (hT:P.underlying T=some (.slice E)) (hE0:cx0 P α E bytes zv zd) (hby:bytes≤65536)
  (hx:ev f x = .int .i64 c) (hy:ev f y = .int .i64 c) (hI:Inv w S O) (hr:mk? c zd=some r) (k:∀ u w',Inv w' S (Row E u r::O)→K (upd f d u) w') :
  OP P n ro ⟨some d,.makeSlice T x y,ty,pos,af,gd⟩ f w K:=by
 obtain⟨h0,hl,rfl⟩:=ag7 hr
 obtain⟨ei,hE⟩:=hE0
 have hbb:(ei.bytes:Int) * c≤281474976710656:=by
  have h1:(ei.bytes:Int)≤65536:=by rw[hE.hb];omega
  have h2:(ei.bytes:Int) * c≤65536 * 2147483648:=Int.mul_le_mul h1 hl h0 (by omega)
  omega
 have hm:=run_make (P:=P) w T E ei zv hT hE.hi hE.hz .i64 .i64 c c h0 (m5_ _) hbb (by omega)
 refine cy_ hd (v:=.slice (some ⟨w.heap.size,0,none⟩) c.toNat c.toNat) (w':=w.alloc (.cells (madeCells zv.cells (c.toNat * ei.size)) E)) (by simp[execOp,hx,hy,hm]) (k _ _ ?_)
 refine (hI.new _).shut (A:=Row E _ _) ?_
 refine .inr ⟨w.heap.size,c.toNat,[],(List.replicate c.toNat zv.cells.toList).flatten,[],by simp,?_,RepL.replicate (hE.rep S) _,by simp,by simp only[maxLen];omega,by simp⟩
 rw[hE.hs,← hE.hzs]
 congr 1
 rw[← ma_]
 simp
theorem ap9 (off:Nat):∀ (l:List Value) (k:Nat) (cs:Array Value),(l.zipIdx k).foldl (λcs (c,j)=>cs.setIfInBounds (off+j) c) cs=jc_ cs (off+k) l
 | [],_,_=>rfl
 | c::l,k,cs=>by
  rw[List.zipIdx_cons,List.foldl_cons,ap9 off l (k+1)]
  rfl
def fillC (place:Nat→Option (Nat×Nat)) (cells:Array Value):List (Nat×Array Value)→Option (Array Value)
 | []=>some cells
 | (i,cs)::rest =>
  match place i with
  | none=>none
  | some (off,size)=>if cs.size≠size||off+cs.size > cells.size then none else fillC place (jc_ cells off cs.toList) rest
theorem ai7 (place:Nat→Option (Nat×Nat)):∀ (ps:List (Nat×Value)) (cells:Array Value),Instr.fill place cells ps=fillC place cells (ps.map λp=>(p.1,p.2.cells))
 | [],_=>rfl
 | (i,v)::ps,cells=>by
  unfold Instr.fill
  simp only[h8_]
  unfold fillC
  cases place i with
  | none=>rfl
  | some q =>
   obtain⟨off,size⟩:=q
   simp only
   split
   ·rfl
   ·rw[ai7 place ps]
    congr 1
    have:=ap9 off v.cells.toList 0 cells
    rw[m6_] at this
    rw[← this,← Array.foldl_toList,Array.toList_zipIdx]
def Parts (f:Fr):List (Nat×Operand)→List (Nat×Array Value)→Prop
 | [],[]=>True
 | (i,x)::ps,(j,cs)::qs=>i=j∧(ev f x).cells=cs∧Parts f ps qs
 | _,_=>False
theorem Parts.eq {f:Fr}:∀ {ps:List (Nat×Operand)} {qs:List (Nat×Array Value)},Parts f ps qs→(ps.map λp=>(p.1,(ev f p.2).cells))=qs
 | [],[],_=>rfl
 | (i,x)::ps,(j,cs)::qs,⟨h1,h2,h3⟩=>by
  rw[h8_,Parts.eq h3,h1,h2]
 | [],_::_,h=>h.elim
 | _::_,[],h=>h.elim
structure StructF (P:Program) (T:TypeId) (zero:Array Value) (places:Array (Nat×Nat)) (fs:Array Field):Prop where
 z:∀ w,(do pure (← zeroValue T).cells:Sem (Array Value)).run P w = .ok zero w
 u:P.underlying T=some (.struct fs)
 p:∀ w,(fs.mapM λf=>do pure (f.offset,← sizeOf f.type):Sem (Array (Nat×Nat))).run P w = .ok places w
def StructT (P:Program) (T:TypeId) (zero:Array Value) (places:Array (Nat×Nat)):Prop:=∃ fs,StructF P T zero places fs
theorem StructT.run {P:Program} {T:TypeId} {zero:Array Value} {places:Array (Nat×Nat)} (h:StructT P T zero places) (w:World) (parts:Array (Nat×Value)) {c:Array Value}
  (hc:Instr.fill (places[·]?) zero parts.toList=some c):(Instr.build T parts).run P w = .ok (.agg c) w:=by
 obtain⟨fs,h⟩:=h
 unfold Instr.build
 have hz:=h.z w
 simp only[Sem.run_bind,Sem.run_pure] at hz
 simp only[Sem.run_bind]
 cases hq:(zeroValue T).run P w with
 | halt x w'=>rw[hq] at hz;cases hz
 | ok v w' =>
  rw[hq] at hz
  simp only[Result.andThen_ok] at hz ⊢
  obtain⟨rfl,rfl⟩:v.cells=zero∧w'=w:=by injection hz with a b;exact⟨a,b⟩
  rw[run_underlying h.u]
  simp only[Result.andThen_ok,Sem.run_bind,h.p,hc,Sem.run_pure]
def RVs (S:PH):List Value→List α→Prop
 | [],[]=>True
 | v::vs,x::l=>RV S v x∧RVs S vs l
 | _,_=>False
theorem RVs.repL {S:PH}:∀ {vs:List Value} {l:List α},RVs S vs l→RepL S (vs.flatMap λv=>v.cells.toList) l∧vs.length=l.length
 | [],[],_=>⟨rfl,rfl⟩
 | v::vs,x::l,⟨h1,h2⟩=>by
  have ih:=RVs.repL h2
  exact⟨⟨v.cells.toList,_,by simp,h1.cells,ih.1⟩,by simp[ih.2]⟩
 | [],_::_,h=>h.elim
 | _::_,[],h=>h.elim
theorem RVs.size {S:PH}:∀ {vs:List Value} {l:List α},RVs S vs l→∀ v ∈ vs,v.cells.size=Enc.sz α
 | [],[],_,v,hv=>by simp at hv
 | u::vs,x::l,⟨h1,h2⟩,v,hv=>by
  rcases d8_.1 hv with rfl | hv
  ·rw[← q5_];exact Enc.len h1.cells
  ·exact RVs.size h2 v hv
 | [],_::_,h,_,_=>h.elim
 | _::_,[],h,_,_=>h.elim
theorem an4 (A B C X:List Value) (h:B.length=X.length):jc_ (A++(B++C)).toArray A.length X=(A++(X++C)).toArray:=by
 rw[← nr_ X _ _ (by simp;omega)]
 congr 1
 exact bc6 A B C X h
theorem ym_ (sz:Nat):∀ (vs:List Value) (k:Nat) (A Z:List Value),A.length=k * sz→Z.length=vs.length * sz→(∀ v ∈ vs,v.cells.size=sz) →
  fillC (λi=>some (i * sz,sz)) (A++Z).toArray ((vs.zipIdx k).map λp=>(p.2,p.1.cells))=some (A++vs.flatMap λv=>v.cells.toList).toArray
 | [],k,A,Z,hA,hZ,_=>by
  have:Z=[]:=h4_ (by simpa using hZ)
  subst this
  simp[fillC]
 | v::vs,k,A,Z,hA,hZ,hv=>by
  have h1:=hv v (by simp)
  rw[c4_,j1_,Nat.one_mul] at hZ
  simp only[List.zipIdx_cons,h8_]
  unfold fillC
  simp only
  rw[if_neg (by simp[h1];omega)]
  have hZ':Z=Z.take sz++Z.drop sz:=(g1_ sz Z).symm
  have e:jc_ (A++Z).toArray (k * sz) v.cells.toList=((A++v.cells.toList)++Z.drop sz).toArray:=by
   rw[← hA,hZ',an4 A (Z.take sz) (Z.drop sz) v.cells.toList (by simp[h1];omega)]
   simp
  rw[e,ym_ sz vs (k+1) (A++v.cells.toList) (Z.drop sz) (by simp[hA,h1,j1_]) (by simp;omega) (λu hu=>hv u (by simp[hu]))]
  simp[b3_]
theorem sq_ {bytes:Nat} {zv:Value} {zd:α} {ps:List (Nat×Operand)} {vs:List Value} {ln:Nat} {r:List α} (hd:Nat.blt d n=true) (hT:P.underlying T=some (.slice E)) (hE0:cx0 P α E bytes zv zd)
  (hps:(ps.map λp=>(p.1,ev f p.2))=vs.zipIdx.map λp=>(p.2,p.1)) (hln:vs.length=ln) (hsm:ln * Enc.sz α≤65536) (hsl:ln≤65536) (hr:RVs S vs r) (hI:Inv w S O) (k:∀ u w',Inv w' S (Row E u r::O)→K (upd f d u) w') :
  OP P n ro ⟨some d,.buildSlice T ln ps.toArray,ty,pos,af,gd⟩ f w K:=by
 obtain⟨ei,hE⟩:=hE0
 obtain⟨h1,h2⟩:=hr.repL
 have hmap:(ps.toArray.map λ(i,x)=>(i,ev f x))=(ps.map λp=>(p.1,ev f p.2)).toArray:=by simp
 have hf:Instr.fill (λi=>some (i * ei.size,ei.size)) (madeCells zv.cells (ln * ei.size)) (vs.zipIdx.map λp=>(p.2,p.1))=some (vs.flatMap λv=>v.cells.toList).toArray:=by
  rw[ai7]
  have:=ym_ (Enc.sz α) vs 0 [] (madeCells zv.cells (ln * ei.size)).toList (by simp) (by simp[madeCells,hln,hE.hs]) hr.size
  simp only[g8_,k8_] at this
  rw[hE.hs] at this ⊢
  rw[← this,List.map_map]
  rfl
 have hz:∀ w,(if ln * ei.size=0 then (pure #[]:Sem (Array Value)) else do pure (← zeroValue E).cells).run P w = .ok (if ln * ei.size=0 then #[] else zv.cells) w:=by
  intro w
  split<;>simp[zeroValue,typeInfo,hE.hi,hE.hz]
 have hmade:((Array.range (ln * ei.size)).map ((if ln * ei.size=0 then #[] else zv.cells)[· % (if ln * ei.size=0 then #[] else zv.cells).size]!))=madeCells zv.cells (ln * ei.size):=by
  split
  ·rename_i h0;rw[h0];simp[madeCells]
  ·rfl
 have hbig:¬ (ln * ei.size > 2 ^ 24):=by rw[hE.hs];omega
 have hrun:(Instr.buildSlice T ln (vs.zipIdx.map λp=>(p.2,p.1)).toArray).run P w = .ok (.slice (some ⟨w.heap.size,0,none⟩) ln ln) (w.alloc (.cells (vs.flatMap λv=>v.cells.toList).toArray E)):=by
  unfold Instr.buildSlice
  have hsz:∀ w,(sizeOf E).run P w = .ok ei.size w:=λw=>by simp[sizeOf,typeInfo,hE.hi]
  simp only[Sem.run_bind,run_underlying hT,Result.andThen_ok,hsz]
  rw[if_neg hbig]
  have hzv:(zeroValue E).run P w = .ok zv w:=by simp[zeroValue,typeInfo,hE.hi,hE.hz]
  by_cases h0:ln * ei.size=0
  ·rw[if_pos h0]
   rw[if_pos h0] at hmade
   simp only[Sem.run_bind,Sem.run_pure,Result.andThen_ok,hmade,hf]
   simp[newRow]
  ·rw[if_neg h0]
   rw[if_neg h0] at hmade
   simp only[Sem.run_bind,Sem.run_pure,Result.andThen_ok,hzv,hmade,hf]
   simp[newRow]
 refine cy_ hd (v:=.slice (some ⟨w.heap.size,0,none⟩) ln ln) (w':=w.alloc (.cells (vs.flatMap λv=>v.cells.toList).toArray E)) ?_ (k _ _ ?_)
 ·have e:(execOp (ev f) ⟨some d,.buildSlice T ln ps.toArray,ty,pos,af,gd⟩)=(do pure (.value (← Instr.buildSlice T ln (vs.zipIdx.map λp=>(p.2,p.1)).toArray))):=by
   simp only[execOp,hmap,hps]
  rw[e]
  simp only[Sem.run_bind,hrun,Result.andThen_ok,Sem.run_pure]
 ·refine (hI.new _).shut (A:=Row E _ _) ?_
  refine .inr ⟨w.heap.size,ln,[],_,[],by simp[← h2,hln],?_,h1,by omega,?_,?_⟩
  ·simp
  ·simp only[maxLen]
   omega
  ·rw[← h2,hln];simp
theorem xt_ {bytes:Nat} {zv:Value} {zd:α} {m r:List α} {ct:Array TypeId} (hd:Nat.blt d n=true) (hct:ct = #[T,T]) (hT:P.underlying T=some (.slice E)) (hE0:cx0 P α E bytes zv zd) (hby:bytes≤65536) (hsz:0<Enc.sz α)
  (hx:ev f x=v) (hy:ev f y=u) (hI:Inv w S (Row E v l::O)) (hs:Src w S u m) (hr:push? l m=some r)
  (k:∀ v' w',Inv w' S (Row E v' r::O)→K (upd f d v') w') :
  OP P n ro ⟨some d,.call ⟨.builtin .append,#[x,y],ct⟩,ty,pos,af,gd⟩ f w K:=by
 subst hct
 obtain⟨ei,hE⟩:=hE0
 obtain⟨hlim,rfl⟩:=bj6 hr
 obtain⟨ua,uc,hu,hun,hur⟩:=hs
 have hnews:∃ news:List Value,RepL S news m∧∀ w':World,(∀ (b:Nat) (o:Obj),w.heap[b]?=some o→w'.heap[b]?=some o)→(Builtin.firstCells (Enc.sz α) m.length u).run P w' = .ok news.toArray w':=by
  cases ua with
  | none =>
   have:=hun rfl
   subst this
   exact⟨[],rfl,λw' _=>by rw[hu];exact run_firstCells_none (P:=P) w' _ _ _ _⟩
  | some ad =>
   obtain⟨news,h1,h2⟩:=(hur ad rfl).repL
   refine⟨news,h1,λw' hw => ?_⟩
   rw[hu]
   refine run_firstCells_some (P:=P) w' (Enc.sz α) m.length ad m.length uc news h1.len λj q hq => ?_
   have:=h2 j q hq
   unfold World.cell? at this ⊢
   cases hh:w.heap[(ad.add j).block]? with
   | none=>rw[hh] at this;cases this
   | some o=>rw[hh] at this;rw[hw _ _ hh];exact this
 obtain⟨news,hrep,hfirst⟩:=hnews
 have hlen:(Builtin.lenOf u).run P w = .ok m.length w:=by rw[hu];rfl
 have hsize:∀ w,(sizeOf E).run P w = .ok (Enc.sz α) w:=λw=>by simp[sizeOf,typeInfo,hE.hi,hE.hs]
 have hinfo:∀ w,(typeInfo E).run P w = .ok ei w:=λw=>by simp[typeInfo,hE.hi]
 have hzero:∀ w,(zeroValue E).run P w = .ok zv w:=λw=>by simp[zeroValue,typeInfo,hE.hi,hE.hz]
 have key:∃ v' w',(Builtin.append_ #[T,T] ty #[v,u]).run P w = .ok v' w'∧Inv w' S (Row E v' (l++m)::O):=by
  obtain⟨h,hk,hI'⟩:=hI.open_
  rcases hk with ⟨rfl,rfl,rfl⟩ | ⟨g,cap,pre,ls,post,rfl,rfl,h3,h4,h5,h6⟩
  ·
   by_cases hm:m=[]
   ·subst hm
    have:news=[]:=hrep
    subst this
    refine⟨.slice none 0 0,w,?_,by simpa using hI⟩
    have:=hfirst w (λ_ _ h=>h)
    simp only[j7_] at this hlen
    simp[Builtin.append_,run_underlying hT,hsize,hlen,this]
   ·have h0:0<m.length:=List.length_pos_iff.2 hm
    cases ua with
    | none=>exact absurd (hun rfl) hm
    | some ad =>
     obtain⟨news',h1,h2⟩:=(hur ad rfl).repL
     subst hu
     have hrun:=run_append_nil (P:=P) w T ty E ei zv hT hE.hi hE.hz ad m.length uc news' (by rw[hE.hs];exact h1.len) h2 h0 (by simp at hlim;omega) (by
      rw[hE.hb]
      have:m.length * bytes≤2147483648 * 65536:=Nat.mul_le_mul (by simpa using hlim) hby
      omega)
     refine⟨_,_,hrun,?_⟩
     have hI2:=(hI'.drop.drew).new (.cells (news'.toArray++Builtin.zeroCells zv.cells (grownCap w m.length 0 E - m.length)) E)
     refine hI2.shut (A:=Row E _ _) (.inr ⟨w.heap.size,grownCap w m.length 0 E,[],news',(Builtin.zeroCells zv.cells (grownCap w m.length 0 E - m.length)).toList,by simp,?_,h1,grownCap_ge w m.length 0 E,grownCap_le_maxLen w _ _ _ (by simp only[maxLen];simp at hlim;omega),?_⟩)
     ·congr 2
      apply Array.ext'
      simp
     ·have hge:=grownCap_ge w m.length 0 E
      simp only[g8_,q5_,size_zeroCells,hE.hzs]
      rw[← j1_]
      exact i1_ _ (by omega)
  ·by_cases hroom:l.length+m.length≤cap
   ·
    have hl1:=hrep.len
    have hl3:=h3.len
    have hfit:news.length≤post.length:=by
     have:=i1_ (Enc.sz α) hroom
     rw[j1_] at this
     omega
    have hpost:post=post.take news.length++post.drop news.length:=(g1_ _ _).symm
    have eq1:pre++(ls++post)=(pre++ls)++(post.take news.length++post.drop news.length):=by rw[← hpost,b3_]
    rw[eq1] at hI'
    obtain⟨w',hst,hI''⟩:=ia_ (P:=P) (X:=news) hI' (by simp;omega) (λq hq=>hrep.cell1 q hq)
    refine⟨.slice (some ⟨g,pre.length,none⟩) (l.length+m.length) cap,w',?_,hI''.shut (A:=Row E _ _) (.inr ⟨g,cap,pre,ls++news,post.drop news.length,by simp,by simp[b3_],h3.append hrep,by simpa using hroom,h5,?_⟩)⟩
    ·have hf:=hfirst w (λ_ _ h=>h)
     have hadd:(⟨g,pre.length,none⟩:Addr).add (l.length * Enc.sz α)=⟨g,(pre++ls).length,none⟩:=by rw[fj_,← hl3];simp
     simp[Builtin.append_,run_underlying hT,hsize,hlen,hroom,hf,hadd]
     have:=hst
     simp only[a9_] at this
     simp[this]
    ·simp only[a9_,j2_,j1_]
     omega
   ·
    have hb:=hI'.front g _ (by simp[Hp.one];rfl)
    have hcells:=bg0 hb
    have h63:¬ ((((l.length+m.length:Nat):Int)) > IntKind.i64.max∧(ei.bytes=0)):=by
     rintro⟨h,_⟩
     simp[IntKind.max,IntKind.signed,IntKind.bits] at h
     omega
    have hnext:¬ (281474976710656<Builtin.nextslicecap (l.length+m.length) cap * ei.bytes):=by
     have hfits:=growslice_fits (need:=l.length+m.length) (old:=cap) (bytes:=bytes) (by omega) (by
      have:(l.length+m.length) * bytes≤2147483648 * 65536:=Nat.mul_le_mul hlim hby
      omega)
     rw[hE.hb]
     omega
    have hf:=hfirst w.drew (λ_ _ h=>h)
    have hfo:=run_firstCells_some (P:=P) w.drew (Enc.sz α) l.length ⟨g,pre.length,none⟩ l.length cap ls h3.len (by simpa using hcells)
    have h63':¬ (9223372036854775807<((l.length:Int)+(m.length:Int))):=by omega
    have hrun:(Builtin.append_ #[T,T] ty #[.slice (some ⟨g,pre.length,none⟩) l.length cap,u]).run P w =
      .ok (.slice (some ⟨w.heap.size,0,none⟩) (l.length+m.length) (grownCap w (l.length+m.length) cap E))
       (w.drew.alloc (.cells (ls.toArray++news.toArray++Builtin.zeroCells zv.cells (grownCap w (l.length+m.length) cap E - (l.length+m.length))) E)):=by
     have hroom':¬ (l.length+m.length≤cap):=hroom
     simp[Builtin.append_,run_underlying hT,hsize,hlen,hinfo,hzero,hroom',h63',hnext,Question.forced,hf,hfo,newRow,grownCap]
     congr 2
     apply Array.ext'
     simp[b3_]
    refine⟨_,_,hrun,?_⟩
    have hI2:=(hI'.drop.drew).new (.cells (ls.toArray++news.toArray++Builtin.zeroCells zv.cells (grownCap w (l.length+m.length) cap E - (l.length+m.length))) E)
    have hge:=grownCap_ge w (l.length+m.length) cap E
    refine hI2.shut (A:=Row E _ _) (.inr ⟨w.heap.size,grownCap w (l.length+m.length) cap E,[],ls++news,(Builtin.zeroCells zv.cells (grownCap w (l.length+m.length) cap E - (l.length+m.length))).toList,by simp,?_,h3.append hrep,by simpa using hge,grownCap_le_maxLen w _ _ _ (by simp only[maxLen];omega),?_⟩)
    ·congr 2
     apply Array.ext'
     simp[b3_]
    ·simp only[a9_,q5_,size_zeroCells,hE.hzs]
     rw[← j1_]
     exact i1_ _ (by omega)
 obtain⟨v',w',hrun,hI'⟩:=key
 refine cy_ hd (v:=v') (w':=w') ?_ (k _ _ hI')
 simp[execOp,hx,hy,resolve,invoke,builtin,hrun]
end ops
end
section
variable {ro:Option Nat}
def frV:List Value→Nat→Value
 | [],_=>undef
 | v::_,0=>v
 | _::l,i+1=>frV l i
def fr0 (l:List Value):Fr:=⟨frV l,[]⟩
theorem bz4:∀ (l:List Value) (i:Nat),(l.toArray).getD i undef=frV l i
 | [],i=>by simp[frV,a8_]
 | v::l,0=>by simp[frV,a8_]
 | v::l,i+1=>by
  have:=bz4 l i
  simp only[a8_,e0_] at this ⊢
  simpa [frV] using this
def Done (S:PH) (Fr:List HP) (Ψ:PH→Value→List HP→Prop):Ending→World→Prop
 | .returned v,w'=>∃ T O',S.Le T∧Inv w' T (O'++Fr)∧Ψ T v O'
 | _,_=>False
abbrev DoneV (S:PH) (Fr:List HP) (r:Value):Ending→World→Prop:=Done S Fr λ_ v O'=>v=r∧O'=[]
section
variable {P:Program} {n k:Nat}
def cr3 (P:Program) (fn:Func) (n:Nat) (f:Fr) (w:World) (v:Value):Prop:=∀ a,Fits n a f→(results fn a.tmps).run P w = .ok v w
theorem res1 {fn:Func} {t:Nat} {f:Fr} {w:World} {v:Value} (h:fn.results = #[.tmp t]) (hv:f t=v):cr3 P fn n f w v:=by
 intro a ha
 rw[results_tmp h,ha.at_ t,hv]
def Ret (P:Program) (fn:Func) (n:Nat) (R:Ending→World→Prop) (f:Fr) (w:World):Prop:=f.ds=[]∧∃ v,cr3 P fn n f w v∧R (.returned v) w
def cm6 (Ds:List Nat):List Deferred:=Ds.map λD=>{ target:=.collected D,args := #[] }
def Going (P:Program) (fn:Func) (n:Nat) (R:Ending→World→Prop) (f:Fr):List Nat→World→Prop
 | [],w=>∃ v,cr3 P fn n f w v∧R (.returned v) w
 | D::Ds,w=>w.heap[D]?=some (.deferred (some []))∧Going P fn n R f Ds { w with heap:=w.heap.setIfInBounds D (.deferred none) }
def RetM (P:Program) (fn:Func) (n:Nat) (R:Ending→World→Prop) (f:Fr) (w:World):Prop:=∃ Ds,f.ds=cm6 Ds∧Going P fn n R f Ds w
theorem yh_ {fn:Func} {R:Ending→World→Prop} {f:Fr}:∀ (Ds:List Nat) (w:World) (fr:Frame) (cs:List Frame),fr.mode = .returning→fr.defers=cm6 Ds→P.funcs[fr.fn]?=some fn→fr.kind = .normal →
  (∀ ds,Fits n { tmps:=fr.tmps,defers:=ds } { f with ds:=ds })→Going P fn n R f Ds w→∃ v w' fr',R (.returned v) w'∧Steps P (lone fr cs w) (lone fr' cs w')∧fr'.fn=fr.fn∧fr'.leaving P w' (.returned v)
 | [],w,fr,cs,hm,hd,hf,hk,hfit,⟨v,hv,hR⟩=>by
  have hv':=hv { tmps:=fr.tmps,defers:=f.ds } (hfit f.ds)
  exact⟨v,w,fr,hR,Steps.refl P _,rfl,hm,hd,hk,fn,hf,hv'⟩
 | D::Ds,w,fr,cs,hm,hd,hf,hk,hfit,⟨hD,hg⟩=>by
  obtain⟨v,w',fr',h1,h2,h4,h3⟩:=yh_ Ds _ { fr with defers:=cm6 Ds } cs hm rfl hf hk hfit hg
  refine⟨v,w',fr',h1,Steps.trans (.one (step_lone_go ?_)) h2,h4,h3⟩
  have hd':fr.defers={ target:=.collected D,args := #[] }::cm6 Ds:=hd
  have ht:(Instr.takeDeferred D).run P w = .ok [] { w with heap:=w.heap.setIfInBounds D (.deferred none) }:=by
   simp[Instr.takeDeferred,Sem.run_bind,getObj,setObj,Sem.run,hD,Result.andThen]
  simp[stepG,unwind,hm,hd',Sem.runT_eq,ht,GStep.bare_after]
theorem ru_ {fn:Func} {c:Code} {vs:List Value} {w:World} {R:Ending→World→Prop} (hf:P.funcs[k]?=some fn) (hb:fn.body=some c) (hn:fn.ntmps=n) (hl:Nat.ble vs.length n=true)
  (h:WP P n none c (Ret P fn n R) (Ret P fn n R) (λ_ _ _=>False) (fr0 vs) w):Calls P k vs.toArray w R:=by
 refine bh4.1 (callsIn_of_wp (F:=FW none) (n:=0) hf hb trivial ?_ rfl)
 have hsz:vs.toArray.size≤n:=by simpa using b6_ hl
 have hfit:=Fits.enter (args:=vs.toArray) hsz
 have e:(⟨λi=>vs.toArray.getD i undef,[]⟩:Fr)=fr0 vs:=congrArg (λg=>(⟨g,[]⟩:Fr)) (funext λi=>bz4 vs i)
 rw[e] at hfit
 rw[hn]
 refine Go.wpIn_mono (h _ hfit) λex a w' hq => ?_
 obtain⟨f',hf',hq⟩:=hq
 cases ex with
 | normal=>obtain⟨hd,v,hv,hr⟩:=hq;exact⟨hf'.defers.trans hd,v,hv a hf',hr⟩
 | ret=>obtain⟨hd,v,hv,hr⟩:=hq;exact⟨hf'.defers.trans hd,v,hv a hf',hr⟩
 | exit i=>exact hq.elim
 | goto l=>exact hq.elim
 | panic ch=>exact hq.elim
 | outgrown=>exact hq.elim
theorem ar1 {fn:Func} {c:Code} {vs:List Value} {w:World} {R:Ending→World→Prop} (hf:P.funcs[k]?=some fn) (hb:fn.body=some c) (hn:fn.ntmps=n) (hl:Nat.ble vs.length n=true)
  (h:WP P n none c (RetM P fn n R) (RetM P fn n R) (λ_ _ _=>False) (fr0 vs) w):Calls P k vs.toArray w R:=by
 intro cs
 have hsz:vs.toArray.size≤n:=by simpa using b6_ hl
 have hfit:=Fits.enter (args:=vs.toArray) hsz
 have e:(⟨λi=>vs.toArray.getD i undef,[]⟩:Fr)=fr0 vs:=congrArg (λg=>(⟨g,[]⟩:Fr)) (funext λi=>bz4 vs i)
 rw[e] at hfit
 let b:Frame:={ (default:Frame) with fn:=k,kind:=.normal }
 have henter:Frame.enter P k vs.toArray .normal=b.at { tmps:=vs.toArray++Array.replicate (n - vs.toArray.size) undef,defers:=[] } [.code c]:=by
  simp[Frame.enter,Frame.at,hf,hb,hn,b]
 obtain⟨ex,a',w',⟨f',hf',hq⟩,harr⟩:=(wpIn_wide (n:=0)).1 (h _ hfit) b [] cs
 rw[← henter] at harr
 have fin:RetM P fn n R f' w'→∀ fr:Frame,fr.mode = .returning→fr.defers=a'.defers→fr.tmps=a'.tmps→fr.fn=k→fr.kind = .normal→Steps P (lone (Frame.enter P k vs.toArray .normal) cs w) (lone fr cs w') →
   ∃ e w'' fr',R e w''∧Comes P (lone (Frame.enter P k vs.toArray .normal) cs w) (lone fr' cs w'') e∧fr'.fn=k∧fr'.leaving P w'' e:=by
  rintro⟨Ds,hds,hg⟩ fr hm hd ht hfn hk hs
  obtain⟨v,w'',fr',h1,h2,h4,h3⟩:=yh_ Ds w' fr cs hm (by rw[hd,hf'.defers,hds]) (by rw[hfn];exact hf) hk (λds=>⟨by rw[ht];exact hf'.size,rfl,λi=>by rw[ht];exact hf'.at_ i⟩) hg
  exact⟨.returned v,w'',fr',h1,Steps.trans hs h2,h4.trans hfn,h3⟩
 cases ex with
 | normal=>exact fin hq { b.at a' [] with mode:=.returning } rfl rfl rfl rfl rfl (Steps.trans harr (.one step_end))
 | ret=>obtain⟨todo,hs⟩:=harr;exact fin hq { b.at a' todo with mode:=.returning } rfl rfl rfl rfl rfl hs
 | exit i=>exact hq.elim
 | goto l=>exact hq.elim
 | panic ch=>exact hq.elim
 | outgrown=>exact hq.elim
def eh_ (P:Program) (k:FuncId):Prop:=∃ fn,P.funcs[k]?=some fn∧fn.body.isNone=false∧(fn.name == "runtime.NumGoroutine")=false
variable {f:Fr} {w:World} {K:Fr→World→Prop} {d:Nat} {ty:TypeId} {pos:String} {af:Array Edge} {gd:Option (Nat×Bool)}
theorem mz_ {o:Oper} {vs:Array Value} {R:Ending→World→Prop} (hrun:∀ a,Fits n a f→(execOp a.eval o).run P w = .ok (.enter k vs) w)
  (hc:Calls P k vs w R) (hR:∀ e w',R e w'→∃ v,e = .returned v∧ey_ n o.dst=true∧K (wy_ f o.dst v) w'):OP P n ro o f w K:=by
 intro a ha Q
 refine⟨λ_ _=>trivial,?_⟩
 rw[qg_ (hrun a ha) (λ_ e=>by cases e)]
 refine⟨λh=>(by cases h),bh4.2 (hc.mono λe w' h => ?_)⟩
 obtain⟨v,rfl,hd,hk⟩:=hR e w' h
 exact⟨_,ha.putO hd v,hk⟩
theorem sh_ {vs:Array Value} {args:Array Operand} {ct:Array TypeId} {g:Operand} {cap:Array Value} {dst:Option Nat} (hk:eh_ P k) (hg:ev f g = .func (.func k) #[] cap) (hargs:(args.map (ev f))++cap=vs) :
  ∀ a,Fits n a f→(execOp a.eval ⟨dst,.call ⟨.value g,args,ct⟩,ty,pos,af,gd⟩).run P w = .ok (.enter k vs) w:=by
 intro a ha
 obtain⟨fn,h1,h2,h3⟩:=hk
 rw[ha.eval]
 subst hargs
 have h3':fn.name ≠ "runtime.NumGoroutine" := by simpa using h3
 have h2':fn.body≠none:=by intro e;rw[e] at h2;cases h2
 simp[execOp,resolve,hg,Deferred.ofValue,invoke,callFunc,h1]
 rw[if_neg h3',if_neg h2']
end
section
variable {w:World} {S:PH} {O:List HP}
def ay7:List HP→Prop
 | []=>True
 | A::l=>A.Free∧ay7 l
theorem bb3 {w':World} {S U:PH} {Fr:List HP} {O:List HP} (h2:∀ w' S' V,Own w' S' V Fr→Own w' S V O):∀ {M:List HP} {V:Hp},ay7 M→Own w' U V (M++Fr)→Own w' S V (M++O)
 | [],V,_,h=>h2 _ _ _ h
 | B::M,V,⟨hB,hM⟩,⟨k,hk,hd,hr⟩=>⟨k,hB _ _ _ hk,hd,bb3 h2 hM hr⟩
theorem Inv.lendN:∀ (L:List HP) {O:List HP},Inv w S (L++O)→∃ T,∃ hs:List Hp,∃ Fr:List HP,S.Le T∧Inv w T Fr∧hs.length=L.length ∧
  (∀ (i:Nat) A h,L[i]?=some A→hs[i]?=some h→A.p S h∧h.Le T.m)∧∀ {w' U} (M:List HP),ay7 M→Inv w' U (M++Fr)→T.Le U→Inv w' S (M++(L++O)):=by
 intro L O hI
 have gen:∀ (L:List HP) (U:Hp),Own w S U (L++O)→∃ hs:List Hp,∃ V:Hp,hs.length=L.length∧U.Le V∧(∀ (i:Nat) A h,L[i]?=some A→hs[i]?=some h→A.p S h∧h.Le V)∧Own w S V O ∧
   ∀ w' (M:List HP),Own w' S V (M++O)→Own w' S U (M++(L++O)):=by
  intro L
  induction L with
  | nil=>intro U h;exact⟨[],U,rfl,Hp.Le.refl _,by simp,h,λ_ _ h=>h⟩
  | cons A L ih =>
   rintro U ⟨k,hA,hd,hr⟩
   obtain⟨hs,V,h1,h2,h3,h4,h5⟩:=ih _ hr
   refine⟨k::hs,V,by simp[h1],(Hp.le_un_right hd).trans h2,?_,h4,λw' M h'=>Own.perm List.perm_middle.symm _ ⟨k,hA,hd,h5 w' M h'⟩⟩
   intro i B h hB hh
   cases i with
   | zero=>simp at hB hh;subst hB;subst hh;exact⟨hA,(Hp.le_un_left _ _).trans h2⟩
   | succ i=>exact h3 i B h (by simpa using hB) (by simpa using hh)
 obtain⟨hs,V,h1,h2,h3,h4,h5⟩:=gen L S.m hI.own
 obtain⟨es,h6,h7⟩:=Own.exactly h4
 have hle:S.Le ⟨V,S.os,S.out⟩:=⟨h2,rfl,rfl⟩
 refine⟨⟨V,S.os,S.out⟩,hs,es.map HP.exact,hle,⟨hI.os,hI.out,Own.upS hle h6⟩,h1,h3,λ{w' U} M hM h' htu => ?_⟩
 exact⟨h'.os.trans htu.os,h'.out.trans htu.out,h5 w' M (bb3 h7 hM (Own.antitone htu.m h'.own))⟩
variable {α β γ δ:Type} [Enc α] [Enc β] [Enc γ] [Enc δ] {T1 T2 T3 T4:TypeId} {v1 v2 v3 v4:Value} {l1:List α} {l2:List β} {l3:List γ} {l4:List δ}
variable {ε ζ:Type} [Enc ε] [Enc ζ] {T5 T6:TypeId} {v5 v6:Value} {l5:List ε} {l6:List ζ}
end
def FnV {α:Type} [Enc α] (P:Program) (S:PH) (v:Value) (g:α→Option Bool):Prop :=
 ∃ (k:FuncId) (cap:List Value),v = .func (.func k) #[] cap.toArray∧eh_ P k∧∀ T w Fr u x r,S.Le T→Inv w T Fr→RV T u x→g x=some r→Calls P k (u::cap).toArray w (DoneV T Fr (.bool r))
theorem FnV.mono {α:Type} [Enc α] {P:Program} {S T:PH} {v:Value} {g:α→Option Bool} (h:FnV P S v g) (hle:S.Le T):FnV P T v g:=by
 obtain⟨k,cap,h1,h2,h3⟩:=h
 exact⟨k,cap,h1,h2,λU w Fr u x r hu=>h3 U w Fr u x r (hle.trans hu)⟩
theorem bnd {α β:Type} {x:Option α} {k:α→Option β} {r:β} (h:x.bind k=some r):∃ y,x=some y∧k y=some r:=Option.bind_eq_some_iff.1 h
end
section
variable {ro:Option Nat}
def AllP:List Nat→(Nat→Prop)→Prop
 | [],_=>True
 | a::l,p=>p a∧AllP l p
theorem AllP.of {p:Nat→Prop}:∀ {l:List Nat},(∀ a ∈ l,p a)→AllP l p
 | [],_=>trivial
 | a::l,h=>⟨h a (by simp),AllP.of λb hb=>h b (by simp[hb])⟩
structure Sp where
 dst:Option Nat
 anc:List Nat
 deps:List Nat
 fact:List Value→PH→Prop
 rd:List Nat
 cons:List Nat
 prod:List Nat
 mono:∀ {vs:List Value} {S T:PH},S.Le T→fact vs S→fact vs T
structure Tok where
 prod:Option Nat
 cons:Option Nat
 deps:List Nat
 e:List Value→HP
def OPg (P:Program) (n:Nat) (ro:Option Nat) (ops:Array Oper) (i:Nat) (f:Fr) (w:World) (K:Fr→World→Prop):Prop :=
 ∀ a,Fits n a f→∀ Q,wpOpIn (FW ro) 0 P ops Q i (λa' w'=>∃ f',Fits n a' f'∧K f' w') a w
section
variable {P:Program} {n:Nat} {ops:Array Oper} {i:Nat} {f:Fr} {w:World} {K:Fr→World→Prop}
theorem xs_ {o:Oper} (ho:ops[i]?=some o) (hg:o.guard=none) (h:OP P n ro o f w K):OPg P n ro ops i f w K:=by
 intro a ha Q
 unfold wpOpIn
 rw[ho]
 simp only
 rw[if_pos (by simp[Region.wanted,hg])]
 exact h a ha Q
theorem an9 {o:Oper} {j d:Nat} {b c:Bool} (ho:ops[i]?=some o) (hg:o.guard=some (j,b)) (hj:(ops[j]?).bind (·.dst)=some d) (hd:Nat.blt d n=true) (hv:f d = .bool c) (hc:c=b) (h:OP P n ro o f w K):OPg P n ro ops i f w K:=by
 intro a ha Q
 unfold wpOpIn
 rw[ho]
 simp only
 rw[if_pos (by rw[se_ ha hg hj hd hv];simp[hc])]
 exact h a ha Q
theorem bb4 {o:Oper} {j d:Nat} {b c:Bool} (ho:ops[i]?=some o) (hg:o.guard=some (j,b)) (hj:(ops[j]?).bind (·.dst)=some d) (hd:Nat.blt d n=true) (hv:f d = .bool c) (hc:c = !b) (hdo:ey_ n o.dst=true) (h:K (wy_ f o.dst undef) w):OPg P n ro ops i f w K:=by
 intro a ha Q
 unfold wpOpIn
 rw[ho]
 simp only
 rw[if_neg (by rw[se_ ha hg hj hd hv,hc];cases b<;>simp)]
 exact⟨λ_ _=>trivial,_,ha.putO hdo undef,h⟩
end
def noTok:Tok:=⟨none,none,[],λ_=>HP.exact Hp.emp⟩
def lq_ (tks:List Tok) (vals:Nat→Value) (t:Nat):HP:=(tks.getD t noTok).e ((tks.getD t noTok).deps.map vals)
def Ob (P:Program) (n:Nat) (ro:Option Nat) (ops:Array Oper) (sps:List Sp) (tks:List Tok) (f0:Fr) (S:PH) (i:Nat) (s:Sp):Prop :=
 ∀ (vals:Nat→Value) (f:Fr) (w:World) (S':PH) (X:List HP),S.Le S' →
  AllP s.anc (λj=>∀ t,sps[j]?=some t→(∀ d,t.dst=some d→f d=vals j)∧t.fact (t.deps.map vals) S') →
  (∀ d,(∀ (j:Nat) (t:Sp),sps[j]?=some t→t.dst=some d→i ∈ t.anc∨i=j)→f d=f0 d) →
  Inv w S' (s.cons.map (lq_ tks vals)++(s.rd.map (lq_ tks vals)++X)) →
  OPg P n ro ops i f w λf' w'=>∃ v S'',f'=wy_ f s.dst v∧S'.Le S''∧s.fact (s.deps.map (upv vals i v)) S'' ∧
   Inv w' S'' (s.prod.map (lq_ tks (upv vals i v))++(s.rd.map (lq_ tks vals)++X))
def Obs (P:Program) (n:Nat) (ro:Option Nat) (ops:Array Oper) (sps:List Sp) (tks:List Tok) (f0:Fr) (S:PH):Nat→List Sp→Prop
 | _,[]=>True
 | i,s::r=>Ob P n ro ops sps tks f0 S i s∧Obs P n ro ops sps tks f0 S (i+1) r
theorem Obs.at_ {P:Program} {n:Nat} {ops:Array Oper} {sps:List Sp} {tks:List Tok} {f0:Fr} {S:PH}:∀ {r:List Sp} {i k:Nat} {s:Sp},Obs P n ro ops sps tks f0 S i r→r[k]?=some s→Ob P n ro ops sps tks f0 S (i+k) s
 | [],_,_,_,_,h=>by simp at h
 | t::r,i,0,s,h,hk=>by simp at hk;subst hk;exact h.1
 | t::r,i,k+1,s,h,hk=>by
  have:=Obs.at_ (k:=k) h.2 (by simpa using hk)
  rwa [show i+1+k=i+(k+1) by omega] at this
def cm_ (o:Oper):List Nat:=(o.after.toList.filter (Region.binds .any)).map (·.on)
def at4 (ops:List Oper) (sps:List Sp) (tks:List Tok):Bool :=
 ops.length==sps.length &&
 (List.range sps.length).all (λi=>match ops[i]?,sps[i]? with
  | some o,some s =>
   o.dst==s.dst &&
   (cm_ o).all (λp=>s.anc.contains p&&(match sps[p]? with | some q=>q.anc.all s.anc.contains | none=>false)) &&
   s.anc.all (λa=>Nat.blt a i&&(cm_ o).any (λp=>p==a||(match sps[p]? with | some q=>q.anc.contains a | none=>false))) &&
   s.deps.all (λd=>d==i||s.anc.contains d) &&
   s.cons.all (λt=>match tks[t]? with | some k=>k.cons==some i | none=>false) &&
   s.prod.all (λt=>match tks[t]? with | some k=>k.prod==some i | none=>false) &&
   s.rd.all (λt=>match tks[t]? with
    | some k=>(match k.prod with | some p=>s.anc.contains p | none=>true)&&(match k.cons with | some c=>(match sps[c]? with | some q=>q.anc.contains i | none=>false) | none=>true)
    | none=>false) &&
   (List.range sps.length).all (λj=>j==i||(match sps[j]? with | some q=>!(s.dst.isSome&&q.dst==s.dst) | none=>true)) &&
   decide s.cons.Nodup&&decide s.prod.Nodup&&decide s.rd.Nodup
  | _,_=>false) &&
 (List.range tks.length).all (λt=>match tks[t]? with
  | some k =>
   (match k.prod with | some p=>(match sps[p]? with | some q=>q.prod.contains t&&k.deps.all (λd=>d==p||q.anc.contains d) | none=>false) | none=>k.deps.isEmpty) &&
   (match k.cons with | some c=>(match sps[c]? with | some q=>q.cons.contains t&&(match k.prod with | some p=>q.anc.contains p | none=>true) | none=>false) | none=>true)
  | none=>false)
def ib_ (tks:List Tok) (done:Nat→Bool):List Nat :=
 (List.range tks.length).filter λt=>match tks[t]? with
  | some k=>(match k.prod with | some p=>done p | none=>true)&&!(match k.cons with | some c=>done c | none=>false)
  | none=>false
theorem op_ {P:Program} {ops:Array Oper} {Q:Exit→Act→World→Prop} (I:Array Bool→Act→World→Prop)
  (hstep:∀ listed a w i,listed.size=ops.size→I listed a w→i ∈ Region.ready .any ops listed→wpOpIn (FW ro) 0 P ops Q i (I (listed.setIfInBounds i true)) a w)
  (hend:∀ listed a w,listed.size=ops.size→I listed a w→Region.ready .any ops listed=[]→Q .normal a w) :
  ∀ fuel listed a w,listed.size=ops.size→(List.range ops.size).countP (λi=>!listed.getD i true)≤fuel→I listed a w→wpAnyIn (FW ro) 0 P .any ops Q fuel listed a w
 | 0,listed,a,w,hsz,hc,hI=>by
  have hr:Region.ready .any ops listed=[]:=by
   unfold Region.ready
   rw[List.filter_eq_nil_iff]
   intro i hi
   have:=List.countP_eq_zero.1 (Nat.le_zero.1 hc) i hi
   intro hh
   simp only[a1_] at hh
   exact this hh.1
  exact⟨hr,hend _ _ _ hsz hI hr⟩
 | fuel+1,listed,a,w,hsz,hc,hI=>by
  refine⟨λhr=>hend _ _ _ hsz hI hr,λi hi => ?_⟩
  refine wpOpIn_mono (λa' w' hI' => ?_) (hstep listed a w i hsz hI hi)
  refine op_ I hstep hend fuel _ a' w' (by simpa using hsz) ?_ hI'
  have hm:=d0_.1 hi
  have hir:i<ops.size:=by simpa using hm.1
  have hun:listed.getD i true=false:=by have:=hm.2;simp only[a1_] at this;simpa using this.1
  have key:(List.range ops.size).countP (λk=>!(listed.setIfInBounds i true).getD k true)<(List.range ops.size).countP (λk=>!listed.getD k true):=by
   have gen:∀ (l:List Nat),l.Nodup→i ∈ l→l.countP (λk=>!(listed.setIfInBounds i true).getD k true)<l.countP (λk=>!listed.getD k true):=by
    intro l
    induction l with
    | nil=>intro _ h;simp at h
    | cons x l ih =>
     intro hn hx
     have hset:∀ k,k≠i→(listed.setIfInBounds i true).getD k true=listed.getD k true:=λk hk=>by
      simp[a8_,h2_ (n5_ hk)]
     have hsame:(listed.setIfInBounds i true).getD i true=true:=by
      simp[a8_,j5_,hsz,hir]
     rw[j3_,j3_]
     by_cases hxi:x=i
     ·subst hxi
      have hnot:x ∉ l:=(l0_.1 hn).1
      have:l.countP (λk=>!(listed.setIfInBounds x true).getD k true)=l.countP (λk=>!listed.getD k true):=by
       apply List.countP_congr
       intro k hk
       rw[hset k (λe=>hnot (e ▸ hk))]
      rw[this]
      simp[hsame,hun]
     ·have:=ih (l0_.1 hn).2 (by rcases d8_.1 hx with h | h;exact absurd h.symm hxi;exact h)
      rw[hset x hxi]
      omega
   exact gen _ List.nodup_range (by simpa using hir)
  omega
structure TabOk (ops:List Oper) (sps:List Sp) (tks:List Tok):Prop where
 len:ops.length=sps.length
 dst:∀ {i:Nat} {o:Oper} {s:Sp},ops[i]?=some o→sps[i]?=some s→o.dst=s.dst
 preds:∀ {i:Nat} {o:Oper} {s:Sp} {p:Nat},ops[i]?=some o→sps[i]?=some s→p ∈ cm_ o→p ∈ s.anc
 anc:∀ {i:Nat} {o:Oper} {s:Sp} {a:Nat},ops[i]?=some o→sps[i]?=some s→a ∈ s.anc→a<i∧∃ p ∈ cm_ o,p=a∨∃ q,sps[p]?=some q∧a ∈ q.anc
 deps:∀ {i:Nat} {s:Sp} {d:Nat},sps[i]?=some s→d ∈ s.deps→d=i∨d ∈ s.anc
 cons:∀ {i:Nat} {s:Sp} {t:Nat},sps[i]?=some s→t ∈ s.cons→∃ k,tks[t]?=some k∧k.cons=some i
 prod:∀ {i:Nat} {s:Sp} {t:Nat},sps[i]?=some s→t ∈ s.prod→∃ k,tks[t]?=some k∧k.prod=some i
 rd:∀ {i:Nat} {s:Sp} {t:Nat},sps[i]?=some s→t ∈ s.rd→∃ k,tks[t]?=some k∧(∀ p,k.prod=some p→p ∈ s.anc)∧(∀ c,k.cons=some c→∃ q,sps[c]?=some q∧i ∈ q.anc)
 once:∀ {i j:Nat} {s q:Sp} {d:Nat},sps[i]?=some s→sps[j]?=some q→s.dst=some d→q.dst=some d→i=j
 nd1:∀ {i:Nat} {s:Sp},sps[i]?=some s→s.cons.Nodup
 nd2:∀ {i:Nat} {s:Sp},sps[i]?=some s→s.prod.Nodup
 nd3:∀ {i:Nat} {s:Sp},sps[i]?=some s→s.rd.Nodup
 tp:∀ {t:Nat} {k:Tok} {p:Nat},tks[t]?=some k→k.prod=some p→∃ q,sps[p]?=some q∧t ∈ q.prod∧∀ d ∈ k.deps,d=p∨d ∈ q.anc
 tn:∀ {t:Nat} {k:Tok},tks[t]?=some k→k.prod=none→k.deps=[]
 tc:∀ {t:Nat} {k:Tok} {c:Nat},tks[t]?=some k→k.cons=some c→∃ q,sps[c]?=some q∧t ∈ q.cons∧∀ p,k.prod=some p→p ∈ q.anc
theorem hq_ {α:Type} {l:List α} {i:Nat} {x:α} (h:l[i]?=some x):i<l.length:=(a4_.1 h).1
theorem TabOk.of {ops:List Oper} {sps:List Sp} {tks:List Tok} (h:at4 ops sps tks=true):TabOk ops sps tks:=by
 unfold at4 at h
 rw[a1_,a1_] at h
 obtain⟨⟨h1,h2⟩,h3⟩:=h
 have hlen:ops.length=sps.length:=by simpa using h1
 have hop:∀ {i:Nat} {o:Oper} {s:Sp},ops[i]?=some o→sps[i]?=some s→_:=λ{i o s} ho hs=>by
  have:=f3_.1 h2 i (by simpa using hq_ hs)
  rw[ho,hs] at this
  simp only[a1_,f3_,decide_eq_true_eq] at this
  exact this
 have hsp:∀ {i:Nat} {s:Sp},sps[i]?=some s→∃ o,ops[i]?=some o:=λ{i s} hs=>by
  have:=hq_ hs
  exact⟨ops[i]'(by omega),a7_ (by omega)⟩
 have htk:∀ {t:Nat} {k:Tok},tks[t]?=some k→_:=λ{t k} hk=>by
  have:=f3_.1 h3 t (by simpa using hq_ hk)
  rw[hk] at this
  simp only[a1_] at this
  exact this
 refine⟨hlen,?_,?_,?_,?_,?_,?_,?_,?_,?_,?_,?_,?_,?_,?_⟩
 ·intro i o s ho hs
  have:=(hop ho hs).1.1.1.1.1.1.1.1.1.1
  simpa using this
 ·intro i o s p ho hs hp
  have:=(hop ho hs).1.1.1.1.1.1.1.1.1.2 p hp
  simpa using this.1
 ·intro i o s a ho hs ha
  have:=(hop ho hs).1.1.1.1.1.1.1.1.2 a ha
  refine⟨by have:=this.1;have:=b6_ this;omega,?_⟩
  obtain⟨p,hp,hq⟩:=l7_.1 this.2
  refine⟨p,hp,?_⟩
  rw[c8_] at hq
  rcases hq with hq | hq
  ·exact .inl (by simpa using hq)
  ·cases hsp':sps[p]? with
   | none=>rw[hsp'] at hq;cases hq
   | some q=>rw[hsp'] at hq;exact .inr ⟨q,rfl,by simpa using hq⟩
 ·intro i s d hs hd
  obtain⟨o,ho⟩:=hsp hs
  have:=(hop ho hs).1.1.1.1.1.1.1.2 d hd
  simpa using this
 ·intro i s t hs ht
  obtain⟨o,ho⟩:=hsp hs
  have:=(hop ho hs).1.1.1.1.1.1.2 t ht
  cases hk:tks[t]? with
  | none=>rw[hk] at this;cases this
  | some k=>rw[hk] at this;exact⟨k,rfl,by simpa using this⟩
 ·intro i s t hs ht
  obtain⟨o,ho⟩:=hsp hs
  have:=(hop ho hs).1.1.1.1.1.2 t ht
  cases hk:tks[t]? with
  | none=>rw[hk] at this;cases this
  | some k=>rw[hk] at this;exact⟨k,rfl,by simpa using this⟩
 ·intro i s t hs ht
  obtain⟨o,ho⟩:=hsp hs
  have:=(hop ho hs).1.1.1.1.2 t ht
  cases hk:tks[t]? with
  | none=>rw[hk] at this;cases this
  | some k =>
   rw[hk] at this
   simp only[a1_] at this
   refine⟨k,rfl,λp hp => ?_,λc hc => ?_⟩
   ·have:=this.1;rw[hp] at this;simpa using this
   ·have:=this.2
    rw[hc] at this
    simp only at this
    cases hq:sps[c]? with
    | none=>rw[hq] at this;cases this
    | some q=>rw[hq] at this;exact⟨q,rfl,by simpa using this⟩
 ·intro i j s q d hs hq hd hd'
  obtain⟨o,ho⟩:=hsp hs
  have:=(hop ho hs).1.1.1.2 j (by simpa using hq_ hq)
  rw[hq] at this
  simp only[c8_,g5_] at this
  rcases this with h | h
  ·exact h.symm
  ·rw[hd,hd'] at h;simp at h
 ·intro i s hs
  obtain⟨o,ho⟩:=hsp hs
  exact (hop ho hs).1.1.2
 ·intro i s hs
  obtain⟨o,ho⟩:=hsp hs
  exact (hop ho hs).1.2
 ·intro i s hs
  obtain⟨o,ho⟩:=hsp hs
  exact (hop ho hs).2
 ·intro t k p hk hp
  have:=(htk hk).1
  rw[hp] at this
  simp only at this
  cases hq:sps[p]? with
  | none=>rw[hq] at this;cases this
  | some q =>
   rw[hq] at this
   simp only[a1_,f3_,c8_,g5_,List.contains_iff_mem] at this
   exact⟨q,rfl,this.1,this.2⟩
 ·intro t k hk hp
  have:=(htk hk).1
  rw[hp] at this
  simpa using this
 ·intro t k c hk hc
  have:=(htk hk).2
  rw[hc] at this
  simp only at this
  cases hq:sps[c]? with
  | none=>rw[hq] at this;cases this
  | some q =>
   rw[hq] at this
   simp only[a1_,List.contains_iff_mem] at this
   refine⟨q,rfl,this.1,λp hp => ?_⟩
   have:=this.2
   rw[hp] at this
   simpa using this
theorem pe_ {α:Type} {l:List α} (h:l.Nodup) (p:α→Bool):(l.filter p).Nodup:=h.sublist o7_
theorem qo_ {tks:List Tok} {done:Nat→Bool} {t:Nat}:t ∈ ib_ tks done↔∃ k,tks[t]?=some k∧(∀ p,k.prod=some p→done p=true)∧(∀ c,k.cons=some c→done c=false):=by
 unfold ib_
 rw[d0_]
 constructor
 ·rintro⟨h1,h2⟩
  cases hk:tks[t]? with
  | none=>rw[hk] at h2;cases h2
  | some k =>
   rw[hk] at h2
   simp only[a1_] at h2
   refine⟨k,rfl,λp hp => ?_,λc hc => ?_⟩
   ·have:=h2.1;rw[hp] at this;exact this
   ·have:=h2.2;rw[hc] at this;simpa using this
 ·rintro⟨k,hk,hp,hc⟩
  refine⟨by simpa using hq_ hk,?_⟩
  rw[hk]
  simp only[a1_]
  refine⟨?_,?_⟩
  ·cases h:k.prod with
   | none=>rfl
   | some p=>exact hp p h
  ·cases h:k.cons with
   | none=>rfl
   | some c=>simp[hc c h]
theorem wp_draw {P:Program} {n:Nat} {N R:Fr→World→Prop} {X:Nat→Fr→World→Prop} {f:Fr} {w:World} {S:PH} {O:List HP} {id:Nat} {l:List Oper} {sps:List Sp} {tks:List Tok}
  (hm:P.follows .mixedOrders=true) (htab:at4 l sps tks=true) (hI:Inv w S ((ib_ tks (λ_=>false)).map (lq_ tks (λ_=>undef))++O))
  (hobs:Obs P n ro l.toArray sps tks f S 0 sps)
  (kont:∀ (vals:Nat→Value) f' w' S',f'.ds=f.ds→S.Le S'→AllP (List.range sps.length) (λj=>∀ t,sps[j]?=some t→(∀ d,t.dst=some d→f' d=vals j)∧t.fact (t.deps.map vals) S') →
   (∀ d,(∀ (j:Nat) (t:Sp),sps[j]?=some t→t.dst≠some d)→f' d=f d)→Inv w' S' ((ib_ tks (λ_=>true)).map (lq_ tks vals)++O)→N f' w') :
  WP P n ro (.region id l.toArray true) N R X f w:=by
 have T:=TabOk.of htab
 intro a ha
 refine wpIn_region_any hm ?_
 let don:Array Bool→Nat→Bool:=λlisted i=>listed.getD i false
 refine op_ (λlisted a w=>∃ (vals:Nat→Value) (f':Fr) (S':PH),Fits n a f'∧f'.ds=f.ds∧S.Le S' ∧
   (∀ i s,sps[i]?=some s→don listed i=true→(∀ j ∈ s.anc,don listed j=true)∧(∀ d,s.dst=some d→f' d=vals i)∧s.fact (s.deps.map vals) S') ∧
   (∀ d,(∀ (j:Nat) (t:Sp),sps[j]?=some t→t.dst=some d→don listed j=false)→f' d=f d) ∧
   Inv w S' ((ib_ tks (don listed)).map (lq_ tks vals)++O)) ?_ ?_ _ _ _ _ (by simp) (c5_ k2_ (by simp)) ?_
 ·rintro listed a w i hsz ⟨vals,f',S',hfit,hds,hle,hdone,hkeep,hInv⟩ hi
  have hm':=d0_.1 hi
  have hir:i<l.length:=by simpa using hm'.1
  have h2:=hm'.2
  rw[a1_] at h2
  have hun:don listed i=false:=by
   have:=h2.1
   have hlt:i<listed.size:=by rw[hsz];simpa using hir
   show listed.getD i false=false
   simpa [a8_,d1_ hlt] using this
  have ho:l[i]?=some (l[i]'hir):=a7_ hir
  have hs:sps[i]?=some (sps[i]'(by rw[← T.len];exact hir)):=a7_ _
  generalize l[i]'hir=o at ho
  generalize sps[i]'(by rw[← T.len];exact hir)=s at hs
  have hpre:∀ p ∈ cm_ o,don listed p=true:=by
   intro p hp
   have:=h2.2
   simp only[e0_,ho,g3_,g2_] at this
   unfold cm_ at hp
   obtain⟨e,he,rfl⟩:=d2_.1 hp
   obtain⟨he1,he2⟩:=d0_.1 he
   rw[i9_] at this
   have:=this e (by simpa using he1)
   rw[he2] at this
   show listed.getD e.on false=true
   simpa [a8_] using this
  have hanc:∀ j ∈ s.anc,don listed j=true:=by
   intro j hj
   obtain⟨_,p,hp,hq⟩:=T.anc ho hs hj
   rcases hq with rfl | ⟨q,hq,hjq⟩
   ·exact hpre _ hp
   ·exact (hdone p q hq (hpre p hp)).1 j hjq
  have hnd:(ib_ tks (don listed)).Nodup:=pe_ List.nodup_range _
  have hcl:∀ t ∈ s.cons,t ∈ ib_ tks (don listed):=by
   intro t ht
   obtain⟨k,hk,hkc⟩:=T.cons hs ht
   refine qo_.2 ⟨k,hk,λp hp => ?_,λc hc => ?_⟩
   ·obtain⟨q,hq,_,hpa⟩:=T.tc hk hkc
    rw[hs] at hq
    obtain rfl:=a6_ hq
    exact hanc p (hpa p hp)
   ·rw[hkc] at hc;obtain rfl:=a6_ hc;exact hun
  have hrl:∀ t ∈ s.rd,t ∈ ib_ tks (don listed):=by
   intro t ht
   obtain⟨k,hk,hp,hc⟩:=T.rd hs ht
   refine qo_.2 ⟨k,hk,λp hpp=>hanc p (hp p hpp),λc hcc => ?_⟩
   obtain⟨q,hq,hiq⟩:=hc c hcc
   cases hd:don listed c with
   | false=>rfl
   | true=>have:=(hdone c q hq hd).1 i hiq;rw[hun] at this;cases this
  have hdisj:∀ t ∈ s.cons,t ∉ s.rd:=by
   intro t ht ht'
   obtain⟨k,hk,hkc⟩:=T.cons hs ht
   obtain⟨k',hk',_,hc⟩:=T.rd hs ht'
   rw[hk] at hk'
   obtain rfl:=a6_ hk'
   obtain⟨q,hq,hiq⟩:=hc i hkc
   rw[hs] at hq
   obtain rfl:=a6_ hq
   exact absurd (T.anc ho hs hiq).1 (Nat.lt_irrefl _)
  let rest:=(ib_ tks (don listed)).filter (λt=>!s.cons.contains t&&!s.rd.contains t)
  have hperm:(ib_ tks (don listed)).Perm (s.cons++(s.rd++rest)):=by
   refine (List.perm_ext_iff_of_nodup hnd ?_).2 λt => ?_
   ·rw[n7_,n7_]
    refine⟨T.nd1 hs,⟨T.nd3 hs,pe_ hnd _,?_⟩,?_⟩
    ·rintro a ha b hb rfl
     have:=(d0_.1 hb).2
     simp[ha] at this
    ·rintro a ha b hb rfl
     rcases b5_.1 hb with hb | hb
     ·exact hdisj a ha hb
     ·have:=(d0_.1 hb).2
      simp[ha] at this
   ·constructor
    ·intro ht
     by_cases h1:t ∈ s.cons
     ·exact b5_.2 (.inl h1)
     ·by_cases h2:t ∈ s.rd
      ·exact b5_.2 (.inr (b5_.2 (.inl h2)))
      ·exact b5_.2 (.inr (b5_.2 (.inr (d0_.2 ⟨ht,by simp[h1,h2]⟩))))
    ·intro ht
     rcases b5_.1 ht with h | h
     ·exact hcl t h
     ·rcases b5_.1 h with h | h
      ·exact hrl t h
      ·exact (d0_.1 h).1
  have hI1:Inv w S' (s.cons.map (lq_ tks vals)++(s.rd.map (lq_ tks vals)++(rest.map (lq_ tks vals)++O))):=by
   refine hInv.perm ?_
   have:=(hperm.map (lq_ tks vals)).append_right O
   simpa [i6_,b3_] using this
  have hob:=Obs.at_ hobs hs
  rw[b0_] at hob
  have hres:=hob vals f' w S' (rest.map (lq_ tks vals)++O) hle
   (AllP.of λj hj t ht=>⟨(hdone j t ht (hanc j hj)).2.1,(hdone j t ht (hanc j hj)).2.2⟩)
   (λd hd=>hkeep d λj t ht htd=>by
    rcases hd j t ht htd with h | h
    ·cases hdj:don listed j with
     | false=>rfl
     | true=>have:=(hdone j t ht hdj).1 i h;rw[hun] at this;cases this
    ·rw[← h];exact hun) hI1 a hfit (Ends n N R X)
  refine wpOpIn_mono ?_ hres
  rintro a' w' ⟨f'',hfit',v,S'',rfl,hle',hfact,hInv'⟩
  have hset:∀ j,don (listed.setIfInBounds i true) j=(j==i||don listed j):=by
   intro j
   show (listed.setIfInBounds i true).getD j false=(j==i||listed.getD j false)
   have hlt:i<listed.size:=by rw[hsz];simpa using hir
   by_cases hj:j=i
   ·subst hj
    simp[a8_,j5_,hlt]
   ·simp[a8_,h2_ (n5_ hj),hj]
  have hval:∀ (ds:List Nat),(∀ d ∈ ds,d≠i)→ds.map (upv vals i v)=ds.map vals:=by
   intro ds hds
   exact m2_ λd hd=>bm8 _ _ _ (hds d hd)
  refine⟨upv vals i v,wy_ f' s.dst v,S'',hfit',(by cases s.dst<;>exact hds),hle.trans hle',?_,?_,?_⟩
  ·intro j t ht hdj
   rw[hset] at hdj
   by_cases hji:j=i
   ·subst hji
    rw[hs] at ht
    obtain rfl:=a6_ ht
    refine⟨λk hk=>by rw[hset,hanc k hk];simp,λd hd => ?_,hfact⟩
    rw[hd]
    show upd f' d v d=upv vals j v j
    rw[nm_,ch4]
   ·have hdj':don listed j=true:=by simpa [hji] using hdj
    obtain⟨h1,h2,h3⟩:=hdone j t ht hdj'
    have hne:∀ k ∈ t.anc,k≠i:=λk hk e=>by have:=h1 k hk;rw[e,hun] at this;cases this
    refine⟨λk hk=>by rw[hset,h1 k hk];simp,λd hd => ?_,?_⟩
    ·rw[bm8 _ _ _ hji,← h2 d hd]
     cases hsd:s.dst with
     | none=>rfl
     | some d' =>
      show upd f' d' v d=f' d
      refine wx_ _ _ _ λe => ?_
      subst e
      exact hji (T.once ht hs hd hsd)
    ·rw[hval t.deps (λd hd=>by
      rcases T.deps ht hd with rfl | h
      ·exact hji
      ·exact hne d h)]
     exact t.mono hle' h3
  ·intro d hd
   cases hsd:s.dst with
   | none =>
    show f' d=f d
    refine hkeep d λj t ht htd => ?_
    have:=hd j t ht htd
    rw[hset] at this
    exact (b8_.1 this).2
   | some d' =>
    show upd f' d' v d=f d
    have hne:d≠d':=by
     rintro rfl
     have:=hd i s hs hsd
     rw[hset] at this
     simp at this
    rw[wx_ _ _ _ hne]
    refine hkeep d λj t ht htd => ?_
    have:=hd j t ht htd
    rw[hset] at this
    exact (b8_.1 this).2
  ·
   have hrest:(s.rd++rest).map (lq_ tks vals)=(s.rd++rest).map (lq_ tks (upv vals i v)):=by
    apply m2_
    intro t ht
    have htl:t ∈ ib_ tks (don listed):=by
     rcases b5_.1 ht with h | h
     ·exact hrl t h
     ·exact (d0_.1 h).1
    obtain⟨k,hk,hp,_⟩:=qo_.1 htl
    unfold lq_
    have hg:tks.getD t noTok=k:=by simp[List.getD,hk]
    rw[hg,hval k.deps]
    intro d hd e
    cases hkp:k.prod with
    | none=>rw[T.tn hk hkp] at hd;simp at hd
    | some p =>
     obtain⟨q,hq,_,hdq⟩:=T.tp hk hkp
     have hpd:=hp p hkp
     rcases hdq d hd with rfl | h
     ·rw[e,hun] at hpd;cases hpd
     ·have:=(hdone p q hq hpd).1 d h;rw[e,hun] at this;cases this
   have hnd':(ib_ tks (don (listed.setIfInBounds i true))).Nodup:=pe_ List.nodup_range _
   have hperm':(s.prod++(s.rd++rest)).Perm (ib_ tks (don (listed.setIfInBounds i true))):=by
    have hrestm:∀ t,t ∈ s.rd++rest↔(t ∈ ib_ tks (don listed)∧t ∉ s.cons):=by
     intro t
     constructor
     ·intro h
      rcases b5_.1 h with h | h
      ·exact⟨hrl t h,λh'=>hdisj t h' h⟩
      ·have:=d0_.1 h
       refine⟨this.1,?_⟩
       have:=this.2
       simp at this
       exact this.1
     ·rintro⟨h1,h2⟩
      by_cases h3:t ∈ s.rd
      ·exact b5_.2 (.inl h3)
      ·exact b5_.2 (.inr (d0_.2 ⟨h1,by simp[h2,h3]⟩))
    refine (List.perm_ext_iff_of_nodup ?_ hnd').2 λt => ?_
    ·rw[n7_]
     refine⟨T.nd2 hs,?_,?_⟩
     ·have:=(hperm.nodup_iff).1 hnd
      exact (n7_.1 this).2.1
     ·rintro a ha b hb rfl
      obtain⟨k,hk,hkp⟩:=T.prod hs ha
      obtain⟨k',hk',hp,_⟩:=qo_.1 ((hrestm a).1 hb).1
      rw[hk] at hk'
      obtain rfl:=a6_ hk'
      have:=hp i hkp
      rw[hun] at this
      cases this
    ·rw[b5_,hrestm,qo_,qo_]
     constructor
     ·rintro (h | ⟨⟨k,hk,hp,hc⟩,hnc⟩)
      ·obtain⟨k,hk,hkp⟩:=T.prod hs h
       refine⟨k,hk,λp hp => ?_,λc hc => ?_⟩
       ·rw[hkp] at hp;obtain rfl:=a6_ hp;rw[hset];simp
       ·obtain⟨q,hq,_,hpa⟩:=T.tc hk hc
        have hiq:=hpa i hkp
        rw[hset]
        have hci:c≠i:=by
         rintro rfl
         rw[hs] at hq
         obtain rfl:=a6_ hq
         exact absurd (T.anc ho hs hiq).1 (Nat.lt_irrefl _)
        cases hdc:don listed c with
        | false=>simp[hci]
        | true=>have:=(hdone c q hq hdc).1 i hiq;rw[hun] at this;cases this
      ·refine⟨k,hk,λp hpp=>by rw[hset,hp p hpp];simp,λc hcc => ?_⟩
       rw[hset]
       have hci:c≠i:=by
        rintro rfl
        obtain⟨q,hq,htq,_⟩:=T.tc hk hcc
        rw[hs] at hq
        obtain rfl:=a6_ hq
        exact hnc htq
       simp[hci,hc c hcc]
     ·rintro⟨k,hk,hp,hc⟩
      by_cases hkp:k.prod=some i
      ·obtain⟨q,hq,htq,_⟩:=T.tp hk hkp
       rw[hs] at hq
       obtain rfl:=a6_ hq
       exact .inl htq
      ·refine .inr ⟨⟨k,hk,λp hpp => ?_,λc hcc => ?_⟩,λh => ?_⟩
       ·have:=hp p hpp
        rw[hset] at this
        have hpi:p≠i:=by rintro rfl;exact hkp hpp
        simpa [hpi] using this
       ·have:=hc c hcc
        rw[hset] at this
        exact (b8_.1 this).2
       ·obtain⟨k',hk',hkc⟩:=T.cons hs h
        rw[hk] at hk'
        obtain rfl:=a6_ hk'
        have:=hc i hkc
        rw[hset] at this
        simp at this
   refine hInv'.perm ?_
   have e1:s.rd.map (lq_ tks vals)++(rest.map (lq_ tks vals)++O)=(s.rd++rest).map (lq_ tks (upv vals i v))++O:=by
    rw[← hrest,i6_,b3_]
   rw[e1,← b3_,← i6_]
   exact (hperm'.map _).append_right O
 ·rintro listed a w hsz ⟨vals,f',S',hfit,hds,hle,hdone,hkeep,hInv⟩ hnil
  have hall:∀ i,i<sps.length→don listed i=true:=by
   intro i
   induction i using Nat.strongRecOn with
   | _ i ih =>
    intro hi
    cases hd:don listed i with
    | true=>rfl
    | false =>
     exfalso
     have hir:i<l.length:=by rw[T.len];exact hi
     have ho:l[i]?=some (l[i]'hir):=a7_ hir
     have hs:sps[i]?=some (sps[i]'hi):=a7_ hi
     have hmem:i ∈ Region.ready .any l.toArray listed:=by
      unfold Region.ready
      refine d0_.2 ⟨by simpa using hir,?_⟩
      rw[a1_]
      constructor
      ·have hlt:i<listed.size:=by rw[hsz];simpa using hir
       have hd':listed.getD i false=false:=hd
       simpa [a8_,d1_ hlt] using hd'
      ·simp only[e0_,ho,g3_,g2_]
       rw[i9_]
       intro e he
       cases hb:Region.binds .any e with
       | false=>rfl
       | true =>
        have hp:e.on ∈ cm_ (l[i]'hir):=d2_.2 ⟨e,d0_.2 ⟨by simpa using he,hb⟩,rfl⟩
        have ha:=T.preds ho hs hp
        have hlt:=(T.anc ho hs ha).1
        have:=ih e.on hlt (by omega)
        have this:listed.getD e.on false=true:=this
        simpa [a8_] using this
     rw[hnil] at hmem
     cases hmem
  have hlive:(ib_ tks (don listed))=ib_ tks (λ_=>true):=by
   unfold ib_
   apply List.filter_congr
   intro t ht
   cases hk:tks[t]? with
   | none=>rfl
   | some k =>
    simp only
    congr 1
    ·cases hp:k.prod with
     | none=>rfl
     | some p=>obtain⟨q,hq,_⟩:=T.tp hk hp;exact hall p (hq_ hq)
    ·cases hc:k.cons with
     | none=>rfl
     | some c=>obtain⟨q,hq,_⟩:=T.tc hk hc;simp only[hall c (hq_ hq)]
  rw[hlive] at hInv
  refine⟨f',hfit,kont vals f' w S' hds hle (AllP.of λj hj t ht => ?_) (λd hd=>hkeep d λj t ht htd=>absurd htd (hd j t ht)) hInv⟩
  have:=hdone j t ht (hall j (by simpa using hj))
  exact⟨this.2.1,this.2.2⟩
 ·refine⟨λ_=>undef,f,S,ha,rfl,PH.Le.refl S,?_,λ_ _=>rfl,?_⟩
  ·intro i s hs hd
   exfalso
   have:don (Array.replicate l.toArray.size false) i=false:=by
    show (Array.replicate l.toArray.size false).getD i false=false
    simp only[a8_,g7_]
    split<;>rfl
   rw[this] at hd
   cases hd
  ·have e:ib_ tks (don (Array.replicate l.toArray.size false))=ib_ tks (λ_=>false):=by
    congr 1
    funext i
    show (Array.replicate l.toArray.size false).getD i false=false
    simp only[a8_,g7_]
    split<;>rfl
   rw[e]
   exact hI.world rfl rfl λ_ _ h=>h
end
section
variable {ro:Option Nat}
theorem bq3 {α:Type} [Enc α] {S:PH} {cs:List Value} {x:α} (h0:Enc.agg α=false) (h:Enc.rep S cs x):∃ v,cs=[v]∧RV S v x:=by
 have h1:=Enc.len h
 rw[Enc.one h0] at h1
 match cs,h1 with
 | [c],_=>exact⟨c,rfl,[c],h,by rw[h0];rfl⟩
theorem cs5 {α:Type} [Enc α] {S:PH} {v:Value} {x:α} (h0:Enc.agg α=false) (h:RV S v x):Enc.rep S [v] x:=by
 obtain⟨cs,hr,rfl⟩:=h
 have h1:=Enc.len hr
 rw[Enc.one h0] at h1
 match cs,h1 with
 | [c],_=>rw[h0];exact hr
def forS {σ:Type} (body:Nat→σ→Option σ):Nat→Nat→σ→Option σ
 | 0,_,s=>some s
 | k+1,i,s=>match body i s with
  | none=>none
  | some s'=>forS body k (i+1) s'
def cnt? (n:Int):Option Nat:=if n≤4611686018427387904 then some n.toNat else none
theorem cb8 {n:Int} {k:Nat} (h:cnt? n=some k):n≤4611686018427387904∧k=n.toNat:=by
 unfold cnt? at h
 split at h
 ·exact⟨‹_›,(a6_ h).symm⟩
 ·cases h
theorem cnt_le {n:Int} {k:Nat} (h:cnt? n=some k):k≤9223372036854775807:=by
 obtain⟨_,rfl⟩:=cb8 h
 omega
theorem len_t {i k:Nat} (hi:i<k):decide ((i:Int)<(k:Int))=true:=b9_ (by omega)
theorem len_f (k:Nat):decide ((k:Int)<(k:Int))=false:=c2_ (by omega)
theorem bd7 {i k:Nat} (h:i<k) (hk:k≤9223372036854775807):Value.int .i64 (w64 ((i:Int)+1))=Value.int .i64 (((i+1:Nat)):Int):=by
 rw[lw_ (by omega) (by omega)]
 rfl
section loops
variable {P:Program} {n:Nat} {N R:Fr→World→Prop} {X:Nat→Fr→World→Prop} {f:Fr} {w:World}
theorem ap8 {σ:Type} (body:Nat→σ→Option σ):∀ (k i:Nat) (s:σ),forN (ρ:=Unit) (λi s=>(body i s).map .inl) k i s=(forS body k i s).map .inl
 | 0,_,_=>rfl
 | k+1,i,s=>by
  unfold forN forS
  cases h:body i s with
  | none=>rfl
  | some s'=>simp only[g3_];exact ap8 body k (i+1) s'
theorem bm3 {σ:Type} {c:Code} {body:Nat→σ→Option σ} {k:Nat} {s0 out:σ} (I:Nat→σ→Fr→World→Prop)
  (hrun:forS body k 0 s0=some out) (h0:I 0 s0 f w)
  (round:∀ i s f w o,i<k→I i s f w→body i s=some o→WP P n ro c (λf' w'=>I (i+1) o f' w') R X f w)
  (last:∀ f w,I k out f w→WP P n ro c (λ_ _=>False) R X f w):WP P n ro (.loop c) N R X f w:=by
 refine wp_forN (ρ:=Unit) (body:=λi s=>(body i s).map .inl) (out:=.inl out) I (by rw[ap8,hrun];rfl) h0 ?_ ?_
 ·intro i s f w o hi hI hb _
  cases hq:body i s with
  | none=>rw[hq] at hb;cases hb
  | some s' =>
   rw[hq] at hb
   obtain rfl:=a6_ hb
   exact (round i s f w s' hi hI hq).mono (λ_ _ h=>⟨s',rfl,h⟩) (λ_ _ h=>h) (λ_ _ _ h=>h)
 ·intro s f w hs hI
  obtain rfl:=Sum.inl.inj hs
  exact last f w hI
end loops
theorem aa8 {α β:Type} {x:Option α} {f:α→β} {r:β} (h:x.map f=some r):∃ y,x=some y∧f y=r:=f4_.1 h
theorem rv_form {α:Type} [Enc α] {S:PH} {v:Value} {l:List α} (h:RV S v l):∃ a n k,v = .slice a n k:=by
 obtain⟨a,k,e,_⟩:=iw_ h
 exact⟨a,_,k,e⟩
theorem parts0 {f:Fr}:(([]:List (Nat×Operand)).map λp=>(p.1,ev f p.2))=([]:List Value).zipIdx.map λp=>(p.2,p.1):=rfl
theorem args1 {f:Fr} {x:Operand} {v:Value} (h:ev f x=v):(#[x].map (ev f)) ++ #[]=[v].toArray:=by simp[h]
theorem args2 {f:Fr} {x y:Operand} {v u:Value} (h:ev f x=v) (h2:ev f y=u):(#[x,y].map (ev f)) ++ #[]=[v,u].toArray:=by simp[h,h2]
theorem cl5 {P:Program} {n d:Nat} {f:Fr} {w:World} {K:Fr→World→Prop} {ty T T2 E:TypeId} {pos:String} {af:Array Edge} {gd:Option (Nat×Bool)} {x y:Operand} {a:Option Addr} {l c:Nat}
  (hd:Nat.blt d n=true) (hT:P.underlying T=some (.slice E)) (hx:ev f x = .slice a l c) (hy:ev f y = .slice none 0 0) (k:K (upd f d (.bool a.isNone)) w):OP P n ro ⟨some d,.binOp .eql T x y T2,ty,pos,af,gd⟩ f w K :=
 cy_ hd (by
  have h:(Op.equal T (.slice a l c) (.slice none 0 0)).run P w = .ok a.isNone w:=by
   show (Op.equalIn (9999+1) T (.slice a l c) (.slice none 0 0)).run P w=_
   unfold Op.equalIn
   rw[Sem.run_bind,run_underlying hT]
   cases a<;>rfl
  have e:(execOp (ev f) ⟨some d,.binOp .eql T x y T2,ty,pos,af,gd⟩)=(do pure (.value (← (do pure (.bool (← Op.equal T (.slice a l c) (.slice none 0 0))):Sem Value)))):=by
   simp only[execOp,hx,hy]
   rfl
  rw[e]
  simp only[Sem.run_bind,h,Result.andThen_ok,Sem.run_pure]) k
class Ind (α:Type) [Enc α]:Prop where
 ind:∀ (S T:PH) (cs:List Value) (x:α),Enc.rep S cs x→Enc.rep T cs x
instance :Ind Int:=⟨λ_ _ _ _ h=>h⟩
instance :Ind Bool:=⟨λ_ _ _ _ h=>h⟩
instance {α β:Type} [Enc α] [Enc β] [Ind α] [Ind β]:Ind (α×β):=⟨λS T cs x h=>by
 obtain⟨a,b,e,h1,h2⟩:=h
 exact⟨a,b,e,Ind.ind S T a _ h1,Ind.ind S T b _ h2⟩⟩
theorem RepL.ind {α:Type} [Enc α] [Ind α] {S T:PH}:∀ {l:List α} {cs:List Value},RepL S cs l→RepL T cs l
 | [],_,h=>h
 | _::_,_,⟨es,rest,e,h1,h2⟩=>⟨es,rest,e,Ind.ind S T es _ h1,RepL.ind h2⟩
def noDst (sps:List Sp) (i d:Nat):Bool:=(List.range sps.length).all λj=>match sps[j]? with
 | some t=>!(t.dst==some d)||t.anc.contains i||Nat.beq i j
 | none=>true
theorem yc_ {sps:List Sp} {i d:Nat} (h:noDst sps i d=true):∀ (j:Nat) (t:Sp),sps[j]?=some t→t.dst=some d→i ∈ t.anc∨i=j:=by
 intro j t ht hd
 have:=f3_.1 h j (by simpa using hq_ ht)
 rw[ht] at this
 simp only[c8_,hd] at this
 rcases this with (h | h) | h
 ·simp at h
 ·exact .inl (by simpa using h)
 ·exact .inr (a3_ h)
def cm1 (sps:List Sp) (d:Nat):Bool:=sps.all λt=>!(t.dst==some d)
theorem cn8 {sps:List Sp} {d:Nat} (h:cm1 sps d=true):∀ (j:Nat) (t:Sp),sps[j]?=some t→t.dst≠some d:=by
 intro j t ht hd
 have:=f3_.1 h t (b2_ ht)
 rw[hd] at this
 simp at this
theorem ay9 {ops:Array Oper} {n:Nat} {f:Fr} {a:Act} (ha:Fits n a f) {o:Oper} {j d:Nat} {b:Bool} (hg:o.guard=some (j,b)) (hj:(ops[j]?).bind (·.dst)=some d) (hd:Nat.blt d n=true) (hv:f d=undef) :
  Region.wanted o (yielded ops a.tmps)=false:=by
 have hlt:d<a.tmps.size:=by rw[ha.size];have:=b6_ hd;omega
 have:a.tmps[d]?=some undef:=by
  have:=ha.at_ d
  rw[hv,a8_,d1_ hlt] at this
  rw[d1_ hlt]
  simpa using this
 simp[Region.wanted,hg,yielded,hj,this,undef]
theorem bm4 {P:Program} {n:Nat} {ops:Array Oper} {N:Fr→World→Prop} {rest:List Oper} {f:Fr} {w:World} {o:Oper} {j d:Nat} {b:Bool} (hg:o.guard=some (j,b)) (hj:(ops[j]?).bind (·.dst)=some d) (hd:Nat.blt d n=true) (hv:f d=undef) (ho:ey_ n o.dst=true)
  (h:WL P n ro ops N rest (wy_ f o.dst undef) w):WL P n ro ops N (o::rest) f w:=by
 intro R X a ha
 unfold wpListIn
 rw[if_neg (by rw[ay9 ha hg hj hd hv];simp)]
 exact⟨λ_ _=>trivial,h R X _ (ha.putO ho undef)⟩
theorem aa3 {P:Program} {n:Nat} {ops:Array Oper} {i:Nat} {f:Fr} {w:World} {K:Fr→World→Prop} {o:Oper} {j d:Nat} {b:Bool} (ho:ops[i]?=some o) (hg:o.guard=some (j,b)) (hj:(ops[j]?).bind (·.dst)=some d) (hd:Nat.blt d n=true) (hv:f d=undef) (hdo:ey_ n o.dst=true) (h:K (wy_ f o.dst undef) w):OPg P n ro ops i f w K:=by
 intro a ha Q
 unfold wpOpIn
 rw[ho]
 simp only
 rw[if_neg (by rw[ay9 ha hg hj hd hv];simp)]
 exact⟨λ_ _=>trivial,_,ha.putO hdo undef,h⟩
theorem as9 {P:Program} {n:Nat} {N R:Fr→World→Prop} {X:Nat→Fr→World→Prop} {f:Fr} {w:World} {x:Code} (M:Fr→World→Prop) (h:WP P n ro x M R X f w) (k:∀ f w,M f w→N f w):WP P n ro x N R X f w :=
 h.mono k (λ_ _ h=>h) (λ_ _ _ h=>h)
end
section
variable {ro:Option Nat}
def sub? {α:Type} (l:List α) (lo hi:Int):Option (List α):=if 0≤lo∧lo≤hi∧hi≤l.length then some ((l.take hi.toNat).drop lo.toNat) else none
theorem gq_ {α:Type} {l l':List α} {lo hi:Int} (h:sub? l lo hi=some l'):0≤lo∧lo≤hi∧hi≤l.length∧l'=(l.take hi.toNat).drop lo.toNat:=by
 unfold sub? at h
 split at h
 ·rename_i hc
  exact⟨hc.1,hc.2.1,hc.2.2,(a6_ h).symm⟩
 ·cases h
end
section
structure Raw where
 v:Value
instance :Enc Raw where
 agg:=false
 sz:=1
 rep _ cs x:=cs=[x.v]∧x.v.oneCell'=true
 len h:=by rw[h.1];rfl
 one _:=rfl
 cell1 h:=by intro v hv;rw[h.1] at hv;simp at hv;subst hv;exact h.2
 mono _ h:=h
def Rel {α β:Type} (R:β→α→Prop):List β→List α→Prop
 | [],[]=>True
 | y::m,x::l=>R y x∧Rel R m l
 | _,_=>False
theorem Rel.length {α β:Type} {R:β→α→Prop}:∀ {m:List β} {l:List α},Rel R m l→m.length=l.length
 | [],[],_=>rfl
 | _::_,_::_,h=>by simp[Rel.length h.2]
theorem Rel.append {α β:Type} {R:β→α→Prop}:∀ {m:List β} {l:List α} {m':List β} {l':List α},Rel R m l→Rel R m' l'→Rel R (m++m') (l++l')
 | [],[],_,_,_,h=>h
 | _::_,_::_,_,_,h,k=>⟨h.1,Rel.append h.2 k⟩
theorem Rel.mono {α β:Type} {R R':β→α→Prop} (hh:∀ y x,R y x→R' y x):∀ {m:List β} {l:List α},Rel R m l→Rel R' m l
 | [],[],_=>trivial
 | _::_,_::_,h=>⟨hh _ _ h.1,Rel.mono hh h.2⟩
theorem Rel.get {α β:Type} {R:β→α→Prop}:∀ {m:List β} {l:List α},Rel R m l→∀ {i:Nat} {x:α},l[i]?=some x→∃ y,m[i]?=some y∧R y x
 | [],[],_,i,x,h=>by simp at h
 | y::m,x::l,hr,0,z,h=>by simp at h;subst h;exact⟨y,rfl,hr.1⟩
 | y::m,x::l,hr,i+1,z,h=>by
  obtain⟨u,h1,h2⟩:=Rel.get hr.2 (i:=i) (x:=z) (by simpa using h)
  exact⟨u,by simpa using h1,h2⟩
section
variable {α β:Type} [Enc α] [Enc β] {S:PH} {R:β→α→Prop}
theorem RepL.to (h:∀ cs y x,Enc.rep S cs y→R y x→Enc.rep S cs x):∀ {m:List β} {l:List α} {cs:List Value},RepL S cs m→Rel R m l→RepL S cs l
 | [],[],_,a,_=>a
 | y::m,x::l,cs,⟨es,rest,e,h1,h2⟩,⟨r,k⟩=>⟨es,rest,e,h _ _ _ h1 r,RepL.to h h2 k⟩
theorem RepL.back (h:∀ cs x,Enc.rep S cs x→∃ y,Enc.rep S cs y∧R y x):∀ {l:List α} {cs:List Value},RepL S cs l→∃ m:List β,RepL S cs m∧Rel R m l
 | [],cs,a=>⟨[],a,trivial⟩
 | x::l,cs,⟨es,rest,e,h1,h2⟩=>by
  obtain⟨y,r1,r2⟩:=h _ _ h1
  obtain⟨m,m1,m2⟩:=RepL.back h h2
  exact⟨y::m,⟨es,rest,e,r1,m1⟩,r2,m2⟩
theorem RowP.to {T:TypeId} {v:Value} {m:List β} {l:List α} {k:Hp} (hs:Enc.sz β=Enc.sz α) (h:∀ cs y x,Enc.rep S cs y→R y x→Enc.rep S cs x) (hR:Rel R m l) (hr:RowP T v m S k):RowP T v l S k:=by
 have hl:=hR.length
 rcases hr with ⟨h1,h2,h3⟩ | ⟨g,cap,pre,ls,post,h1,h2,h3,h4,h5,h6⟩
 ·refine .inl ⟨h1,?_,h3⟩
  subst h2
  exact h4_ (by simpa using hl.symm)
 ·exact .inr ⟨g,cap,pre,ls,post,by rw[h1,hl],h2,RepL.to h h3 hR,by omega,h5,by rw[← hs,← hl];exact h6⟩
theorem RowP.back {T:TypeId} {v:Value} {l:List α} {k:Hp} (hs:Enc.sz β=Enc.sz α) (h:∀ cs x,Enc.rep S cs x→∃ y,Enc.rep S cs y∧R y x) (hr:RowP T v l S k):∃ m:List β,RowP T v m S k∧Rel R m l:=by
 rcases hr with ⟨h1,h2,h3⟩ | ⟨g,cap,pre,ls,post,h1,h2,h3,h4,h5,h6⟩
 ·subst h2
  exact⟨[],.inl ⟨h1,rfl,h3⟩,trivial⟩
 ·obtain⟨m,m1,m2⟩:=RepL.back h h3
  have hl:=m2.length
  exact⟨m,.inr ⟨g,cap,pre,ls,post,by rw[h1,hl],h2,m1,by omega,h5,by rw[hs,hl];exact h6⟩,m2⟩
theorem Inv.headMap {w:World} {A B:HP} {O:List HP} (h:Inv w S (A::O)) (f:∀ k,A.p S k→B.p S k):Inv w S (B::O) :=
 ⟨h.os,h.out,by obtain⟨k,a,d,r⟩:=h.own;exact⟨k,f k a,d,r⟩⟩
theorem Inv.rowTo {w:World} {O:List HP} {T:TypeId} {v:Value} {m:List β} {l:List α} (hs:Enc.sz β=Enc.sz α) (h:∀ cs y x,Enc.rep S cs y→R y x→Enc.rep S cs x) (hR:Rel R m l)
  (hI:Inv w S (Row T v m::O)):Inv w S (Row T v l::O):=hI.headMap λk a=>RowP.to hs h hR a
theorem RV.to {v:Value} {m:List β} {l:List α} (hs:Enc.sz β=Enc.sz α) (h:∀ cs y x,Enc.rep S cs y→R y x→Enc.rep S cs x) (hR:Rel R m l) (hv:RV S v m):RV S v l:=by
 have hl:=hR.length
 obtain⟨a,cap,rfl,c1,c2,c3,c4⟩:=iw_ hv
 rw[hl]
 refine wd_ ⟨by omega,c2,λe => ?_,λad e i x hx => ?_⟩
 ·obtain⟨e1,e2⟩:=c3 e
  subst e1
  exact⟨h4_ (by simpa using hl.symm),e2⟩
 ·obtain⟨y,hy,r⟩:=hR.get hx
  obtain⟨es,q1,q2⟩:=c4 ad e i y hy
  exact⟨es,h _ _ _ q1 r,λj u hu=>by rw[← hs];exact q2 j u hu⟩
end
theorem AllP.at_:∀ {l:List Nat} {p:Nat→Prop} (h:AllP l p) (i:Nat) {a:Nat} (e:l[i]?=some a),p a
 | [],_,_,_,_,e=>by simp at e
 | b::l,p,h,0,a,e=>by simp at e;subst e;exact h.1
 | b::l,p,h,i+1,a,e=>AllP.at_ (l:=l) h.2 i (by simpa using e)
theorem vt {f:Fr} {d:Nat} {v x:Value} {o:Option Nat} (h:(∀ e,o=some e→f e=v)∧v=x) (ho:o=some d):f d=x:=(h.1 d ho).trans h.2
end
section
variable {ro:Option Nat}
section
variable {K V:Type} [Enc K] [Enc V]
def MRep (S:PH):List MapEntry→List (K×V)→Prop
 | [],[]=>True
 | e::es,x::m=>RV S e.key x.1∧RV S e.val x.2∧MRep S es m
 | _,_=>False
theorem MRep.mono {S T:PH} (hle:S.Le T):∀ {es:List MapEntry} {m:List (K×V)},MRep S es m→MRep T es m
 | [],[],_=>trivial
 | _::_,_::_,⟨a,b,c⟩=>⟨a.mono hle,b.mono hle,MRep.mono hle c⟩
def Stp (es:Array MapEntry) (clock:Nat):Prop:=(es.toList.map (·.born)).Nodup∧∀ x ∈ es.toList,x.born<clock
def MapB (g:Nat) (m:List (K×V)):HP where
 p S h:=∃ es clock l,h=Hp.one g (.map es clock)∧MRep S es.toList l∧Stp es clock∧List.Perm l m∧(l.map (·.1)).Nodup
 mono hle h:=by
  obtain⟨es,c,l,e,r,q⟩:=h
  exact⟨es,c,l,e,r.mono hle,q⟩
theorem MapB.perm {g:Nat} {m m':List (K×V)} (h:List.Perm m m'):MapB g m=MapB g m':=by
 have:(MapB g m).p=(MapB g m').p:=by
  funext S k
  refine propext ⟨?_,?_⟩
  ·rintro⟨es,c,l,e,r,q,p,n⟩
   exact⟨es,c,l,e,r,q,p.trans h,n⟩
  ·rintro⟨es,c,l,e,r,q,p,n⟩
   exact⟨es,c,l,e,r,q,p.trans h.symm,n⟩
 cases h1:MapB g m
 cases h2:MapB g m'
 rw[h1,h2] at this
 cases this
 rfl
end
section
theorem Stp.nil:Stp #[] 0:=⟨List.nodup_nil,λx h=>by simp at h⟩
theorem Stp.push {es:Array MapEntry} {c:Nat} (h:Stp es c) {e:MapEntry} (he:e.born=c):Stp (es.push e) (c+1):=by
 refine⟨?_,λx hx => ?_⟩
 ·rw[Array.toList_push,i6_,n7_]
  refine⟨h.1,by simp,λa ha b hb => ?_⟩
  obtain⟨x,hx,rfl⟩:=d2_.1 ha
  have:=h.2 x hx
  simp at hb
  omega
 ·rw[Array.toList_push] at hx
  rcases b5_.1 hx with hx | hx
  ·have:=h.2 x hx
   omega
  ·simp at hx
   subst hx
   omega
theorem Stp.of_born {es es':Array MapEntry} {c:Nat} (h:Stp es c) (he:es'.toList.map (·.born)=es.toList.map (·.born)):Stp es' c:=by
 refine⟨by rw[he];exact h.1,λx hx => ?_⟩
 have:x.born ∈ es'.toList.map (·.born):=d2_.2 ⟨x,hx,rfl⟩
 rw[he] at this
 obtain⟨y,hy,e⟩:=d2_.1 this
 have:=h.2 y hy
 omega
theorem Stp.sub {es es':Array MapEntry} {c:Nat} (h:Stp es c) (he:es'.toList.Sublist es.toList):Stp es' c :=
 ⟨(he.map _).nodup h.1,λx hx=>h.2 x (he.mem hx)⟩
end
section
variable {K V:Type} [DecidableEq K]
def mget?:List (K×V)→K→Option V
 | [],_=>none
 | (a,v)::m,k=>if k=a then some v else mget? m k
def iq_:List (K×V)→K→V→List (K×V)
 | [],k,v=>[(k,v)]
 | (a,u)::m,k,v=>if k=a then (a,v)::m else (a,u)::iq_ m k v
def aa7:List (K×V)→K→List (K×V)
 | [],_=>[]
 | (a,u)::m,k=>if k=a then m else (a,u)::aa7 m k
def de_ (z:V) (m:List (K×V)) (k:K):V:=(mget? m k).getD z
def ag8 (m:List (K×V)) (k:K):Bool:=(mget? m k).isSome
theorem wh_ {m:List (K×V)} (h:(m.map (·.1)).Nodup) (k:K) (v:V):mget? m k=some v↔(k,v) ∈ m:=by
 induction m with
 | nil=>simp[mget?]
 | cons a m ih =>
  obtain⟨a,u⟩:=a
  rw[h8_,l0_] at h
  unfold mget?
  by_cases hk:k=a
  ·subst hk
   rw[if_pos rfl]
   constructor
   ·intro e;cases e;simp
   ·intro hm
    rcases d8_.1 hm with e | hm
    ·cases e;rfl
    ·exact absurd (d2_.2 ⟨(k,v),hm,rfl⟩) h.1
  ·rw[if_neg hk,ih h.2]
   constructor
   ·intro hm;exact e6_ _ hm
   ·intro hm
    rcases d8_.1 hm with e | hm
    ·cases e;exact absurd rfl hk
    ·exact hm
theorem bv4 {l m:List (K×V)} (h:l.Perm m) (nd:(l.map (·.1)).Nodup) (k:K):mget? l k=mget? m k:=by
 have nd2:(m.map (·.1)).Nodup:=(h.map _).nodup_iff.1 nd
 cases h1:mget? l k with
 | some v =>
  have:=h.mem_iff.1 ((wh_ nd k v).1 h1)
  exact ((wh_ nd2 k v).2 this).symm
 | none =>
  cases h2:mget? m k with
  | none=>rfl
  | some v =>
   have:=h.mem_iff.2 ((wh_ nd2 k v).1 h2)
   rw[(wh_ nd k v).2 this] at h1
   cases h1
theorem ab8 {m:List (K×V)} {k:K} (h:k ∉ m.map (·.1)):m.filter (λz=>decide (z.1≠k))=m:=by
 rw[m4_]
 intro z hz
 refine b9_ λe=>h ?_
 rw[← e]
 exact d2_.2 ⟨z,hz,rfl⟩
theorem rm_ {m:List (K×V)} (nd:(m.map (·.1)).Nodup) (k:K) (v:V):(iq_ m k v).Perm ((k,v)::m.filter (λz=>decide (z.1≠k))):=by
 induction m with
 | nil=>exact .refl _
 | cons a m ih =>
  obtain⟨a,u⟩:=a
  rw[h8_,l0_] at nd
  unfold iq_
  by_cases hk:k=a
  ·subst hk
   rw[if_pos rfl,p6_ (by simp),ab8 nd.1]
  ·rw[if_neg hk,p5_ (by simpa using λe=>hk e.symm)]
   exact ((ih nd.2).cons _).trans (List.Perm.swap _ _ _)
theorem ao5 {l m:List (K×V)} (h:l.Perm m) (nd:(l.map (·.1)).Nodup) (k:K) (v:V):(iq_ l k v).Perm (iq_ m k v) :=
 (rm_ nd k v).trans (((h.filter _).cons _).trans (rm_ ((h.map _).nodup_iff.1 nd) k v).symm)
theorem bv0 {m:List (K×V)} (nd:(m.map (·.1)).Nodup) (k:K) (v:V):((iq_ m k v).map (·.1)).Nodup:=by
 rw[((rm_ nd k v).map _).nodup_iff,h8_,l0_]
 refine⟨λhm => ?_,((o7_).map _).nodup nd⟩
 obtain⟨z,hz,e⟩:=d2_.1 hm
 exact f8_ (d0_.1 hz).2 e
theorem rn_ {m:List (K×V)} (nd:(m.map (·.1)).Nodup) (k:K):aa7 m k=m.filter (λz=>decide (z.1≠k)):=by
 induction m with
 | nil=>rfl
 | cons a m ih =>
  obtain⟨a,u⟩:=a
  rw[h8_,l0_] at nd
  unfold aa7
  by_cases hk:k=a
  ·subst hk
   rw[if_pos rfl,p6_ (by simp),ab8 nd.1]
  ·rw[if_neg hk,p5_ (by simpa using λe=>hk e.symm),ih nd.2]
theorem ao8 {l m:List (K×V)} (h:l.Perm m) (nd:(l.map (·.1)).Nodup) (k:K):(aa7 l k).Perm (aa7 m k):=by
 rw[rn_ nd,rn_ ((h.map _).nodup_iff.1 nd)]
 exact h.filter _
theorem bv6 {m:List (K×V)} (nd:(m.map (·.1)).Nodup) (k:K):((aa7 m k).map (·.1)).Nodup:=by
 rw[rn_ nd]
 exact ((o7_).map _).nodup nd
end
structure KeyT (P:Program) (K:Type) [Enc K] [DecidableEq K] (T:TypeId):Prop where
 eq:∀ w S v u (a b:K),RV S v a→RV S u b→(Op.equal T v u).run P w = .ok (decide (a=b)) w
 now:∃ d,P.underlying T=some d∧((∀ S v u (a b:K),RV S v a→RV S u b→Instr.sameNow d v u=none)∨(∀ S v u (a b:K),RV S v a→RV S u b→Instr.sameNow d v u=some (decide (a=b))))
 check:∀ w e S v (a:K),RV S v a→(Instr.checkKey e 10000 T v).run P w = .ok () w
 bits:∀ S v u (a:K),RV S v a→RV S u a→Instr.sameBits 10000 v u=true
section
variable {K V:Type} [Enc V] [DecidableEq K] {k:K}
def uw_ (S:PH) (k:K) (es:List MapEntry) (m:List (K×V)) (i:Nat):Option (Nat×Value)→Prop
 | none=>(mget? m k=none∧aa7 m k=m)∧∀ y,iq_ m k y=m++[(k,y)]
 | some (j,u)=>∃ q e x,j=i+q∧es[q]?=some e∧e.val=u∧m[q]?=some (k,x)∧RV S u x∧(mget? m k=some x∧aa7 m k=m.eraseIdx q)∧∀ y,iq_ m k y=m.set q (k,y)
theorem ab4 {S:PH} {e:MapEntry} {es:List MapEntry} {a:K} {x:V} {m:List (K×V)} {i:Nat} (hr:RV S e.val x) (h:k=a):uw_ S k (e::es) ((a,x)::m) i (some (i,e.val)):=by
 subst h
 exact⟨0,e,x,by simp,rfl,rfl,rfl,hr,by simp[mget?,aa7],λy=>by simp[iq_]⟩
theorem ab3 {S:PH} {e:MapEntry} {es:List MapEntry} {a:K} {x:V} {m:List (K×V)} {i:Nat} (h:¬k=a) {r:Option (Nat×Value)} (hr:uw_ S k es m (i+1) r):uw_ S k (e::es) ((a,x)::m) i r:=by
 cases r with
 | none=>exact⟨by simp[mget?,aa7,h,hr.1.1,hr.1.2],λy=>by simp[iq_,h,hr.2 y]⟩
 | some p =>
  obtain⟨j,u⟩:=p
  obtain⟨q,e',x',h1,h2,h3,h4,h5,h6,h7⟩:=hr
  exact⟨q+1,e',x',by omega,by simpa using h2,h3,by simpa using h4,h5,by simp[mget?,aa7,h,h6.1,h6.2],λy=>by simp[iq_,h,h7 y]⟩
end
section
variable {P:Program} {K V:Type} [Enc K] [Enc V] [DecidableEq K] {T:TypeId} {S:PH} {v:Value} {k:K}
theorem be8 {d:TypeDesc} (hn:∀ S v u (a b:K),RV S v a→RV S u b→Instr.sameNow d v u=some (decide (a=b))) (hv:RV S v k) :
  ∀ (es:List MapEntry) (m:List (K×V)) (i:Nat),MRep S es m→∃ r,Instr.findNow d v es i=some r∧uw_ S k es m i r
 | [],[],i,_=>⟨none,rfl,⟨rfl,rfl⟩,λ_=>rfl⟩
 | e::es,(a,x)::m,i,⟨h1,h2,h3⟩=>by
  have hs:=hn S v e.key k a hv h1
  unfold Instr.findNow
  by_cases h:k=a
  ·rw[hs,b9_ h]
   exact⟨_,rfl,ab4 h2 h⟩
  ·rw[hs,c2_ h]
   obtain⟨r,r1,r2⟩:=be8 hn hv es m (i+1) h3
   exact⟨r,r1,ab3 h r2⟩
theorem yk_ {w:World} (he:∀ w S v u (a b:K),RV S v a→RV S u b→(Op.equal T v u).run P w = .ok (decide (a=b)) w) (hv:RV S v k) :
  ∀ (es:List MapEntry) (m:List (K×V)) (i:Nat),MRep S es m→∃ r,(Instr.findAsking T v es i).run P w = .ok r w∧uw_ S k es m i r
 | [],[],i,_=>⟨none,by simp[Instr.findAsking],⟨rfl,rfl⟩,λ_=>rfl⟩
 | e::es,(a,x)::m,i,⟨h1,h2,h3⟩=>by
  have hs:=he w S v e.key k a hv h1
  by_cases h:k=a
  ·refine⟨some (i,e.val),?_,ab4 h2 h⟩
   unfold Instr.findAsking
   rw[Sem.run_bind,hs,b9_ h]
   simp
  ·obtain⟨r,r1,r2⟩:=yk_ (w:=w) he hv es m (i+1) h3
   refine⟨r,?_,ab3 h r2⟩
   unfold Instr.findAsking
   rw[Sem.run_bind,hs,c2_ h]
   simpa using r1
theorem KeyT.find (hK:KeyT P K T) (w:World) (hv:RV S v k) {es:List MapEntry} {m:List (K×V)} (h:MRep S es m):∃ r,(Instr.findKey T v es).run P w = .ok r w∧uw_ S k es m 0 r:=by
 obtain⟨d,hd,hn⟩:=hK.now
 unfold Instr.findKey
 rw[Sem.run_bind,run_underlying hd]
 simp only[Result.andThen_ok]
 rcases hn with hn | hn
 ·match es,m,h with
  | [],[],_=>exact⟨none,by simp[Instr.findNow],⟨rfl,rfl⟩,λ_=>rfl⟩
  | e::es,(a,x)::m,h =>
   have:Instr.findNow d v (e::es) 0=none:=by
    unfold Instr.findNow
    rw[hn S v e.key k a hv h.1]
   rw[this]
   exact yk_ hK.eq hv _ _ 0 h
 ·obtain⟨r,r1,r2⟩:=be8 hn hv es m 0 h
  rw[r1]
  exact⟨r,by simp,r2⟩
end
section
variable {K V:Type} [Enc K] [Enc V] {k:K}
theorem MRep.append {S:PH}:∀ {es es':List MapEntry} {m m':List (K×V)},MRep S es m→MRep S es' m'→MRep S (es++es') (m++m')
 | [],_,[],_,_,h=>h
 | _::_,_,_::_,_,⟨a,b,c⟩,h=>⟨a,b,MRep.append c h⟩
theorem MRep.modify {S:PH} {f:MapEntry→MapEntry} {y:V} (hf:∀ e,RV S e.key k→RV S (f e).key k∧RV S (f e).val y):∀ {es:List MapEntry} {m:List (K×V)} {q:Nat} {x:V},MRep S es m→m[q]?=some (k,x)→MRep S (es.modify q f) (m.set q (k,y))
 | [],[],_,_,_,h=>by simp at h
 | e::es,z::m,0,x,⟨a,b,c⟩,h=>by
  simp at h
  subst h
  exact⟨(hf e a).1,(hf e a).2,c⟩
 | e::es,z::m,q+1,x,⟨a,b,c⟩,h=>by
  simp at h
  exact⟨a,b,MRep.modify hf c h⟩
end
section
variable {w w':World} {S:PH} {O:List HP}
theorem Inv.turnBlk {g:Nat} {o o':Obj} (h:Inv w S (HP.exact (Hp.one g o)::O)):Inv { w with heap:=w.heap.setIfInBounds g o' } S (HP.exact (Hp.one g o')::O):=by
 have hb:=h.front g o (by simp[Hp.one])
 refine Inv.turn (w:=w) h rfl rfl (λb => ?_) (λb hn => ?_) (λb q e => ?_)
 ·by_cases e:b=g<;>simp[Hp.one,e]
 ·have hne:b≠g:=by rintro rfl;simp[Hp.one] at hn
  exact (MapKept.heap_set hb).2 b hne
 ·unfold Hp.one at e
  by_cases hbg:b=g
  ·subst hbg
   simp at e
   subst e
   exact (MapKept.heap_set hb).1
  ·simp[hbg] at e
end
theorem bk1 {P:Program} {n:Nat} {f:Fr} {w:World} {F:Fr→World→Prop} {d:Nat} {ty:TypeId} {pos:String} {af:Array Edge} {gd:Option (Nat×Bool)} {T:TypeId} {K V:Type} [Enc K] [Enc V] {S:PH} {O:List HP} (hd:Nat.blt d n=true) (hI:Inv w S O) (k:∀ g w',Inv w' S (MapB g ([]:List (K×V))::O)→F (upd f d (.map (some g))) w') :
  OP P n ro ⟨some d,.makeMap T none,ty,pos,af,gd⟩ f w F :=
 cy_ (w':=w.alloc (.map #[] 0)) hd (by simp[execOp,Instr.makeMap]) (k _ _ ((hI.new _).shut (A:=MapB _ _) ⟨#[],0,[],rfl,trivial,Stp.nil,.refl _,List.nodup_nil⟩))
section
variable {K V:Type} [Enc K] [Enc V]
theorem MRep.erase {S:PH}:∀ {es:List MapEntry} {m:List (K×V)} {q:Nat},MRep S es m→MRep S (es.eraseIdx q) (m.eraseIdx q)
 | [],[],_,_=>trivial
 | e::es,z::m,0,⟨a,b,c⟩=>c
 | e::es,z::m,q+1,⟨a,b,c⟩=>⟨a,b,MRep.erase c⟩
end
section ops
variable {P:Program} {n:Nat} {f:Fr} {w:World} {F:Fr→World→Prop} {d:Nat} {ty:TypeId} {pos:String} {af:Array Edge} {gd:Option (Nat×Bool)} {x y z:Operand} {v u:Value} {T kt et:TypeId}
 {K V:Type} [Enc K] [Enc V] [DecidableEq K] {S:PH} {O:List HP} {m:List (K×V)} {g:Nat} {k:K} {e:V}
theorem bi7 {zv:Value} {zd:V} (hT:P.underlying T=some (.map kt et)) (hK:KeyT P K kt) (hz:∀ w,(zeroValue et).run P w = .ok zv w) (hzd:∀ S,RV S zv zd) (hI:Inv w S (MapB g m::O)) (hk:RV S u k) (b:Bool) :
  ∃ q,RV S q (de_ zd m k)∧(Instr.lookup T (.map (some g)) u b).run P w = .ok (if b then .tuple #[q,.bool (ag8 m k)] else q) w:=by
 obtain⟨h,⟨es,cl,l,rfl,hr,_,hpm,hnd⟩,hI'⟩:=hI.open_
 have hgm:=bv4 hpm hnd k
 unfold de_ ag8
 rw[← hgm]
 have hb:=hI'.front g _ (by simp[Hp.one];rfl)
 obtain⟨r,r1,r2⟩:=hK.find w hk hr
 unfold Instr.lookup
 cases r with
 | none =>
  refine⟨zv,by rw[r2.1.1];exact hzd S,?_⟩
  simp[run_underlying hT,MapKept.run_getObj_map hb,hK.check w _ S u k hk,r1,hz,r2.1.1]
 | some p =>
  obtain⟨j,q⟩:=p
  obtain⟨i,e,x',h1,h2,h3,h4,h5,h6,h7⟩:=r2
  refine⟨q,by rw[h6.1];exact h5,?_⟩
  simp[run_underlying hT,MapKept.run_getObj_map hb,hK.check w _ S u k hk,r1,h6.1]
theorem ae4 (hT:P.underlying T=some (.map kt et)) (hK:KeyT P K kt) (hI:Inv w S (MapB g m::O)) (hk:RV S u k) (he:RV S v e) :
  ∃ w',(Instr.mapUpdate T (.map (some g)) u v).run P w = .ok () w'∧Inv w' S (MapB g (iq_ m k e)::O):=by
 obtain⟨h,⟨es,cl,l,rfl,hr,hst,hpm,hnd⟩,hI'⟩:=hI.open_
 have hb:=hI'.front g _ (by simp[Hp.one];rfl)
 obtain⟨r,r1,r2⟩:=hK.find w hk hr
 have key:∃ o,(Instr.mapUpdate T (.map (some g)) u v).run P w = .ok () { w with heap:=w.heap.setIfInBounds g o }∧(MapB g (iq_ m k e)).p S (Hp.one g o):=by
  unfold Instr.mapUpdate
  cases r with
  | none =>
   refine⟨.map (es.push { key:=u,val:=v,born:=cl }) (cl+1),?_,_,_,iq_ l k e,rfl,?_,hst.push rfl,ao5 hpm hnd k e,bv0 hnd k e⟩
   ·simp[run_underlying hT,MapKept.run_getObj_map hb,hK.check w _ S u k hk,r1,MapKept.run_setObj_map _ hb]
   ·rw[r2.2 e,Array.toList_push]
    exact hr.append ⟨hk,he,trivial⟩
  | some p =>
   obtain⟨j,q⟩:=p
   obtain⟨i,e',x',h1,h2,h3,h4,h5,h6,h7⟩:=r2
   have hj:j=i:=by omega
   subst hj
   refine⟨.map (es.modify j λe=>{ e with key:=u,val:=v }) cl,?_,_,_,iq_ l k e,rfl,?_,hst.of_born (by
    rw[Array.toList_modify]
    refine f1_ λq => ?_
    rw[d5_,List.getElem?_modify,d5_]
    cases es.toList[q]? with
    | none=>rfl
    | some x=>by_cases hq:j=q<;>simp[hq]),ao5 hpm hnd k e,bv0 hnd k e⟩
   ·have h2':es[j]?=some e':=by simpa using h2
    have hkey:RV S e'.key k:=by
     have gen:∀ {es:List MapEntry} {m:List (K×V)} {j:Nat} {e':MapEntry} {p:K×V},MRep S es m→es[j]?=some e'→m[j]?=some p→RV S e'.key p.1:=by
      intro es
      induction es with
      | nil=>intro m j e' p hm h;simp at h
      | cons a es ih =>
       intro m j e' p hm h h'
       cases m with
       | nil=>exact hm.elim
       | cons b m =>
        cases j with
        | zero=>simp at h h';subst h;subst h';exact hm.1
        | succ j=>exact ih hm.2.2 (by simpa using h) (by simpa using h')
     exact gen hr h2 h4
    have hkt:(Instr.keyThatStays e'.key u).run P w = .ok u w:=by
     unfold Instr.keyThatStays
     rw[if_pos (hK.bits S _ _ k hkey hk)]
     simp
    simp[run_underlying hT,MapKept.run_getObj_map hb,hK.check w _ S u k hk,r1,h2',hkt,MapKept.run_setObj_map _ hb]
   ·rw[h7 e,Array.toList_modify]
    exact MRep.modify (λ_ _=>⟨hk,he⟩) hr h4
 obtain⟨o,h1,h2⟩:=key
 exact⟨_,h1,hI'.turnBlk.shut h2⟩
theorem bi8 {kk:TypeId} {ty:TypeId} (hT:P.underlying T=some (.map kt et)) (hK:KeyT P K kt) (hI:Inv w S (MapB g m::O)) (hk:RV S u k) :
  ∃ w',(Builtin.delete_ #[T,kk] ty #[.map (some g),u]).run P w = .ok (.tuple #[]) w'∧Inv w' S (MapB g (aa7 m k)::O):=by
 obtain⟨h,⟨es,cl,l,rfl,hr,hst,hpm,hnd⟩,hI'⟩:=hI.open_
 have hb:=hI'.front g _ (by simp[Hp.one];rfl)
 obtain⟨r,r1,r2⟩:=hK.find w hk hr
 have key:∃ o,(Builtin.delete_ #[T,kk] ty #[.map (some g),u]).run P w = .ok (.tuple #[]) { w with heap:=w.heap.setIfInBounds g o }∧(MapB g (aa7 m k)).p S (Hp.one g o):=by
  cases r with
  | none =>
   refine⟨.map es cl,?_,_,_,aa7 l k,rfl,?_,hst,ao8 hpm hnd k,bv6 hnd k⟩
   ·simp[Builtin.delete_,run_underlying hT,MapKept.run_getObj_map hb,hK.check w _ S u k hk,r1,MapKept.run_setObj_map _ hb,Result.andThen]
   ·rw[r2.1.2];exact hr
  | some p =>
   obtain⟨j,q⟩:=p
   obtain⟨i,e',x',h1,h2,h3,h4,h5,h6,h7⟩:=r2
   have hj:j=i:=by omega
   subst hj
   have hel:(es.eraseIdxIfInBounds j).toList=es.toList.eraseIdx j:=by
    have hl:=(a4_.1 h2).1
    simp at hl
    simp[Array.eraseIdxIfInBounds,hl]
   refine⟨.map (es.eraseIdxIfInBounds j) cl,?_,_,_,aa7 l k,rfl,?_,hst.sub (by rw[hel];exact List.eraseIdx_sublist _ _),ao8 hpm hnd k,bv6 hnd k⟩
   ·simp[Builtin.delete_,run_underlying hT,MapKept.run_getObj_map hb,hK.check w _ S u k hk,r1,MapKept.run_setObj_map _ hb,Result.andThen]
   ·rw[h6.2]
    rw[hel]
    exact hr.erase
 obtain⟨o,h1,h2⟩:=key
 exact⟨_,h1,hI'.turnBlk.shut h2⟩
end ops
theorem keyInt {P:Program} {T:TypeId} (hT:P.underlying T=some (.int .i64)):KeyT P Int T where
 eq w S v u a b hv hu:=by
  rw[nb_ hv,nb_ hu]
  show (Op.equalIn (9999+1) T (.int .i64 a) (.int .i64 b)).run P w=_
  rw[run_equalIn_int w 9999 T .i64 .i64 a b hT]
  rfl
 now:=⟨_,hT,.inr λS v u a b hv hu=>by rw[nb_ hv,nb_ hu];rfl⟩
 check w e S v a hv:=by
  rw[nb_ hv]
  show (Instr.checkKey e (9999+1) T (.int .i64 a)).run P w=_
  unfold Instr.checkKey
  rw[Sem.run_bind,run_underlying hT]
  rfl
 bits S v u a hv hu:=by rw[nb_ hv,nb_ hu];simp[Instr.sameBits]
structure MRef where
 g:Nat
instance :Enc MRef where
 agg:=false
 sz:=1
 rep _ cs x:=cs=[.map (some x.g)]
 len h:=by rw[h];rfl
 one _:=rfl
 cell1 h:=by intro v hv;rw[h] at hv;simp at hv;subst hv;rfl
 mono _ h:=h
section
variable {P:Program} {n:Nat} {f:Fr} {w:World} {F:Fr→World→Prop} {d:Nat} {ty:TypeId} {pos:String} {af:Array Edge} {gd:Option (Nat×Bool)} {x:Operand} {v:Value} {T:TypeId} {S:PH}
end
section
variable {P:Program} {w:World}
theorem cb0 {d:Nat} {xs ys:Array Value}:(Op.eqFields d xs ys []).run P w = .ok true w:=rfl
theorem wq_ {d:Nat} {xs ys:Array Value} {f:Field} {fs:List Field} {a b:Value} {p q:Bool} (hn:decide (f.name ≠ "_")=true) (h1:(part f.type xs f.offset).run P w = .ok a w) (h2:(part f.type ys f.offset).run P w = .ok b w)
  (h3:(Op.equalIn d f.type a b).run P w = .ok p w) (h4:(Op.eqFields d xs ys fs).run P w = .ok q w):(Op.eqFields d xs ys (f::fs)).run P w = .ok (p&&q) w:=by
 unfold Op.eqFields
 rw[if_pos (f8_ hn),Sem.run_bind,h1]
 simp only[Result.andThen_ok]
 rw[Sem.run_bind,h2]
 simp only[Result.andThen_ok]
 rw[Sem.run_bind,h3]
 simp only[Result.andThen_ok]
 cases p
 ·rfl
 ·simpa using h4
theorem bf2 (d:Nat) (t:TypeId) {xs ys:Array Value} {fs:Array Field} {r:Bool} (hu:P.underlying t=some (.struct fs)) (hp:P.stoodInHeld t=false) (h:(Op.eqFields d xs ys fs.toList).run P w = .ok r w) :
  (Op.equalIn (d+1) t (.agg xs) (.agg ys)).run P w = .ok r w:=by
 have e:P.fieldsOf t=fs:=by unfold Program.fieldsOf;rw[hu]
 rw[run_equalIn_struct w d t xs ys (by rw[e];exact hu) hp,e]
 exact h
end
end
section
theorem be2 {σ:Type} {body:Nat→σ→Option σ} (I:Nat→σ→Prop):∀ (k i:Nat) (s:σ),I i s →
  (∀ j s,i≤j→j<i+k→I j s→∃ s',body j s=some s'∧I (j+1) s')→∃ s',forS body k i s=some s'∧I (i+k) s'
 | 0,i,s,h,_=>⟨s,rfl,h⟩
 | k+1,i,s,h,st=>by
  obtain⟨s1,h1,h2⟩:=st i s (c3_ _) (by omega) h
  obtain⟨s2,h3,h4⟩:=be2 I k (i+1) s1 h2 (λj s a b c=>st j s (by omega) (by omega) c)
  refine⟨s2,?_,by rwa [show i+(k+1)=i+1+k by omega]⟩
  simp only[forS,h1];exact h3
theorem be3 {σ ρ:Type} {body:Nat→σ→Option (σ⊕ρ)} (I:Nat→σ→Prop) (E:ρ→Prop):∀ (k i:Nat) (s:σ),I i s →
  (∀ j s,i≤j→j<i+k→I j s→(∃ s',body j s=some (.inl s')∧I (j+1) s')∨∃ r,body j s=some (.inr r)∧E r) →
  (∃ s',forN body k i s=some (.inl s')∧I (i+k) s')∨∃ r,forN body k i s=some (.inr r)∧E r
 | 0,i,s,h,_=>.inl ⟨s,rfl,h⟩
 | k+1,i,s,h,st=>by
  rcases st i s (c3_ _) (by omega) h with ⟨s1,h1,h2⟩ | ⟨r,h1,h2⟩
  ·have:=be3 I E k (i+1) s1 h2 (λj s a b c=>st j s (by omega) (by omega) c)
   rw[show i+(k+1)=i+1+k by omega]
   simpa only[forN,h1] using this
  ·exact .inr ⟨r,by simp only[forN,h1],h2⟩
theorem tp_ {σ ρ:Type} {body:σ→Option (σ⊕ρ)} {s s':σ} (h:body s=some (.inl s')):af_ body s=af_ body s':=by
 rw[ak9,h]
theorem my_ {σ ρ:Type} {body:σ→Option (σ⊕ρ)} {s:σ} {r:ρ} (h:body s=some (.inr r)):af_ body s=some r:=by
 rw[ak9,h]
theorem mx_ {σ ρ:Type} {body:σ→Option (σ⊕ρ)} (I:Nat→σ→Prop) (E:ρ→Prop):∀ (n i:Nat) (s:σ),I i s →
  (∀ j s,i≤j→j<i+n→I j s→(∃ s',body s=some (.inl s')∧I (j+1) s')∨∃ r,body s=some (.inr r)∧E r) →
  (∀ s,I (i+n) s→∃ r,body s=some (.inr r)∧E r)→∃ r,af_ body s=some r∧E r
 | 0,i,s,h,_,e=>by
  obtain⟨r,h1,h2⟩:=e s h
  exact⟨r,my_ h1,h2⟩
 | n+1,i,s,h,st,e=>by
  rcases st i s (c3_ _) (by omega) h with ⟨s1,h1,h2⟩ | ⟨r,h1,h2⟩
  ·rw[tp_ h1]
   exact mx_ I E n (i+1) s1 h2 (λj s a b c=>st j s (by omega) (by omega) c) (λs hs=>e s (by rwa [show i+(n+1)=i+1+n by omega]))
  ·exact⟨r,my_ h1,h2⟩
theorem ce1 {α:Type} {l:List α} {i:Int} (h0:0≤i) (h:i<l.length):∃ x,at? l i=some x∧l[i.toNat]?=some x:=by
 have h1:i.toNat<l.length:=by omega
 refine⟨l[i.toNat],?_,a7_ h1⟩
 unfold at?; rw[if_pos h0,a7_ h1]
theorem af0 {α:Type} {l m:List α} (h:l.length+m.length≤2147483648):push? l m=some (l++m):=by
 unfold push?; rw[if_pos h]
theorem vf_ {α:Type} {k:Int} {z:α} (h:0≤k) (h':k≤2147483648):mk? k z=some (List.replicate k.toNat z):=by
 unfold mk?; rw[if_pos ⟨h,h'⟩]
theorem cu4 {a b:Int} (h:b≠0):md a b=some (a.tmod b):=by
 unfold md;rw[if_neg h]
def Tot {α:Type} (x:Option α) (P:α→Prop):Prop:=∃ a,x=some a∧P a
namespace Tot
theorem pure {α:Type} {a:α} {P:α→Prop} (h:P a):Tot (some a) P:=⟨a,rfl,h⟩
theorem bind {α β:Type} {x:Option α} {f:α→Option β} {Q:β→Prop} (P:α→Prop) (h:Tot x P) (k:∀ a,P a→Tot (f a) Q):Tot (x.bind f) Q:=by
 obtain⟨a,rfl,h⟩:=h
 exact k a h
theorem eq {α β:Type} {x:Option α} {a:α} {f:α→Option β} {Q:β→Prop} (h:x=some a) (k:Tot (f a) Q):Tot (x.bind f) Q:=by
 subst h;exact k
theorem mono {α:Type} {x:Option α} {P Q:α→Prop} (h:Tot x P) (k:∀ a,P a→Q a):Tot x Q:=by
 obtain⟨a,h1,h2⟩:=h
 exact⟨a,h1,k a h2⟩
theorem forS {σ:Type} {body:Nat→σ→Option σ} {k:Nat} {s:σ} (I:Nat→σ→Prop) (h:I 0 s) (st:∀ j s,j<k→I j s→Tot (body j s) (I (j+1))):Tot (Go.Proofs.YtgeehfnbhbibeaaGreatDoor.Pad.forS body k 0 s) (I k):=by
 have:=be2 I k 0 s h (λj s _ b c=>st j s (by omega) c)
 rwa [b0_] at this
theorem forN {σ ρ:Type} {body:Nat→σ→Option (σ⊕ρ)} {k:Nat} {s:σ} (I:Nat→σ→Prop) (E:ρ→Prop) (h:I 0 s)
  (st:∀ j s,j<k→I j s→Tot (body j s) (Sum.elim (I (j+1)) E)):Tot (Go.Proofs.YtgeehfnbhbibeaaGreatDoor.Pad.forN body k 0 s) (Sum.elim (I k) E):=by
 have:=be3 I E k 0 s h (λj s _ b c=>by
  obtain⟨o,h1,h2⟩:=st j s (by omega) c
  cases o with
  | inl s'=>exact .inl ⟨s',h1,h2⟩
  | inr r=>exact .inr ⟨r,h1,h2⟩)
 rw[b0_] at this
 rcases this with ⟨s',h1,h2⟩ | ⟨r,h1,h2⟩
 ·exact⟨_,h1,h2⟩
 ·exact⟨_,h1,h2⟩
theorem at_ {α:Type} {l:List α} {i:Int} (h0:0≤i) (h:i<l.length):Tot (at? l i) (λx=>l[i.toNat]?=some x):=ce1 h0 h
end Tot
end
section
variable {ro:Option Nat}
section
variable {α:Type} [Enc α] {S:PH} {T:TypeId} {v:Value} {l:List α}
theorem RowP.part {k:Hp} {lo hi:Nat} (h:RowP T v l S k) (h1:lo≤hi) (h2:hi≤l.length) :
  ∃ a cap,v = .slice a l.length cap∧l.length≤cap∧RowP T (sliced a lo hi cap (Enc.sz α)) ((l.take hi).drop lo) S k:=by
 rcases h with ⟨rfl,rfl,rfl⟩ | ⟨g,cap,pre,ls,post,rfl,rfl,h3,h4,h5,h6⟩
 ·have e1:hi=0:=by simpa using h2
  subst e1
  have e2:lo=0:=by omega
  subst e2
  exact⟨none,0,rfl,by simp,.inl ⟨by simp[sliced],by simp,rfl⟩⟩
 ·refine⟨_,cap,rfl,h4,?_⟩
  obtain⟨A,B,rfl,hA,hB⟩:=h3.split hi h2
  obtain⟨A1,A2,rfl,hA1,hA2⟩:=hA.split lo (by rw[c7_];omega)
  have lA1:=hA1.len
  have lA2:=hA2.len
  have lB:=hB.len
  rw[c7_,c7_] at lA1
  rw[j2_,c7_] at lA2
  rw[j2_] at lB
  have hmin1:min hi l.length=hi:=by omega
  have hmin2:min lo (min hi l.length)=lo:=by omega
  rw[hmin2] at lA1
  rw[hmin1] at lA2
  have hlen:((l.take hi).drop lo).length=hi - lo:=by rw[j2_,c7_];omega
  have hsz:∀ a b:Nat,a≤b→(b - a) * Enc.sz α=b * Enc.sz α - a * Enc.sz α:=λa b _=>Nat.sub_mul b a _
  have hcap:cap * Enc.sz α≤l.length * Enc.sz α+post.length:=h6
  have m1:lo * Enc.sz α≤hi * Enc.sz α:=i1_ _ h1
  have m2:hi * Enc.sz α≤l.length * Enc.sz α:=i1_ _ h2
  by_cases hc:cap=lo
  ·have e1:hi=lo:=by omega
   subst e1
   refine .inr ⟨g,0,pre,[],A1++A2++B++post,?_,by simp,?_,by omega,by simp[maxLen],by simp⟩
   ·unfold sliced
    rw[if_pos hc,hc]
    have:((l.take hi).drop hi).length=0:=by rw[hlen];omega
    rw[this];simp
   ·have:(l.take hi).drop hi=[]:=h4_ (by rw[hlen];omega)
    rw[this];exact rfl
  ·refine .inr ⟨g,cap - lo,pre++A1,A2,B++post,?_,by simp,hA2,by omega,by omega,?_⟩
   ·unfold sliced
    rw[if_neg hc,hlen]
    simp only[g3_,fj_,a9_,lA1]
   ·rw[hlen,hsz lo cap (by omega),hsz lo hi h1,a9_,lB,hsz hi l.length h2]
    omega
theorem RV.part {lo hi:Nat} (h:RV S v l) (h1:lo≤hi) (h2:hi≤l.length):∃ a cap,v = .slice a l.length cap∧l.length≤cap∧RV S (sliced a lo hi cap (Enc.sz α)) ((l.take hi).drop lo):=by
 obtain⟨a,cap,rfl,hl,hm,hn,hrow⟩:=iw_ h
 refine⟨a,cap,rfl,hl,?_⟩
 have hlen:((l.take hi).drop lo).length=hi - lo:=by
  rw[j2_,c7_];omega
 unfold sliced
 rw[← hlen]
 refine wd_ ⟨by omega,by omega,λhnone => ?_,λad had i y hy => ?_⟩
 ·cases a with
  | none =>
   obtain⟨e1,e2⟩:=hn rfl
   subst e1
   exact⟨by simp,by omega⟩
  | some ad=>split at hnone<;>cases hnone
 ·have hi':i<((l.take hi).drop lo).length:=(a4_.1 hy).1
  cases a with
  | none =>
   obtain⟨e1,e2⟩:=hn rfl
   subst e1
   simp at hi'
  | some ad0 =>
   rw[if_neg (by omega)] at had
   cases had
   rw[List.getElem?_drop,i8_] at hy
   rw[if_pos (by omega)] at hy
   obtain⟨es,q1,q2⟩:=hrow ad0 rfl _ y hy
   refine⟨es,q1,λj u hu => ?_⟩
   have:=q2 j u hu
   rw[ez_]
   rw[show lo * Enc.sz α+(i * Enc.sz α+j)=(lo+i) * Enc.sz α+j by rw[j1_];omega]
   exact this
end
section
variable {P:Program} {n:Nat} {f:Fr} {w:World} {K:Fr→World→Prop} {d:Nat} {ty:TypeId} {pos:String} {af:Array Edge} {gd:Option (Nat×Bool)} {x y z:Operand} {v u:Value} {T E:TypeId}
 {α:Type} [Enc α] {S:PH} {O:List HP} {l l':List α} {lo hi:Int}
theorem zx_ {a:Option Addr} {len cap:Nat} (hT:P.underlying T=some (.slice E)) (hE:Shape P E (Enc.agg α) (Enc.sz α)) (h0:0≤lo) (h1:lo≤len) :
  (Instr.sliceAt T (.slice a len cap) (some (.int .i64 lo)) none none).run P w = .ok (sliced a lo.toNat len cap (Enc.sz α)) w:=by
 have hel:P.elem T=E:=by simp[Program.elem,hT]
 have hT':P.underlying T=some (.slice (P.elem T)):=by rw[hel];exact hT
 have:=run_slice_l (P:=P) w T a len cap hT' .i64 lo h0 h1
 rw[hel] at this
 simp[run_sliceAt_slice w T _ _ _ _ hT',this,hE.size w,Result.andThen]
theorem bi6 {a:Option Addr} {len cap:Nat} (hT:P.underlying T=some (.slice E)) (hE:Shape P E (Enc.agg α) (Enc.sz α)) (h0:0≤hi) (h1:hi≤cap) :
  (Instr.sliceAt T (.slice a len cap) none (some (.int .i64 hi)) none).run P w = .ok (sliced a 0 hi.toNat cap (Enc.sz α)) w:=by
 have hel:P.elem T=E:=by simp[Program.elem,hT]
 have hT':P.underlying T=some (.slice (P.elem T)):=by rw[hel];exact hT
 have:=run_slice_h (P:=P) w T a len cap hT' .i64 hi h0 h1
 rw[hel] at this
 simp[run_sliceAt_slice w T _ _ _ _ hT',this,hE.size w,Result.andThen]
theorem af8 (hd:Nat.blt d n=true) (hT:P.underlying T=some (.slice E)) (hE:Shape P E (Enc.agg α) (Enc.sz α)) (hx:ev f x=v) (hI:Inv w S (Row E v l::O)) (hy:ev f y = .int .i64 lo)
  (he:sub? l lo l.length=some l') (k:∀ u,Inv w S (Row E u l'::O)→K (upd f d u) w):OP P n ro ⟨some d,.slice T x (some y) none none,ty,pos,af,gd⟩ f w K:=by
 obtain⟨h0,h1,h2,rfl⟩:=gq_ he
 obtain⟨q,hq,hI'⟩:=hI.open_
 obtain⟨a,cap,rfl,hc,hp⟩:=hq.part (lo:=lo.toNat) (hi:=l.length) (by omega) (c3_ _)
 refine cy_ hd (v:=sliced a lo.toNat l.length cap (Enc.sz α)) (w':=w) (by simp[execOp,hx,hy,zx_ hT hE h0 h1]) (k _ (hI'.shut (A:=Row E _ _) ?_))
 show RowP E _ _ S q
 simpa using hp
theorem af9 (hd:Nat.blt d n=true) (hT:P.underlying T=some (.slice E)) (hE:Shape P E (Enc.agg α) (Enc.sz α)) (hx:ev f x=v) (hI:Inv w S (Row E v l::O)) (hy:ev f y = .int .i64 hi)
  (he:sub? l 0 hi=some l') (k:∀ u,Inv w S (Row E u l'::O)→K (upd f d u) w):OP P n ro ⟨some d,.slice T x none (some y) none,ty,pos,af,gd⟩ f w K:=by
 obtain⟨h0,h1,h2,rfl⟩:=gq_ he
 obtain⟨q,hq,hI'⟩:=hI.open_
 obtain⟨a,cap,rfl,hc,hp⟩:=hq.part (lo:=0) (hi:=hi.toNat) (by omega) (by omega)
 refine cy_ hd (v:=sliced a 0 hi.toNat cap (Enc.sz α)) (w':=w) (by simp[execOp,hx,hy,bi6 hT hE h1 (show hi≤(cap:Int) by omega)]) (k _ (hI'.shut (A:=Row E _ _) ?_))
 show RowP E _ _ S q
 simpa using hp
def EndOf {α:Type} [Enc α] (v:Value) (l:List α) (lo:Nat) (u:Value):Prop:=∃ a cap,v = .slice a l.length cap∧u=sliced a lo l.length cap (Enc.sz α)
theorem aw2 {le:List α} (hd:Nat.blt d n=true) (hT:P.underlying T=some (.slice E)) (hE:Shape P E (Enc.agg α) (Enc.sz α)) (hx:ev f x=v) (hI:Inv w S (Row E v l::O)) (hy:ev f y = .int .i64 lo)
  (he:sub? l lo l.length=some le) (k:∀ u,EndOf v l lo.toNat u→K (upd f d u) w):OP P n ro ⟨some d,.slice T x (some y) none none,ty,pos,af,gd⟩ f w K:=by
 obtain⟨h0,h1,h2,rfl⟩:=gq_ he
 obtain⟨a,cap,rfl,hc⟩:=hI.rowForm
 exact cy_ hd (v:=sliced a lo.toNat l.length cap (Enc.sz α)) (w':=w) (by simp[execOp,hx,hy,zx_ hT hE h0 h1]) (k _ ⟨a,cap,rfl,rfl⟩)
theorem bs7 {op:Op} {w':World} (h:(execOp (ev f) ⟨none,op,ty,pos,af,gd⟩).run P w = .ok (.value v) w') (k:K f w'):OP P n ro ⟨none,op,ty,pos,af,gd⟩ f w K:=by
 intro a ha Q
 refine⟨λ_ _=>trivial,?_⟩
 rw[ha.eval,qg_ h (λ_ e=>by cases e)]
 exact⟨f,ha,k⟩
theorem cl7 {bytes:Nat} {zv:Value} {zd:α} {b:Nat} {ct:Array TypeId} (hct:ct = #[T]) (hT:P.underlying T=some (.slice E)) (hE0:cx0 P α E bytes zv zd) (hx:ev f x=u) (hI:Inv w S (Row E v l::O)) (hb:b≤l.length) (hu:EndOf v l b u)
  (k:∀ w',Inv w' S (Row E v (l.take b++List.replicate (l.length - b) zd)::O)→K f w'):OP P n ro ⟨none,.call ⟨.builtin .clear,#[x],ct⟩,ty,pos,af,gd⟩ f w K:=by
 subst hct
 obtain⟨ei,hE⟩:=hE0
 obtain⟨a,cap,rfl,rfl⟩:=hu
 have hzero:(zeroValue E).run P w = .ok zv w:=by simp[zeroValue,typeInfo,hE.hi,hE.hz]
 by_cases h0:l.length - b=0
 ·refine bs7 (v:=.tuple #[]) (w':=w) ?_ (k w ?_)
  ·have:(Builtin.clear_ #[T] ty #[sliced a b l.length cap (Enc.sz α)]).run P w = .ok (.tuple #[]) w:=by
    unfold sliced
    rw[h0]
    unfold Builtin.clear_
    cases hq:(if cap=b then a else a.map (·.add (b * Enc.sz α))) with
    | none=>simp[run_underlying hT]
    | some q=>simp[run_underlying hT]
   simp[execOp,hx,resolve,invoke,builtin,this]
  ·have:b=l.length:=by omega
   subst this
   simpa using hI
 ·obtain⟨q,hq,hI'⟩:=hI.open_
  rcases hq with ⟨e1,e2,e3⟩ | ⟨g,cap',pre,ls,post,e1,rfl,h3,h4,h5,h6⟩
  ·subst e2;simp at h0
  ·obtain⟨rfl,rfl⟩:a=some ⟨g,pre.length,none⟩∧cap=cap':=by
    injection e1 with q1 q2 q3;exact⟨q1,q3⟩
   obtain⟨A,B,rfl,hA,hB⟩:=h3.split b hb
   have lA:=hA.len
   have lB:=hB.len
   rw[c7_] at lA
   rw[j2_] at lB
   have hmin:min b l.length=b:=by omega
   rw[hmin] at lA
   have hz:(Builtin.zeroCells zv.cells (l.length - b)).toList=(List.replicate (l.length - b) zv.cells.toList).flatten:=ma_ _ _
   have hrz:=RepL.replicate (hE.rep S) (l.length - b)
   have lz:=hrz.len
   rw[e8_] at lz
   have eq1:pre++(A++B++post)=(pre++A)++(B++post):=by simp[b3_]
   rw[eq1] at hI'
   obtain⟨w',hst,hI''⟩:=ia_ (P:=P) (X:=(List.replicate (l.length - b) zv.cells.toList).flatten) hI' (by rw[lB,lz]) (λq hq=>hrz.cell1 q hq)
   refine bs7 (v:=.tuple #[]) (w':=w') ?_ (k w' (hI''.shut (A:=Row E _ _) ?_))
   ·have hne:cap≠b:=by omega
    have:(Builtin.clear_ #[T] ty #[sliced (some ⟨g,pre.length,none⟩) b l.length cap (Enc.sz α)]).run P w = .ok (.tuple #[]) w':=by
     unfold sliced
     rw[if_neg hne]
     simp only[g3_,fj_]
     have e2:pre.length+b * Enc.sz α=(pre++A).length:=by simp[lA]
     rw[e2]
     unfold Builtin.clear_
     obtain⟨m,hm⟩:∃ m,l.length - b=m+1:=⟨l.length - b - 1,by omega⟩
     have hst':=hst
     rw[← hz] at hst'
     rw[hm] at hst' ⊢
     simp only[a9_] at hst' ⊢
     simp[run_underlying hT,hzero,hst']
    simp[execOp,hx,resolve,invoke,builtin,this]
   ·refine .inr ⟨g,cap,pre,A++(List.replicate (l.length - b) zv.cells.toList).flatten,post,?_,by simp[b3_],hA.append hrz,?_,h5,?_⟩
    ·simp;omega
    ·simp;omega
    ·have:(List.take b l++List.replicate (l.length - b) zd).length=l.length:=by simp;omega
     rw[this];exact h6
end
structure PRef (α:Type) where
 v:α
instance {α:Type} [Enc α]:Enc (PRef α) where
 agg:=false
 sz:=1
 rep S cs x:=∃ a,cs=[.pointer (some a)]∧PtS S (.pointer (some a)) x.v
 len h:=by obtain⟨a,e,_⟩:=h;rw[e];rfl
 one _:=rfl
 cell1 h:=by obtain⟨a,e,_⟩:=h;intro v hv;rw[e] at hv;simp at hv;subst hv;rfl
 mono hle h:=by obtain⟨a,e,p⟩:=h;exact⟨a,e,p.mono hle⟩
theorem PtS.ptr {α:Type} [Enc α] {S:PH} {v:Value} {x:α} (h:PtS S v x):∃ a,v = .pointer (some a):=by
 obtain⟨a,_,e,_⟩:=h;exact⟨a,e⟩
section
variable {w:World} {S:PH} {O:List HP} {β:Type} [Enc β] {g:Nat} {B:TypeId} {cs:Array Value} {x:β}
variable {α γ:Type} [Enc α] [Enc γ] {T1 T2:TypeId} {v1 v2:Value} {l1:List α} {l2:List γ}
end
section
variable {P:Program} {n:Nat} {f:Fr} {w:World} {F:Fr→World→Prop} {d:Nat} {ty:TypeId} {pos:String} {af:Array Edge} {gd:Option (Nat×Bool)} {x y z:Operand} {v u:Value} {T T2 kt et:TypeId} {S:PH} {O:List HP}
end
end
section
variable {ro:Option Nat}
def OwnH (S:PH):List HP→Hp→Prop
 | [],h=>h=Hp.emp
 | A::L,h=>∃ a b,A.p S a∧OwnH S L b∧Hp.Disj a b∧h=Hp.un a b
theorem OwnH.mono {S T:PH} (hst:S.Le T):∀ {L:List HP} {h:Hp},OwnH S L h→OwnH T L h
 | [],_,h=>h
 | A::L,_,⟨a,b,h1,h2,h3,h4⟩=>⟨a,b,A.mono hst h1,OwnH.mono hst h2,h3,h4⟩
def as3 (L:List HP):HP:=⟨λS h=>OwnH S L h,λhst h=>OwnH.mono hst h⟩
section
variable {w:World} {S:PH}
theorem Own.allOpen:∀ {L O:List HP} {U:Hp},Own w S U (as3 L::O)→Own w S U (L++O)
 | [],O,U,⟨h,hA,hd,hr⟩=>by
  have hA:h=Hp.emp:=hA
  subst hA
  have:Hp.un Hp.emp U=U:=by funext b;simp[Hp.un,Hp.emp]
  rw[this] at hr
  exact hr
 | A::L,O,U,⟨h,hA,hd,hr⟩=>by
  obtain⟨a,b,h1,h2,h3,rfl⟩:=(hA:OwnH S (A::L) h)
  have da:Hp.Disj a U:=hd.mono (Hp.le_un_left _ _) (Hp.Le.refl _)
  have db:Hp.Disj b U:=hd.mono (Hp.le_un_right h3) (Hp.Le.refl _)
  refine⟨a,h1,da,Own.allOpen ⟨b,h2,?_,?_⟩⟩
  ·exact Hp.Disj.symm (Hp.Disj.un h3 db.symm)
  ·rw[← Hp.un_assoc,Hp.un_comm h3.symm];exact hr
theorem Own.allShut:∀ {L O:List HP} {U:Hp},Own w S U (L++O)→Own w S U (as3 L::O)
 | [],O,U,h=>by
  refine⟨Hp.emp,rfl,λb=>.inl rfl,?_⟩
  have:Hp.un Hp.emp U=U:=by funext b;simp[Hp.un,Hp.emp]
  rw[this];exact h
 | A::L,O,U,⟨a,h1,da,hr⟩=>by
  obtain⟨b,h2,hd,hr'⟩:=Own.allShut hr
  have dab:Hp.Disj b a:=hd.mono (Hp.Le.refl _) (Hp.le_un_left _ _)
  have dbu:Hp.Disj b U:=hd.mono (Hp.Le.refl _) (Hp.le_un_right da)
  refine⟨Hp.un a b,⟨a,b,h1,h2,dab.symm,rfl⟩,Hp.Disj.un da dbu,?_⟩
  rw[Hp.un_comm dab.symm,Hp.un_assoc];exact hr'
theorem Inv.allOpen {L O:List HP} (h:Inv w S (as3 L::O)):Inv w S (L++O):=⟨h.os,h.out,Own.allOpen h.own⟩
theorem Inv.allShut {L O:List HP} (h:Inv w S (L++O)):Inv w S (as3 L::O):=⟨h.os,h.out,Own.allShut h.own⟩
end
section
variable {α:Type} [Enc α] {w:World} {S:PH} {O:List HP} {To Ti:TypeId} {v:Value} {raws:List Raw} {ls:List (List α)}
def jd_ (Ti:TypeId) (raws:List Raw) (ls:List (List α)):List HP:=List.zipWith (λr l=>Row Ti r.v l) raws ls
def Grid (To Ti:TypeId) (v:Value) (raws:List Raw) (ls:List (List α)):HP:=as3 (Row To v raws::jd_ Ti raws ls)
theorem vg_:∀ (raws:List Raw) (ls:List (List α)) (i:Nat) (r:Raw) (l l':List α),raws[i]?=some r→ls[i]?=some l →
  ∃ F:List HP,(jd_ Ti raws ls).Perm (Row Ti r.v l::F)∧∀ r':Raw,(jd_ Ti (raws.set i r') (ls.set i l')).Perm (Row Ti r'.v l'::F)
 | [],_,_,_,_,_,h,_=>by simp at h
 | _::_,[],_,_,_,_,_,h=>by simp at h
 | a::raws,b::ls,0,r,l,l',h,k=>by
  simp at h k
  subst h;subst k
  exact⟨jd_ Ti raws ls,.refl _,λr'=>.refl _⟩
 | a::raws,b::ls,i+1,r,l,l',h,k=>by
  obtain⟨F,h1,h2⟩:=vg_ raws ls i r l l' (by simpa using h) (by simpa using k)
  refine⟨Row Ti a.v b::F,?_,λr' => ?_⟩
  ·exact (List.Perm.cons _ h1).trans (List.Perm.swap _ _ _)
  ·exact (List.Perm.cons _ (h2 r')).trans (List.Perm.swap _ _ _)
end
section ops
variable {P:Program} {n:Nat} {f:Fr} {w:World} {K:Fr→World→Prop} {d:Nat} {ty:TypeId} {pos:String} {af:Array Edge} {gd:Option (Nat×Bool)} {x y z:Operand} {u:Value} {T:TypeId}
 {α:Type} [Enc α] {S:PH} {O:List HP} {To Ti:TypeId} {v:Value} {raws:List Raw} {ls:List (List α)}
end ops
section
variable {α:Type} [Enc α] {w:World} {S:PH} {O:List HP} {To Ti:TypeId} {v:Value} {raws:List Raw} {ls:List (List α)}
theorem Inv.gridPut {i:Nat} {r r':Raw} {l l':List α} (h:Inv w S (Row To v (raws.set i r')::(jd_ Ti raws ls++(Row Ti r'.v l'::O)))) (hr:raws[i]?=some r) (hl:ls[i]?=some l) :
  Inv w S (Grid To Ti v (raws.set i r') (ls.set i l')::O):=by
 obtain⟨F,h1,h2⟩:=vg_ (Ti:=Ti) raws ls i r l l' hr hl
 have a1:Inv w S (Row Ti r.v l::(F++(Row To v (raws.set i r')::Row Ti r'.v l'::O))):=by
  refine h.perm ?_
  refine List.Perm.trans (List.Perm.cons _ (h1.append_right _)) ?_
  refine (List.Perm.swap _ _ _).trans (List.Perm.cons _ ?_)
  exact List.perm_middle.symm
 have a2:=a1.drop
 refine Inv.allShut (a2.perm ?_)
 refine List.perm_middle.trans (List.Perm.cons _ ?_)
 refine List.perm_middle.trans ?_
 exact ((h2 r').symm.append_right O)
end
section
variable {α:Type} [Enc α] {w:World} {S:PH} {O:List HP} {To Ti:TypeId} {v:Value} {raws:List Raw} {ls:List (List α)}
end
section
variable {α:Type} [Enc α] {w:World} {S:PH} {O:List HP} {To Ti:TypeId} {v:Value}
end
end
end Go.Proofs.YtgeehfnbhbibeaaGreatDoor.Pad
namespace Go.Proofs.YtgeehfnbhbibeaaGreatDoor.Rex
open Go Pad
section
inductive Ty where
 | int | bool | u8 | str | unit | list (t:Ty) | one (t:Ty) | pair (a b:Ty) | ref (t:Ty) | clo (f:FuncId) (t:Ty)
 deriving DecidableEq
def Ty.eqb:Ty→Ty→Bool
 | .int,.int=>true
 | .bool,.bool=>true
 | .u8,.u8=>true
 | .str,.str=>true
 | .unit,.unit=>true
 | .list a,.list b=>a.eqb b
 | .one a,.one b=>a.eqb b
 | .pair a c,.pair b d=>cond (a.eqb b) (c.eqb d) false
 | .ref a,.ref b=>a.eqb b
 | .clo f a,.clo g b=>cond (Nat.beq f g) (a.eqb b) false
 | _,_=>false
theorem Ty.eqb_eq:∀ {a b:Ty},a.eqb b=true→a=b
 | .int,b,h=>by cases b<;>first | rfl | cases h
 | .bool,b,h=>by cases b<;>first | rfl | cases h
 | .u8,b,h=>by cases b<;>first | rfl | cases h
 | .str,b,h=>by cases b<;>first | rfl | cases h
 | .unit,b,h=>by cases b<;>first | rfl | cases h
 | .list a,b,h=>by
  cases b with
  | list b=>exact congrArg Ty.list (Ty.eqb_eq (a:=a) h)
  | _=>cases h
 | .one a,b,h=>by
  cases b with
  | one b=>exact congrArg Ty.one (Ty.eqb_eq (a:=a) h)
  | _=>cases h
 | .ref a,b,h=>by
  cases b with
  | ref b=>exact congrArg Ty.ref (Ty.eqb_eq (a:=a) h)
  | _=>cases h
 | .pair a c,b,h=>by
  cases b with
  | pair b d =>
   have h:cond (a.eqb b) (c.eqb d) false=true:=h
   cases h1:a.eqb b with
   | true =>
    rw[h1] at h
    rw[Ty.eqb_eq h1,Ty.eqb_eq (a:=c) h]
   | false=>rw[h1] at h;cases h
  | _=>cases h
 | .clo f a,b,h=>by
  cases b with
  | clo g b =>
   have h:cond (Nat.beq f g) (a.eqb b) false=true:=h
   cases h1:Nat.beq f g with
   | true =>
    rw[h1] at h
    rw[a3_ h1,Ty.eqb_eq (a:=a) h]
   | false=>rw[h1] at h;cases h
  | _=>cases h
abbrev Str:=List UInt8
def Ty.den:Ty→Type
 | .int=>Int
 | .bool=>Bool
 | .u8=>Int
 | .str=>Str
 | .unit=>Unit
 | .list t=>List t.den
 | .one t=>t.den
 | .pair a b=>a.den×b.den
 | .ref t=>t.den
 | .clo _ t=>t.den
@[reducible] def encU8:Enc Int where
 agg:=false
 sz:=1
 rep _ cs n:=cs=[.int .u8 n]
 len h:=by rw[h];rfl
 one _:=rfl
 cell1 h:=by intro v hv;rw[h] at hv;simp at hv;subst hv;rfl
 mono _ h:=h
@[reducible] def encStr:Enc Str where
 agg:=false
 sz:=1
 rep _ cs s:=cs=[.string ⟨s.toArray⟩]
 len h:=by rw[h];rfl
 one _:=rfl
 cell1 h:=by intro v hv;rw[h] at hv;simp at hv;subst hv;rfl
 mono _ h:=h
@[reducible] def cv9 {α:Type} (e:Enc α):Enc α where
 agg:=true
 sz:=e.sz
 rep:=e.rep
 len:=e.len
 one h:=by cases h
 cell1:=e.cell1
 mono:=e.mono
@[reducible] def encUnit:Enc Unit where
 agg:=true
 sz:=0
 rep _ cs _:=cs=[]
 len h:=by rw[h];rfl
 one h:=by cases h
 cell1 h:=by intro v hv;rw[h] at hv;simp at hv
 mono _ h:=h
@[reducible] def encRef {α:Type} (e:Enc α):Enc α where
 agg:=false
 sz:=1
 rep S cs x:=∃ p,cs=[p]∧@PtS α e S p x
 len:=by rintro S cs x ⟨p,rfl,_⟩;rfl
 one _:=rfl
 cell1:=by
  rintro S cs x ⟨p,rfl,a,_,rfl,_⟩ v hv
  simp at hv
  subst hv
  rfl
 mono:=by
  rintro S T cs x hle ⟨p,e1,h⟩
  exact⟨p,e1,PtS.mono h hle⟩
@[reducible] def encClo {α:Type} (f:FuncId) (e:Enc α):Enc α where
 agg:=false
 sz:=1
 rep S cs x:=∃ ys:List Value,cs=[.func (.func f) #[] ys.toArray]∧e.rep S ys x
 len:=by rintro S cs x ⟨p,rfl,_⟩;rfl
 one _:=rfl
 cell1:=by
  rintro S cs x ⟨p,rfl,_⟩ v hv
  simp at hv
  subst hv
  rfl
 mono:=by
  rintro S T cs x hle ⟨p,e1,h⟩
  exact⟨p,e1,e.mono hle h⟩
@[reducible] def Ty.enc:(t:Ty)→Enc t.den
 | .int=>inferInstanceAs (Enc Int)
 | .bool=>inferInstanceAs (Enc Bool)
 | .u8=>encU8
 | .str=>encStr
 | .unit=>encUnit
 | .list t=>@instEncList t.den t.enc
 | .one t=>cv9 t.enc
 | .pair a b=>@instEncProd a.den b.den a.enc b.enc
 | .ref t=>encRef t.enc
 | .clo f t=>encClo f t.enc
instance instEncTy (t:Ty):Enc t.den:=t.enc
def Ty.agg:Ty→Bool
 | .unit=>true
 | .one _=>true
 | .pair _ _=>true
 | _=>false
def Ty.sz:Ty→Nat
 | .one t=>t.sz
 | .pair a b=>a.sz+b.sz
 | .unit=>0
 | _=>1
theorem jt_:∀ t:Ty,Enc.agg t.den=t.agg
 | .int | .bool | .u8 | .str | .unit | .list _ | .one _ | .pair _ _ | .ref _ | .clo _ _=>rfl
theorem cj_:∀ t:Ty,Enc.sz t.den=t.sz
 | .int | .bool | .u8 | .str | .unit | .list _ | .ref _ | .clo _ _=>rfl
 | .one t=>cj_ t
 | .pair a b=>by
  show Enc.sz a.den+Enc.sz b.den=a.sz+b.sz
  rw[cj_ a,cj_ b]
def Ty.deq:(t:Ty)→DecidableEq t.den
 | .int=>inferInstanceAs (DecidableEq Int)
 | .bool=>inferInstanceAs (DecidableEq Bool)
 | .u8=>inferInstanceAs (DecidableEq Int)
 | .str=>inferInstanceAs (DecidableEq Str)
 | .unit=>inferInstanceAs (DecidableEq Unit)
 | .list t=>@instDecidableEqList t.den t.deq
 | .one t=>t.deq
 | .pair a b=>@instDecidableEqProd a.den b.den a.deq b.deq
 | .ref t=>t.deq
 | .clo _ t=>t.deq
instance instDeqTy (t:Ty):DecidableEq t.den:=t.deq
abbrev RVt (t:Ty) (S:PH) (v:Value) (x:t.den):Prop:=@RV t.den t.enc S v x
abbrev cr4 (t:Ty) (S:PH) (p:Value) (x:t.den):Prop:=@PtS t.den t.enc S p x
end
section
def aj9 (a b:Ty) (x:List a.den):Option (List b.den):=if h:a.eqb b=true then some (Ty.eqb_eq h ▸ x) else none
theorem uq_ {a b:Ty} {x:List a.den} {y:List b.den} (h:aj9 a b x=some y):∃ e:a=b,y=e ▸ x:=by
 unfold aj9 at h
 split at h
 ·rename_i e;cases h;exact⟨Ty.eqb_eq e,rfl⟩
 ·cases h
theorem Ty.eqb_refl:∀ a:Ty,a.eqb a=true
 | .int | .bool | .u8 | .str | .unit=>rfl
 | .list a=>Ty.eqb_refl a
 | .one a=>Ty.eqb_refl a
 | .ref a=>Ty.eqb_refl a
 | .pair a b=>by show cond (a.eqb a) (b.eqb b) false=true;rw[Ty.eqb_refl a,Ty.eqb_refl b];rfl
 | .clo f a=>by show cond (Nat.beq f f) (a.eqb a) false=true;rw[g0_,Ty.eqb_refl a];rfl
theorem qw_ (a:Ty) (x:List a.den):aj9 a a x=some x:=by
 unfold aj9
 rw[dif_pos (Ty.eqb_refl a)]
def zh_ (u:Ty):(t:Ty)→List Nat→t.den→Option (List u.den)
 | .list a,[],x=>aj9 a u x
 | .one t,0::q,x=>zh_ u t q x
 | .pair a b,0::q,x=>zh_ u a q x.1
 | .pair a b,(k+1)::q,x=>zh_ u b (k::q) x.2
 | _,_,_=>none
def ux_ (u:Ty):(t:Ty)→List Nat→t.den→List u.den→Option t.den
 | .list a,[],_,l=>aj9 u a l
 | .one t,0::q,x,l=>ux_ u t q x l
 | .pair a b,0::q,x,l=>(ux_ u a q x.1 l).bind λy=>some (y,x.2)
 | .pair a b,(k+1)::q,x,l=>(ux_ u b (k::q) x.2 l).bind λy=>some (x.1,y)
 | _,_,_,_=>none
def lc_:Ty→List Nat→Nat
 | .one t,0::q=>lc_ t q
 | .pair a b,0::q=>lc_ a q
 | .pair a b,(k+1)::q=>a.sz+lc_ b (k::q)
 | _,_=>0
theorem iz_ {u:Ty} {P:(t:Ty)→(q:List Nat)→t.den→List u.den→Prop} (h0:∀ x:List u.den,P (.list u) [] x x) (h1:∀ (t:Ty) q x l,zh_ u t q x=some l→P t q x l→P (.one t) (0::q) x l)
  (h2:∀ (a b:Ty) q (x:a.den×b.den) l,zh_ u a q x.1=some l→P a q x.1 l→P (.pair a b) (0::q) x l) (h3:∀ (a b:Ty) k q (x:a.den×b.den) l,zh_ u b (k::q) x.2=some l→P b (k::q) x.2 l→P (.pair a b) ((k+1)::q) x l) :
  ∀ (t:Ty) (q:List Nat) (x:t.den) (l:List u.den),zh_ u t q x=some l→P t q x l
 | .list a,[],x,l,h=>by
  obtain⟨e,h⟩:=uq_ h
  subst e
  have h:l=x:=h
  subst h
  exact h0 l
 | .one t,0::q,x,l,h=>h1 t q x l h (iz_ h0 h1 h2 h3 t q x l h)
 | .pair a b,0::q,x,l,h=>h2 a b q x l h (iz_ h0 h1 h2 h3 a q x.1 l h)
 | .pair a b,(k+1)::q,x,l,h=>h3 a b k q x l h (iz_ h0 h1 h2 h3 b (k::q) x.2 l h)
 | .list _,_::_,_,_,h=>by cases h
 | .one _,[],_,_,h=>by cases h
 | .one _,(_+1)::_,_,_,h=>by cases h
 | .pair _ _,[],_,_,h=>by cases h
 | .int,_,_,_,h=>by cases h
 | .bool,_,_,_,h=>by cases h
 | .u8,_,_,_,h=>by cases h
 | .str,_,_,_,h=>by cases h
 | .unit,_,_,_,h=>by cases h
 | .ref _,_,_,_,h=>by cases h
 | .clo _ _,_,_,_,h=>by cases h
theorem bp1 {u:Ty}:∀ (t:Ty) (q:List Nat) (x:t.den) (l:List u.den),zh_ u t q x=some l→ux_ u t q x l=some x :=
 iz_ (λx=>qw_ u x) (λt q x l _ h=>h) (λa b q x l _ h=>by show (ux_ u a q x.1 l).bind _=_;rw[h];rfl) (λa b k q x l _ h=>by show (ux_ u b (k::q) x.2 l).bind _=_;rw[h];rfl)
theorem az9 {u:Ty} (l':List u.den):∀ (t:Ty) (q:List Nat) (x:t.den) (l:List u.den),zh_ u t q x=some l→∃ x',ux_ u t q x l'=some x'∧zh_ u t q x'=some l'∧∀ l2,ux_ u t q x' l2=ux_ u t q x l2 :=
 iz_ (λx=>⟨l',qw_ u l',qw_ u l',λ_=>rfl⟩) (λt q x l _ h=>h)
  (λa b q x l _ h=>by
   obtain⟨y,h1,h2,h3⟩:=h
   refine⟨(y,x.2),?_,h2,λl2 => ?_⟩
   ·show (ux_ u a q x.1 l').bind _=_;rw[h1];rfl
   ·show (ux_ u a q y l2).bind _=(ux_ u a q x.1 l2).bind _;rw[h3])
  (λa b k q x l _ h=>by
   obtain⟨y,h1,h2,h3⟩:=h
   refine⟨(x.1,y),?_,h2,λl2 => ?_⟩
   ·show (ux_ u b (k::q) x.2 l').bind _=_;rw[h1];rfl
   ·show (ux_ u b (k::q) y l2).bind _=(ux_ u b (k::q) x.2 l2).bind _;rw[h3])
section
variable {S:PH} {u:Ty}
theorem cn5 {T:PH} {w:Value} {l:List u.den} (h:RVt (.list u) T w l):(Ty.list u).enc.rep T [w] l:=cs5 (α:=(Ty.list u).den) rfl h
theorem cj7 {T:PH} {w:Value} {l:List u.den} (h:(Ty.list u).enc.rep T [w] l):RVt (.list u) T w l:=⟨[w],h,rfl⟩
theorem by6:∀ (t:Ty) (q:List Nat) (x:t.den) (l:List u.den),zh_ u t q x=some l→∀ cs,t.enc.rep S cs x→∃ v,cs[lc_ t q]?=some v∧RVt (.list u) S v l :=
 iz_ (λx cs h=>by
   have hl:=Enc.len (α:=(Ty.list u).den) h
   match cs,hl with
   | [v],_=>exact⟨v,rfl,cj7 h⟩) (λt q x l _ h cs hr=>h cs hr)
  (λa b q x l _ h cs hr=>by
   obtain⟨c1,c2,rfl,h1,h2⟩:=hr
   obtain⟨v,g1,g2⟩:=h c1 h1
   refine⟨v,?_,g2⟩
   show (c1++c2)[lc_ a q]?=_
   rw[b1_ (a4_.1 g1).1,g1])
  (λa b k q x l _ h cs hr=>by
   obtain⟨c1,c2,rfl,h1,h2⟩:=hr
   obtain⟨v,g1,g2⟩:=h c2 h2
   refine⟨v,?_,g2⟩
   have hl:c1.length=a.sz:=by rw[← cj_];exact Enc.len (α:=a.den) h1
   show (c1++c2)[a.sz+lc_ b (k::q)]?=_
   rw[c6_ (by omega),hl,h7_,g1])
def ElOk (S:PH) (u:Ty) (t:Ty) (q:List Nat) (x:t.den) (cs:List Value):Prop :=
 ∀ (T:PH) (w:Value) (l:List u.den),S.Le T→RVt (.list u) T w l→∃ x',ux_ u t q x l=some x'∧t.enc.rep T (cs.set (lc_ t q) w) x'
theorem elOk_of:∀ (t:Ty) (q:List Nat) (x:t.den) (l:List u.den),zh_ u t q x=some l→∀ cs,t.enc.rep S cs x→ElOk S u t q x cs :=
 iz_ (λx cs h T w l hle hr=>by
   have hl:=Enc.len (α:=(Ty.list u).den) h
   match cs,hl with
   | [v],_=>exact⟨l,qw_ u l,cn5 hr⟩) (λt q x l _ h cs hr=>h cs hr)
  (λa b q x l hg h cs hr T w l' hle hw=>by
   obtain⟨c1,c2,rfl,h1,h2⟩:=hr
   obtain⟨v,g1,_⟩:=by6 (S:=S) a q x.1 l hg c1 h1
   obtain⟨y,e1,e2⟩:=h c1 h1 T w l' hle hw
   refine⟨(y,x.2),?_,?_⟩
   ·show (ux_ u a q x.1 l').bind _=_;rw[e1];rfl
   ·refine⟨c1.set (lc_ a q) w,c2,?_,e2,b.enc.mono hle h2⟩
    show (c1++c2).set (lc_ a q) w=_
    rw[List.set_append_left _ _ (a4_.1 g1).1])
  (λa b k q x l hg h cs hr T w l' hle hw=>by
   obtain⟨c1,c2,rfl,h1,h2⟩:=hr
   obtain⟨y,e1,e2⟩:=h c2 h2 T w l' hle hw
   have hl:c1.length=a.sz:=by rw[← cj_];exact Enc.len (α:=a.den) h1
   refine⟨(x.1,y),?_,?_⟩
   ·show (ux_ u b (k::q) x.2 l').bind _=_;rw[e1];rfl
   ·refine⟨c1,c2.set (lc_ b (k::q)) w,?_,a.enc.mono hle h1,e2⟩
    show (c1++c2).set (a.sz+lc_ b (k::q)) w=_
    rw[p9_ _ _ (by omega),hl,h7_])
theorem ElOk.mono {T:PH} {t:Ty} {q:List Nat} {x:t.den} {cs:List Value} (hle:S.Le T) (h:ElOk S u t q x cs):ElOk T u t q x cs:=λU w l hu hr=>h U w l (hle.trans hu) hr
end
structure RC (k:Nat) where
 cs:List Value
 len:cs.length=k
 one:∀ v ∈ cs,v.oneCell'=true
instance instEncRC (k:Nat):Enc (RC k) where
 agg:=true
 sz:=k
 rep _ cs x:=cs=x.cs
 len {S cs x} h:=by rw[h,x.len]
 one h:=by cases h
 cell1 {S cs x} h:=by rw[h];exact x.one
 mono _ h:=h
def eqL:List Nat→List Nat→Bool
 | [],[]=>true
 | a::l,b::m=>Nat.beq a b&&eqL l m
 | _,_=>false
theorem cv8:∀ {l m:List Nat},eqL l m=true→l=m
 | [],[],_=>rfl
 | [],_::_,h=>by cases h
 | _::_,[],h=>by cases h
 | a::l,b::m,h=>by
  simp only[eqL,a1_] at h
  rw[a3_ h.1,cv8 h.2]
structure GD where
 t:Ty
 u:Ty
 q:List Nat
 T:TypeId
 Ti:TypeId
abbrev GD.Hole (G:GD):Type:=Option (Int×Nat×G.t.den)
def hl {G:GD} (h:G.Hole) (i:Nat):Bool:=match h with
 | some p=>Nat.beq i p.1.toNat
 | none=>false
def GD.cell (G:GD) (e:RC G.t.sz):Value:=e.cs.getD (lc_ G.t G.q) undef
def GD.get (G:GD) (x:G.t.den):List G.u.den:=(zh_ G.u G.t G.q x).getD []
def inn1 (G:GD) (b:Bool) (e:RC G.t.sz) (x:G.t.den):HP:=cond b (HP.exact Hp.emp) (@Row G.u.den G.u.enc G.Ti (G.cell e) (G.get x))
def inn (G:GD) (h:G.Hole):Nat→List (RC G.t.sz)→List G.t.den→List HP
 | i,e::es,x::ls=>inn1 G (hl h i) e x::inn G h (i+1) es ls
 | _,_,_=>[]
structure ElR (S:PH) (G:GD) (e:RC G.t.sz) (x:G.t.den):Prop where
 ok:ElOk S G.u G.t G.q x e.cs
 lt:lc_ G.t G.q<e.cs.length
 get:zh_ G.u G.t G.q x=some (G.get x)
def kr_ (hv:Nat→Value) (v:Value) (G:GD) (ls:List G.t.den) (h:G.Hole):HP where
 p S k:=∃ es:List (RC G.t.sz),Rel (ElR S G) es ls∧(∀ i o x,h=some (i,o,x)→at? ls i=some x∧∃ e,es[i.toNat]?=some e∧G.cell e=hv o)∧OwnH S (Row G.T v es::inn G h 0 es ls) k
 mono hle:=by
  rintro⟨es,h1,h2,h3⟩
  exact⟨es,Rel.mono (λy x r=>⟨r.ok.mono hle,r.lt,r.get⟩) h1,h2,OwnH.mono hle h3⟩
section
variable {w:World} {S:PH} {O:List HP} {hv:Nat→Value} {v:Value} {G:GD} {ls:List G.t.den} {h:G.Hole}
theorem Inv.gridOpenA (hI:Inv w S (kr_ hv v G ls h::O)):∃ es:List (RC G.t.sz),Rel (ElR S G) es ls∧(∀ i o x,h=some (i,o,x)→at? ls i=some x∧∃ e,es[i.toNat]?=some e∧G.cell e=hv o)∧Inv w S (Row G.T v es::(inn G h 0 es ls++O)):=by
 obtain⟨k,⟨es,h1,h2,h3⟩,hI'⟩:=Inv.open_ hI
 exact⟨es,h1,h2,Inv.allOpen (L:=Row G.T v es::inn G h 0 es ls) (Inv.shut (A:=as3 (Row G.T v es::inn G h 0 es ls)) hI' h3)⟩
theorem Inv.gridShutA {es:List (RC G.t.sz)} (h1:Rel (ElR S G) es ls) (h2:∀ i o x,h=some (i,o,x)→at? ls i=some x∧∃ e,es[i.toNat]?=some e∧G.cell e=hv o) (hI:Inv w S (Row G.T v es::(inn G h 0 es ls++O))):Inv w S (kr_ hv v G ls h::O) :=
 Inv.headMap (Inv.allShut (L:=Row G.T v es::inn G h 0 es ls) hI) λk hk=>⟨es,h1,h2,hk⟩
theorem bd5:∀ {es:List (RC G.t.sz)} {ls:List G.t.den} {i j:Nat} {e:RC G.t.sz} {x:G.t.den},es[i]?=some e→ls[i]?=some x →
  ∃ F,(inn G h j es ls).Perm (inn1 G (hl h (j+i)) e x::F)∧∀ (h':G.Hole) e' x',(∀ k,k≠j+i→hl h' k=hl h k)→(inn G h' j (es.set i e') (ls.set i x')).Perm (inn1 G (hl h' (j+i)) e' x'::F)
 | [],_,_,_,_,_,k,_=>by simp at k
 | _::_,[],_,_,_,_,_,k=>by simp at k
 | a::es,b::ls,0,j,e,x,k1,k2=>by
  simp at k1 k2
  subst k1;subst k2
  refine⟨inn G h (j+1) es ls,.refl _,λh' e' x' hh => ?_⟩
  have:∀ (es:List (RC G.t.sz)) (ls:List G.t.den) (m:Nat),j<m→inn G h' m es ls=inn G h m es ls:=by
   intro es
   induction es with
   | nil=>intro ls m _;rfl
   | cons c es ih =>
    intro ls m hm
    cases ls with
    | nil=>rfl
    | cons d ls =>
     show inn1 G (hl h' m) c d::inn G h' (m+1) es ls=_
     rw[hh m (by omega),ih ls (m+1) (by omega)]
     rfl
  show (inn1 G (hl h' j) e' x'::inn G h' (j+1) es ls).Perm _
  rw[this es ls (j+1) (by omega)]
  exact .refl _
 | a::es,b::ls,i+1,j,e,x,k1,k2=>by
  obtain⟨F,p1,p2⟩:=bd5 (es:=es) (ls:=ls) (i:=i) (j:=j+1) (by simpa using k1) (by simpa using k2)
  have ej:j+1+i=j+(i+1):=by omega
  rw[ej] at p1 p2
  refine⟨inn1 G (hl h j) a b::F,(List.Perm.cons _ p1).trans (List.Perm.swap _ _ _),λh' e' x' hh => ?_⟩
  have q:=p2 h' e' x' hh
  show (inn1 G (hl h' j) a b::inn G h' (j+1) (es.set i e') (ls.set i x')).Perm _
  rw[hh j (by omega)]
  exact (List.Perm.cons _ q).trans (List.Perm.swap _ _ _)
theorem Rel.setR {α β:Type} {R:β→α→Prop}:∀ {m:List β} {l:List α} {i:Nat} {y:β} {x:α},Rel R m l→R y x→Rel R (m.set i y) (l.set i x)
 | [],[],_,_,_,_,_=>trivial
 | _::_,_::_,0,_,_,h,k=>⟨k,h.2⟩
 | _::_,_::_,i+1,_,_,h,k=>⟨h.1,Rel.setR (i:=i) h.2 k⟩
theorem Rel.get2 {α β:Type} {R:β→α→Prop}:∀ {m:List β} {l:List α} {i:Nat} {y:β} {x:α},Rel R m l→m[i]?=some y→l[i]?=some x→R y x
 | [],[],_,_,_,_,k,_=>by simp at k
 | _::_,_::_,0,_,_,h,k1,k2=>by simp at k1 k2;subst k1;subst k2;exact h.1
 | _::_,_::_,i+1,_,_,h,k1,k2=>Rel.get2 (i:=i) h.2 (by simpa using k1) (by simpa using k2)
theorem by1:∀ {es:List (RC G.t.sz)} {ls:List G.t.den} {j:Nat},Rel (λe x=>G.cell e = .slice none 0 0∧G.get x=[]) es ls→Inv w S O→Inv w S (inn G none j es ls++O)
 | [],[],_,_,hI=>hI
 | [],_::_,_,hr,_=>hr.elim
 | _::_,[],_,hr,_=>hr.elim
 | e::es,x::ls,j,hr,hI=>by
  have h1:=by1 (j:=j+1) hr.2 hI
  show Inv w S (@Row G.u.den G.u.enc G.Ti (G.cell e) (G.get x)::(inn G none (j+1) es ls++O))
  rw[hr.1.1,hr.1.2]
  exact @Inv.rowNil G.u.den G.u.enc _ _ _ _ h1
theorem Inv.gridFresh {es:List (RC G.t.sz)} (h1:Rel (ElR S G) es ls) (h2:Rel (λe x=>G.cell e = .slice none 0 0∧G.get x=[]) es ls) (hI:Inv w S (Row G.T v es::O)):Inv w S (kr_ hv v G ls none::O) :=
 Inv.gridShutA h1 (λ_ _ _ e=>by cases e) ((by1 (j:=0) h2 hI).perm c9_)
theorem aj8 {e:RC G.t.sz} (hlt:lc_ G.t G.q<e.cs.length):e.cs[lc_ G.t G.q]?=some (G.cell e):=by
 unfold GD.cell
 rw[m0_,a7_ hlt]
 rfl
theorem ce0 {α:Type} {l:List α} {i:Int} {x:α} (h:at? l i=some x):0≤i∧l[i.toNat]?=some x:=by
 unfold at? at h
 split at h
 ·rename_i h0;exact⟨h0,h⟩
 ·cases h
theorem wc_ {α:Type} {l:List α} {i:Nat} {x:α} (h:l[i]?=some x):l.set i x=l:=by
 apply f1_
 intro k
 rw[g4_]
 split
 ·rename_i ek;subst ek
  rw[if_pos (a4_.1 h).1,h]
 ·rfl
theorem bg6 {a b:Nat} (h:a≠b):Nat.beq a b=false:=by
 cases hb:Nat.beq a b with
 | false=>rfl
 | true=>exact absurd (a3_ hb) h
theorem wj_ (h:Inv w S O):Inv w S (HP.exact Hp.emp::O):=by
 refine⟨h.os,h.out,Hp.emp,rfl,λb=>.inl rfl,?_⟩
 have:Hp.un Hp.emp S.m=S.m:=by funext b;simp[Hp.un,Hp.emp]
 rw[this]
 exact h.own
theorem Inv.gridTake (hI:Inv w S (kr_ hv v G ls none::O)) {i:Int} {fr:Nat} {x:G.t.den} (hx0:at? ls i=some x):∃ u:Value,u.oneCell'=true∧PtT w S (ay_ (cr_ v i G.t.sz) (lc_ G.t G.q)) (⟨u⟩:Raw)∧(∃ a cap,u = .slice a (G.get x).length cap) ∧
  ∀ hv':Nat→Value,hv' fr=u→Inv w S (@Row G.u.den G.u.enc G.Ti u (G.get x)::kr_ hv' v G ls (some (i,fr,x))::O):=by
 obtain⟨es,h1,_,h3⟩:=Inv.gridOpenA hI
 obtain⟨hi0,hx⟩:=ce0 hx0
 obtain⟨e,he,hR⟩:=Rel.get h1 hx
 have hlt:=hR.lt
 have hc:=aj8 hlt
 have hp:=Inv.rowElem (i:=i) (x:=e) h3 (by unfold at?; rw[if_pos hi0];exact he)
 obtain⟨a,cs,ep,hr,hcs⟩:=hp
 have hr:cs=e.cs:=hr
 subst hr
 have ep:cr_ v i G.t.sz = .pointer (some a):=ep
 obtain⟨F,p1,p2⟩:=bd5 (h:=none) (j:=0) he hx
 have q:=p2 (some (i,fr,x)) e x (λk hk=>by
  show Nat.beq k i.toNat=false
  rw[b0_] at hk
  exact bg6 hk)
 rw[wc_ he,wc_ hx,b0_] at q
 rw[b0_] at p1
 have hb:hl (G:=G) (some (i,fr,x)) i.toNat=true:=g0_ _
 rw[hb] at q
 have a1:Inv w S (@Row G.u.den G.u.enc G.Ti (G.cell e) (G.get x)::(Row G.T v es::(F++O))):=h3.perm (((List.Perm.cons _ (p1.append_right O))).trans (List.Perm.swap _ _ _))
 refine⟨G.cell e,e.one _ (b2_ hc),?_,?_,λhv' ehv => ?_⟩
 ·rw[ep]
  refine⟨a.add (lc_ G.t G.q),[G.cell e],rfl,⟨rfl,e.one _ (b2_ hc)⟩,λj u hu => ?_⟩
  cases j with
  | zero =>
   simp at hu
   subst hu
   have:=hcs _ _ hc
   exact this
  | succ j=>simp at hu
 ·obtain⟨b,cap,e1,_⟩:=@Inv.rowForm G.u.den G.u.enc _ _ _ _ _ _ a1
  exact⟨b,cap,e1⟩
 ·have a2:=wj_ a1
  have a3:Inv w S (Row G.T v es::(inn G (some (i,fr,x)) 0 es ls++(@Row G.u.den G.u.enc G.Ti (G.cell e) (G.get x)::O))):=by
   refine a2.perm ?_
   refine List.Perm.trans ?_ (List.Perm.cons _ (q.symm.append_right _))
   refine (List.Perm.cons _ ((List.Perm.swap _ _ _))).trans ?_
   refine (List.Perm.swap _ _ _).trans (List.Perm.cons _ ?_)
   exact List.Perm.cons _ List.perm_middle.symm
  refine (Inv.gridShutA (hv:=hv') h1 (λj o y e1=>by cases e1;exact⟨hx0,e,he,ehv.symm⟩) a3).perm (List.Perm.swap _ _ _)
def RC.put {k:Nat} (e:RC k) (i:Nat) (u:Value) (hu:u.oneCell'=true):RC k:=⟨e.cs.set i u,by rw[f6_,e.len],λv hv=>by
 rcases o8_ hv with h | h
 ·exact e.one v h
 ·rw[h];exact hu⟩
theorem ElR.put {e:RC G.t.sz} {x x':G.t.den} {l:List G.u.den} {u:Value} {hu:u.oneCell'=true} (h:ElR S G e x) (hs:ux_ G.u G.t G.q x l=some x'):ElR S G (e.put (lc_ G.t G.q) u hu) x'∧G.cell (e.put (lc_ G.t G.q) u hu)=u∧G.get x'=l:=by
 obtain⟨x2,e1,e2,e3⟩:=az9 (u:=G.u) l G.t G.q x _ h.get
 rw[hs] at e1
 cases e1
 have hg:G.get x'=l:=by unfold GD.get;rw[e2];rfl
 refine⟨⟨λT w l2 hle hw => ?_,by show _<(e.cs.set _ _).length;rw[f6_];exact h.lt,by rw[hg];exact e2⟩,?_,hg⟩
 ·obtain⟨x3,g1,g2⟩:=h.ok T w l2 hle hw
  refine⟨x3,by rw[e3];exact g1,?_⟩
  show G.t.enc.rep T ((e.cs.set (lc_ G.t G.q) u).set (lc_ G.t G.q) w) x3
  rw[List.set_set]
  exact g2
 ·have:(e.cs.set (lc_ G.t G.q) u)[lc_ G.t G.q]?=some u:=e9_ h.lt
  show (e.cs.set (lc_ G.t G.q) u).getD (lc_ G.t G.q) undef=u
  rw[m0_,this]
  rfl
theorem ElR.same {e:RC G.t.sz} {x x':G.t.den} {l:List G.u.den} (h:ElR S G e x) (hs:ux_ G.u G.t G.q x l=some x'):ElR S G e x'∧G.get x'=l:=by
 obtain⟨x2,e1,e2,e3⟩:=az9 (u:=G.u) l G.t G.q x _ h.get
 rw[hs] at e1
 cases e1
 have hg:G.get x'=l:=by unfold GD.get;rw[e2];rfl
 refine⟨⟨λT w l2 hle hw => ?_,h.lt,by rw[hg];exact e2⟩,hg⟩
 obtain⟨x3,g1,g2⟩:=h.ok T w l2 hle hw
 exact⟨x3,by rw[e3];exact g1,g2⟩
theorem Inv.gridBack {i:Int} {o:Nat} {l:List G.u.den} {x x':G.t.den} (hI:Inv w S (@Row G.u.den G.u.enc G.Ti (hv o) l::kr_ hv v G ls (some (i,o,x))::O)) (hs:ux_ G.u G.t G.q x l=some x'):∀ hv',Inv w S (kr_ hv' v G (ls.set i.toNat x') none::O):=by
 intro hv'
 obtain⟨es,h1,h2,h3⟩:=Inv.gridOpenA (hI.perm (List.Perm.swap _ _ _))
 obtain⟨hx0,e,he,ehv⟩:=h2 i o x rfl
 obtain⟨_,hx⟩:=ce0 hx0
 obtain⟨hR',hg⟩:=(Rel.get2 h1 he hx).same hs
 obtain⟨F,p1,p2⟩:=bd5 (h:=some (i,o,x)) (j:=0) he hx
 have q:=p2 none e x' (λk hk=>by
  show false=Nat.beq k i.toNat
  rw[b0_] at hk
  exact (bg6 hk).symm)
 rw[b0_] at p1 q
 rw[wc_ he] at q
 have hb:hl (G:=G) (some (i,o,x)) i.toNat=true:=g0_ _
 rw[hb] at p1
 have a1:Inv w S (Row G.T v es::(F++(@Row G.u.den G.u.enc G.Ti (hv o) l::O))):=by
  have b1:Inv w S (HP.exact Hp.emp::(Row G.T v es::(F++(@Row G.u.den G.u.enc G.Ti (hv o) l::O)))):=h3.perm ((List.Perm.cons _ (p1.append_right _)).trans (List.Perm.swap _ _ _))
  exact b1.drop
 have rel':Rel (ElR S G) es (ls.set i.toNat x'):=by
  have:=Rel.setR (i:=i.toNat) h1 hR'
  rwa [wc_ he] at this
 refine Inv.gridShutA rel' (λ_ _ _ e=>by cases e) (a1.perm (List.Perm.cons _ ?_))
 refine List.Perm.trans ?_ (q.symm.append_right O)
 refine List.perm_middle.trans ?_
 show (@Row G.u.den G.u.enc G.Ti (hv o) l::(F++O)).Perm (@Row G.u.den G.u.enc G.Ti (G.cell e) (G.get x')::(F++O))
 rw[ehv,hg]
theorem Inv.gridPut {es:List (RC G.t.sz)} {i:Nat} {e:RC G.t.sz} {u:Value} {hu:u.oneCell'=true} {l:List G.u.den} {x x':G.t.den} (h1:Rel (ElR S G) es ls) (he:es[i]?=some e) (hx:ls[i]?=some x) (hh:∀ k,k≠i→hl h k=false) (hs:ux_ G.u G.t G.q x l=some x')
  (hI:Inv w S (Row G.T v (es.set i (e.put (lc_ G.t G.q) u hu))::(inn G h 0 es ls++(@Row G.u.den G.u.enc G.Ti u l::O)))):Inv w S (kr_ hv v G (ls.set i x') none::O):=by
 obtain⟨hR',hcell,hg⟩:=(Rel.get2 h1 he hx).put (hu:=hu) hs
 obtain⟨F,p1,p2⟩:=bd5 (h:=h) (j:=0) he hx
 have q:=p2 none (e.put (lc_ G.t G.q) u hu) x' (λk hk=>by
  rw[b0_] at hk
  exact (hh k hk).symm)
 rw[b0_] at p1 q
 have a1:=(hI.perm ((List.Perm.cons _ (p1.append_right _)).trans (List.Perm.swap _ _ _))).drop
 refine Inv.gridShutA (Rel.setR h1 hR') (λ_ _ _ e=>by cases e) (a1.perm (List.Perm.cons _ ?_))
 refine List.Perm.trans ?_ (q.symm.append_right O)
 refine List.perm_middle.trans ?_
 show (@Row G.u.den G.u.enc G.Ti u l::(F++O)).Perm (@Row G.u.den G.u.enc G.Ti (G.cell (e.put (lc_ G.t G.q) u hu)) (G.get x')::(F++O))
 rw[hcell,hg]
theorem aa9:∀ {es:List (RC G.t.sz)} {ls:List G.t.den} {j:Nat} {S:PH},es.length=ls.length→Inv w S (inn G none j es ls++O)→∃ U,S.Le U∧Inv w U O∧Rel (λe x=>RVt (.list G.u) U (G.cell e) (G.get x)) es ls
 | [],[],_,S,_,hI=>⟨S,PH.Le.refl S,hI,trivial⟩
 | [],_::_,_,_,h,_=>by simp at h
 | _::_,[],_,_,h,_=>by simp at h
 | e::es,x::ls,j,S,h,hI=>by
  obtain⟨U,g1,g2,g3⟩:=@Inv.rowFreeze G.u.den G.u.enc _ _ _ _ _ _ (show Inv w S (@Row G.u.den G.u.enc G.Ti (G.cell e) (G.get x)::(inn G none (j+1) es ls++O)) from hI)
  obtain⟨V,k1,k2,k3⟩:=aa9 (by simpa using h) g2
  exact⟨V,g1.trans k1,k2,RV.mono g3 k1,k3⟩
theorem Rel.and {α β:Type} {R R':β→α→Prop}:∀ {m:List β} {l:List α},Rel R m l→Rel R' m l→Rel (λy x=>R y x∧R' y x) m l
 | [],[],_,_=>trivial
 | _::_,_::_,h,k=>⟨⟨h.1,k.1⟩,Rel.and h.2 k.2⟩
theorem Inv.gridDone (hI:Inv w S (kr_ hv v G ls none::O)):∃ U,S.Le U∧Inv w U O∧RVt (.list G.t) U v ls:=by
 obtain⟨es,h1,_,h3⟩:=Inv.gridOpenA hI
 have h4:Inv w S (inn G none 0 es ls++(Row G.T v es::O)):=h3.perm List.perm_middle.symm
 obtain⟨U,g1,g2,g3⟩:=aa9 (Rel.length h1) h4
 have hrel:Rel (λe x=>ElR S G e x∧RVt (.list G.u) U (G.cell e) (G.get x)) es ls:=Rel.and h1 g3
 have h5:Inv w U (@Row G.t.den G.t.enc G.T v ls::O):=@Inv.rowTo G.t.den (RC G.t.sz) G.t.enc _ U _ w O G.T v es ls (by rw[cj_];rfl) (λcs e x hcs hR=>by
  have hcs:cs=e.cs:=hcs
  subst hcs
  obtain⟨x',k1,k2⟩:=hR.1.ok U _ _ g1 hR.2
  rw[bp1 _ _ _ _ hR.1.get] at k1
  cases k1
  have:e.cs.set (lc_ G.t G.q) (G.cell e)=e.cs:=by
   apply f1_
   intro k
   rw[g4_]
   split
   ·rename_i ek;subst ek
    rw[if_pos hR.1.lt,aj8 hR.1.lt]
   ·rfl
  rwa [this] at k2) hrel g2
 obtain⟨V,k1,k2,k3⟩:=@Inv.rowFreeze G.t.den G.t.enc _ _ _ _ _ _ h5
 exact⟨V,g1.trans k1,k2,k3⟩
theorem Inv.gridForm (hI:Inv w S (kr_ hv v G ls h::O)):∃ a cap,v = .slice a ls.length cap∧(a=none→ls=[]):=by
 obtain⟨es,h1,_,h3⟩:=Inv.gridOpenA hI
 obtain⟨a,cap,e,hn,_⟩:=Inv.rowSrc h3
 refine⟨a,cap,by rw[e,Rel.length h1],λe0 => ?_⟩
 have:=Rel.length h1
 rw[hn e0] at this
 exact h4_ this.symm
end
end
end Go.Proofs.YtgeehfnbhbibeaaGreatDoor.Rex
namespace Go.Proofs.YtgeehfnbhbibeaaGreatDoor.Pad
open Go
section
variable {ro:Option Nat}
section
variable {w:World} {S:PH} {O:List HP} {Φ:PH→List HP→Prop}
end
def CallV (P:Program) (v:Value) (args:List Value) (w:World) (R:Ending→World→Prop):Prop :=
 (∃ k cap,v = .func (.func k) #[] cap∧eh_ P k∧Calls P k (args.toArray++cap) w R) ∨
 ∃ l fn tmps assign body,v = .func (.yield l) #[] #[]∧(Instr.yield l args.toArray).run P w = .ok (.round l fn tmps assign body) w∧RoundIn (FW none) 0 P l fn tmps assign body w R
theorem CallV.mono {P:Program} {v:Value} {args:List Value} {w:World} {R R':Ending→World→Prop} (h:CallV P v args w R) (hr:∀ e w',R e w'→R' e w'):CallV P v args w R':=by
 rcases h with ⟨k,cap,h1,h2,h3⟩ | ⟨l,fn,tmps,assign,body,h1,h2,h3⟩
 ·exact .inl ⟨k,cap,h1,h2,h3.mono hr⟩
 ·exact .inr ⟨l,fn,tmps,assign,body,h1,h2,h3.mono hr⟩
section
variable {P:Program} {n:Nat} {f:Fr} {w:World} {K:Fr→World→Prop} {d:Nat} {ty:TypeId} {pos:String} {af:Array Edge} {gd:Option (Nat×Bool)} {x:Operand} {v:Value} {S:PH}
end
structure ArgM (α:Type) where
 rel:PH→List Value→α→Prop
 own:List Value→α→List HP
 mono:∀ {S T:PH} {us:List Value} {x:α},S.Le T→rel S us x→rel T us x
def ends {α σ τ:Type} (M:ArgM α) (us:List Value) (x:α) (R:σ→HP) (Rx:τ→HP) (o:σ⊕τ) (r:Value) (O':List HP):Prop :=
 r = .bool o.isLeft∧O'=M.own us x++[Sum.elim R Rx o]
def Yields {α σ τ:Type} (M:ArgM α) (P:Program) (S:PH) (v:Value) (R:σ→HP) (Rx:τ→HP) (g:α→σ→Option (σ⊕τ)):Prop :=
 ∀ T w Fr us x s o,S.Le T→M.rel T us x→Inv w T (M.own us x++(R s::Fr))→g x s=some o→CallV P v us w (Done T Fr λ_ r O'=>ends M us x R Rx o r O')
theorem Yields.mono {α σ τ:Type} {M:ArgM α} {P:Program} {S T:PH} {v:Value} {R:σ→HP} {Rx:τ→HP} {g:α→σ→Option (σ⊕τ)} (h:Yields M P S v R Rx g) (hle:S.Le T):Yields M P T v R Rx g :=
 λU w Fr us x s o hu=>h U w Fr us x s o (hle.trans hu)
def ItV {α:Type} (M:ArgM α) (P:Program) (S:PH) (gv:Value) (F:∀ {σ τ:Type},(α→σ→Option (σ⊕τ))→σ→Option (σ⊕τ)):Prop :=
 ∃ (k:FuncId) (fst cap:List Value),gv = .func (.func k) fst.toArray cap.toArray∧eh_ P k∧∀ {σ τ:Type} (R:σ→HP) (Rx:τ→HP) (g:α→σ→Option (σ⊕τ)) (T:PH) (w:World) (Fr:List HP) (v:Value) (s:σ) (o:σ⊕τ),
  S.Le T→v.oneCell'=true→Yields M P T v R Rx g→Inv w T (R s::Fr)→F g s=some o→Calls P k (fst++v::cap).toArray w (Done T Fr λ_ _ O'=>O'=[Sum.elim R Rx o])
theorem ItV.mono {α:Type} {M:ArgM α} {P:Program} {S T:PH} {gv:Value} {F:∀ {σ τ:Type},(α→σ→Option (σ⊕τ))→σ→Option (σ⊕τ)} (h:ItV M P S gv F) (hle:S.Le T):ItV M P T gv F:=by
 obtain⟨k,fst,cap,h1,h2,h3⟩:=h
 exact⟨k,fst,cap,h1,h2,λR Rx g U w Fr v s o hu=>h3 R Rx g U w Fr v s o (hle.trans hu)⟩
def ak6 (l:Nat) (r:Loop):HP:=HP.exact (Hp.one l (.loop r))
def Dfr (D:Nat):HP:=HP.exact (Hp.one D (.deferred (some [])))
section
variable {P:Program} {w:World} {S:PH} {O:List HP} {g:Nat} {o o':Obj}
theorem Inv.obj (h:Inv w S (HP.exact (Hp.one g o)::O)):w.heap[g]?=some o:=Inv.front h g o (by simp[Hp.one])
theorem Inv.objLt (h:Inv w S (HP.exact (Hp.one g o)::O)):g<w.heap.size:=(i2_.1 h.obj).1
theorem Inv.setObj (h:Inv w S (HP.exact (Hp.one g o)::O)) (o':Obj):Inv { w with heap:=w.heap.setIfInBounds g o' } S (HP.exact (Hp.one g o')::O):=by
 refine Inv.turn (w:=w) h rfl rfl (λb => ?_) (λb hn => ?_) (λb x e => ?_)
 ·by_cases e:b=g<;>simp[Hp.one,e]
 ·have hne:b≠g:=by rintro rfl;simp[Hp.one] at hn
  exact h2_ (n5_ hne)
 ·unfold Hp.one at e
  by_cases hbg:b=g
  ·subst hbg
   simp at e
   subst e
   have:=h.objLt
   simp[this]
  ·simp[hbg] at e
theorem we_ {l:Nat} {r:Loop} (h:w.heap[l]?=some (.loop r)):(Instr.getLoop l).run P w = .ok r w:=by
 simp[Instr.getLoop,Sem.run_bind,getObj,Sem.run,h,Result.andThen]
theorem ae3 {l:Nat} {r:Loop} (o:Obj) (h:w.heap[l]?=some (.loop r)):(setObj l o).run P w = .ok () { w with heap:=w.heap.setIfInBounds l o }:=by
 simp[Go.setObj,Sem.run,h]
theorem bq0 {l:Nat} {r:Loop} (h:w.heap[l]?=some (.loop r)) (hr:r.state = .ready):(Instr.beginRound l).run P w = .ok () { w with heap:=w.heap.setIfInBounds l (.loop { r with state:=.busy }) }:=by
 simp[Instr.beginRound,Sem.run_bind,we_ h,ae3 _ h,Result.andThen,hr]
theorem run_end {l:Nat} {r:Loop} (j:Option Code) (h:w.heap[l]?=some (.loop r)) :
  (Instr.endRound l j).run P w = .ok (.bool j.isNone) { w with heap:=w.heap.setIfInBounds l (.loop { r with state:=if j.isNone then .ready else .done,pending:=j }) }:=by
 simp[Instr.endRound,Sem.run_bind,we_ h,ae3 _ h,Result.andThen]
theorem cj0 {l:Nat} {r:Loop} (h:w.heap[l]?=some (.loop r)) (hb:r.state≠.busy):(Instr.endLoop l).run P w = .ok r.pending { w with heap:=w.heap.setIfInBounds l (.loop { r with state:=.exhausted }) }:=by
 simp[Instr.endLoop,Sem.run_bind,we_ h,ae3 _ h,Result.andThen,hb]
theorem au0 {l:Nat} {r:Loop} {args:Array Value} (h:w.heap[l]?=some (.loop r)) (hs:args.size=r.params.size) :
  (Instr.yield l args).run P w = .ok (.round l r.fn ((r.params.zip args).foldl (λts (t,a)=>ts.setIfInBounds t a) r.tmps) r.assign r.body) w:=by
 simp[Instr.yield,Sem.run_bind,we_ h,Result.andThen,hs]
end
def updL (f:Nat→Value):List Nat→List Value→Nat→Value
 | p::ps,u::us=>updL (upv f p u) ps us
 | _,_=>f
theorem ab6 {n:Nat} {f:Fr}:∀ (ps:List Nat) (us:List Value) (ts:Array Value) (g:Nat→Value),(ps.all λp=>Nat.blt p n)=true→ps.length=us.length→ts.size=n→(∀ i,ts.getD i undef=g i) →
  Fits n { tmps:=(ps.zip us).foldl (λts (t,a)=>ts.setIfInBounds t a) ts,defers:=[] } ⟨updL g ps us,[]⟩
 | [],[],ts,g,_,_,hsz,hg=>⟨hsz,rfl,hg⟩
 | p::ps,u::us,ts,g,hp,hl,hsz,hg=>by
  simp only[List.all_cons,a1_] at hp
  have hfit:Fits n { tmps:=ts,defers:=[] } ⟨g,[]⟩:=⟨hsz,rfl,hg⟩
  have h1:=hfit.put hp.1 u
  exact ab6 (f:=f) ps us (ts.setIfInBounds p u) (upv g p u) hp.2 (by simpa using hl) h1.size h1.at_
 | [],_::_,_,_,_,hl,_,_=>by simp at hl
 | _::_,[],_,_,_,hl,_,_=>by simp at hl
section
variable {P:Program} {n:Nat} {N R:Fr→World→Prop} {X:Nat→Fr→World→Prop} {f:Fr} {w:World} {S:PH} {O:List HP} {α σ τ:Type} {M:ArgM α}
def rndEnd (P:Program) (l:Nat) (R:Ending→World→Prop):Exit→Act→World→Prop
 | .normal,_,w=>∃ v w',(Instr.endRound l none).run P w = .ok v w'∧R (.returned v) w'
 | .ret,_,w=>∃ v w',(Instr.endRound l (some .ret)).run P w = .ok v w'∧R (.returned v) w'
 | .exit i,_,w=>∃ v w',(Instr.endRound l (some (.exit i))).run P w = .ok v w'∧R (.returned v) w'
 | _,_,_=>False
theorem cj3 {l:Nat} {fn:FuncId} {tmps:Array Value} {assign body:Code} {R:Ending→World→Prop}
  (h:assign.wpIn (FW (some l)) 0 P (λe a₁ w₁=>e = .normal∧∃ w₂,(Instr.beginRound l).run P w₁ = .ok () w₂∧body.wpIn (FW (some l)) 0 P (rndEnd P l R) a₁ w₂) { tmps:=tmps,defers:=[] } w) :
  RoundIn (FW none) 0 P l fn tmps assign body w R:=by
 refine⟨trivial,λc cs _ => ?_⟩
 have hroom:∀ k,(FW (some l)).room k:=cf7
 let b:Frame:={ (default:Frame) with fn:=fn,kind:=.normal,roundOf:=some l }
 have e0:Frame.round l fn tmps assign body .normal=b.atR { tmps:=tmps,defers:=[] } [.code assign,.beginRound,.code body]:=by simp[Frame.round,Frame.atR,b]
 obtain⟨e,a₁,w₁,⟨rfl,w₂,hb,hbody⟩,harr⟩:=h b [.beginRound,.code body] (c::cs) rfl trivial (hroom _)
 have st:StepsIn (Machine.fenced P (FW none)) P (lone (Frame.round l fn tmps assign body .normal) (c::cs) w) (lone (b.atR a₁ [.code body]) (c::cs) w₂):=by
  rw[e0]
  exact StepsIn.trans harr (.one (fenced_calm (F:=FW (some l)) (fr:=b.atR a₁ [.beginRound,.code body]) (n:=0) trivial (hroom _) rfl) (stepR_beginRound rfl hb))
 obtain⟨e₂,a₂,w₃,hq,harr₂⟩:=hbody b [] (c::cs) rfl trivial (hroom _)
 cases e₂ with
 | normal =>
  obtain⟨v,w₄,hend,hR⟩:=hq
  exact⟨.returned v,w₄,hR,st.trans (StepsIn.trans harr₂ (.one (fenced_calm (F:=FW (some l)) (fr:=b.atR a₂ []) (n:=0) trivial (hroom _) rfl) (stepR_round_end rfl rfl hend)))⟩
 | ret =>
  obtain⟨v,w₄,hend,hR⟩:=hq
  obtain⟨k,hs⟩:=harr₂.2 rfl
  exact⟨.returned v,w₄,hR,st.trans (StepsIn.trans hs (.one (fenced_calm (F:=FW (some l)) (fr:=b.atR a₂ (.code .ret::k)) (n:=0) trivial (hroom _) rfl) (stepR_round_ret rfl rfl hend)))⟩
 | exit i =>
  obtain⟨v,w₄,hend,hR⟩:=hq
  obtain⟨k,hk,hs⟩:=harr₂.2 rfl rfl
  exact⟨.returned v,w₄,hR,st.trans (StepsIn.trans hs (.one (fenced_calm (F:=FW (some l)) (fr:=b.atR a₂ (.code (.exit i)::k)) (n:=0) trivial (hroom _) rfl) (stepR_round_exit rfl rfl hk hend)))⟩
 | goto t=>exact hq.elim
 | panic ch=>exact hq.elim
 | outgrown=>exact hq.elim
def sj_ (fn:FuncId) (tmps:Array Value) (ps:Array Tmp) (assign body:Code) (D:Nat) (st:LoopState) (j:Option Code):Loop:={ state:=st,pending:=j,fn,tmps,params:=ps,assign,body,defers:=D }
theorem cj1 {P:Program} (o:Obj) (w:World):(newObj o).run P w = .ok w.heap.size (w.alloc o):=rfl
def mark (f:Fr) (D:Nat):Fr:=⟨f.g,{ target:=.collected D,args := #[] }::f.ds⟩
abbrev rcall (g:Operand) (l:Nat):Call:={ callee:=.value g,args := #[.const (.func (.yield l) #[] #[])],argTypes := #[] }
theorem bi2 {b:Frame} {a:Act} {k:List Item} {cs:List Frame} {g:Operand} {ps:Array Tmp} {assign body:Code} {l:Nat} {mk:List Deferred} {w₁:World} {d:Deferred} {h:FuncId} {args:Array Value}
  (he:(Instr.enterLoop b.fn a.tmps ps assign body b.roundOf).run P w = .ok (l,mk) w₁) (hres:(resolve a.eval (rcall g l) 0).run P w₁ = .ok d w₁) (hinv:(invoke d.target d.args).run P w₁ = .ok (.enter h args) w₁) :
  step P (lone (b.atR a (.code (.rangeFunc g ps assign body)::k)) cs w) = .next (lone (Frame.enter P h args .normal) (b.atR { a with defers:=mk++a.defers } (.inRangeFunc l::k)::cs) w₁):=by
 refine step_lone_go ?_
 have hev:(Frame.eval { fn:=b.fn,tmps:=a.tmps,todo:=.inRangeFunc l::k,defers:=mk++a.defers,mode:=.run,kind:=b.kind,roundOf:=b.roundOf })=a.eval:=by funext x;cases x<;>rfl
 simp[stepG,stepG.exec,Frame.atR,Sem.runT_eq,he,GStep.bare_after,stepG.apply,hev,Sem.run_bind,hres,hinv,Result.andThen]
theorem bo4 {b:Frame} {a:Act} {k:List Item} {cs:List Frame} {l:Nat} {j:Option Code} {w':World} (h:(Instr.endLoop l).run P w = .ok j w') :
  step P (lone (b.atR a (.endRangeFunc l::k)) cs w) = .next (lone (b.atR a ((j.map Item.code).toList++k)) cs w') :=
 step_lone_go (by simp[stepG,stepG.exec,Frame.atR,Sem.runT_eq,h,GStep.bare_after])
def Jumps (N R:Fr→World→Prop) (X:Nat→Fr→World→Prop) (f:Fr) (w:World):Option Code→Prop
 | none=>N f w
 | some .ret=>R f w
 | some (.exit i)=>X i f w
 | _=>False
end
def py_ (Ds:List Nat):HP:=as3 (Ds.map Dfr)
section
variable {w:World} {S:PH} {O:List HP}
theorem Inv.noD (h:Inv w S O):Inv w S (py_ []::O):=Inv.allShut (L:=[]) h
theorem Inv.consD {D:Nat} {Ds:List Nat} (h:Inv w S (Dfr D::py_ Ds::O)):Inv w S (py_ (D::Ds)::O):=by
 have h1:Inv w S (py_ Ds::Dfr D::O):=h.swap
 have h2:Inv w S (Ds.map Dfr++(Dfr D::O)):=h1.allOpen
 exact Inv.allShut (h2.perm c9_)
theorem ret_m {P:Program} {fn:Func} {n:Nat} {R:Ending→World→Prop} {f:Fr}:∀ {Ds:List Nat} {w:World},f.ds=cm6 Ds→Inv w S (py_ Ds::O)→(∀ w',Inv w' S O→∃ v,cr3 P fn n f w' v∧R (.returned v) w')→RetM P fn n R f w:=by
 intro Ds w hds hI k
 refine⟨Ds,hds,?_⟩
 clear hds
 induction Ds generalizing w with
 | nil=>exact k w (Inv.allOpen (L:=[]) hI)
 | cons D Ds ih =>
  have h1:Inv w S (Dfr D::(Ds.map Dfr++O)):=hI.allOpen
  refine⟨h1.obj,ih ?_⟩
  exact Inv.allShut (h1.setObj (.deferred none)).drop
end
section
variable {w:World} {S:PH} {O:List HP} {A B C:HP}
theorem Inv.rot2 (h:Inv w S (A::B::C::O)):Inv w S (B::C::A::O):=h.perm ((List.Perm.swap _ _ _).trans (List.Perm.cons _ (List.Perm.swap _ _ _)))
theorem mark_ds {f:Fr} {D:Nat} {Ds:List Nat} (h:f.ds=cm6 Ds):(mark f D).ds=cm6 (D::Ds):=congrArg _ h
end
def sm {σ τ ρ:Type} (o:σ⊕τ) (a:σ→Option ρ) (b:τ→Option ρ):Option ρ:=match o with
 | .inl s=>a s
 | .inr q=>b q
theorem rv_raw {S:PH} {v:Value} {x:Raw} (h:RV S v x):v=x.v:=by
 obtain⟨cs,⟨rfl,_⟩,rfl⟩:=h;rfl
structure ORef (α:Type) where
 o:Option α
instance {α:Type} [Enc α]:Enc (ORef α) where
 agg:=false
 sz:=1
 rep S cs x:=match x.o with
  | none=>cs=[.pointer none]
  | some y=>∃ a,cs=[.pointer (some a)]∧PtS S (.pointer (some a)) y
 len {S cs x} h:=by
  cases hx:x.o with
  | none=>rw[hx] at h;rw[h];rfl
  | some y=>rw[hx] at h;obtain⟨a,e,_⟩:=h;rw[e];rfl
 one _:=rfl
 cell1 {S cs x} h:=by
  cases hx:x.o with
  | none=>rw[hx] at h;intro v hv;rw[h] at hv;simp at hv;subst hv;rfl
  | some y=>rw[hx] at h;obtain⟨a,e,_⟩:=h;intro v hv;rw[e] at hv;simp at hv;subst hv;rfl
 mono {S T cs x} hle h:=by
  cases hx:x.o with
  | none=>rw[hx] at h;exact h
  | some y=>rw[hx] at h;obtain⟨a,e,p⟩:=h;exact⟨a,e,p.mono hle⟩
def FnV2 (P:Program) (S:PH) (v:Value) (g:Int→Int→Option Bool):Prop :=
 ∃ (k:FuncId) (cap:List Value),v = .func (.func k) #[] cap.toArray∧eh_ P k∧∀ T w Fr a b r,S.Le T→Inv w T Fr→g a b=some r→Calls P k (.int .i64 a::.int .i64 b::cap).toArray w (DoneV T Fr (.bool r))
theorem FnV2.mono {P:Program} {S T:PH} {v:Value} {g:Int→Int→Option Bool} (h:FnV2 P S v g) (hle:S.Le T):FnV2 P T v g:=by
 obtain⟨k,cap,h1,h2,h3⟩:=h
 exact⟨k,cap,h1,h2,λU w Fr a b r hu=>h3 U w Fr a b r (hle.trans hu)⟩
theorem FnV2.one {P:Program} {S:PH} {v:Value} {g:Int→Int→Option Bool} (h:FnV2 P S v g):v.oneCell'=true:=by
 obtain⟨k,cap,rfl,_⟩:=h;rfl
theorem FnV.one {α:Type} [Enc α] {P:Program} {S:PH} {v:Value} {g:α→Option Bool} (h:FnV P S v g):v.oneCell'=true:=by
 obtain⟨k,cap,rfl,_⟩:=h;rfl
section
variable {α:Type} [Enc α] {w:World} {S:PH} {O:List HP} {T:TypeId} {g:Nat} {l:List α}
variable {P:Program} {n:Nat} {f:Fr} {K:Fr→World→Prop} {d:Nat} {ty:TypeId} {pos:String} {af:Array Edge} {gd:Option (Nat×Bool)} {x y:Operand} {u:Value} {E A:TypeId} {k:Nat}
end
section
variable {α:Type} [Enc α] {w:World} {S:PH} {O:List HP} {To Ti:TypeId} {v:Value} {raws:List Raw} {ls:List (List α)}
def bd8 (Ti:TypeId) (raws:List Raw) (ls:List (List α)) (i:Nat):HP:=as3 ((jd_ Ti raws ls).eraseIdx i)
theorem rc_:∀ (raws:List Raw) (ls:List (List α)) (i:Nat) (r:Raw) (l:List α),raws[i]?=some r→ls[i]?=some l→(jd_ Ti raws ls).Perm (Row Ti r.v l::(jd_ Ti raws ls).eraseIdx i)
 | [],_,_,_,_,h,_=>by simp at h
 | _::_,[],_,_,_,_,h=>by simp at h
 | a::raws,b::ls,0,r,l,h,k=>by
  simp at h k
  subst h;subst k
  exact .refl _
 | a::raws,b::ls,i+1,r,l,h,k=>by
  have:=rc_ raws ls i r l (by simpa using h) (by simpa using k)
  exact (List.Perm.cons _ this).trans (List.Perm.swap _ _ _)
theorem Inv.gridTake {i:Int} {r:Raw} {l:List α} (h:Inv w S (Grid To Ti v raws ls::O)) (hr:at? raws i=some r) (hl:at? ls i=some l):Inv w S (Row Ti r.v l::Row To v raws::bd8 Ti raws ls i.toNat::O):=by
 have h1:Inv w S (Row To v raws::(jd_ Ti raws ls++O)):=h.allOpen
 have hp:=rc_ (Ti:=Ti) raws ls i.toNat r l (dg_ hr).2.2 (dg_ hl).2.2
 have h2:Inv w S ((jd_ Ti raws ls).eraseIdx i.toNat++(Row Ti r.v l::Row To v raws::O)):=by
  refine h1.perm ?_
  refine (List.Perm.cons _ (hp.append_right O)).trans ?_
  refine (List.Perm.swap _ _ _).trans ?_
  refine List.Perm.trans ?_ List.perm_middle.symm
  refine List.Perm.cons _ ?_
  exact List.perm_middle.symm
 have h3:Inv w S (bd8 Ti raws ls i.toNat::Row Ti r.v l::Row To v raws::O):=Inv.allShut h2
 exact h3.rot2
end
section
variable {α:Type} {raws:List Raw} {ls:List (List α)}
end
section
variable {P:Program} {fn:Func} {n t t2 g:Nat} {T B:TypeId} {f:Fr} {w:World} {S:PH} {O:List HP} {c v2:Value}
end
theorem grid_new {α:Type} {c:Nat} {l:List (List α)} (h:l=List.replicate c []):(List.replicate c (⟨.slice none 0 0⟩:Raw)).length=l.length:=by simp[h]
section
variable {α:Type} [Enc α] {P:Program} {n:Nat} {f:Fr} {w:World} {K:Fr→World→Prop} {d:Nat} {ty:TypeId} {pos:String} {af:Array Edge} {gd:Option (Nat×Bool)} {x:Operand} {T Tr:TypeId} {S:PH} {O:List HP} {To Ti:TypeId} {v:Value} {raws:List Raw} {ls:List (List α)}
end
abbrev lrg (n:Nat):List Nat:=List.range n
theorem lr {S:PH}:S.Le S:=PH.Le.refl S
abbrev spV (d:Nat) (l:List Nat) (k:Nat) (v:Value):Sp:=⟨some d,l,[k],λvs_ _=>fr0 vs_ 0=v,[],[],[],λ_ h_=>h_⟩
theorem fn {A:Value→Prop} {B C:Value→PH→Prop} {S:PH} {v:Value} (a:A v) (b:B v S) (c:C v S):∃ v S',A v∧S.Le S'∧B v S'∧C v S':=⟨v,S,a,lr,b,c⟩
theorem AllP.u {l:List Nat} {sps:List Sp} {f:Fr} {vals:Nat→Value} {S':PH} (h:AllP l (λj=>∀ t,sps[j]?=some t→(∀ d,t.dst=some d→f d=vals j)∧t.fact (t.deps.map vals) S')) (i:Nat) {a d:Nat} {t:Sp} {x:Value}
  (e:l[i]?=some a) (e2:sps[a]?=some t) (e3:(t.dst,t.fact (t.deps.map vals) S')=(some d,vals a=x)):f d=x:=by
 obtain⟨h1,h2⟩:=h.at_ i e t e2
 rw[(i3_ e3).2] at h2
 exact (h1 d (i3_ e3).1).trans h2
theorem AllP.sl {α:Type} [Enc α] {l:List Nat} {sps:List Sp} {f:Fr} {vals:Nat→Value} {S':PH} (h:AllP l (λj=>∀ t,sps[j]?=some t→(∀ d,t.dst=some d→f d=vals j)∧t.fact (t.deps.map vals) S')) (i:Nat) {a d:Nat} {t:Sp} {x:List α}
  (e:l[i]?=some a) (e2:sps[a]?=some t) (e3:(t.dst,t.fact (t.deps.map vals) S')=(some d,RV S' (vals a) x)):∃ z m k,vals a = .slice z m k∧f d = .slice z m k∧RV S' (.slice z m k) x:=by
 obtain⟨h1,h2⟩:=h.at_ i e t e2
 rw[(i3_ e3).2] at h2
 have h3:=h1 d (i3_ e3).1
 obtain⟨z,m,k,h4⟩:=rv_form h2
 rw[h4] at h2 h3
 exact⟨z,m,k,h4,h3,h2⟩
theorem AllP.rf {l:List Nat} {sps:List Sp} {f:Fr} {vals:Nat→Value} {S':PH} (h:AllP l (λj=>∀ t,sps[j]?=some t→(∀ d,t.dst=some d→f d=vals j)∧t.fact (t.deps.map vals) S')) (i:Nat) {a d:Nat} {t:Sp}
  (e:l[i]?=some a) (e2:sps[a]?=some t) (e3:(t.dst,t.fact (t.deps.map vals) S')=(some d,∃ z m k,vals a = .slice z m k)):∃ z m k,vals a = .slice z m k∧f d = .slice z m k:=by
 obtain⟨h1,h2⟩:=h.at_ i e t e2
 rw[(i3_ e3).2] at h2
 have h3:=h1 d (i3_ e3).1
 obtain⟨z,m,k,h4⟩:=h2
 exact⟨z,m,k,h4,h3.trans h4⟩
section
variable {P:Program} {n:Nat} {ro:Option Nat} {ops:Array Oper} {N:Fr→World→Prop} {rest:List Oper} {f:Fr} {w:World} {K:Fr→World→Prop} {ty:TypeId} {pos:String} {af:Array Edge}
theorem wo_ {dd:Option Nat} {op:Op} (h:OP P n ro ⟨dd,op,ty,pos,af,none⟩ f w (WL P n ro ops N rest)):WL P n ro ops N (⟨dd,op,ty,pos,af,none⟩::rest) f w:=mq_ rfl h
theorem wm_ {d:Nat} {x:Operand} {v:Value} (hd:Nat.blt d n=true) (hv:ev f x=v) (k:WL P n ro ops N rest (upd f d v) w):WL P n ro ops N (⟨some d,.move x,ty,pos,af,none⟩::rest) f w:=mq_ rfl (ns_ hd hv k)
theorem wa_ {d:Nat} {x:Operand} {v:Value} (hd:Nat.blt d n=true) (hv:ev f x=v) (k:WL P n ro ops N rest (upd f d v) w):WL P n ro ops N (⟨some d,.assign x,ty,pos,af,none⟩::rest) f w:=mq_ rfl (pb_ hd hv k)
theorem wk_ {o:Oper} {j d:Nat} {b c:Bool} (hg:(o.guard,(ops[j]?).bind (·.dst),Nat.blt d n)=(some (j,b),some d,true)) (hv:f d = .bool c) (hc:c=b) (h:OP P n ro o f w (WL P n ro ops N rest)):WL P n ro ops N (o::rest) f w:=by
 simp only[Prod.mk.injEq] at hg
 exact ay8 hg.1 hg.2.1 hg.2.2 hv hc h
theorem pl_ {i:Nat} {o:Oper} (ho:(ops[i]?,o.guard)=(some o,none)) (h:OP P n ro o f w K):OPg P n ro ops i f w K:=by
 simp only[Prod.mk.injEq] at ho
 exact xs_ ho.1 ho.2 h
end
end
end Go.Proofs.YtgeehfnbhbibeaaGreatDoor.Pad
namespace Go.Proofs.YtgeehfnbhbibeaaGreatDoor.Rex
open Go Pad
section
inductive SV where
 | dead
 | val (t:Ty) (x:t.den)
 | nils
 | nilp
 | nilm
 | row (o:Nat)
 | ptr (o k:Nat)
 | ptrE (o:Nat) (i:Int) (k sz:Nat) (p:List Nat)
 | map (o:Nat)
 | fn (o:Nat)
 | arr (o:Nat)
inductive BV where
 | dead
 | one (s:SV)
 | val (t:Ty) (x:t.den)
 | agg (l:List SV)
inductive AV where
 | b (x:BV)
 | tup (l:List BV)
inductive CK where
 | keep
 | val (t:Ty)
 | row (t:Ty) (T:TypeId)
 | map (k v:Ty)
inductive Nm where
 | s (d:Nat)
 | c (p:Nm) (k:Nat)
 | y (p:Nm) (d:Nat)
inductive Sp0 where
 | v (d:Nat) (t:Ty)
 | r (d:Nat) (t:Ty) (T:TypeId)
 | a (d:Nat) (t:Ty) (T:TypeId)
 | o (p:Nm) (t:Ty)
 | b (p:Nm) (ks:List CK)
 | m (p:Nm) (k v:Ty)
 | g (p:Nm) (t:Ty)
 | x (p:Nm)
 | y (p:Nm)
inductive An where
 | z
 | p (a b:An)
 | q (ns:List Nm) (a b:An)
 | j0 (σ:List Sp0) (a b:An)
 | js (σ:List Sp0) (a b:An)
 | lp (vs ws os:List Sp0) (b:Nat) (a:An)
 | ls (vs ws os:List Sp0) (b:Nat) (a:An)
 | rf (ds:List Nat) (a b:An)
 | mp (vs ws rs os:List Sp0) (a:An)
 | sp (k m:Nat)
def An.l:An→An
 | .p a _=>a
 | .q _ a _=>a
 | .j0 _ a _=>a
 | .js _ a _=>a
 | .lp _ _ _ _ a=>a
 | .ls _ _ _ _ a=>a
 | .rf _ a _=>a
 | .mp _ _ _ _ a=>a
 | .sp _ _=>.z
 | .z=>.z
def An.r:An→An
 | .p _ b=>b
 | .q _ _ b=>b
 | .j0 _ _ b=>b
 | .js _ _ b=>b
 | .rf _ _ b=>b
 | _=>.z
inductive YS where
 | rdy
 | asg
 | busy
 | ret
 | ex (i:Nat)
def YS.st:YS→LoopState
 | .rdy=>.ready
 | .asg=>.ready
 | .busy=>.busy
 | _=>.done
def YS.pend:YS→Option Code
 | .ret=>some .ret
 | .ex i=>some (.exit i)
 | _=>none
structure Yld where
 n:Nat
 ps:List Nat
 assign:Code
 body:Code
 an:An
 sl:List (Nat×AV)
def slY:List (Nat×AV)→Nat→AV
 | [],_=>.b .dead
 | p::l,d=>cond (Nat.beq d p.1) p.2 (slY l d)
inductive AO where
 | unborn
 | gone
 | row (t:Ty) (T:TypeId) (l:List t.den) (ro:Bool)
 | cells (T:TypeId) (l:List SV) (ro:List Nat)
 | map (k v:Ty) (m:List (k.den×v.den)) (ro:Bool)
 | fn (f:Fn) (first cap:List SV)
 | froz (t:Ty) (x:t.den)
 | grid (G:GD) (ls:List G.t.den) (h:G.Hole) (ro:Bool)
 | yld (Y:Yld) (st:YS) (ro:Bool)
structure A where
 slot:Nat→AV
 objs:List AO
def born:List AO→Nat→Bool
 | [],_=>false
 | .unborn::_,0=>false
 | _::_,0=>true
 | _::l,o+1=>born l o
def SV.lt (n:List AO):SV→Bool
 | .row o | .ptr o _ | .ptrE o _ _ _ _ | .map o | .fn o | .arr o=>born n o
 | _=>true
def fb_ {α:Type} (p:α→Bool):List α→Bool
 | []=>true
 | a::l=>p a&&fb_ p l
theorem bg_ {α:Type} {p:α→Bool}:∀ {l:List α},fb_ p l=true→∀ a ∈ l,p a=true
 | [],_,_,h=>by simp at h
 | b::l,h,a,ha=>by
  simp only[fb_,a1_] at h
  rcases d8_.1 ha with rfl | ha
  ·exact h.1
  ·exact bg_ h.2 a ha
theorem hn_ {α:Type} {p:α→Bool}:∀ {l:List α},(∀ a ∈ l,p a=true)→fb_ p l=true
 | [],_=>rfl
 | b::l,h=>by
  simp only[fb_,a1_]
  exact⟨h b (by simp),hn_ λa ha=>h a (by simp[ha])⟩
def BV.lt (n:List AO):BV→Bool
 | .one s=>s.lt n
 | .agg l=>fb_ (SV.lt n) l
 | _=>true
def AV.lt (n:List AO):AV→Bool
 | .b x=>x.lt n
 | .tup l=>fb_ (BV.lt n) l
def AO.lt (n:List AO):AO→Bool
 | .cells _ l _=>fb_ (SV.lt n) l
 | .fn _ a b=>fb_ (SV.lt n) a&&fb_ (SV.lt n) b
 | .grid _ _ (some p) _=>born n p.2.1
 | .yld Y _ _=>fb_ (λp=>p.2.lt n) Y.sl
 | _=>true
def RS0 (hv:Nat→Value) (S:PH) (v:Value):SV→Prop
 | .dead=>True
 | .val t x=>t.agg=false∧RVt t S v x
 | .nils=>v = .slice none 0 0
 | .nilp=>v = .pointer none
 | .nilm=>v = .map none
 | .row o=>v=hv o
 | .ptr o k=>(∃ a,v = .pointer (some a))∧v=ay_ (hv o) k
 | .ptrE o i k sz _=>(∃ a,v = .pointer (some a))∧v=ay_ (cr_ (hv o) i sz) k
 | .map o=>v=hv o
 | .fn o=>v=hv o
 | .arr o=>(∃ a,v = .pointer (some a))∧v=cr_ (hv o) 0 0
def RS (hv:Nat→Value) (S:PH) (s:SV) (v:Value):Prop:=v.oneCell'=true∧RS0 hv S v s
def Fa {α β:Type} (R:α→β→Prop):List α→List β→Prop
 | [],[]=>True
 | a::l,b::m=>R a b∧Fa R l m
 | _,_=>False
section Fa
variable {α β:Type} {R R':α→β→Prop}
theorem Fa.len:∀ {l:List α} {m:List β},Fa R l m→l.length=m.length
 | [],[],_=>rfl
 | _::_,_::_,h=>by simp[Fa.len h.2]
theorem Fa.imp (h:∀ a b,R a b→R' a b):∀ {l:List α} {m:List β},Fa R l m→Fa R' l m
 | [],[],_=>trivial
 | _::_,_::_,k=>⟨h _ _ k.1,Fa.imp h k.2⟩
theorem Fa.imp':∀ {l:List α} {m:List β},(∀ a ∈ l,∀ b,R a b→R' a b)→Fa R l m→Fa R' l m
 | [],[],_,_=>trivial
 | _::_,_::_,h,k=>⟨h _ (by simp) _ k.1,Fa.imp' (λa ha=>h a (by simp[ha])) k.2⟩
theorem Fa.get:∀ {l:List α} {m:List β} {i:Nat} {a:α},Fa R l m→l[i]?=some a→∃ b,m[i]?=some b∧R a b
 | [],[],_,_,_,h=>by simp at h
 | _::_,b::_,0,a,k,h=>by simp at h;subst h;exact⟨b,rfl,k.1⟩
 | _::_,_::_,i+1,a,k,h=>by
  obtain⟨b,h1,h2⟩:=Fa.get (i:=i) k.2 (by simpa using h)
  exact⟨b,by simpa using h1,h2⟩
theorem Fa.get':∀ {l:List α} {m:List β} {i:Nat} {b:β},Fa R l m→m[i]?=some b→∃ a,l[i]?=some a∧R a b
 | [],[],_,_,_,h=>by simp at h
 | a::_,_::_,0,b,k,h=>by simp at h;subst h;exact⟨a,rfl,k.1⟩
 | _::_,_::_,i+1,b,k,h=>by
  obtain⟨a,h1,h2⟩:=Fa.get' (i:=i) k.2 (by simpa using h)
  exact⟨a,by simpa using h1,h2⟩
theorem Fa.app:∀ {l l':List α} {m m':List β},Fa R l m→Fa R l' m'→Fa R (l++l') (m++m')
 | [],_,[],_,_,k=>k
 | _::_,_,_::_,_,h,k=>⟨h.1,Fa.app h.2 k⟩
theorem Fa.set:∀ {l:List α} {m:List β} {i:Nat} {a:α} {b:β},Fa R l m→R a b→Fa R (l.set i a) (m.set i b)
 | [],[],_,_,_,_,_=>trivial
 | _::_,_::_,0,_,_,h,k=>⟨k,h.2⟩
 | _::_,_::_,i+1,_,_,h,k=>⟨h.1,Fa.set (i:=i) h.2 k⟩
theorem Fa.drop:∀ {l:List α} {m:List β} (i:Nat),Fa R l m→Fa R (l.drop i) (m.drop i)
 | _,_,0,h=>h
 | [],[],_+1,_=>trivial
 | _::_,_::_,i+1,h=>Fa.drop i h.2
theorem Fa.take:∀ {l:List α} {m:List β} (i:Nat),Fa R l m→Fa R (l.take i) (m.take i)
 | [],[],0,_=>trivial
 | _::_,_::_,0,_=>trivial
 | [],[],_+1,_=>trivial
 | _::_,_::_,i+1,h=>⟨h.1,Fa.take i h.2⟩
end Fa
def RB (hv:Nat→Value) (S:PH):BV→Value→Prop
 | .dead,_=>True
 | .one s,v=>RS hv S s v
 | .val t x,v=>t.agg=true∧RVt t S v x
 | .agg l,v=>∃ cs:List Value,v = .agg cs.toArray∧Fa (RS hv S) l cs
def RA (hv:Nat→Value) (S:PH):AV→Value→Prop
 | .b x,v=>RB hv S x v
 | .tup l,v=>∃ vs:List Value,v = .tuple vs.toArray∧Fa (RB hv S) l vs
section mono
variable {hv hv':Nat→Value} {S T:PH}
theorem RS.mono (hle:S.Le T) {s:SV} {v:Value} (h:RS hv S s v):RS hv T s v:=by
 refine⟨h.1,?_⟩
 cases s<;>first | exact h.2 | exact⟨h.2.1,RV.mono h.2.2 hle⟩
theorem RB.mono (hle:S.Le T) {s:BV} {v:Value} (h:RB hv S s v):RB hv T s v:=by
 cases s with
 | dead=>trivial
 | one s=>exact RS.mono hle h
 | val t x=>exact⟨h.1,RV.mono h.2 hle⟩
 | agg l=>obtain⟨cs,e,h⟩:=h;exact⟨cs,e,h.imp λ_ _=>RS.mono hle⟩
theorem RA.mono (hle:S.Le T) {s:AV} {v:Value} (h:RA hv S s v):RA hv T s v:=by
 cases s with
 | b x=>exact RB.mono hle h
 | tup l=>obtain⟨cs,e,h⟩:=h;exact⟨cs,e,h.imp λ_ _=>RB.mono hle⟩
def Ag (n:List AO) (hv hv':Nat→Value):Prop:=∀ i,born n i=true→hv i=hv' i
theorem RS.ag {n:List AO} (ha:Ag n hv hv') {s:SV} {v:Value} (hl:s.lt n=true) (h:RS hv S s v):RS hv' S s v:=by
 refine⟨h.1,?_⟩
 cases s<;>first | exact h.2 | (have:=ha _ hl;have h2:=h.2;simp only[RS0] at h2 ⊢; rw[← this];exact h2)
theorem RB.ag {n:List AO} (ha:Ag n hv hv') {s:BV} {v:Value} (hl:s.lt n=true) (h:RB hv S s v):RB hv' S s v:=by
 cases s with
 | dead=>trivial
 | one s=>exact RS.ag ha hl h
 | val t x=>exact h
 | agg l=>obtain⟨cs,e,h⟩:=h;exact⟨cs,e,h.imp' λa h _ k=>RS.ag ha (bg_ hl a h) k⟩
theorem RA.ag {n:List AO} (ha:Ag n hv hv') {s:AV} {v:Value} (hl:s.lt n=true) (h:RA hv S s v):RA hv' S s v:=by
 cases s with
 | b x=>exact RB.ag ha hl h
 | tup l=>obtain⟨cs,e,h⟩:=h;exact⟨cs,e,h.imp' λa h _ k=>RB.ag ha (bg_ hl a h) k⟩
end mono
def as2 (hv:Nat→Value) (v:Value) (T:TypeId) (l:List SV):HP where
 p S h:=∃ (g:Nat) (cs:List Value),v = .pointer (some ⟨g,0,none⟩)∧Fa (RS hv S) l cs∧h=Hp.one g (.cells cs.toArray T (0,0))
 mono hle:=by
  rintro⟨g,cs,h1,h2,h3⟩
  exact⟨g,cs,h1,h2.imp λ_ _=>RS.mono hle,h3⟩
def bm0 (v:Value) (k w:Ty) (m:List (k.den×w.den)):HP where
 p S h:=∃ g:Nat,v = .map (some g)∧(MapB g m).p S h
 mono hle:=by
  rintro⟨g,h1,h2⟩
  exact⟨g,h1,(MapB g m).mono hle h2⟩
def FnA (hv:Nat→Value) (v:Value) (f:Fn) (a b:List SV):HP where
 p S h:=h=Hp.emp∧∃ xs ys:List Value,v = .func f xs.toArray ys.toArray∧Fa (RS hv S) a xs∧Fa (RS hv S) b ys
 mono hle:=by
  rintro⟨h0,xs,ys,h1,h2,h3⟩
  exact⟨h0,xs,ys,h1,h2.imp λ_ _=>RS.mono hle,h3.imp λ_ _=>RS.mono hle⟩
def FrozA (v:Value) (t:Ty) (x:t.den):HP where
 p S h:=h=Hp.emp∧t.agg=false∧v.oneCell'=true∧RVt t S v x
 mono hle:=by
  rintro⟨h0,h1,h2,h3⟩
  exact⟨h0,h1,h2,RV.mono h3 hle⟩
theorem cs3 {hv:Nat→Value} {S:PH} {f:Nat→Value}:∀ {l:List (Nat×AV)},(∀ p ∈ l,RA hv S p.2 (f p.1))→∀ d,RA hv S (slY l d) (f d)
 | [],_,_=>trivial
 | p::l,h,d=>by
  show RA hv S (cond (Nat.beq d p.1) p.2 (slY l d)) (f d)
  cases hb:Nat.beq d p.1 with
  | true=>rw[a3_ hb];exact h p (by simp)
  | false=>exact cs3 (λq hq=>h q (by simp[hq])) d
theorem al4 {n:List AO}:∀ {l:List (Nat×AV)},fb_ (λp=>p.2.lt n) l=true→∀ d,(slY l d).lt n=true
 | [],_,_=>rfl
 | p::l,h,d=>by
  simp only[fb_,a1_] at h
  show (cond (Nat.beq d p.1) p.2 (slY l d)).lt n=true
  cases Nat.beq d p.1 with
  | true=>exact h.1
  | false=>exact al4 h.2 d
def YldA (hv:Nat→Value) (v:Value) (Y:Yld) (st:YS):HP where
 p S h:=∃ (l D:Nat) (fn:FuncId) (tm:Array Value),v = .func (.yield l) #[] #[]∧h=Hp.one l (.loop (sj_ fn tm Y.ps.toArray Y.assign Y.body D st.st st.pend))∧tm.size=Y.n∧∀ d,RA hv S (slY Y.sl d) (tm.getD d undef)
 mono hle:=by
  rintro⟨l,D,fn,tm,h1,h2,h3,h4⟩
  exact⟨l,D,fn,tm,h1,h2,h3,λd=>RA.mono hle (h4 d)⟩
def OH (hv:Nat→Value) (v:Value):AO→HP
 | .unborn=>HP.exact Hp.emp
 | .gone=>HP.exact Hp.emp
 | .row t T l _=>@Row t.den t.enc T v l
 | .cells T l _=>as2 hv v T l
 | .map k w m _=>bm0 v k w m
 | .fn f a b=>FnA hv v f a b
 | .froz t x=>FrozA v t x
 | .grid G ls h _=>kr_ hv v G ls h
 | .yld Y st _=>YldA hv v Y st
def OHs (hv:Nat→Value):Nat→List AO→List HP
 | _,[]=>[]
 | i,a::l=>OH hv (hv i) a::OHs hv (i+1) l
theorem ab2 {A B:HP} (h:A.p=B.p):A=B:=by
 cases A;cases B;cases h;rfl
theorem OH.ag {hv hv':Nat→Value} {n:List AO} (ha:Ag n hv hv') (hb:Ag n hv' hv) {v:Value} {a:AO} (hl:a.lt n=true):OH hv v a=OH hv' v a:=by
 cases a with
 | unborn=>rfl
 | gone=>rfl
 | row t T l ro=>rfl
 | map k w m ro=>rfl
 | froz t x=>rfl
 | grid G ls h ro =>
  cases h with
  | none=>refine ab2 (funext λS=>funext λk=>propext ⟨?_,?_⟩) <;> (rintro⟨es,h1,h2,h3⟩;exact⟨es,h1,λi o x e=>(by cases e),h3⟩)
  | some p =>
   have hp:born n p.2.1=true:=hl
   refine ab2 (funext λS=>funext λk=>propext ⟨?_,?_⟩)
   ·rintro⟨es,h1,h2,h3⟩
    refine⟨es,h1,λi o x e => ?_,h3⟩
    obtain⟨q0,q,e1,e2⟩:=h2 i o x e
    cases e
    exact⟨q0,q,e1,by rw[e2];exact ha o hp⟩
   ·rintro⟨es,h1,h2,h3⟩
    refine⟨es,h1,λi o x e => ?_,h3⟩
    obtain⟨q0,q,e1,e2⟩:=h2 i o x e
    cases e
    exact⟨q0,q,e1,by rw[e2];exact hb o hp⟩
 | yld Y st ro =>
  refine ab2 (funext λS=>funext λh=>propext ⟨?_,?_⟩)
  ·rintro⟨l,D,fn,tm,h1,h2,h3,h4⟩
   exact⟨l,D,fn,tm,h1,h2,h3,λd=>RA.ag ha (al4 hl d) (h4 d)⟩
  ·rintro⟨l,D,fn,tm,h1,h2,h3,h4⟩
   exact⟨l,D,fn,tm,h1,h2,h3,λd=>RA.ag hb (al4 hl d) (h4 d)⟩
 | cells T l ro =>
  refine ab2 (funext λS=>funext λh=>propext ⟨?_,?_⟩)
  ·rintro⟨g,cs,h1,h2,h3⟩
   exact⟨g,cs,h1,h2.imp' λa h _ k=>RS.ag ha (bg_ hl a h) k,h3⟩
  ·rintro⟨g,cs,h1,h2,h3⟩
   exact⟨g,cs,h1,h2.imp' λa h _ k=>RS.ag hb (bg_ hl a h) k,h3⟩
 | fn f a b =>
  simp only[AO.lt,a1_] at hl
  refine ab2 (funext λS=>funext λh=>propext ⟨?_,?_⟩)
  ·rintro⟨h0,xs,ys,h1,h2,h3⟩
   exact⟨h0,xs,ys,h1,h2.imp' λa h _ k=>RS.ag ha (bg_ hl.1 a h) k,h3.imp' λa h _ k=>RS.ag ha (bg_ hl.2 a h) k⟩
  ·rintro⟨h0,xs,ys,h1,h2,h3⟩
   exact⟨h0,xs,ys,h1,h2.imp' λa h _ k=>RS.ag hb (bg_ hl.1 a h) k,h3.imp' λa h _ k=>RS.ag hb (bg_ hl.2 a h) k⟩
theorem OHs.ag {hv hv':Nat→Value} {n:List AO} (ha:Ag n hv hv'):∀ {l:List AO} {i:Nat},(∀ o,born l o=true→born n (i+o)=true)→(∀ a ∈ l,a.lt n=true)→OHs hv i l=OHs hv' i l
 | [],_,_,_=>rfl
 | a::l,i,hi,h=>by
  simp only[OHs]
  rw[OHs.ag ha (i:=i+1) (λo ho=>by rw[show i+1+o=i+(o+1) by omega];exact hi (o+1) (by cases a<;>exact ho)) (λa ha=>h a (by simp[ha]))]
  have e:a = .unborn∨hv i=hv' i:=by
   cases a with
   | unborn=>exact .inl rfl
   | _=>exact .inr (ha i (hi 0 rfl))
  rcases e with rfl | e
  ·rfl
  ·rw[e,OH.ag ha (λi hi=>(ha i hi).symm) (h a (by simp))]
theorem OHs.focus {hv:Nat→Value}:∀ {l:List AO} {i o:Nat} {a:AO},l[o]?=some a →
  ∃ L,(OHs hv i l).Perm (OH hv (hv (i+o)) a::L)∧∀ b,(OHs hv i (l.set o b)).Perm (OH hv (hv (i+o)) b::L)
 | [],_,_,_,h=>by simp at h
 | c::l,i,0,a,h=>by
  simp at h
  subst h
  exact⟨OHs hv (i+1) l,.refl _,λb=>.refl _⟩
 | c::l,i,o+1,a,h=>by
  obtain⟨L,h1,h2⟩:=OHs.focus (i:=i+1) (o:=o) (by simpa using h)
  have e:i+1+o=i+(o+1):=by omega
  rw[e] at h1 h2
  refine⟨OH hv (hv i) c::L,?_,λb => ?_⟩
  ·exact (List.Perm.cons _ h1).trans (List.Perm.swap _ _ _)
  ·exact (List.Perm.cons _ (h2 b)).trans (List.Perm.swap _ _ _)
theorem OHs.app {hv:Nat→Value}:∀ {l m:List AO} {i:Nat},OHs hv i (l++m)=OHs hv i l++OHs hv (i+l.length) m
 | [],m,i=>rfl
 | a::l,m,i=>by
  simp only[l6_,OHs,c4_]
  rw[OHs.app (l:=l) (m:=m) (i:=i+1)]
  congr 3
  omega
end
section
structure DV where
 t:Ty
 x:t.den
def yy_ (a b:Ty) (x:a.den):Option b.den:=if h:a.eqb b=true then some (Ty.eqb_eq h ▸ x) else none
theorem gm_ {a b:Ty} {x:a.den} {y:b.den} (h:yy_ a b x=some y):∃ e:a=b,y=e ▸ x:=by
 unfold yy_ at h
 split at h
 ·rename_i e;exact⟨Ty.eqb_eq e,(a6_ h).symm⟩
 ·cases h
def asC (t:Ty):SV→Option t.den
 | .val a x=>yy_ a t x
 | .nils=>match t with
  | .list _=>some []
  | _=>none
 | _=>none
def imp:(t:Ty)→List SV→Option (t.den×List SV)
 | .unit,l=>some ((),l)
 | .one t,l=>imp t l
 | .pair a b,l=>(imp a l).bind λp=>(imp b p.2).bind λq=>some ((p.1,q.1),q.2)
 | t,s::l=>(asC t s).bind λx=>some (x,l)
 | _,[]=>none
def exp:(t:Ty)→t.den→List SV
 | .unit,_=>[]
 | .one t,x=>exp t x
 | .pair a b,x=>exp a x.1++exp b x.2
 | t,x=>[.val t x]
def asD (t:Ty):AV→Option t.den
 | .b (.one s)=>cond t.agg none (asC t s)
 | .b (.val a x)=>yy_ a t x
 | .b (.agg l)=>cond t.agg ((imp t l).bind λp=>match p.2 with
  | []=>some p.1
  | _=>none) none
 | _=>none
def ofD (t:Ty) (x:t.den):AV:=cond t.agg (.b (.val t x)) (.b (.one (.val t x)))
section
variable {hv:Nat→Value} {S:PH}
theorem ox_ {t:Ty} (h0:t.agg=false) {v:Value} {x:t.den} (h:RVt t S v x):t.enc.rep S [v] x :=
 @cs5 t.den t.enc S v x ((jt_ t).trans h0) h
theorem bp5 {t:Ty} (h0:t.agg=false) {v:Value} {x:t.den} (h:t.enc.rep S [v] x):RVt t S v x:=by
 obtain⟨u,e,hu⟩:=@bq3 t.den t.enc S [v] x ((jt_ t).trans h0) h
 simp at e
 subst e
 exact hu
theorem ms_ {t:Ty} {v:Value} {x:t.den} (h:t.enc.rep S [v] x):v.oneCell'=true:=t.enc.cell1 h v (by simp)
theorem re_ {t:Ty} (h0:t.agg=false) {s:SV} {v:Value} {x:t.den} (h:RS hv S s v) (hx:asC t s=some x):RVt t S v x:=by
 cases s with
 | val a y =>
  obtain⟨rfl,rfl⟩:=gm_ hx
  exact h.2.2
 | nils =>
  cases t with
  | list t =>
   obtain rfl:=a6_ hx
   have e:v = .slice none 0 0:=h.2
   subst e
   exact @cs6 t.den t.enc S
  | _=>cases hx
 | _=>cases hx
theorem rz_ {t:Ty} (h0:t.agg=false) {s:SV} {v:Value} {x:t.den} (h:RS hv S s v) (hx:asC t s=some x):t.enc.rep S [v] x:=ox_ h0 (re_ h0 h hx)
theorem ah9:∀ {t:Ty} {l l':List SV} {cs:List Value} {x:t.den},Fa (RS hv S) l cs→imp t l=some (x,l')→∃ a b,cs=a++b∧t.enc.rep S a x∧Fa (RS hv S) l' b
 | .unit,l,l',cs,x,h,hx=>by
  cases hx
  exact⟨[],cs,rfl,rfl,h⟩
 | .one t,l,l',cs,x,h,hx=>ah9 (t:=t) h hx
 | .pair a b,l,l',cs,x,h,hx=>by
  obtain⟨⟨y,l1⟩,h1,hx⟩:=bnd hx
  obtain⟨⟨z,l2⟩,h2,hx⟩:=bnd hx
  cases hx
  obtain⟨c1,c2,rfl,r1,f1⟩:=ah9 h h1
  obtain⟨c3,c4,rfl,r2,f2⟩:=ah9 f1 h2
  exact⟨c1++c3,c4,by simp,⟨c1,c3,rfl,r1,r2⟩,f2⟩
 | .int,s::l,l',c::cs,x,h,hx=>by
  obtain⟨y,h1,hx⟩:=bnd hx
  cases hx
  exact⟨[c],cs,rfl,rz_ rfl h.1 h1,h.2⟩
 | .bool,s::l,l',c::cs,x,h,hx=>by
  obtain⟨y,h1,hx⟩:=bnd hx
  cases hx
  exact⟨[c],cs,rfl,rz_ rfl h.1 h1,h.2⟩
 | .u8,s::l,l',c::cs,x,h,hx=>by
  obtain⟨y,h1,hx⟩:=bnd hx
  cases hx
  exact⟨[c],cs,rfl,rz_ rfl h.1 h1,h.2⟩
 | .str,s::l,l',c::cs,x,h,hx=>by
  obtain⟨y,h1,hx⟩:=bnd hx
  cases hx
  exact⟨[c],cs,rfl,rz_ rfl h.1 h1,h.2⟩
 | .list t,s::l,l',c::cs,x,h,hx=>by
  obtain⟨y,h1,hx⟩:=bnd hx
  cases hx
  exact⟨[c],cs,rfl,rz_ rfl h.1 h1,h.2⟩
 | .ref t,s::l,l',c::cs,x,h,hx=>by
  obtain⟨y,h1,hx⟩:=bnd hx
  cases hx
  exact⟨[c],cs,rfl,rz_ rfl h.1 h1,h.2⟩
 | .clo f t,s::l,l',c::cs,x,h,hx=>by
  obtain⟨y,h1,hx⟩:=bnd hx
  cases hx
  exact⟨[c],cs,rfl,rz_ rfl h.1 h1,h.2⟩
 | .int,[],_,_,_,_,hx=>by cases hx
 | .bool,[],_,_,_,_,hx=>by cases hx
 | .u8,[],_,_,_,_,hx=>by cases hx
 | .str,[],_,_,_,_,hx=>by cases hx
 | .list t,[],_,_,_,_,hx=>by cases hx
 | .ref t,[],_,_,_,_,hx=>by cases hx
 | .clo f t,[],_,_,_,_,hx=>by cases hx
theorem uy_ {t:Ty} (h0:t.agg=false) {cs:List Value} {x:t.den} (h:t.enc.rep S cs x):Fa (RS hv S) [.val t x] cs:=by
 obtain⟨v,rfl,hr⟩:=@bq3 t.den t.enc S cs x ((jt_ t).trans h0) h
 exact⟨⟨ms_ h,h0,hr⟩,trivial⟩
theorem yp_:∀ {t:Ty} {cs:List Value} {x:t.den},t.enc.rep S cs x→Fa (RS hv S) (exp t x) cs
 | .unit,cs,x,h=>by
  have h:cs=[]:=h
  subst h
  trivial
 | .one t,cs,x,h=>yp_ (t:=t) h
 | .pair a b,cs,x,⟨c1,c2,e,h1,h2⟩=>by
  subst e
  exact Fa.app (yp_ h1) (yp_ h2)
 | .int,_,_,h=>uy_ (t:=.int) rfl h
 | .bool,_,_,h=>uy_ (t:=.bool) rfl h
 | .u8,_,_,h=>uy_ (t:=.u8) rfl h
 | .str,_,_,h=>uy_ (t:=.str) rfl h
 | .list t,_,_,h=>uy_ (t:=.list t) rfl h
 | .ref t,_,_,h=>uy_ (t:=.ref t) rfl h
 | .clo f t,_,_,h=>uy_ (t:=.clo f t) rfl h
theorem gn_ {t:Ty} {a:AV} {v:Value} {x:t.den} (h:RA hv S a v) (hx:asD t a=some x):RVt t S v x:=by
 cases a with
 | tup l=>cases hx
 | b a =>
  cases a with
  | dead=>cases hx
  | one s =>
   cases h0:t.agg with
   | true=>simp[asD,h0] at hx
   | false=>exact re_ h0 h (by simpa [asD,h0] using hx)
  | val a y =>
   obtain⟨rfl,rfl⟩:=gm_ hx
   exact h.2
  | agg l =>
   cases h0:t.agg with
   | false=>simp[asD,h0] at hx
   | true =>
    simp only[asD,h0,a5_] at hx
    obtain⟨⟨y,l'⟩,h1,hx⟩:=bnd hx
    cases l' with
    | cons _ _=>cases hx
    | nil =>
     obtain rfl:=a6_ hx
     obtain⟨cs,rfl,hf⟩:=h
     obtain⟨c1,c2,rfl,hr,hf2⟩:=ah9 hf h1
     cases c2 with
     | cons _ _=>cases hf2
     | nil=>exact⟨c1,hr,by rw[jt_,h0,e7_];rfl⟩
theorem sr_ {t:Ty} {v:Value} {x:t.den} (h:RVt t S v x):RA hv S (ofD t x) v:=by
 unfold ofD
 cases h0:t.agg with
 | true=>exact⟨h0,h⟩
 | false=>exact⟨ms_ (ox_ h0 h),h0,h⟩
end
theorem aq3 {n:List AO}:∀ {t:Ty} {x:t.den},fb_ (SV.lt n) (exp t x)=true
 | .unit,_=>rfl
 | .one t,x=>aq3 (t:=t)
 | .pair a b,x=>by
  refine hn_ λs hs => ?_
  rcases b5_.1 hs with h | h
  ·exact bg_ (aq3 (t:=a)) s h
  ·exact bg_ (aq3 (t:=b)) s h
 | .int,_=>rfl
 | .bool,_=>rfl
 | .u8,_=>rfl
 | .str,_=>rfl
 | .list t,_=>rfl
 | .ref t,_=>rfl
 | .clo f t,_=>rfl
theorem bc0 {n:List AO} {t:Ty} {x:t.den}:(ofD t x).lt n=true:=by
 unfold ofD
 cases t.agg<;>rfl
def ofC:Value→SV
 | .int .i64 n=>.val .int n
 | .int .u8 n=>.val .u8 n
 | .bool b=>.val .bool b
 | .string s=>.val .str s.data.toList
 | .slice none 0 0=>.nils
 | .pointer none=>.nilp
 | .map none=>.nilm
 | _=>.dead
def ofV:Value→AV
 | .agg cs=>cond (cs.toList.all (·.oneCell')) (.b (.agg (cs.toList.map ofC))) (.b .dead)
 | .tuple _=>.b .dead
 | v=>cond v.oneCell' (.b (.one (ofC v))) (.b .dead)
def eqS (a b:String):Bool:=match decEq a b with
 | isTrue _=>true
 | isFalse _=>false
def cdN (T d t:Nat):Nat:=T * 4194304+d * 2048+t
class Gb where
 ev:Nat→Option DV
 fz:Nat→String→Bool
 gd:Nat→Option (List Nat)
 gl:Nat→Bool
 ft:Nat→Option Ty
 rw:Nat→Option (List Value)
def GlS [Gb] (S:PH):Prop:=(∀ (g:Nat) (d:DV),Gb.ev g=some d→cr4 d.t S (.pointer (some ⟨g,0,none⟩)) d.x) ∧
 ∀ (g:Nat) (cs:List Value),Gb.rw g=some cs→∃ (T:TypeId) (fz:Nat×Nat),S.m g=some (.cells cs.toArray T fz)
theorem GlS.mono [Gb] {S T:PH} (hle:S.Le T) (h:GlS S):GlS T:=⟨λg d e=>PtS.mono (h.1 g d e) hle,λg cs e=>by
 obtain⟨T',fz,h1⟩:=h.2 g cs e
 exact⟨T',fz,hle.m g _ h1⟩⟩
def glA [Gb] (g:Nat):AV:=match Gb.ev g with
 | some d=>.b (.one (.val (.ref d.t) d.x))
 | none=>.b .dead
def evA [Gb] (sl:Nat→AV):Operand→AV
 | .tmp t=>sl t
 | .const v=>ofV v
 | .global g=>glA g
 | .func k=>.b (.one (.val (.clo k .unit) ()))
section
variable {hv:Nat→Value} {S:PH} {n:List AO}
theorem cu1 {v:Value} (h1:v.oneCell'=true):RS hv S (ofC v) v:=by
 refine⟨h1,?_⟩
 unfold ofC
 split
 ·exact⟨rfl,bp6 _⟩
 ·exact⟨rfl,[.int .u8 _],rfl,rfl⟩
 ·exact⟨rfl,ae2 _⟩
 ·rename_i s
  have e:([Value.string s]:List Value)=[Value.string ⟨s.data.toList.toArray⟩]:=by simp
  exact⟨rfl,[.string s],e,rfl⟩
 ·rfl
 ·rfl
 ·rfl
 ·trivial
theorem bt5 (v:Value):(ofC v).lt n=true:=by
 unfold ofC
 split<;>rfl
theorem cv5 {vs:List Value} (h:∀ v ∈ vs,v.oneCell'=true):Fa (RS hv S) (vs.map ofC) vs:=by
 induction vs with
 | nil=>trivial
 | cons v vs ih=>exact⟨cu1 (h v (by simp)),ih λu hu=>h u (by simp[hu])⟩
theorem bb9 (v:Value):RA hv S (ofV v) v:=by
 unfold ofV
 split
 ·rename_i cs
  cases h:cs.toList.all (·.oneCell') with
  | false=>trivial
  | true=>exact⟨cs.toList,by simp,cv5 λv hv=>f3_.1 h v hv⟩
 ·trivial
 ·cases h:v.oneCell' with
  | false=>trivial
  | true=>exact cu1 h
theorem ofV_lt (v:Value):(ofV v).lt n=true:=by
 unfold ofV
 split
 ·rename_i cs
  cases cs.toList.all (·.oneCell') with
  | false=>rfl
  | true =>
   refine hn_ λs hs => ?_
   obtain⟨v,_,rfl⟩:=d2_.1 hs
   exact bt5 v
 ·rfl
 ·cases v.oneCell' with
  | false=>rfl
  | true=>exact bt5 _
theorem evA_ra [Gb] (hG:GlS S) {sl:Nat→AV} {f:Fr} (h:∀ d,RA hv S (sl d) (f d)) (x:Operand):RA hv S (evA sl x) (ev f x):=by
 cases x with
 | tmp t=>exact h t
 | const v=>exact bb9 v
 | global g =>
  show RA hv S (glA g) _
  unfold glA
  split
  ·rename_i d e
   exact⟨rfl,rfl,[_],⟨_,rfl,hG.1 g d e⟩,rfl⟩
  ·trivial
 | func k=>exact⟨rfl,rfl,[.func (.func k) #[] #[]],⟨[],rfl,rfl⟩,rfl⟩
theorem ik_ [Gb] {sl:Nat→AV} (h:∀ d,(sl d).lt n=true) (x:Operand):(evA sl x).lt n=true:=by
 cases x with
 | tmp t=>exact h t
 | const v=>exact ofV_lt v
 | global g =>
  show (glA g).lt n=true
  unfold glA
  split<;>rfl
 | func k=>rfl
end
end
section
variable [Gb]
inductive Tre {β:Type} (f:Nat→Option β) where
 | nil
 | node (k:Nat) (d:β) (h:f k=some d) (l r:Tre f)
def Tre.get {β:Type} {f:Nat→Option β}:Tre f→Nat→Option β
 | .nil,_=>none
 | .node k d _ l r,x=>cond (Nat.beq x k) (some d) (cond (Nat.blt x k) (l.get x) (r.get x))
theorem Tre.ok {β:Type} {f:Nat→Option β}:∀ {t:Tre f} {x:Nat} {d:β},t.get x=some d→f x=some d
 | .nil,_,_,h=>by cases h
 | .node k d h0 l r,x,e,h=>by
  unfold Tre.get at h
  cases hb:Nat.beq x k with
  | true =>
   rw[hb] at h
   have:=a3_ hb
   subst this
   exact h0.trans h
  | false =>
   rw[hb] at h
   have h:cond (Nat.blt x k) (l.get x) (r.get x)=some e:=h
   cases hl:Nat.blt x k with
   | true=>rw[hl] at h;exact Tre.ok h
   | false=>rw[hl] at h;exact Tre.ok h
class Tb (P:Program) where
 und:Tre (λT=>P.underlying T)
 inf:Tre (λT=>P.info? T)
 fns:Tre (λk=>P.funcs[k]?)
 eqs:Tre (λT=>if P.stoodInHeld T=false∧P.eqGuardType P.depth T=false then some () else none)
def und (P:Program) [Tb P] (T:TypeId):Option TypeDesc:=(Tb.und (P:=P)).get T
def inf (P:Program) [Tb P] (T:TypeId):Option TypeInfo:=(Tb.inf (P:=P)).get T
def fns (P:Program) [Tb P] (k:FuncId):Option Func:=(Tb.fns (P:=P)).get k
theorem cs_ {P:Program} [Tb P] {T:TypeId} {d:TypeDesc} (h:und P T=some d):P.underlying T=some d:=Tre.ok h
theorem yd_ {P:Program} [Tb P] {T:TypeId} {d:TypeInfo} (h:inf P T=some d):P.info? T=some d:=Tre.ok h
theorem cv4 {P:Program} [Tb P] {k:FuncId} {d:Func} (h:fns P k=some d):P.funcs[k]?=some d:=Tre.ok h
def isAggD:TypeDesc→Bool
 | .struct _=>true
 | .array _ _=>true
 | _=>false
def shp (P:Program) [Tb P] (T:TypeId):Option (Bool×Nat):=(inf P T).bind λi=>(und P T).bind λd=>some (isAggD d,i.size)
theorem zv_ {P:Program} [Tb P] {T:TypeId} {a:Bool} {n:Nat} (h:shp P T=some (a,n)):Shape P T a n:=by
 obtain⟨i,h1,h⟩:=bnd h
 obtain⟨d,h2,h⟩:=bnd h
 have h1:=yd_ h1
 have h2:=cs_ h2
 cases h
 refine⟨λw => ?_,λw=>by simp[sizeOf,typeInfo,h1]⟩
 unfold isAgg
 rw[Sem.run_bind,run_underlying h2]
 cases d<;>rfl
def aq1 (P:Program) [Tb P] (T:TypeId) (t:Ty):Bool:=match shp P T with
 | some (a,n)=>a==t.agg&&Nat.beq n t.sz
 | none=>false
theorem hg_ {P:Program} [Tb P] {T:TypeId} {t:Ty} (h:aq1 P T t=true):Shape P T (Enc.agg t.den) (Enc.sz t.den):=by
 unfold aq1 at h
 split at h
 ·rename_i a n e
  simp only[a1_,g5_] at h
  have:=a3_ h.2
  rw[jt_,cj_,← h.1,← this]
  exact zv_ e
 ·cases h
def elemOf (P:Program) [Tb P] (T:TypeId):Option TypeId:=match und P T with
 | some (.slice E)=>some E
 | _=>none
theorem em_ {P:Program} [Tb P] {T E:TypeId} (h:elemOf P T=some E):P.underlying T=some (.slice E):=by
 unfold elemOf at h
 split at h
 ·rename_i e;cases h;exact cs_ e
 ·cases h
def offOf (P:Program) [Tb P] (T:TypeId) (k:Nat):Option Nat:=match und P T with
 | some (.struct fs)=>(fs[k]?).bind λf=>(inf P f.type).bind λi=>cond (Nat.beq i.size 0) none (some f.offset)
 | _=>none
theorem cm0 {P:Program} [Tb P] {T:TypeId} {k off:Nat} (h:offOf P T k=some off):cf6 P T k off:=by
 unfold offOf at h
 split at h
 ·rename_i fs e
  obtain⟨f,h1,h⟩:=bnd h
  obtain⟨i,h2,h⟩:=bnd h
  have e:=cs_ e
  have h2:=yd_ h2
  cases hz:Nat.beq i.size 0 with
  | true=>rw[hz] at h;cases h
  | false =>
   rw[hz] at h
   cases h
   intro w a
   have hs:¬ i.size=0:=by intro e;rw[e] at hz;cases hz
   simp[Instr.fieldAt,Sem.run_bind,run_underlying e,h1,Instr.sureAddr,fieldPlace,sizeOf,typeInfo,h2,hs]
 ·cases h
def bz8 (P:Program) [Tb P] (T:TypeId) (k:Nat):Option Nat:=match und P T with
 | some (.struct fs)=>(fs[k]?).bind λf=>(shp P f.type).bind λq=>cond q.1 none (some f.offset)
 | _=>none
theorem bz7 {P:Program} [Tb P] {T:TypeId} {k off:Nat} (h:bz8 P T k=some off) {cs:List Value} {v:Value} (hv:cs[off]?=some v) (w:World):(Instr.field T (.agg cs.toArray) k).run P w = .ok v w:=by
 unfold bz8 at h
 split at h
 ·rename_i fs e
  obtain⟨f,h1,h⟩:=bnd h
  obtain⟨⟨a,n⟩,h2,h⟩:=bnd h
  have e:=cs_ e
  have h3:=(zv_ h2).1 w
  cases a with
  | true=>cases h
  | false =>
   cases h
   simp[Instr.field,Sem.run_bind,run_underlying e,h1,part,h3,asAgg,hv,Result.andThen]
 ·cases h
def rf_ (P:Program) [Tb P] (E:TypeId) (t:Ty):Option t.den:=(inf P E).bind λi=>i.zero.bind λz=>cond (Nat.beq i.size t.sz&&Nat.ble i.bytes 65536) (asD t (ofV z)) none
theorem ka_ {P:Program} [Tb P] {E:TypeId} {t:Ty} {zd:t.den} (h:rf_ P E t=some zd):∃ bytes zv,cx0 P t.den E bytes zv zd∧bytes≤65536∧∀ S,RVt t S zv zd:=by
 obtain⟨i,h1,h⟩:=bnd h
 obtain⟨z,h2,h⟩:=bnd h
 have h1:=yd_ h1
 cases hc:Nat.beq i.size t.sz&&Nat.ble i.bytes 65536 with
 | false=>rw[hc] at h;cases h
 | true =>
  rw[hc] at h
  simp only[a1_] at hc
  have hr:∀ S,RVt t S z zd:=λS=>gn_ (hv:=λ_=>undef) (bb9 z) h
  have hs:i.size=Enc.sz t.den:=by rw[cj_];exact a3_ hc.1
  refine⟨i.bytes,z,⟨i,h1,h2,hs,rfl,?_,λS=>(hr S).cells⟩,b6_ hc.2,hr⟩
  have:=Enc.len (hr ⟨Hp.emp,default,#[]⟩).cells
  rw[← this]
  simp
def BLe (l m:List AO):Prop:=∀ o,born l o=true→born m o=true
theorem BLe.refl (l:List AO):BLe l l:=λ_ h=>h
theorem BLe.trans {a b c:List AO} (h:BLe a b) (k:BLe b c):BLe a c:=λo e=>k o (h o e)
theorem SV.lt_mono {l m:List AO} (h:BLe l m) {s:SV} (hs:s.lt l=true):s.lt m=true:=by
 cases s<;>first | rfl | exact h _ hs
theorem BV.lt_mono {l m:List AO} (h:BLe l m) {s:BV} (hs:s.lt l=true):s.lt m=true:=by
 cases s with
 | one s=>exact SV.lt_mono h hs
 | agg l=>exact hn_ λs hm=>SV.lt_mono h (bg_ hs s hm)
 | _=>rfl
theorem AV.lt_mono {l m:List AO} (h:BLe l m) {s:AV} (hs:s.lt l=true):s.lt m=true:=by
 cases s with
 | b s=>exact BV.lt_mono h hs
 | tup l=>exact hn_ λs hm=>BV.lt_mono h (bg_ hs s hm)
theorem AO.lt_mono {l m:List AO} (h:BLe l m) {s:AO} (hs:s.lt l=true):s.lt m=true:=by
 cases s with
 | cells T l ro=>exact hn_ λs hm=>SV.lt_mono h (bg_ hs s hm)
 | fn f a b =>
  simp only[AO.lt,a1_] at hs ⊢
  exact⟨hn_ λs hm=>SV.lt_mono h (bg_ hs.1 s hm),hn_ λs hm=>SV.lt_mono h (bg_ hs.2 s hm)⟩
 | grid G ls q ro =>
  cases q with
  | none=>rfl
  | some p=>exact h _ hs
 | yld Y st ro=>exact hn_ λs hm=>AV.lt_mono h (bg_ (p:=λp:Nat×AV=>p.2.lt l) hs s hm)
 | _=>rfl
def K1:AO→AO→Prop
 | .cells T c ro,b=>∃ c':List SV,b = .cells T c' ro∧c'.length=c.length∧∀ j ∈ ro,c'[j]?=c[j]?
 | .row t T l true,b=>b = .row t T l true
 | .map k v m true,b=>b = .map k v m true
 | .fn f x y,b=>b = .fn f x y
 | .froz t x,b=>b = .froz t x
 | .grid G ls h true,b=>b = .grid G ls h true
 | .yld Y st ro,b=>∃ st',b = .yld Y st' ro∧(ro=true→st'=st)
 | _,_=>True
theorem K1.refl (a:AO):K1 a a:=by
 unfold K1
 split
 ·exact⟨_,rfl,rfl,λ_ _=>rfl⟩
 ·rfl
 ·rfl
 ·rfl
 ·rfl
 ·rfl
 ·exact⟨_,rfl,λ_=>rfl⟩
 ·trivial
theorem K1.trans {a b c:AO} (h:K1 a b) (k:K1 b c):K1 a c:=by
 unfold K1 at h ⊢
 split at h
 ·obtain⟨l1,rfl,h1,h2⟩:=h
  obtain⟨l2,rfl,h3,h4⟩:=k
  exact⟨l2,rfl,h3.trans h1,λj hj=>(h4 j hj).trans (h2 j hj)⟩
 ·subst h;exact k
 ·subst h;exact k
 ·subst h;exact k
 ·subst h;exact k
 ·subst h;exact k
 ·obtain⟨st1,rfl,h1⟩:=h
  obtain⟨st2,rfl,h2⟩:=k
  exact⟨st2,rfl,λe=>(h2 e).trans (h1 e)⟩
 ·trivial
def Keep (l m:List AO):Prop:=∀ (o:Nat) (a:AO),l[o]?=some a→∃ b,m[o]?=some b∧K1 a b
theorem Keep.refl (l:List AO):Keep l l:=λ_ a h=>⟨a,h,K1.refl a⟩
theorem Keep.trans {a b c:List AO} (h:Keep a b) (k:Keep b c):Keep a c:=λo x e=>by
 obtain⟨y,e1,h1⟩:=h o x e
 obtain⟨z,e2,h2⟩:=k o y e1
 exact⟨z,e2,h1.trans h2⟩
def WfS (sl:Nat→AV) (objs:List AO):Prop:=∀ d,(sl d).lt objs=true
def WfO (objs:List AO):Prop:=∀ a ∈ objs,a.lt objs=true
structure Sit (S:PH) (hv:Nat→Value) (Fm:List HP) (sl:Nat→AV) (objs:List AO) (f:Fr) (w:World):Prop where
 inv:Inv w S (OHs hv 0 objs++Fm)
 rel:∀ d,RA hv S (sl d) (f d)
 wfs:WfS sl objs
 wfo:WfO objs
 gl:GlS S
theorem Sit.ev {S:PH} {hv:Nat→Value} {Fm:List HP} {sl:Nat→AV} {objs:List AO} {f:Fr} {w:World} (h:Sit S hv Fm sl objs f w) (x:Operand):RA hv S (evA sl x) (Go.Proofs.YtgeehfnbhbibeaaGreatDoor.Pad.ev f x):=evA_ra h.gl h.rel x
structure OpOk (P:Program) [Tb P] (o:Oper) (sl:Nat→AV) (objs:List AO) (av:AV) (objs':List AO):Prop where
 ble:BLe objs objs'
 keep:Keep objs objs'
 wfo:WfS sl objs→WfO objs→WfO objs'
 lt:WfS sl objs→WfO objs→av.lt objs'=true
 run:∀ {S:PH} {hv:Nat→Value} {Fm:List HP} {f:Fr} {w:World} {n:Nat} {ro:Option Nat} {K:Fr→World→Prop},Sit S hv Fm sl objs f w→ey_ n o.dst=true →
  (∀ v S' hv' w',S.Le S'→Ag objs hv hv'→RA hv' S' av v→Inv w' S' (OHs hv' 0 objs'++Fm)→K (wy_ f o.dst v) w')→OP P n ro o f w K
theorem lb_ {P:Program} [Tb P] {n:Nat} {ro:Option Nat} {o:Oper} {f:Fr} {w w':World} {K:Fr→World→Prop} {v:Value} (hd:ey_ n o.dst=true)
  (h:(execOp (ev f) o).run P w = .ok (.value v) w') (k:K (wy_ f o.dst v) w'):OP P n ro o f w K:=by
 intro a ha Q
 refine⟨λ_ _=>trivial,?_⟩
 rw[ha.eval,qg_ h (λ_ e=>by cases e)]
 exact⟨_,ha.putO hd v,k⟩
theorem OpOk.pure {P:Program} [Tb P] {o:Oper} {sl:Nat→AV} {objs:List AO} {av:AV} (hlt:WfS sl objs→WfO objs→av.lt objs=true)
  (h:∀ {S:PH} {hv:Nat→Value} {Fm:List HP} {f:Fr} {w:World},Sit S hv Fm sl objs f w→∃ u,(execOp (ev f) o).run P w = .ok (.value u) w∧RA hv S av u):OpOk P o sl objs av objs where
 ble:=BLe.refl _
 keep:=Keep.refl _
 wfo _ h:=h
 lt:=hlt
 run hs hd k:=by
  obtain⟨u,h1,h2⟩:=h hs
  exact lb_ hd h1 (k u _ _ _ (PH.Le.refl _) (λ_ _=>rfl) h2 hs.inv)
end
section
variable [Gb]
def co7:Ty→Nat→Option Ty
 | .one t,0=>some t
 | .pair a _,0=>some a
 | .pair _ b,k+1=>co7 b k
 | _,_=>none
def bz9:Ty→Nat→Nat
 | .pair a b,k+1=>a.sz+bz9 b k
 | _,_=>0
def fldG:(t:Ty)→t.den→Nat→Option DV
 | .one t,x,0=>some ⟨t,x⟩
 | .pair a b,x,0=>some ⟨a,x.1⟩
 | .pair a b,x,k+1=>fldG b x.2 k
 | _,_,_=>none
theorem ai6 {S:PH}:∀ {t:Ty} {x:t.den} {k:Nat} {d:DV} {cs:List Value},fldG t x k=some d→t.enc.rep S cs x →
  ∃ a b c,cs=a++(b++c)∧a.length=bz9 t k∧d.t.enc.rep S b d.x
 | .one t,x,0,d,cs,h,hr=>by
  cases h
  exact⟨[],cs,[],by simp,rfl,hr⟩
 | .pair a b,x,0,d,cs,h,⟨c1,c2,e,h1,h2⟩=>by
  cases h
  exact⟨[],c1,c2,e,rfl,h1⟩
 | .pair a b,x,k+1,d,cs,h,⟨c1,c2,e,h1,h2⟩=>by
  obtain⟨a',b',c',e',hl,hr⟩:=ai6 (t:=b) h h2
  refine⟨c1++a',b',c',by rw[e,e'];simp,?_,hr⟩
  have:=Enc.len (α:=a.den) h1
  rw[cj_] at this
  simp[hl,this,bz9]
 | .one t,x,k+1,d,cs,h,hr=>by cases h
 | .int,_,_,_,_,h,_=>by cases h
 | .bool,_,_,_,_,h,_=>by cases h
 | .u8,_,_,_,_,h,_=>by cases h
 | .str,_,_,_,_,h,_=>by cases h
 | .unit,_,_,_,_,h,_=>by cases h
 | .list _,_,_,_,_,h,_=>by cases h
 | .ref _,_,_,_,_,h,_=>by cases h
 | .clo _ _,_,_,_,_,h,_=>by cases h
def getP:DV→List Nat→Option DV
 | d,[]=>some d
 | d,k::p=>(fldG d.t d.x k).bind λe=>getP e p
def cl9:Ty→List Nat→Nat
 | _,[]=>0
 | t,k::p=>bz9 t k+match co7 t k with
  | some t=>cl9 t p
  | none=>0
theorem ca0:∀ {t:Ty} {x:t.den} {k:Nat} {d:DV},fldG t x k=some d→co7 t k=some d.t
 | .one t,x,0,d,h=>by cases h;rfl
 | .pair a b,x,0,d,h=>by cases h;rfl
 | .pair a b,x,k+1,d,h=>ca0 (t:=b) h
 | .one t,x,k+1,d,h=>by cases h
 | .int,_,_,_,h=>by cases h
 | .bool,_,_,_,h=>by cases h
 | .u8,_,_,_,h=>by cases h
 | .str,_,_,_,h=>by cases h
 | .unit,_,_,_,h=>by cases h
 | .list _,_,_,_,h=>by cases h
 | .ref _,_,_,_,h=>by cases h
 | .clo _ _,_,_,_,h=>by cases h
theorem bd9 {S:PH}:∀ {p:List Nat} {d e:DV} {cs:List Value},getP d p=some e→d.t.enc.rep S cs d.x →
  ∃ a b c,cs=a++(b++c)∧a.length=cl9 d.t p∧e.t.enc.rep S b e.x
 | [],d,e,cs,h,hr=>by
  cases h
  exact⟨[],cs,[],by simp,rfl,hr⟩
 | k::p,d,e,cs,h,hr=>by
  obtain⟨d1,h1,h⟩:=bnd h
  obtain⟨a,b,c,rfl,hl,hr1⟩:=ai6 h1 hr
  obtain⟨a2,b2,c2,rfl,hl2,hr2⟩:=bd9 h hr1
  refine⟨a++a2,b2,c2++c,by simp,?_,hr2⟩
  simp only[cl9,ca0 h1,a9_,hl,hl2]
theorem ck5 {w:World} {S:PH} {d e:DV} {p:List Nat} {v:Value} (h:@PtT d.t.den d.t.enc w S v d.x) (hp:getP d p=some e):@PtT e.t.den e.t.enc w S (ay_ v (cl9 d.t p)) e.x:=by
 obtain⟨a,cs,rfl,hr,hc⟩:=h
 obtain⟨A,B,C,rfl,ho,hb⟩:=bd9 hp hr
 refine⟨a.add (cl9 d.t p),B,rfl,hb,λj u hu => ?_⟩
 rw[ez_]
 refine hc _ u ?_
 rw[c6_ (by omega),ho,h7_]
 rw[b1_ (a4_.1 hu).1]
 exact hu
theorem ptS_fld {S:PH} {t:Ty} {x:t.den} {k:Nat} {d:DV} {v:Value} (h:cr4 t S v x) (hg:fldG t x k=some d):cr4 d.t S (ay_ v (bz9 t k)) d.x:=by
 obtain⟨a,cs,rfl,hr,hc⟩:=h
 obtain⟨A,B,C,rfl,ho,hb⟩:=ai6 hg hr
 refine⟨a.add (bz9 t k),B,rfl,hb,λj u hu => ?_⟩
 rw[ez_]
 refine hc _ u ?_
 rw[c6_ (by omega),ho,h7_]
 rw[b1_ (a4_.1 hu).1]
 exact hu
theorem qh_ {t:Ty} {S:PH} {v:Value} {x:t.den} (h:RVt (.ref t) S v x):cr4 t S v x:=by
 obtain⟨cs,⟨p,rfl,h⟩,rfl⟩:=h
 exact h
theorem na_ {t:Ty} {S:PH} {v:Value} {x:t.den} (h:cr4 t S v x):RVt (.ref t) S v x:=⟨[v],⟨v,rfl,h⟩,rfl⟩
theorem rh_ {t:Ty} {S:PH} {v:Value} {l:List t.den} {i:Int} {x:t.den} (h:RVt (.list t) S v l) (hx:at? l i=some x):cr4 t S (cr_ v i t.sz) x:=by
 obtain⟨a,cap,rfl,hl,hm,hn,hr⟩:=@iw_ t.den t.enc S v l h
 obtain⟨h0,hlt,hx⟩:=dg_ hx
 cases a with
 | none=>rw[(hn rfl).1] at hlt;simp at hlt
 | some ad =>
  obtain⟨es,h1,h2⟩:=hr ad rfl _ _ hx
  refine⟨_,es,rfl,h1,λj u hu => ?_⟩
  rw[ez_,← cj_]
  exact h2 j u hu
theorem Sit.at {S:PH} {hv:Nat→Value} {Fm:List HP} {sl:Nat→AV} {objs:List AO} {f:Fr} {w:World} (h:Sit S hv Fm sl objs f w) {o:Nat} {a:AO} (ho:objs[o]?=some a) :
  ∃ L,Inv w S (OH hv (hv o) a::(L++Fm))∧∀ b,(OHs hv 0 (objs.set o b)).Perm (OH hv (hv o) b::L):=by
 obtain⟨L,h1,h2⟩:=OHs.focus (hv:=hv) (i:=0) ho
 rw[b0_] at h1 h2
 exact⟨L,h.inv.perm (h1.append_right Fm),h2⟩
theorem wr_ {w:World} {S:PH} {hv:Nat→Value} {v:Value} {T:TypeId} {l:List SV} {O:List HP} (h:Inv w S (as2 hv v T l::O)) :
  ∃ (g:Nat) (cs:List Value),v = .pointer (some ⟨g,0,none⟩)∧Fa (RS hv S) l cs∧Inv w S (lu_ g T cs.toArray::O):=by
 obtain⟨k,⟨g,cs,h1,h2,rfl⟩,hI⟩:=h.open_
 exact⟨g,cs,h1,h2,hI⟩
abbrev iV (n:Int):AV:=.b (.one (.val .int n))
abbrev bV (b:Bool):AV:=.b (.one (.val .bool b))
theorem ai2 {hv:Nat→Value} {S:PH} (n:Int):RA hv S (iV n) (.int .i64 n):=⟨rfl,rfl,bp6 n⟩
theorem qz_ {hv:Nat→Value} {S:PH} (n:Bool):RA hv S (bV n) (.bool n):=⟨rfl,rfl,ae2 n⟩
theorem dr_ {hv:Nat→Value} {S:PH} {a:AV} {v:Value} {n:Int} (h:RA hv S a v) (hx:asD .int a=some n):v = .int .i64 n:=nb_ (gn_ (t:=.int) h hx)
theorem ep_ {hv:Nat→Value} {S:PH} {a:AV} {v:Value} {n:Bool} (h:RA hv S a v) (hx:asD .bool a=some n):v = .bool n:=at9 (gn_ (t:=.bool) h hx)
theorem ck2 {hv:Nat→Value} {S:PH} {a:AV} {v:Value} {n:Int} (h:RA hv S a v) (hx:asD .u8 a=some n):v = .int .u8 n:=by
 obtain⟨cs,hr,rfl⟩:=gn_ (t:=.u8) h hx
 have hr:cs=[.int .u8 n]:=hr
 subst hr
 rfl
theorem jj_ {hv:Nat→Value} {S:PH} {a:AV} {v:Value} {s:Str} (h:RA hv S a v) (hx:asD .str a=some s):v = .string ⟨s.toArray⟩:=by
 obtain⟨cs,hr,rfl⟩:=gn_ (t:=.str) h hx
 have hr:cs=[.string ⟨s.toArray⟩]:=hr
 subst hr
 rfl
def cmpA (op:BinOp) (a b:Int):Option Bool:=match op with
 | .lss=>some (decide (a<b))
 | .leq=>some (decide (a≤b))
 | .gtr=>some (decide (b<a))
 | .geq=>some (decide (b≤a))
 | .eql=>some (a==b)
 | .neq=>some (a != b)
 | _=>none
def arA (op:BinOp) (a b:Int):Option Int:=match op with
 | .add=>some (w64 (a+b))
 | .sub=>some (w64 (a - b))
 | .mul=>some (w64 (a * b))
 | .quo=>dv a b
 | .rem=>md a b
 | .and=>some (andI a b)
 | .or=>some (orI a b)
 | .shl=>cond (decide (0≤b)) (some (shlI a b)) none
 | _=>none
def binI {ρ:Type} (op:BinOp) (a b:Int) (k:AV→Option ρ):Option ρ:=match cmpA op a b with
 | some c=>k (bV c)
 | none=>(arA op a b).bind λc=>k (iV c)
theorem bp8 {P:Program} [Tb P] {w:World} {op:BinOp} {a b:Int} {c:Bool} {ik:IntKind} {T:TypeId} (h:cmpA op a b=some c):(binOp op T (.int ik a) (.int ik b)).run P w = .ok (.bool c) w:=by
 cases op<;>simp only[cmpA] at h<;>cases h<;>simp[binOp,Op.intCmp]
theorem run_ar {P:Program} [Tb P] {w:World} {op:BinOp} {a b c:Int} {T:TypeId} (h:arA op a b=some c):(binOp op T (.int .i64 a) (.int .i64 b)).run P w = .ok (.int .i64 c) w:=by
 cases op<;>simp only[arA] at h<;>try cases h
 ·simp[binOp,Op.intArith,w64]
 ·simp[binOp,Op.intArith,w64]
 ·simp[binOp,Op.intArith,w64]
 ·obtain⟨h0,rfl⟩:=dv_some h
  simp[binOp,Op.intDiv,w64,h0]
 ·obtain⟨h0,rfl⟩:=md_some h
  simp[binOp,Op.intDiv,w64,h0]
 ·rfl
 ·rfl
 ·cases hb:decide (0≤b) with
  | false=>rw[hb] at h;cases h
  | true =>
   rw[hb] at h
   have h0:=f8_ hb
   obtain rfl:=a6_ h
   have:¬ b<0:=by omega
   simp[binOp,Op.shift,this,shlI,w64,IntKind.bits]
end
section
variable [Gb]
section
variable {ρ:Type}
def bw3 (P:Program) [Tb P] (T:TypeId) (p:AV) (objs:List AO) (k:AV→Option ρ):Option ρ:=match p with
 | .b (.one (.val (.ref t) x))=>cond (aq1 P T t) (k (ofD t x)) none
 | .b (.one (.ptr o i))=>match objs[o]? with
  | some (.cells _ l _)=>(shp P T).bind λsh=>cond sh.1 (cond (Nat.beq ((l.drop i).take sh.2).length sh.2) (k (.b (.agg ((l.drop i).take sh.2)))) none)
    (cond (Nat.beq sh.2 1) ((l[i]?).bind λs=>k (.b (.one s))) none)
  | _=>none
 | .b (.one (.ptrE o i n z q))=>match objs[o]? with
  | some (.row t _ l _)=>(at? l i).bind λx=>(getP ⟨t,x⟩ q).bind λd=>cond (Nat.beq n (cl9 t q)&&Nat.beq z t.sz&&aq1 P T d.t) (k (ofD d.t d.x)) none
  | _=>none
 | _=>none
def fldA (off i:Nat) (p:AV) (k:AV→Option ρ):Option ρ:=match p with
 | .b (.one (.val (.ref t) x))=>(fldG t x i).bind λd=>cond (Nat.beq off (bz9 t i)) (k (.b (.one (.val (.ref d.t) d.x)))) none
 | .b (.one (.ptr o j))=>k (.b (.one (.ptr o (j+off))))
 | .b (.one (.ptrE o e n z q))=>k (.b (.one (.ptrE o e (n+off) z (q++[i]))))
 | _=>none
def idxA (P:Program) [Tb P] (E:TypeId) (i:Int) (p:AV) (objs:List AO) (k:AV→Option ρ):Option ρ:=match p with
 | .b (.one (.val (.list t) l))=>cond (aq1 P E t) ((at? l i).bind λx=>k (.b (.one (.val (.ref t) x)))) none
 | .b (.one (.row o))=>match objs[o]? with
  | some (.row t _ l _)=>cond (aq1 P E t) ((at? l i).bind λ_=>k (.b (.one (.ptrE o i 0 t.sz [])))) none
  | some (.grid G l _ _)=>cond (aq1 P E G.t) ((at? l i).bind λ_=>k (.b (.one (.ptrE o i 0 G.t.sz [])))) none
  | _=>none
 | _=>none
def arrX (P:Program) [Tb P] (E:TypeId) (n:Nat) (i:Int) (p:AV) (objs:List AO) (k:AV→Option ρ):Option ρ:=match p with
 | .b (.one (.arr o))=>match objs[o]? with
  | some (.row t _ l _)=>cond (aq1 P E t) (cond (decide (i<(n:Int))) ((at? l i).bind λ_=>k (.b (.one (.ptrE o i 0 t.sz [])))) none) none
  | _=>none
 | .b (.one (.ptr o j))=>cond (aq1 P E .int) (cond (decide (0≤i)) (cond (decide (i<(n:Int))) (k (.b (.one (.ptr o (j+i.toNat))))) none) none) none
 | _=>none
def lenA (p:AV) (objs:List AO) (k:AV→Option ρ):Option ρ:=match p with
 | .b (.one (.val (.list _) l))=>k (iV (l.length:Nat))
 | .b (.one .nils)=>k (iV 0)
 | .b (.one (.row o))=>match objs[o]? with
  | some (.row _ _ l _)=>k (iV (l.length:Nat))
  | some (.grid _ l _ _)=>k (iV (l.length:Nat))
  | _=>none
 | _=>none
end
theorem bo_ {ρ:Type} {c:Bool} {x:Option ρ} {r:ρ} (h:cond c x none=some r):c=true∧x=some r:=by
 cases c
 ·cases h
 ·exact⟨rfl,h⟩
theorem pn_ {v:Value} {a:Addr} (h:v = .pointer (some a)) (i j:Nat):ay_ (ay_ v i) j=ay_ v (i+j):=by
 subst h
 simp only[ay_,ez_]
section
variable {ρ:Type} {P:Program} [Tb P] {objs:List AO} {k:AV→Option ρ} {r:ρ} {p:AV} {T E:TypeId}
theorem bc5 (h:bw3 P T p objs k=some r):∃ av,k av=some r∧(WfO objs→av.lt objs=true)∧∀ {S:PH} {hv:Nat→Value} {Fm:List HP} {sl:Nat→AV} {f:Fr} {w:World} {v:Value},
  Sit S hv Fm sl objs f w→RA hv S p v→∃ u,(Instr.loadAt T v).run P w = .ok u w∧RA hv S av u:=by
 unfold bw3 at h
 split at h
 ·rename_i t x
  obtain⟨hf,h⟩:=bo_ h
  refine⟨_,h,λ_=>bc0,λ{S hv Fm sl f w v} hs hp => ?_⟩
  obtain⟨u,h1,h2⟩:=qi_ (w:=w) (hg_ hf) ((qh_ hp.2.2).at_ hs.inv)
  exact⟨u,h1,sr_ h2⟩
 ·rename_i o i
  split at h
  ·rename_i B l rr ho
   obtain⟨⟨ag,n⟩,hsh,h⟩:=bnd h
   have hS:=zv_ hsh
   cases ag with
   | true =>
    obtain⟨hl,h⟩:=bo_ h
    have hl:=a3_ hl
    refine⟨_,h,λhw=>hn_ λs hm=>bg_ (hw _ (b2_ ho)) s (q1_ (k7_ hm)),λ{S hv Fm sl f w v} hs hp => ?_⟩
    obtain⟨L,hI,_⟩:=hs.at ho
    obtain⟨g,cs,e1,hf,hI⟩:=wr_ hI
    have hv1:v=ay_ (hv o) i:=hp.2.2
    rw[e1] at hv1
    simp only[ay_,fj_,b0_] at hv1
    have hf2:Fa (RS hv S) ((l.drop i).take n) ((cs.drop i).take n):=(hf.drop i).take n
    have hlen:((cs.drop i).take n).length=n:=by rw[← hf2.len];exact hl
    have h2:=run_loadCells_list (P:=P) w ⟨g,i,none⟩ ((cs.drop i).take n) (λj u hu=>by
     rw[fj_,hI.cell]
     rw[i8_] at hu
     split at hu
     ·rw[List.getElem?_drop] at hu
      simpa using hu
     ·cases hu)
    rw[hlen] at h2
    exact⟨_,by simp[hv1,Instr.loadAt,Instr.sureAddr,loadVar,hS.agg w,hS.size w,h2],_,rfl,hf2⟩
   | false =>
    obtain⟨h1,h⟩:=bo_ (show cond (Nat.beq n 1) _ none=some r from h)
    obtain rfl:=a3_ h1
    obtain⟨s,hi,h⟩:=bnd h
    refine⟨_,h,λhw=>bg_ (hw _ (b2_ ho)) s (b2_ hi),λ{S hv Fm sl f w v} hs hp => ?_⟩
    obtain⟨L,hI,_⟩:=hs.at ho
    obtain⟨g,cs,e1,hf,hI⟩:=wr_ hI
    have hv1:v=ay_ (hv o) i:=hp.2.2
    rw[e1] at hv1
    simp only[ay_,fj_,b0_] at hv1
    obtain⟨c,hc,hr⟩:=hf.get hi
    exact⟨c,by simp[hv1,Instr.loadAt,Instr.sureAddr,loadVar,hS.agg w,load,Sem.run,hI.cell,hc],hr⟩
  ·cases h
 ·rename_i o i n z q
  split at h
  ·rename_i t B l rr ho
   obtain⟨x,hx,h⟩:=bnd h
   obtain⟨d,hd,h⟩:=bnd h
   obtain⟨hc,h⟩:=bo_ h
   simp only[a1_] at hc
   obtain⟨⟨c1,c2⟩,c3⟩:=hc
   have c1:=a3_ c1
   have c2:=a3_ c2
   refine⟨_,h,λ_=>bc0,λ{S hv Fm sl f w v} hs hp => ?_⟩
   obtain⟨L,hI,_⟩:=hs.at ho
   have hv1:v=ay_ (cr_ (hv o) i z) n:=hp.2.2
   have hpt:=ck5 (d:=⟨t,x⟩) (@Inv.rowElem t.den t.enc w S (L++Fm) B (hv o) l hI i x hx) hd
   rw[cj_,← c2,← c1,← hv1] at hpt
   obtain⟨u,h1,h2⟩:=qi_ (w:=w) (hg_ c3) hpt
   exact⟨u,h1,sr_ h2⟩
  ·cases h
 ·cases h
theorem fldA_ok {off i:Nat} (hF:cf6 P T i off) (h:fldA off i p k=some r):∃ av,k av=some r∧(p.lt objs=true→av.lt objs=true)∧∀ {S:PH} {hv:Nat→Value} {w:World} {v:Value},
  RA hv S p v→∃ u,(Instr.fieldAt T v i).run P w = .ok u w∧RA hv S av u:=by
 unfold fldA at h
 split at h
 ·rename_i t x
  obtain⟨d,hd,h⟩:=bnd h
  obtain⟨hc,h⟩:=bo_ h
  have hc:=a3_ hc
  refine⟨_,h,λ_=>rfl,λ{S hv w v} hp => ?_⟩
  have hp2:=qh_ hp.2.2
  obtain⟨a,ha⟩:=PtS.ptr hp2
  have:=ptS_fld hp2 hd
  rw[← hc] at this
  subst ha
  exact⟨_,hF w a,rfl,rfl,na_ this⟩
 ·rename_i o j
  refine⟨_,h,λhl=>hl,λ{S hv w v} hp => ?_⟩
  obtain⟨h0,⟨a,ha⟩,hv1⟩:=hp
  refine⟨_,by rw[ha];exact hF w a,rfl,⟨_,rfl⟩,?_⟩
  have:ay_ v off = .pointer (some (a.add off)):=by rw[ha];rfl
  rw[← this,hv1]
  have hh:∃ b,hv o = .pointer (some b):=by
   rw[ha] at hv1
   cases hq:hv o with
   | pointer b=>cases b with
    | none=>rw[hq] at hv1;simp[ay_] at hv1
    | some b=>exact⟨b,rfl⟩
   | _=>rw[hq] at hv1;simp[ay_] at hv1
  obtain⟨b,hb⟩:=hh
  exact pn_ hb j off
 ·rename_i o e n z q
  refine⟨_,h,λhl=>hl,λ{S hv w v} hp => ?_⟩
  obtain⟨h0,⟨a,ha⟩,hv1⟩:=hp
  refine⟨_,by rw[ha];exact hF w a,rfl,⟨_,rfl⟩,?_⟩
  have:ay_ v off = .pointer (some (a.add off)):=by rw[ha];rfl
  rw[← this,hv1]
  have hh:∃ b,cr_ (hv o) e z = .pointer (some b):=by
   rw[ha] at hv1
   cases hq:cr_ (hv o) e z with
   | pointer b=>cases b with
    | none=>rw[hq] at hv1;simp[ay_] at hv1
    | some b=>exact⟨b,rfl⟩
   | _=>rw[hq] at hv1;simp[ay_] at hv1
  obtain⟨b,hb⟩:=hh
  exact pn_ hb n off
 ·cases h
theorem xf_ {w:World} {v:Value} {l c:Nat} {a:Addr} {i:Int} {ag:Bool} {sz:Nat} (hT:P.underlying T=some (.slice E)) (hE:Shape P E ag sz) (h0:0≤i) (hl:i.toNat<l) :
  (Instr.indexAt T (.slice (some a) l c) (.int .i64 i)).run P w = .ok (.pointer (some (a.add (i.toNat * sz)))) w:=by
 have h1:0≤i∧i<(l:Int):=⟨h0,by omega⟩
 simp[Instr.indexAt,asIntOf,run_underlying hT,h1,hE.size w]
theorem arrX_ok {n:Nat} {i:Int} (hT:P.underlying T=some (.array n E)) (h:arrX P E n i p objs k=some r):∃ av,k av=some r∧(p.lt objs=true→av.lt objs=true)∧∀ {S:PH} {hv:Nat→Value} {Fm:List HP} {sl:Nat→AV} {f:Fr} {w:World} {v:Value},
  Sit S hv Fm sl objs f w→RA hv S p v→∃ u,(Instr.indexAt T v (.int .i64 i)).run P w = .ok u w∧RA hv S av u:=by
 unfold arrX at h
 split at h
 ·rename_i o
  split at h
  ·rename_i t B l rr ho
   obtain⟨hc1,h⟩:=bo_ h
   obtain⟨hc2,h⟩:=bo_ h
   have hc:=And.intro hc1 (f8_ hc2)
   obtain⟨x,hx,h⟩:=bnd h
   refine⟨_,h,λhl=>hl,λ{S hv Fm sl f w v} hs hp => ?_⟩
   obtain⟨L,hI,_⟩:=hs.at ho
   have hv1:v=cr_ (hv o) 0 0:=hp.2.2
   obtain⟨a,cap,e,hn,_⟩:=@Inv.rowSrc t.den t.enc w S (L++Fm) B (hv o) l hI
   obtain⟨h0,hlt,_⟩:=dg_ hx
   cases a with
   | none=>rw[hn rfl] at hlt;simp at hlt
   | some ad =>
    have hE:=hg_ hc.1
    rw[cj_] at hE
    have h1:0≤i∧i<(n:Int):=⟨h0,hc.2⟩
    have hv2:v = .pointer (some ad):=by rw[hv1,e];simp[cr_,Addr.add]
    refine⟨.pointer (some (ad.add (i.toNat * t.sz))),by rw[hv2];simp[Instr.indexAt,asIntOf,Instr.sureAddr,run_underlying hT,h1,hE.size w],rfl,⟨_,rfl⟩,?_⟩
    rw[e]
    simp[cr_,ay_,Addr.add,cj_]
  ·cases h
 ·rename_i o j
  obtain⟨hc1,h⟩:=bo_ h
  obtain⟨hc2,h⟩:=bo_ h
  obtain⟨hc3,h⟩:=bo_ h
  have h1:0≤i∧i<(n:Int):=⟨f8_ hc2,f8_ hc3⟩
  refine⟨_,h,λhl=>hl,λ{S hv Fm sl f w v} hs hp => ?_⟩
  have hE:=hg_ hc1
  rw[cj_] at hE
  obtain⟨h0,⟨a,ha⟩,hv1⟩:=hp
  refine⟨.pointer (some (a.add (i.toNat * Ty.int.sz))),by rw[ha];simp[Instr.indexAt,asIntOf,Instr.sureAddr,run_underlying hT,h1,hE.size w],rfl,⟨_,rfl⟩,?_⟩
  rw[show i.toNat * Ty.int.sz=i.toNat from q2_ _]
  have:ay_ v i.toNat = .pointer (some (a.add i.toNat)):=by rw[ha];rfl
  rw[← this,hv1]
  have hh:∃ b,hv o = .pointer (some b):=by
   rw[ha] at hv1
   cases hq:hv o with
   | pointer b=>cases b with
    | none=>rw[hq] at hv1;simp[ay_] at hv1
    | some b=>exact⟨b,rfl⟩
   | _=>rw[hq] at hv1;simp[ay_] at hv1
  obtain⟨b,hb⟩:=hh
  exact pn_ hb j i.toNat
 ·cases h
theorem idxA_ok {i:Int} (hT:P.underlying T=some (.slice E)) (h:idxA P E i p objs k=some r):∃ av,k av=some r∧(p.lt objs=true→av.lt objs=true)∧∀ {S:PH} {hv:Nat→Value} {Fm:List HP} {sl:Nat→AV} {f:Fr} {w:World} {v:Value},
  Sit S hv Fm sl objs f w→RA hv S p v→∃ u,(Instr.indexAt T v (.int .i64 i)).run P w = .ok u w∧RA hv S av u:=by
 unfold idxA at h
 split at h
 ·rename_i t l
  obtain⟨hf,h⟩:=bo_ h
  obtain⟨x,hx,h⟩:=bnd h
  refine⟨_,h,λ_=>rfl,λ{S hv Fm sl f w v} hs hp => ?_⟩
  have hr:=hp.2.2
  have hpt:=rh_ hr hx
  obtain⟨a,cap,rfl,hl,hm,hn,_⟩:=@iw_ t.den t.enc S v l hr
  obtain⟨h0,hlt,_⟩:=dg_ hx
  cases a with
  | none=>rw[(hn rfl).1] at hlt;simp at hlt
  | some ad =>
   have hE:=hg_ hf
   rw[cj_] at hE
   exact⟨_,xf_ (v:=undef) hT hE h0 hlt,rfl,rfl,na_ hpt⟩
 ·rename_i o
  split at h
  ·rename_i t B l rr ho
   obtain⟨hf,h⟩:=bo_ h
   obtain⟨x,hx,h⟩:=bnd h
   refine⟨_,h,λhl=>hl,λ{S hv Fm sl f w v} hs hp => ?_⟩
   obtain⟨L,hI,_⟩:=hs.at ho
   have hv1:v=hv o:=hp.2
   obtain⟨a,cap,e,hn,_⟩:=@Inv.rowSrc t.den t.enc w S (L++Fm) B (hv o) l hI
   obtain⟨h0,hlt,_⟩:=dg_ hx
   cases a with
   | none=>rw[hn rfl] at hlt;simp at hlt
   | some ad =>
    have hE:=hg_ hf
    rw[cj_] at hE
    refine⟨_,by rw[hv1,e];exact xf_ (v:=undef) hT hE h0 hlt,rfl,⟨_,rfl⟩,?_⟩
    rw[e]
    simp[cr_,ay_,Addr.add]
  ·rename_i G l hh rr ho
   obtain⟨hf,h⟩:=bo_ h
   obtain⟨x,hx,h⟩:=bnd h
   refine⟨_,h,λhl=>hl,λ{S hv Fm sl f w v} hs hp => ?_⟩
   obtain⟨L,hI,_⟩:=hs.at ho
   have hv1:v=hv o:=hp.2
   obtain⟨a,cap,e,hn⟩:=Inv.gridForm (show Inv w S (kr_ hv (hv o) G l hh::(L++Fm)) from hI)
   obtain⟨h0,hlt,_⟩:=dg_ hx
   cases a with
   | none=>rw[hn rfl] at hlt;simp at hlt
   | some ad =>
    have hE:=hg_ hf
    rw[cj_] at hE
    refine⟨_,by rw[hv1,e];exact xf_ (v:=undef) hT hE h0 hlt,rfl,⟨_,rfl⟩,?_⟩
    rw[e]
    simp[cr_,ay_,Addr.add]
  ·cases h
 ·cases h
theorem lenA_ok (hT:P.underlying T=some (.slice E)) (h:lenA p objs k=some r):∃ av,k av=some r∧av.lt objs=true∧∀ {S:PH} {hv:Nat→Value} {Fm:List HP} {sl:Nat→AV} {f:Fr} {w:World} {v:Value},
  Sit S hv Fm sl objs f w→RA hv S p v→∃ n:Nat,RA hv S av (.int .i64 n)∧∃ a c,v = .slice a n c:=by
 unfold lenA at h
 split at h
 ·rename_i t l
  refine⟨_,h,rfl,λ{S hv Fm sl f w v} hs hp => ?_⟩
  obtain⟨a,cap,rfl,_⟩:=@iw_ t.den t.enc S v l hp.2.2
  exact⟨l.length,ai2 _,a,cap,rfl⟩
 ·refine⟨_,h,rfl,λ{S hv Fm sl f w v} hs hp => ?_⟩
  exact⟨0,ai2 _,none,0,hp.2⟩
 ·rename_i o
  split at h
  ·rename_i t B l rr ho
   refine⟨_,h,rfl,λ{S hv Fm sl f w v} hs hp => ?_⟩
   obtain⟨L,hI,_⟩:=hs.at ho
   obtain⟨a,cap,e,_⟩:=@Inv.rowForm t.den t.enc w S (L++Fm) B (hv o) l hI
   have hv1:v=hv o:=hp.2
   exact⟨l.length,ai2 _,a,cap,hv1.trans e⟩
  ·rename_i G l hh rr ho
   refine⟨_,h,rfl,λ{S hv Fm sl f w v} hs hp => ?_⟩
   obtain⟨L,hI,_⟩:=hs.at ho
   obtain⟨a,cap,e,_⟩:=Inv.gridForm (show Inv w S (kr_ hv (hv o) G l hh::(L++Fm)) from hI)
   have hv1:v=hv o:=hp.2
   exact⟨l.length,ai2 _,a,cap,hv1.trans e⟩
  ·cases h
 ·cases h
end
end
section
def tyFs (g:TypeId→Option Ty):List Field→Option Ty
 | []=>some .unit
 | [f]=>(g f.type).bind λt=>some (.one t)
 | f::fs=>(g f.type).bind λt=>(tyFs g fs).bind λr=>some (.pair t r)
def bh9 (P:Program) [Tb P]:Nat→TypeId→Option Ty
 | 0,_=>none
 | n+1,T=>match und P T with
  | some (.int .i64)=>some .int
  | some (.int .u8)=>some .u8
  | some .bool=>some .bool
  | some .string=>some .str
  | some (.slice E)=>(bh9 P n E).bind λt=>some (.list t)
  | some (.struct fs)=>tyFs (bh9 P n) fs.toList
  | some (.pointer E)=>(bh9 P n E).bind λt=>some (.ref t)
  | _=>none
def zk_:(t:Ty)→t.den→t.den→Bool
 | .int,x,y=>(show Int from x)==(show Int from y)
 | .bool,x,y=>(show Bool from x)==(show Bool from y)
 | .str,x,y=>(show Str from x)==(show Str from y)
 | .one t,x,y=>zk_ t x y
 | .pair a b,x,y=>zk_ a x.1 y.1&&zk_ b x.2 y.2
 | _,_,_=>false
section
variable (P:Program) [Tb P]
def eqH (T:TypeId):Bool:=((Tb.eqs (P:=P)).get T).isSome
def cg6 (t:Ty) (f:Field) (off:Nat):Bool:=Nat.beq f.offset off&&aq1 P f.type t&&decide (f.name ≠ "_")
mutual
def eqB:Ty→TypeId→Bool
 | .int,T=>match und P T with
  | some (.int .i64)=>true
  | _=>false
 | .bool,T=>match und P T with
  | some .bool=>true
  | _=>false
 | .str,T=>match und P T with
  | some .string=>true
  | _=>false
 | .one t,T=>match und P T with
  | some (.struct ⟨[f]⟩)=>eqH P T&&(cg6 P t f 0&&eqB t f.type)
  | _=>false
 | .pair a b,T=>match und P T with
  | some (.struct ⟨f::r⟩)=>eqH P T&&(cg6 P a f 0&&(eqB a f.type&&as7 b a.sz r))
  | _=>false
 | _,_=>false
def as7:Ty→Nat→List Field→Bool
 | .one t,off,[f]=>cg6 P t f off&&eqB t f.type
 | .pair a b,off,f::r=>cg6 P a f off&&(eqB a f.type&&as7 b (off+a.sz) r)
 | _,_,_=>false
end
end
def pf_:Ty→Nat
 | .one t=>pf_ t+1
 | .pair a b=>max (pf_ a+1) (pf_ b)
 | _=>1
section
variable [Gb] {P:Program} [Tb P] {w:World} {S:PH}
theorem ca9 {T:TypeId} (h:eqH P T=true):P.stoodInHeld T=false∧P.eqGuardType P.depth T=false:=by
 unfold eqH at h
 cases hg:(Tb.eqs (P:=P)).get T with
 | none=>rw[hg] at h;cases h
 | some d =>
  have:=Tre.ok hg
  split at this
  ·rename_i e;simpa using e
  ·cases this
theorem oz_ {t:Ty} {F:Field} {off:Nat} {pre c1 post:List Value} {x:t.den} (h:cg6 P t F off=true) (hp:pre.length=off) (hr:t.enc.rep S c1 x) :
  (part F.type (pre++(c1++post)).toArray F.offset).run P w = .ok (mkV t.agg c1) w∧RVt t S (mkV t.agg c1) x:=by
 unfold cg6 at h
 simp only[a1_] at h
 have ho:=a3_ h.1.1
 have hs:=hg_ h.1.2
 rw[jt_,cj_] at hs
 have hl:c1.length=t.sz:=by have:=t.enc.len hr;rw[this];exact cj_ t
 refine⟨?_,⟨c1,hr,by rw[jt_]⟩⟩
 unfold part
 rw[Sem.run_bind,hs.agg w]
 simp only[Result.andThen_ok]
 rw[ho,← hp]
 cases ha:t.agg with
 | true =>
  simp only[k9_,Sem.run_bind,hs.size w,Result.andThen_ok,Sem.run_pure,mkV]
  rw[← hl]
  congr 2
  simp
 | false =>
  have h1:t.sz=1:=by have:=t.enc.one (by rw[jt_];exact ha);rw[cj_] at this;exact this
  rw[h1] at hl
  match c1,hl with
  | [u],_ =>
   simp[mkV,Sem.run_pure]
theorem qm_ {t:Ty} {cs:List Value} {x:t.den} {v:Value} (ha:t.agg=true) (h:RVt t S v x):∃ cs,v = .agg cs.toArray∧t.enc.rep S cs x:=by
 obtain⟨cs,h1,h2⟩:=h
 refine⟨cs,?_,h1⟩
 rw[h2,jt_,ha]
 rfl
theorem eqB_h {t:Ty} {T:TypeId} {fs:Array Field} (hu:und P T=some (.struct fs)) (h:eqB P t T=true):eqH P T=true∧t.agg=true:=by
 cases t with
 | one t =>
  unfold eqB at h
  split at h
  ·simp only[a1_] at h;exact⟨h.1,rfl⟩
  ·cases h
 | pair a b =>
  unfold eqB at h
  split at h
  ·simp only[a1_] at h;exact⟨h.1,rfl⟩
  ·cases h
 | int=>unfold eqB at h;rw[hu] at h;cases h
 | bool=>unfold eqB at h;rw[hu] at h;cases h
 | str=>unfold eqB at h;rw[hu] at h;cases h
 | _=>unfold eqB at h;cases h
mutual
theorem aq4:∀ (t:Ty) (T:TypeId),eqB P t T=true→∀ n,pf_ t≤n→∀ {v u:Value} {x y:t.den},RVt t S v x→RVt t S u y→(Op.equalIn n T v u).run P w = .ok (zk_ t x y) w
 | .int,T,h,n,hn,v,u,x,y,hx,hy=>by
  obtain⟨m,rfl⟩:∃ m,n=m+1:=⟨n - 1,by simp[pf_] at hn;omega⟩
  unfold eqB at h
  split at h
  ·rename_i e
   rw[nb_ hx,nb_ hy]
   exact run_equalIn_int w m T _ _ _ _ (cs_ e)
  ·cases h
 | .bool,T,h,n,hn,v,u,x,y,hx,hy=>by
  obtain⟨m,rfl⟩:∃ m,n=m+1:=⟨n - 1,by simp[pf_] at hn;omega⟩
  unfold eqB at h
  split at h
  ·rename_i e
   rw[at9 hx,at9 hy]
   exact run_equalIn_bool w m T _ _ (cs_ e)
  ·cases h
 | .str,T,h,n,hn,v,u,x,y,hx,hy=>by
  obtain⟨m,rfl⟩:∃ m,n=m+1:=⟨n - 1,by simp[pf_] at hn;omega⟩
  unfold eqB at h
  split at h
  ·rename_i e
   obtain⟨c1,h1,rfl⟩:=hx
   obtain⟨c2,h2,rfl⟩:=hy
   have h1:c1=[.string ⟨(show Str from x).toArray⟩]:=h1
   have h2:c2=[.string ⟨(show Str from y).toArray⟩]:=h2
   subst h1 h2
   have:=run_equalIn_string w m T ⟨(show Str from x).toArray⟩ ⟨(show Str from y).toArray⟩ (cs_ e)
   refine this.trans ?_
   simp[ByteArray.toList_eq,zk_]
  ·cases h
 | .one t,T,h,n,hn,v,u,x,y,hx,hy=>by
  obtain⟨m,rfl⟩:∃ m,n=m+1:=⟨n - 1,by simp[pf_] at hn;omega⟩
  unfold eqB at h
  split at h
  ·rename_i f e
   simp only[a1_] at h
   obtain⟨hH,hF,hE⟩:=h
   obtain⟨c1,rfl,h1⟩:=qm_ (cs:=[]) (t:=.one t) rfl hx
   obtain⟨c2,rfl,h2⟩:=qm_ (cs:=[]) (t:=.one t) rfl hy
   refine bf2 m T (cs_ e) (ca9 hH).1 ?_
   obtain⟨p1,q1⟩:=oz_ (t:=t) (P:=P) (w:=w) (S:=S) (post:=[]) hF (pre:=[]) rfl (x:=x) h1
   obtain⟨p2,q2⟩:=oz_ (t:=t) (P:=P) (w:=w) (S:=S) (post:=[]) hF (pre:=[]) rfl (x:=y) h2
   simp only[g8_,e7_] at p1 p2
   unfold cg6 at hF
   simp only[a1_] at hF
   have:=wq_ (xs:=c1.toArray) (ys:=c2.toArray) (fs:=[]) hF.2 p1 p2 (aq4 t f.type hE m (by simp[pf_] at hn;omega) q1 q2) cb0
   rw[h1_] at this
   exact this
  ·cases h
 | .pair a b,T,h,n,hn,v,u,x,y,hx,hy=>by
  obtain⟨m,rfl⟩:∃ m,n=m+1:=⟨n - 1,by simp[pf_] at hn;omega⟩
  unfold eqB at h
  split at h
  ·rename_i f r e
   simp only[a1_] at h
   obtain⟨hH,hF,hE,hR⟩:=h
   obtain⟨c1,rfl,ca,cb,rfl,h1,h1'⟩:=qm_ (cs:=[]) (t:=.pair a b) rfl hx
   obtain⟨c2,rfl,da,db,rfl,h2,h2'⟩:=qm_ (cs:=[]) (t:=.pair a b) rfl hy
   refine bf2 m T (cs_ e) (ca9 hH).1 ?_
   obtain⟨p1,q1⟩:=oz_ (P:=P) (w:=w) (S:=S) (post:=cb) hF (pre:=[]) rfl (x:=x.1) h1
   obtain⟨p2,q2⟩:=oz_ (P:=P) (w:=w) (S:=S) (post:=db) hF (pre:=[]) rfl (x:=y.1) h2
   simp only[g8_] at p1 p2
   unfold cg6 at hF
   simp only[a1_] at hF
   have e1:ca.length=a.sz:=by have:=a.enc.len h1;rw[this];exact cj_ a
   have e2:da.length=a.sz:=by have:=a.enc.len h2;rw[this];exact cj_ a
   exact wq_ hF.2 p1 p2 (aq4 a f.type hE m (by simp[pf_] at hn;omega) q1 q2) (cb1 b a.sz r hR m (by simp[pf_] at hn;omega) e1 e2 h1' h2')
  ·cases h
 | .u8,_,h,_,_,_,_,_,_,_,_=>by unfold eqB at h;cases h
 | .unit,_,h,_,_,_,_,_,_,_,_=>by unfold eqB at h;cases h
 | .list _,_,h,_,_,_,_,_,_,_,_=>by unfold eqB at h;cases h
 | .ref _,_,h,_,_,_,_,_,_,_,_=>by unfold eqB at h;cases h
 | .clo _ _,_,h,_,_,_,_,_,_,_,_=>by unfold eqB at h;cases h
theorem cb1:∀ (t:Ty) (off:Nat) (fs:List Field),as7 P t off fs=true→∀ n,pf_ t≤n+1→∀ {p1 p2 c1 c2:List Value} {x y:t.den},p1.length=off→p2.length=off→t.enc.rep S c1 x→t.enc.rep S c2 y →
  (Op.eqFields n (p1++c1).toArray (p2++c2).toArray fs).run P w = .ok (zk_ t x y) w
 | .one t,off,[f],h,n,hn,p1,p2,c1,c2,x,y,l1,l2,h1,h2=>by
  unfold as7 at h
  simp only[a1_] at h
  obtain⟨hF,hE⟩:=h
  obtain⟨r1,q1⟩:=oz_ (t:=t) (P:=P) (w:=w) (S:=S) (post:=[]) hF l1 (x:=x) h1
  obtain⟨r2,q2⟩:=oz_ (t:=t) (P:=P) (w:=w) (S:=S) (post:=[]) hF l2 (x:=y) h2
  simp only[e7_] at r1 r2
  unfold cg6 at hF
  simp only[a1_] at hF
  have:=wq_ hF.2 r1 r2 (aq4 t f.type hE n (by simp[pf_] at hn;omega) q1 q2) cb0
  rw[h1_] at this
  exact this
 | .pair a b,off,f::r,h,n,hn,p1,p2,c1,c2,x,y,l1,l2,h1,h2=>by
  unfold as7 at h
  simp only[a1_] at h
  obtain⟨hF,hE,hR⟩:=h
  obtain⟨ca,cb,rfl,h1,h1'⟩:=h1
  obtain⟨da,db,rfl,h2,h2'⟩:=h2
  obtain⟨r1,q1⟩:=oz_ (P:=P) (w:=w) (S:=S) (post:=cb) hF l1 (x:=x.1) h1
  obtain⟨r2,q2⟩:=oz_ (P:=P) (w:=w) (S:=S) (post:=db) hF l2 (x:=y.1) h2
  unfold cg6 at hF
  simp only[a1_] at hF
  have e1:ca.length=a.sz:=by have:=a.enc.len h1;rw[this];exact cj_ a
  have e2:da.length=a.sz:=by have:=a.enc.len h2;rw[this];exact cj_ a
  have hrest:=cb1 b (off+a.sz) r hR n (by simp[pf_] at hn;omega) (p1:=p1++ca) (p2:=p2++da) (by simp[l1,e1]) (by simp[l2,e2]) h1' h2'
  rw[b3_,b3_] at hrest
  exact wq_ hF.2 r1 r2 (aq4 a f.type hE n (by simp[pf_] at hn;omega) q1 q2) hrest
 | .one _,_,[],h,_,_,_,_,_,_,_,_,_,_,_,_=>by unfold as7 at h;cases h
 | .one _,_,_::_::_,h,_,_,_,_,_,_,_,_,_,_,_,_=>by unfold as7 at h;cases h
 | .pair _ _,_,[],h,_,_,_,_,_,_,_,_,_,_,_,_=>by unfold as7 at h;cases h
 | .int,_,_,h,_,_,_,_,_,_,_,_,_,_,_,_=>by unfold as7 at h;cases h
 | .bool,_,_,h,_,_,_,_,_,_,_,_,_,_,_,_=>by unfold as7 at h;cases h
 | .u8,_,_,h,_,_,_,_,_,_,_,_,_,_,_,_=>by unfold as7 at h;cases h
 | .str,_,_,h,_,_,_,_,_,_,_,_,_,_,_,_=>by unfold as7 at h;cases h
 | .unit,_,_,h,_,_,_,_,_,_,_,_,_,_,_,_=>by unfold as7 at h;cases h
 | .list _,_,_,h,_,_,_,_,_,_,_,_,_,_,_,_=>by unfold as7 at h;cases h
 | .ref _,_,_,h,_,_,_,_,_,_,_,_,_,_,_,_=>by unfold as7 at h;cases h
 | .clo _ _,_,_,h,_,_,_,_,_,_,_,_,_,_,_,_=>by unfold as7 at h;cases h
end
end
end
section
variable [Gb]
theorem qe_ (s:Str):(⟨s.toArray⟩:ByteArray).toList=s:=by rw[ByteArray.toList_eq]
theorem no_ (s:Str):(⟨s.toArray⟩:ByteArray).size=s.length:=by simp[ByteArray.size]
def cat? (a b:Str):Option Str:=cond (Nat.ble (a.length+b.length) 2147483648) (some (a++b)) none
def sV (s:Str):AV:=.b (.one (.val .str s))
theorem bi5 {hv:Nat→Value} {S:PH} (s:Str):RA hv S (sV s) (.string ⟨s.toArray⟩):=⟨rfl,rfl,[.string ⟨s.toArray⟩],rfl,rfl⟩
def uV (n:Int):AV:=.b (.one (.val .u8 n))
theorem uV_ra {hv:Nat→Value} {S:PH} (n:Int):RA hv S (uV n) (.int .u8 n):=⟨rfl,rfl,[.int .u8 n],rfl,rfl⟩
section
variable {ρ:Type}
def binS (op:BinOp) (a b:Str) (k:AV→Option ρ):Option ρ:=match op with
 | .add=>(cat? a b).bind λc=>k (sV c)
 | .eql=>k (bV (a==b))
 | .neq=>k (bV (!(a==b)))
 | _=>none
def binB (op:BinOp) (a b:Bool) (k:AV→Option ρ):Option ρ:=match op with
 | .eql=>k (bV (a==b))
 | .neq=>k (bV (a != b))
 | _=>none
def binQ (op:BinOp) (c:Bool) (k:AV→Option ρ):Option ρ:=match op with
 | .eql=>k (bV c)
 | .neq=>k (bV (!c))
 | _=>none
def binN (op:BinOp) (a b:AV) (objs:List AO) (k:AV→Option ρ):Option ρ:=match op,b with
 | .eql,.b (.one .nilp)=>match a with
  | .b (.one .nilp)=>k (bV true)
  | .b (.one (.ptr _ _))=>k (bV false)
  | .b (.one (.val (.ref _) _))=>k (bV false)
  | _=>none
 | .neq,.b (.one .nilp)=>match a with
  | .b (.one .nilp)=>k (bV false)
  | .b (.one (.ptr _ _))=>k (bV true)
  | .b (.one (.val (.ref _) _))=>k (bV true)
  | _=>none
 | _,_=>none
def binA (P:Program) [Tb P] (op:BinOp) (T:TypeId) (a b:AV) (objs:List AO) (k:AV→Option ρ):Option ρ:=match und P T with
 | some (.int .i64)=>(asD .int a).bind λx=>(asD .int b).bind λy=>binI op x y k
 | some (.int .u8)=>(asD .u8 a).bind λx=>(asD .u8 b).bind λy=>(cmpA op x y).bind λc=>k (bV c)
 | some .bool=>(asD .bool a).bind λx=>(asD .bool b).bind λy=>binB op x y k
 | some .string=>(asD .str a).bind λx=>(asD .str b).bind λy=>binS op x y k
 | some (.pointer _)=>binN op a b objs k
 | some (.struct _)=>(bh9 P 20 T).bind λt=>cond (eqB P t T&&Nat.ble (pf_ t) 10000) ((asD t a).bind λx=>(asD t b).bind λy=>binQ op (zk_ t x y) k) none
 | _=>none
end
section
variable {ρ:Type} {P:Program} [Tb P] {objs:List AO} {k:AV→Option ρ} {r:ρ} {T:TypeId} {op:BinOp}
theorem gr_ {w:World} {v u:Value} {X Y:Operand} (h:match v with | .agg _=>False | .nilIface=>False | _=>True):(eqGuard op T X Y v u).run P w = .ok () w:=by
 unfold eqGuard
 cases v<;>first | exact h.elim | (cases op<;>rfl)
theorem run_bq {w:World} {x y:Bool} (hT:P.underlying T=some .bool):(binOp .eql T (.bool x) (.bool y)).run P w = .ok (.bool (x==y)) w:=by
 show ((do pure (.bool (← Op.equal T (.bool x) (.bool y))):Sem Value)).run P w=_
 simp only[Sem.run_bind,bp9 hT,Result.andThen_ok,Sem.run_pure]
theorem run_bn {w:World} {x y:Bool} (hT:P.underlying T=some .bool):(binOp .neq T (.bool x) (.bool y)).run P w = .ok (.bool (x != y)) w:=by
 show ((do pure (.bool (!(← Op.equal T (.bool x) (.bool y)))):Sem Value)).run P w=_
 simp only[Sem.run_bind,bp9 hT,Result.andThen_ok,Sem.run_pure]
 rfl
theorem run_sq {w:World} {x y:Str}:(binOp .eql T (.string ⟨x.toArray⟩) (.string ⟨y.toArray⟩)).run P w = .ok (.bool (x==y)) w:=by
 simp[binOp,Op.stringOp,qe_]
theorem run_sn {w:World} {x y:Str}:(binOp .neq T (.string ⟨x.toArray⟩) (.string ⟨y.toArray⟩)).run P w = .ok (.bool (!(x==y))) w:=by
 simp[binOp,Op.stringOp,qe_]
theorem bp7 {w:World} {a b c:Str} (h:cat? a b=some c):(binOp .add T (.string ⟨a.toArray⟩) (.string ⟨b.toArray⟩)).run P w = .ok (.string ⟨c.toArray⟩) w:=by
 unfold cat? at h
 cases hc:Nat.ble (a.length+b.length) 2147483648 with
 | false=>rw[hc] at h;cases h
 | true =>
  rw[hc] at h
  cases h
  have hc:=b6_ hc
  have e:(⟨a.toArray⟩:ByteArray)++⟨b.toArray⟩=⟨(a++b).toArray⟩:=by
   apply ByteArray.ext
   rw[ByteArray.data_append]
   simp
  have hn:¬ ((((⟨a.toArray⟩:ByteArray).size+(⟨b.toArray⟩:ByteArray).size:Nat):Int) > IntKind.i64.max):=by
   rw[no_,no_]
   have:IntKind.i64.max=9223372036854775807:=by decide
   omega
  show (Op.stringOp .add _ _).run P w=_
  unfold Op.stringOp
  simp only[hn,h6_,e]
  rfl
theorem binA_ok {a b:AV} (h:binA P op T a b objs k=some r):∃ av,k av=some r∧(∀ n,av.lt n=true)∧∀ {S:PH} {hv:Nat→Value} {w:World} {v u:Value},
  RA hv S a v→RA hv S b u→∃ c,(∀ X Y,(eqGuard op T X Y v u).run P w = .ok () w)∧(binOp op T v u).run P w = .ok c w∧RA hv S av c:=by
 unfold binA at h
 split at h
 ·obtain⟨x,hx,h⟩:=bnd h
  obtain⟨y,hy,h⟩:=bnd h
  unfold binI at h
  split at h
  ·rename_i c hc
   refine⟨_,h,λ_=>rfl,λ{S hv w v u} ha hb=>⟨_,?_,?_,qz_ c⟩⟩
   ·rw[dr_ ha hx,dr_ hb hy];exact λ_ _=>gr_ trivial
   ·rw[dr_ ha hx,dr_ hb hy];exact bp8 hc
  ·obtain⟨c,hc,h⟩:=bnd h
   refine⟨_,h,λ_=>rfl,λ{S hv w v u} ha hb=>⟨_,?_,?_,ai2 c⟩⟩
   ·rw[dr_ ha hx,dr_ hb hy];exact λ_ _=>gr_ trivial
   ·rw[dr_ ha hx,dr_ hb hy];exact run_ar hc
 ·obtain⟨x,hx,h⟩:=bnd h
  obtain⟨y,hy,h⟩:=bnd h
  obtain⟨c,hc,h⟩:=bnd h
  refine⟨_,h,λ_=>rfl,λ{S hv w v u} ha hb=>⟨_,?_,?_,qz_ c⟩⟩
  ·rw[ck2 ha hx,ck2 hb hy];exact λ_ _=>gr_ trivial
  ·rw[ck2 ha hx,ck2 hb hy];exact bp8 hc
 ·rename_i hT
  have hT:=cs_ hT
  obtain⟨x,hx,h⟩:=bnd h
  obtain⟨y,hy,h⟩:=bnd h
  unfold binB at h
  split at h
  ·refine⟨_,h,λ_=>rfl,λ{S hv w v u} ha hb=>⟨_,?_,?_,qz_ _⟩⟩
   ·rw[ep_ ha hx,ep_ hb hy];exact λ_ _=>gr_ trivial
   ·rw[ep_ ha hx,ep_ hb hy];exact run_bq hT
  ·refine⟨_,h,λ_=>rfl,λ{S hv w v u} ha hb=>⟨_,?_,?_,qz_ _⟩⟩
   ·rw[ep_ ha hx,ep_ hb hy];exact λ_ _=>gr_ trivial
   ·rw[ep_ ha hx,ep_ hb hy];exact run_bn hT
  ·cases h
 ·obtain⟨x,hx,h⟩:=bnd h
  obtain⟨y,hy,h⟩:=bnd h
  unfold binS at h
  split at h
  ·obtain⟨c,hc,h⟩:=bnd h
   refine⟨_,h,λ_=>rfl,λ{S hv w v u} ha hb=>⟨_,?_,?_,bi5 c⟩⟩
   ·rw[jj_ ha hx,jj_ hb hy];exact λ_ _=>gr_ trivial
   ·rw[jj_ ha hx,jj_ hb hy];exact bp7 hc
  ·refine⟨_,h,λ_=>rfl,λ{S hv w v u} ha hb=>⟨_,?_,?_,qz_ _⟩⟩
   ·rw[jj_ ha hx,jj_ hb hy];exact λ_ _=>gr_ trivial
   ·rw[jj_ ha hx,jj_ hb hy];exact run_sq
  ·refine⟨_,h,λ_=>rfl,λ{S hv w v u} ha hb=>⟨_,?_,?_,qz_ _⟩⟩
   ·rw[jj_ ha hx,jj_ hb hy];exact λ_ _=>gr_ trivial
   ·rw[jj_ ha hx,jj_ hb hy];exact run_sn
  ·cases h
 ·rename_i el hT
  have hT:=cs_ hT
  have hptr:∀ {a:AV} {S:PH} {hv:Nat→Value} {v:Value},RA hv S a v→((∃ o i,a = .b (.one (.ptr o i)))∨∃ t x,a = .b (.one (.val (.ref t) x)))→∃ q,v = .pointer (some q):=by
   rintro a S hv v ha (⟨o,i,rfl⟩ | ⟨t,x,rfl⟩)
   ·exact ha.2.1
   ·exact PtS.ptr (qh_ ha.2.2)
  have eqn:∀ {w:World} {v:Value} {c:Bool},((v = .pointer none∧c=true)∨((∃ q,v = .pointer (some q))∧c=false))→(Op.equal T v (.pointer none)).run P w = .ok c w:=by
   rintro w v c (⟨rfl,rfl⟩ | ⟨⟨q,rfl⟩,rfl⟩) <;>
   ·show (Op.equalIn (9999+1) T _ _).run P w=_
    unfold Op.equalIn
    rw[Sem.run_bind,run_underlying hT]
    rfl
  have fin:∀ {av:AV} {c:Bool},av=bV c→(op = .eql∨op = .neq)→(∀ {S:PH} {hv:Nat→Value} {v:Value},RA hv S a v→(v = .pointer none∧(c==(op==.eql))=true)∨((∃ q,v = .pointer (some q))∧(c==(op==.eql))=false)) →
    b = .b (.one .nilp)→∀ {S:PH} {hv:Nat→Value} {w:World} {v u:Value},RA hv S a v→RA hv S b u→∃ c,(∀ X Y,(eqGuard op T X Y v u).run P w = .ok () w)∧(binOp op T v u).run P w = .ok c w∧RA hv S av c:=by
   rintro av c rfl ho hc rfl S hv w v u ha hb
   have hu:u = .pointer none:=hb.2
   subst hu
   refine⟨.bool c,?_,?_,qz_ c⟩
   ·rcases hc ha with ⟨rfl,_⟩ | ⟨⟨q,rfl⟩,_⟩<;>exact λ_ _=>gr_ trivial
   ·rcases ho with rfl | rfl
    ·have e:=eqn (w:=w) (v:=v) (c:=c) (by
      rcases hc ha with ⟨h1,h2⟩ | ⟨h1,h2⟩
      ·exact .inl ⟨h1,by simpa using h2⟩
      ·exact .inr ⟨h1,by simpa using h2⟩)
     have:binOp .eql T v (.pointer none)=(do pure (.bool (← Op.equal T v (.pointer none))):Sem Value):=by
      rcases hc ha with ⟨rfl,_⟩ | ⟨⟨q,rfl⟩,_⟩<;>rfl
     rw[this]
     simp only[Sem.run_bind,e,Result.andThen_ok,Sem.run_pure]
    ·have e:=eqn (w:=w) (v:=v) (c:=!c) (by
      rcases hc ha with ⟨h1,h2⟩ | ⟨h1,h2⟩
      ·exact .inl ⟨h1,by revert h2;cases c<;>decide⟩
      ·exact .inr ⟨h1,by revert h2;cases c<;>decide⟩)
     have:binOp .neq T v (.pointer none)=(do pure (.bool (!(← Op.equal T v (.pointer none)))):Sem Value):=by
      rcases hc ha with ⟨rfl,_⟩ | ⟨⟨q,rfl⟩,_⟩<;>rfl
     rw[this]
     simp only[Sem.run_bind,e,Result.andThen_ok,Sem.run_pure,Bool.not_not]
  unfold binN at h
  split at h
  ·split at h
   ·exact⟨_,h,λ_=>rfl,fin rfl (.inl rfl) (λha=>.inl ⟨ha.2,rfl⟩) rfl⟩
   ·exact⟨_,h,λ_=>rfl,fin rfl (.inl rfl) (λha=>.inr ⟨hptr ha (.inl ⟨_,_,rfl⟩),rfl⟩) rfl⟩
   ·exact⟨_,h,λ_=>rfl,fin rfl (.inl rfl) (λha=>.inr ⟨hptr ha (.inr ⟨_,_,rfl⟩),rfl⟩) rfl⟩
   ·cases h
  ·split at h
   ·exact⟨_,h,λ_=>rfl,fin rfl (.inr rfl) (λha=>.inl ⟨ha.2,rfl⟩) rfl⟩
   ·exact⟨_,h,λ_=>rfl,fin rfl (.inr rfl) (λha=>.inr ⟨hptr ha (.inl ⟨_,_,rfl⟩),rfl⟩) rfl⟩
   ·exact⟨_,h,λ_=>rfl,fin rfl (.inr rfl) (λha=>.inr ⟨hptr ha (.inr ⟨_,_,rfl⟩),rfl⟩) rfl⟩
   ·cases h
  ·cases h
 ·rename_i fs hT
  obtain⟨t,_,h⟩:=bnd h
  obtain⟨hc,h⟩:=bo_ h
  simp only[a1_] at hc
  obtain⟨x,hx,h⟩:=bnd h
  obtain⟨y,hy,h⟩:=bnd h
  obtain⟨hH,hag⟩:=eqB_h hT hc.1
  have key:∀ {S:PH} {hv:Nat→Value} {w:World} {v u:Value},RA hv S a v→RA hv S b u→∃ c1 c2:Array Value,v = .agg c1∧u = .agg c2∧(∀ op X Y,(eqGuard op T X Y (.agg c1) (.agg c2)).run P w = .ok () w)∧(Op.equal T (.agg c1) (.agg c2)).run P w = .ok (zk_ t x y) w:=by
   intro S hv w v u ha hb
   have h1:=gn_ ha hx
   have h2:=gn_ hb hy
   have h3:=aq4 (w:=w) t T hc.1 10000 (b6_ hc.2) h1 h2
   obtain⟨c1,rfl,_⟩:=qm_ (cs:=[]) hag h1
   obtain⟨c2,rfl,_⟩:=qm_ (cs:=[]) hag h2
   refine⟨_,_,rfl,rfl,λop X Y => ?_,h3⟩
   have hg:=(ca9 hH).2
   cases op<;>simp[eqGuard,hg]
  unfold binQ at h
  split at h
  ·refine⟨_,h,λ_=>rfl,λ{S hv w v u} ha hb => ?_⟩
   obtain⟨c1,c2,rfl,rfl,g1,g2⟩:=key (w:=w) ha hb
   refine⟨.bool (zk_ t x y),g1 _,?_,qz_ _⟩
   show (do pure (.bool (← Op.equal T (.agg c1) (.agg c2))):Sem Value).run P w=_
   simp only[Sem.run_bind,g2,Result.andThen_ok,Sem.run_pure]
  ·refine⟨_,h,λ_=>rfl,λ{S hv w v u} ha hb => ?_⟩
   obtain⟨c1,c2,rfl,rfl,g1,g2⟩:=key (w:=w) ha hb
   refine⟨.bool (!(zk_ t x y)),g1 _,?_,qz_ _⟩
   show (do pure (.bool (!(← Op.equal T (.agg c1) (.agg c2)))):Sem Value).run P w=_
   simp only[Sem.run_bind,g2,Result.andThen_ok,Sem.run_pure]
  ·cases h
 ·cases h
end
end
end Go.Proofs.YtgeehfnbhbibeaaGreatDoor.Rex
