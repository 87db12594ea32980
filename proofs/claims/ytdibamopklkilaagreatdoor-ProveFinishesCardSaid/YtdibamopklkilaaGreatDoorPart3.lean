/- A part of the proof: what the functions of the program compute, shown over the model. -/
import Derived.WalkKit
import Derived.ProofKit
import Derived.OpenShut
import Derived.WideKeyArgs
import Derived.Deep.Slices
import Derived.SliceStrings
import Derived.Test.YtdibamopklkilaaGreatDoorProg
import Derived.KernelRfl
import Derived.Shelf.Small.Wraps
import Derived.Shelf.Strings.BuilderK
import Derived.Shelf.LaysM
import Derived.Shelf.Strconv.Itoa3
import Derived.Shelf.Bits.Mul64
import Derived.Test.YtdibamopklkilaaGreatDoorPart1
import Derived.Test.YtdibamopklkilaaGreatDoorPart2
set_option linter.unusedSectionVars false
set_option linter.unusedVariables false
set_option linter.unusedSimpArgs false
namespace Go.Proofs.YtdibamopklkilaaGreatDoor.Rex
open Go Pad
section
variable [Gb]
def aq5 (fr0:Nat) (anc F:List Nat) (i:Nat) (a:AO):AO:=cond (inL i F) a (cond (Nat.blt i fr0) (match a with
    | .unborn=>.unborn
    | _=>.gone) (cond (inL (i - fr0) anc) .gone .unborn))
theorem jp_ {fr0:Nat} {anc F:List Nat}:∀ {l:List AO} {i j:Nat},(pb_ fr0 anc F i l)[j]?=(l[j]?).map (aq5 fr0 anc F (i+j)):=by
  intro l
  induction l with
  | nil=>intro i j;rfl
  | cons a l ih =>
    intro i j
    cases j with
    | zero=>rfl
    | succ j =>
      show (pb_ fr0 anc F (i+1) l)[j]?=_
      rw[ih,show i+1+j=i+(j+1) by omega]
      rfl
theorem ux_ {fr0:Nat} {anc F:List Nat}:∀ {l:List AO} {i:Nat},(pb_ fr0 anc F i l).length=l.length:=by
  intro l
  induction l with
  | nil=>intro i;rfl
  | cons a l ih=>intro i;show (pb_ fr0 anc F (i+1) l).length+1=_;rw[ih];rfl
theorem ax4 {fr0:Nat} {anc F:List Nat} {i:Nat} {a:AO} (h:inL i F=true):aq5 fr0 anc F i a=a:=by unfold aq5;rw[h];rfl
theorem rf_ {fr0:Nat} {anc F:List Nat} {i:Nat} {a:AO} (h:inL i F=false) (hi:i<fr0):aq5 fr0 anc F i a=match a with
    | .unborn=>.unborn
    | _=>.gone:=by unfold aq5;rw[h,mf_.2 hi];rfl
theorem pc_ {fr0:Nat} {anc F:List Nat} {i:Nat} {a:AO} (h:inL i F=false) (hi:¬ i<fr0):aq5 fr0 anc F i a=cond (inL (i - fr0) anc) .gone .unborn:=by unfold aq5;rw[h,ai2.2 hi];rfl
theorem bl5 {fr0:Nat} {anc F:List Nat} {i:Nat} {a:AO} (h:inL i F=false):aq5 fr0 anc F i a = .gone∨aq5 fr0 anc F i a = .unborn:=by
  by_cases hi:i<fr0
  · rw[rf_ h hi]
    cases a<;>simp
  · rw[pc_ h hi]
    cases inL (i - fr0) anc<;>simp
theorem yt_ {fr0:Nat} {anc F:List Nat} {l m:List AO} (hl:l.length=m.length) (h1:∀ o,o<l.length→inL o F=true→l[o]?=m[o]?) (h2:∀ o,o<fr0→born l o=born m o):pb_ fr0 anc F 0 l=pb_ fr0 anc F 0 m:=by
  refine f1_ λo => ?_
  rw[jp_,jp_,b0_]
  by_cases ho:o<l.length
  · have e1:l[o]?=some l[o]:=a7_ ho
    have e2:m[o]?=some (m[o]'(by omega)):=a7_ (by omega)
    cases hF:inL o F with
    | true=>rw[h1 o ho hF]
    | false =>
      rw[e1,e2]
      show some _=some _
      congr 1
      by_cases hi:o<fr0
      · rw[rf_ hF hi,rf_ hF hi]
        have:=h2 o hi
        have b1:=tp_ e1
        have b2:=tp_ e2
        rw[this] at b1
        have b3:=b1.symm.trans b2
        generalize l[o]=a at b3
        generalize m[o]'(by omega)=b at b3
        cases a<;>cases b<;>first | rfl | simp at b3
      · rw[pc_ hF hi,pc_ hF hi]
  · rw[b3_ (by omega),b3_ (by omega)]
theorem cg0 {fr0:Nat} {anc F:List Nat} {l:List AO} {o:Nat} (h:born (pb_ fr0 anc F 0 l) o=true):o<l.length∧((inL o F=true∧born l o=true)∨(o<fr0∧born l o=true)∨(¬ o<fr0∧inL (o - fr0) anc=true)):=by
  obtain⟨b,h1,h2⟩:=ba_.1 h
  rw[jp_,b0_] at h1
  cases ha:l[o]? with
  | none=>rw[ha] at h1;cases h1
  | some a =>
    refine⟨(a3_.1 ha).1,?_⟩
    rw[ha] at h1
    have e:aq5 fr0 anc F o a=b:=by simpa using h1
    cases hF:inL o F with
    | true =>
      rw[ax4 hF] at e
      subst e
      exact .inl ⟨rfl,(tp_ ha).2 h2⟩
    | false =>
      by_cases hi:o<fr0
      · rw[rf_ hF hi] at e
        refine .inr (.inl ⟨hi,(tp_ ha).2 ?_⟩)
        rintro rfl
        exact h2 e.symm
      · rw[pc_ hF hi] at e
        refine .inr (.inr ⟨hi,?_⟩)
        cases hh:inL (o - fr0) anc with
        | true=>rfl
        | false=>rw[hh] at e;exact absurd e.symm h2
theorem vr_ {fr0:Nat} {anc F:List Nat} {l:List AO} {o:Nat} (hb:born l o=true) (h:inL o F=true∨o<fr0):born (pb_ fr0 anc F 0 l) o=true:=by
  obtain⟨a,h1,h2⟩:=ba_.1 hb
  refine ba_.2 ⟨aq5 fr0 anc F o a,by rw[jp_,h1,b0_];rfl,?_⟩
  cases hF:inL o F with
  | true=>rw[ax4 hF];exact h2
  | false =>
    rw[rf_ hF (h.resolve_left (by rw[hF];exact Bool.false_ne_true))]
    cases a<;>first | exact absurd rfl h2 | exact λe=>by cases e
theorem wu_ {hv:Nat→Value}:∀ {l:List AO} {i j:Nat},(OHs hv i l)[j]?=(l[j]?).map (OH hv (hv (i+j))):=by
  intro l
  induction l with
  | nil=>intro i j;rfl
  | cons a l ih =>
    intro i j
    cases j with
    | zero=>rfl
    | succ j =>
      show (OHs hv (i+1) l)[j]?=_
      rw[ih,show i+1+j=i+(j+1) by omega]
      rfl
theorem jh_ {hv:Nat→Value}:∀ {l:List AO} {i:Nat},(OHs hv i l).length=l.length:=by
  intro l
  induction l with
  | nil=>intro i;rfl
  | cons a l ih=>intro i;show (OHs hv (i+1) l).length+1=_;rw[ih];rfl
def cu0 (F:List Nat):Nat→List AO→List AO
  | _,[]=>[]
  | i,a::l=>cond (inL i F) .gone a::cu0 F (i+1) l
theorem af5 {F:List Nat}:∀ {l:List AO} {i j:Nat},(cu0 F i l)[j]?=(l[j]?).map λa=>cond (inL (i+j) F) .gone a:=by
  intro l
  induction l with
  | nil=>intro i j;rfl
  | cons a l ih =>
    intro i j
    cases j with
    | zero=>rfl
    | succ j =>
      show (cu0 F (i+1) l)[j]?=_
      rw[ih,show i+1+j=i+(j+1) by omega]
      rfl
theorem af4 {F:List Nat}:∀ {l:List AO} {i:Nat},(cu0 F i l).length=l.length:=by
  intro l
  induction l with
  | nil=>intro i;rfl
  | cons a l ih=>intro i;show (cu0 F (i+1) l).length+1=_;rw[ih];rfl
theorem rx_ {w:World} {S:PH} {O:List HP}:∀ {A:List HP},Inv w S (A++O)→Inv w S O:=by
  intro A
  induction A with
  | nil=>intro h;exact h
  | cons a A ih=>intro h;exact ih (Inv.drop (show Inv w S (a::(A++O)) from h))
theorem an4 {w:World} {S:PH}:∀ {T A B O:List HP},T.length=A.length→T.length=B.length →
    (∀ (j:Nat) (t a b:HP),T[j]?=some t→A[j]?=some a→B[j]?=some b→(a=t∧b=HP.exact Hp.emp)∨(a=HP.exact Hp.emp∧b=t))→Inv w S (T++O)→Inv w S (A++(B++O)):=by
  intro T
  induction T with
  | nil =>
    intro A B O h1 h2 _ h
    cases A with
    | nil=>cases B with
      | nil=>exact h
      | cons b B=>simp at h2
    | cons a A=>simp at h1
  | cons t T ih =>
    intro A B O h1 h2 hp h
    cases A with
    | nil=>simp at h1
    | cons a A =>
      cases B with
      | nil=>simp at h2
      | cons b B =>
        have h3:Inv w S (T++(t::O)):=h.perm List.perm_middle.symm
        have h4:=ih (A:=A) (B:=B) (by simpa using h1) (by simpa using h2) (λj t a b e1 e2 e3=>hp (j+1) t a b (by simpa using e1) (by simpa using e2) (by simpa using e3)) h3
        have h5:Inv w S (t::(A++(B++O))):=h4.perm (by
          rw[← b5_,← b5_]
          exact f0_)
        have h6:=ne_ h5
        have e:(t::(A++(b::(B++O)))).Perm (t::b::(A++(B++O))):=List.Perm.cons _ f0_
        rcases hp 0 t a b rfl rfl rfl with ⟨rfl,rfl⟩ | ⟨rfl,rfl⟩
        · exact (h6.perm (List.Perm.swap _ _ _)).perm e.symm
        · exact h6.perm (List.Perm.cons _ List.perm_middle.symm)
theorem cm3 {w:World} {S:PH}:∀ {T A B O:List HP},T.length≤A.length→T.length≤B.length →
    (∀ (j:Nat) (t a b:HP),T[j]?=some t→A[j]?=some a→B[j]?=some b→t=a∨t=b)→Inv w S (A++(B++O))→Inv w S (T++O):=by
  intro T
  induction T with
  | nil=>intro A B O _ _ _ h;exact rx_ (rx_ h)
  | cons t T ih =>
    intro A B O h1 h2 hp h
    cases A with
    | nil=>simp at h1
    | cons a A =>
      cases B with
      | nil=>simp at h2
      | cons b B =>
        have h3:Inv w S (A++(B++(a::b::O))):=h.perm (by
          show (a::(A++(b::(B++O)))).Perm _
          refine (List.Perm.cons _ f0_).trans ?_
          have e1:(A++(B++(a::b::O))).Perm (a::(A++(B++(b::O)))):=by
            rw[← b5_,← b5_]
            exact f0_
          have e2:(A++(B++(b::O))).Perm (b::(A++(B++O))):=by
            rw[← b5_,← b5_]
            exact f0_
          exact (e1.trans (List.Perm.cons _ e2)).symm)
        have h4:=ih (A:=A) (B:=B) (by simpa using h1) (by simpa using h2) (λj t a b e1 e2 e3=>hp (j+1) t a b (by simpa using e1) (by simpa using e2) (by simpa using e3)) h3
        have h5:Inv w S (a::b::(T++O)):=h4.perm (List.perm_middle.trans (List.Perm.cons _ f0_))
        rcases hp 0 t a b rfl rfl rfl with rfl | rfl
        · exact (h5.perm (List.Perm.swap _ _ _)).drop
        · exact h5.drop
theorem mq_ {x:Nat}:∀ {l:List (Option Nat)} {i j:Nat},go_ x l i=some j→∃ k,j=i+k∧l[k]?=some (some x):=by
  intro l
  induction l with
  | nil=>intro i j h;cases h
  | cons a l ih =>
    intro i j h
    cases a with
    | none =>
      obtain⟨k,e,hk⟩:=ih (show go_ x l (i+1)=some j from h)
      exact⟨k+1,by omega,by simpa using hk⟩
    | some e =>
      have h:cond (Nat.beq x e) (some i) (go_ x l (i+1))=some j:=h
      cases hb:Nat.beq x e with
      | true =>
        rw[hb] at h
        cases h
        rw[a6_ hb]
        exact⟨0,rfl,rfl⟩
      | false =>
        rw[hb] at h
        obtain⟨k,e,hk⟩:=ih h
        exact⟨k+1,by omega,by simpa using hk⟩
theorem zn_ {x:Nat}:∀ {l:List (Option Nat)} {i:Nat},go_ x l i=none→∀ (k:Nat),l[k]?≠some (some x):=by
  intro l
  induction l with
  | nil=>intro i h k;simp
  | cons a l ih =>
    intro i h k
    cases a with
    | none =>
      cases k with
      | zero=>simp
      | succ k=>simpa using ih (show go_ x l (i+1)=none from h) k
    | some e =>
      have h:cond (Nat.beq x e) (some i) (go_ x l (i+1))=none:=h
      cases hb:Nat.beq x e with
      | true=>rw[hb] at h;cases h
      | false =>
        rw[hb] at h
        cases k with
        | zero =>
          intro e2
          have:e=x:=by simpa using e2
          rw[this,i1_] at hb
          cases hb
        | succ k=>simpa using ih h k
theorem ba0 {x:Nat}:∀ {l:List (Option Nat)} {i j:Nat},sy_ l=true→l[i]?=some (some x)→l[j]?=some (some x)→i=j:=by
  intro l
  induction l with
  | nil=>intro i j _ h;simp at h
  | cons a l ih =>
    intro i j h hi hj
    have ho:sy_ l=true∧(a=some x→l.contains (some x)=false):=by
      cases a with
      | none=>exact⟨h,λe=>by cases e⟩
      | some d =>
        have h:(!(l.contains (some d))&&sy_ l)=true:=h
        rw[a2_] at h
        exact⟨h.2,λe=>by rw[← e];simpa using h.1⟩
    have bad:∀ (k:Nat),a=some x→l[k]?=some (some x)→False:=λk e hk=>by
      have:=ho.2 e
      rw[List.contains_eq_mem,m1_] at this
      exact this (b9_ hk)
    cases i with
    | zero=>cases j with
      | zero=>rfl
      | succ j=>exact (bad j (by simpa using hi) (by simpa using hj)).elim
    | succ i=>cases j with
      | zero=>exact (bad i (by simpa using hj) (by simpa using hi)).elim
      | succ j=>exact congrArg Nat.succ (ih ho.1 (by simpa using hi) (by simpa using hj))
theorem af1 {x:Nat} {l:List (Option Nat)} {i:Nat} (h:sy_ l=true) (hi:l[i]?=some (some x)):go_ x l 0=some i:=by
  cases hx:go_ x l 0 with
  | none=>exact absurd hi (zn_ hx i)
  | some j =>
    obtain⟨k,e,hk⟩:=mq_ hx
    rw[ba0 h hi hk,e,b0_]
theorem okU_at {anc:List Nat} {vis:List AO}:∀ {V:List AV} {i j:Nat} {a:AV},okU anc vis i V=true→V[j]?=some a→inL (i+j) anc=true→a.lt vis=true:=by
  intro V
  induction V with
  | nil=>intro i j a _ h;simp at h
  | cons b V ih =>
    intro i j a h hj hi
    unfold okU at h
    rw[a2_] at h
    cases j with
    | zero =>
      have e:b=a:=by simpa using hj
      subst e
      have h1:=h.1
      rw[n6_] at hi
      rw[hi] at h1
      exact h1
    | succ j=>exact ih h.2 (by simpa using hj) (by rwa [show i+1+j=i+(j+1) by omega])
theorem okW_at {F:List Nat} {all:List AO}:∀ {l:List AO} {i j:Nat} {a:AO},okW F all i l=true→l[j]?=some a→inL (i+j) F=true→a.lt all=true:=by
  intro V
  induction V with
  | nil=>intro i j a _ h;simp at h
  | cons b V ih =>
    intro i j a h hj hi
    unfold okW at h
    rw[a2_] at h
    cases j with
    | zero =>
      have e:b=a:=by simpa using hj
      subst e
      have h1:=h.1
      rw[n6_] at hi
      rw[hi] at h1
      exact h1
    | succ j=>exact ih h.2 (by simpa using hj) (by rwa [show i+1+j=i+(j+1) by omega])
end
section
variable [Gb]
def bk5 (tr:List (AV×DR×List AO)) (j:Nat):AV:=((tr[j]?).map (·.1)).getD (.b .dead)
def nl_ (sl:Nat→AV) (dsts:List (Option Nat)) (tr:List (AV×DR×List AO)) (d:Nat→Bool) (x:Nat):AV:=match go_ x dsts 0 with
  | none=>sl x
  | some j=>cond (d j) (bk5 tr j) (sl x)
structure Dy (S0:PH) (hv0:Nat→Value) (ob0:List AO) (Fm:List HP) (D0:List Deferred) (sl:Nat→AV) (dsts:List (Option Nat)) (C0 cu:List AO) (cs:Nat→AV) (S:PH) (hv:Nat→Value) (f:Fr) (w:World):Prop where
  le:S0.Le S
  ag:Ag ob0 hv0 hv
  inv:Inv w S (OHs hv 0 cu++Fm)
  rel:∀ x,RA hv S (cs x) (f x)
  wfs:∀ x,(cs x).lt cu=true
  wfo:WfO cu
  keep:Keep C0 cu
  ds:f.ds=D0
  gl:GlS S
theorem aw2 {tr:List (AV×DR×List AO)} {i j:Nat} {a0:AV} (h:((tr.take i).map (·.1))[j]?=some a0):bk5 tr j=a0:=by
  rw[d6_] at h
  unfold bk5
  cases hq:(tr.take i)[j]? with
  | none=>rw[hq] at h;cases h
  | some q =>
    rw[hq] at h
    have hj:j<i:=by
      have:=(a3_.1 hq).1
      rw[c6_] at this
      omega
    rw[q2_ hj] at hq
    rw[hq]
    exact a5_ h
theorem ax2 {V avs:List AV} (hV:VOk V avs) {j:Nat} {a a0:AV} (hj:V[j]?=some a) (h0:avs[j]?=some a0) {hv:Nat→Value} {S:PH} {v:Value} (hr:RA hv S a0 v):RA hv S a v:=by
  obtain⟨a1,h1,h2⟩:=hV.2 j a hj
  rw[h0] at h1
  cases h1
  rcases h2 with rfl | ⟨c,h3,rfl⟩
  · exact hr
  · rw[en_ hr h3]
    exact tr_ c
theorem cq0 {V avs:List AV} (hV:VOk V avs) {j:Nat} {a a0:AV} (hj:V[j]?=some a) (h0:avs[j]?=some a0) {l:List AO} (hr:a0.lt l=true):a.lt l=true:=by
  obtain⟨a1,h1,h2⟩:=hV.2 j a hj
  rw[h0] at h1
  cases h1
  rcases h2 with rfl | ⟨c,h3,rfl⟩
  · exact hr
  · rfl
theorem ax3 {V avs:List AV} (hV:VOk V avs) {j:Nat} {a:AV} (hj:V[j]?=some a):∃ a0,avs[j]?=some a0:=by
  obtain⟨a1,h1,_⟩:=hV.2 j a hj
  exact⟨a1,h1⟩
theorem env_ra {sl:Nat→AV} {dsts:List (Option Nat)} {tab:List (List Nat)} {tr:List (AV×DR×List AO)} {i:Nat} {anc:List Nat} {V:List AV} {d:Nat→Bool} {hv:Nat→Value} {S:PH} {f:Fr} (hV:VOk V ((tr.take i).map (·.1))) (hanc:∀ j,inL j anc=true→d j=true)
    (hlt:∀ j,inL V.length ((tab[j]?).getD [])=true→d j=false) (hrel:∀ x,RA hv S (nl_ sl dsts tr d x) (f x)) (x:Nat):RA hv S (ce9 sl dsts tab anc V x) (f x):=by
  have hx:=hrel x
  unfold ce9
  unfold nl_ at hx
  cases hi:go_ x dsts 0 with
  | none=>rw[hi] at hx;exact hx
  | some j =>
    rw[hi] at hx
    have hx:RA hv S (cond (d j) (bk5 tr j) (sl x)) (f x):=hx
    show RA hv S (cond (inL j anc) ((V[j]?).getD (.b .dead)) (cond (inL V.length ((tab[j]?).getD [])) (sl x) (.b .dead))) (f x)
    cases ha:inL j anc with
    | false =>
      cases hb:inL V.length ((tab[j]?).getD []) with
      | false=>trivial
      | true =>
        rw[hlt j hb] at hx
        exact hx
    | true =>
      rw[hanc j ha] at hx
      have hx:RA hv S (bk5 tr j) (f x):=hx
      show RA hv S ((V[j]?).getD (.b .dead)) (f x)
      cases hq:V[j]? with
      | none=>trivial
      | some a =>
        obtain⟨a0,h0⟩:=ax3 hV hq
        rw[aw2 h0] at hx
        exact ax2 hV hq h0 hx
theorem bb0 {os:List Oper} {d:Nat→Bool} (hd:Cl os d) {i:Nat} (hi:d i=false) (j:Nat) (h:inL i (((le_ os [])[j]?).getD [])=true):d j=false:=by
  cases hj:d j with
  | false=>rfl
  | true =>
    cases ha:(le_ os [])[j]? with
    | none=>rw[ha] at h;simp[inL] at h
    | some anc =>
      rw[ha] at h
      rw[hd j anc ha hj i h] at hi
      cases hi
theorem co8 {l:List AO} {i o:Nat} (h:born l o=true):born (l.set i .gone) o=true:=by
  obtain⟨a,h1,h2⟩:=ba_.1 h
  by_cases e:i=o
  · subst e
    exact ba_.2 ⟨.gone,by simp[(a3_.1 h1).1],by simp⟩
  · exact ba_.2 ⟨a,by rw[b6_ e];exact h1,h2⟩
theorem ui_ {l:List AO} {i o:Nat} (h:born (l.set i .gone) o=true):o=i∨born l o=true:=by
  by_cases e:i=o
  · exact .inl e.symm
  · obtain⟨a,h1,h2⟩:=ba_.1 h
    rw[b6_ e] at h1
    exact .inr (ba_.2 ⟨a,h1,h2⟩)
theorem be7 {l:List AO} {o:Nat} (h:born l o=true):o<l.length:=by
  obtain⟨a,h1,_⟩:=ba_.1 h
  exact (a3_.1 h1).1
theorem bw0 (b:AO):K1 .unborn b:=trivial
section
variable {P:Program} [Tb P] {n:Nat} {sl:Nat→AV} {dsts:List (Option Nat)} {fr0:Nat} {os:List Oper} {C0:List AO} {tr:List (AV×DR×List AO)}
variable (h:sl_ P n sl dsts (le_ os []) fr0 os (le_ os []) [] [] C0 tr) (hb:Base fr0 os C0) (hp:sw_ os 0=true) (hds:dsts=os.map (·.dst)) (hon:sy_ dsts=true) (hw0:WfS sl C0)
include h hb hp hds hon hw0
theorem cur_ble {d:Nat→Bool} (hd:Cl os d) {i:Nat} (hd':Cl os (λj=>Nat.beq j i||d j)):BLe (cur fr0 C0 tr d) (cur fr0 C0 tr (λj=>Nat.beq j i||d j)):=by
  intro o ho
  have hl:=be7 ho
  rw[jn_,hb.len] at hl
  by_cases h0:o<fr0
  · rw[sd_ h hb hp h0] at ho ⊢
    exact ho
  · have e:o=fr0+(o - fr0):=by omega
    rw[e] at ho ⊢
    rw[xv_ h hb hp hd (by omega)] at ho
    rw[xv_ h hb hp hd' (by omega),ho,p0_]
theorem vis_ble {d:Nat→Bool} (hd:Cl os d) {i:Nat} {p:Oper} {anc:List Nat} {q:AV×DR×List AO} (A:At P n sl dsts fr0 os C0 tr i p anc q) (hanc:∀ j,inL j anc=true→d j=true)
    (hd':Cl os (λj=>Nat.beq j i||d j)):BLe ((pb_ fr0 anc q.2.1.F 0 (Cat C0 tr i)).set (fr0+i) .gone) (cur fr0 C0 tr (λj=>Nat.beq j i||d j)):=by
  intro o ho
  have hi:=(a3_.1 A.ho).1
  have hlc:=qv_ h (show i≤os.length by omega)
  have own:∀ j,j<os.length→(j=i∨d j=true)→born (cur fr0 C0 tr (λj=>Nat.beq j i||d j)) (fr0+j)=true:=λj hj hh=>by
    rw[xv_ h hb hp hd' hj]
    rcases hh with rfl | hh
    · simp
    · rw[hh,p0_]
  rcases ui_ ho with rfl | ho
  · exact own i hi (.inl rfl)
  · obtain⟨hl,hc⟩:=cg0 ho
    rw[hlc,hb.len] at hl
    have base:o<fr0→born (Cat C0 tr i) o=true→born (cur fr0 C0 tr (λj=>Nat.beq j i||d j)) o=true:=λh0 hbo=>by
      rw[sd_ h hb hp h0,← ow_ h hb hp h0 (show i≤os.length by omega)]
      exact hbo
    have new:¬ o<fr0→inL (o - fr0) anc=true→born (cur fr0 C0 tr (λj=>Nat.beq j i||d j)) o=true:=λh0 ha=>by
      have:=own (o - fr0) (by omega) (.inr (hanc _ ha))
      rwa [show fr0+(o - fr0)=o by omega] at this
    rcases hc with ⟨hF,hbo⟩ | ⟨h0,hbo⟩ | ⟨h0,ha⟩
    · rcases (A.good.foot.2.1 hF).1 with h0 | ha
      · exact base h0 hbo
      · by_cases h0:o<fr0
        · exact base h0 hbo
        · exact new h0 ha
    · exact base h0 hbo
    · exact new h0 ha
theorem zt_ {d:Nat→Bool} {i:Nat} {o:Oper} {q:AV×DR×List AO} (ho:os[i]?=some o) (hq:tr[i]?=some q) (x:Nat) :
    (o.dst=some x∧nl_ sl dsts tr (λj=>Nat.beq j i||d j) x=q.1)∨(o.dst≠some x∧nl_ sl dsts tr (λj=>Nat.beq j i||d j) x=nl_ sl dsts tr d x):=by
  have hdi:dsts[i]?=some o.dst:=by rw[hds,d6_,ho];rfl
  by_cases e:o.dst=some x
  · refine .inl ⟨e,?_⟩
    rw[e] at hdi
    unfold nl_
    rw[af1 hon hdi]
    simp[bk5,hq]
  · refine .inr ⟨e,?_⟩
    unfold nl_
    cases hx:go_ x dsts 0 with
    | none=>rfl
    | some j =>
      obtain⟨k,e1,hk⟩:=mq_ hx
      rw[b0_] at e1
      subst e1
      have hne:j≠i:=by
        rintro rfl
        rw[hdi] at hk
        exact e (a5_ hk)
      show cond (Nat.beq j i||d j) _ _=_
      rw[xy_ hne,k0_]
theorem ca1 {i:Nat} {p:Oper} {anc:List Nat} {q:AV×DR×List AO} (A:At P n sl dsts fr0 os C0 tr i p anc q):inL (fr0+i) q.2.1.F=false:=by
  cases hF:inL (fr0+i) q.2.1.F with
  | false=>rfl
  | true =>
    exfalso
    have hi:=(a3_.1 A.ho).1
    have hbo:=(A.good.foot.2.1 hF).2
    rw[ba_,ca2 h hb hp hi] at hbo
    obtain⟨a,h1,h2⟩:=hbo
    cases h1
    exact h2 rfl
theorem bx5 {d:Nat→Bool} (hd:Cl os d) {i:Nat} (hi:i<os.length) (hdi:d i=false):(cur fr0 C0 tr d)[fr0+i]?=some .unborn:=by
  have hl:fr0+i<(cur fr0 C0 tr d).length:=by rw[jn_,hb.len];omega
  have:=xv_ h hb hp hd hi
  rw[hdi] at this
  rw[a7_ hl]
  congr 1
  by_cases e:(cur fr0 C0 tr d)[fr0+i] = .unborn
  · exact e
  · rw[(tp_ (a7_ hl)).2 e] at this
    cases this
end
end
section
variable [Gb]
def hvN (fr:Nat) (hv hv'':Nat→Value) (o:Nat):Value:=cond (Nat.beq o fr) (hv'' o) (hv o)
theorem ct8 {fr:Nat} {hv hv'':Nat→Value}:hvN fr hv hv'' fr=hv'' fr:=by unfold hvN;rw[i1_];rfl
theorem zo_ {fr o:Nat} {hv hv'':Nat→Value} (h:o≠fr):hvN fr hv hv'' o=hv o:=by unfold hvN;rw[xy_ h];rfl
theorem ap3 {l:List AO} {i:Nat} {a:AO} (h:a.lt l=true):a.lt (l.set i .gone)=true:=AO.lt_mono (λ_=>co8) h
section
variable {P:Program} [Tb P] {n:Nat} {sl:Nat→AV} {dsts:List (Option Nat)} {fr0:Nat} {os:List Oper} {C0:List AO} {tr:List (AV×DR×List AO)}
variable (h:sl_ P n sl dsts (le_ os []) fr0 os (le_ os []) [] [] C0 tr) (hb:Base fr0 os C0) (hp:sw_ os 0=true) (hds:dsts=os.map (·.dst)) (hon:sy_ dsts=true) (hw0:WfS sl C0)
variable {S0:PH} {hv0:Nat→Value} {ob0:List AO} {Fm:List HP} {D0:List Deferred} (hob:BLe ob0 C0)
include h hb hp hds hon hw0 hob
theorem av4 {d:Nat→Bool} (hd:Cl os d) {i:Nat} {p:Oper} {anc:List Nat} {q:AV×DR×List AO} (A:At P n sl dsts fr0 os C0 tr i p anc q) (hi:d i=false) (hanc:∀ j,inL j anc=true→d j=true)
    (hd':Cl os (λj=>Nat.beq j i||d j)) {S S':PH} {hv hv'':Nat→Value} {f f':Fr} {w w':World} {ob:List AO}
    (D:Dy S0 hv0 ob0 Fm D0 sl dsts C0 (cur fr0 C0 tr d) (nl_ sl dsts tr d) S hv f w) (hle:S.Le S')
    (hlen:C0.length≤ob.length)
    (htc:∀ (j:Nat) (c b:AO),(tch fr0 j i q)=true→q.2.2[j]?=some c→ob[j]?=some b→(c=b∨(c = .gone∧b = .unborn))∧(j≠fr0+i→hv j=hv'' j)∧c.lt ((pb_ fr0 anc q.2.1.F 0 (Cat C0 tr i)).set (fr0+i) .gone)=true∧(j≠fr0+i→∀ a,(cur fr0 C0 tr d)[j]?=some a→K1 a c))
    (hnt:∀ (j:Nat) (c b:AO),(tch fr0 j i q)=false→inL j q.2.1.F=true→(cur fr0 C0 tr d)[j]?=some c→ob[j]?=some b→c=b∧hv j=hv'' j∧c.lt ((pb_ fr0 anc q.2.1.F 0 (Cat C0 tr i)).set (fr0+i) .gone)=true)
    (hag:Ag (pb_ fr0 anc q.2.1.F 0 (Cat C0 tr i)) hv hv'')
    (hinv:Inv w' S' (OHs hv'' 0 ob++(OHs hv 0 (cu0 q.2.1.F 0 (cur fr0 C0 tr d))++Fm)))
    (hdsf:f'.ds=f.ds)
    (hvs:∀ x,(p.dst=some x∧RA hv'' S' q.1 (f' x))∨(p.dst≠some x∧f' x=f x))
    (hlt:q.1.lt ((pb_ fr0 anc q.2.1.F 0 (Cat C0 tr i)).set (fr0+i) .gone)=true) :
    Dy S0 hv0 ob0 Fm D0 sl dsts C0 (cur fr0 C0 tr (λj=>Nat.beq j i||d j)) (nl_ sl dsts tr (λj=>Nat.beq j i||d j)) S' (hvN (fr0+i) hv hv'') f' w':=by
  have hil:=(a3_.1 A.ho).1
  have hun:=bx5 h hb hp hds hon hw0 hd hil hi
  have hble:=cur_ble h hb hp hds hon hw0 hd hd'
  have hvb:=vis_ble h hb hp hds hon hw0 hd A hanc hd'
  have ag1:Ag (cur fr0 C0 tr d) hv (hvN (fr0+i) hv hv''):=λo ho=>by
    by_cases e:o=fr0+i
    · subst e
      rw[ba_,hun] at ho
      obtain⟨a,h1,h2⟩:=ho
      cases h1
      exact absurd rfl h2
    · rw[zo_ e]
  have ag2:Ag ((pb_ fr0 anc q.2.1.F 0 (Cat C0 tr i)).set (fr0+i) .gone) hv'' (hvN (fr0+i) hv hv''):=λo ho=>by
    by_cases e:o=fr0+i
    · subst e;rw[ct8]
    · rw[zo_ e]
      exact (hag o ((ui_ ho).resolve_left e)).symm
  have ag2':Ag ((pb_ fr0 anc q.2.1.F 0 (Cat C0 tr i)).set (fr0+i) .gone) (hvN (fr0+i) hv hv'') hv'':=λo ho=>(ag2 o ho).symm
  have ag1':Ag (cur fr0 C0 tr d) (hvN (fr0+i) hv hv'') hv:=λo ho=>(ag1 o ho).symm
  have hF:inL (fr0+i) q.2.1.F=false:=ca1 h hb hp hds hon hw0 A
  have get:∀ j,j<C0.length→(cur fr0 C0 tr (λj=>Nat.beq j i||d j))[j]?=cond (tch fr0 j i q) (q.2.2[j]?) ((cur fr0 C0 tr d)[j]?):=λj hj=>after h hb hp hd A hi hanc hj
  have lenq:=cv8 h A
  refine⟨D.le.trans hle,λo ho => ?_,?_,λx => ?_,λx => ?_,λa ha => ?_,λo a ho => ?_,hdsf.trans D.ds,D.gl.mono hle⟩
  · have hbo:=hob o ho
    have hlo:=be7 hbo
    rw[hb.len] at hlo
    have:o≠fr0+i:=by
      rintro rfl
      rw[ba_,hb.un _ (by omega) (by rw[hb.len];omega)] at hbo
      obtain⟨a,h1,h2⟩:=hbo
      cases h1
      exact h2 rfl
    rw[zo_ this]
    exact D.ag o ho
  · refine cm3 (A:=OHs hv'' 0 ob) (B:=OHs hv 0 (cu0 q.2.1.F 0 (cur fr0 C0 tr d))) ?_ ?_ ?_ hinv
    · rw[jh_,jh_,jn_];exact hlen
    · rw[jh_,jh_,af4,jn_,jn_];exact c4_ _
    · intro j t a b e1 e2 e3
      rw[wu_,b0_] at e1 e2 e3
      have hj:j<C0.length:=by
        cases hc:(cur fr0 C0 tr (λj=>Nat.beq j i||d j))[j]? with
        | none=>rw[hc] at e1;cases e1
        | some c=>have:=(a3_.1 hc).1;rwa [jn_] at this
      rw[get j hj] at e1
      cases ht:tch fr0 j i q with
      | true =>
        rw[ht,a4_] at e1
        cases hc:q.2.2[j]? with
        | none=>rw[hc] at e1;cases e1
        | some c =>
          rw[hc] at e1
          cases hbb:ob[j]? with
          | none=>rw[hbb] at e2;cases e2
          | some b' =>
            rw[hbb] at e2
            obtain⟨g1,g2,g3,_⟩:=htc j c b' ht hc hbb
            left
            have e1:=a5_ e1
            have e2:=a5_ e2
            rw[← e1,← e2]
            have hh:hvN (fr0+i) hv hv'' j=hv'' j:=by
              by_cases e:j=fr0+i
              · rw[e,ct8]
              · rw[zo_ e];exact g2 e
            rw[hh]
            rcases g1 with rfl | ⟨rfl,rfl⟩
            · exact OH.ag ag2' ag2 g3
            · rfl
      | false =>
        rw[ht,a1_] at e1
        cases hc:(cur fr0 C0 tr d)[j]? with
        | none=>rw[hc] at e1;cases e1
        | some c =>
          rw[hc] at e1
          have e1:=a5_ e1
          have hne:j≠fr0+i:=by
            rintro rfl
            rw[jg_.2 (.inl rfl)] at ht
            cases ht
          cases hjF:inL j q.2.1.F with
          | true =>
            left
            cases hbb:ob[j]? with
            | none=>rw[hbb] at e2;cases e2
            | some b' =>
              rw[hbb] at e2
              have e2:=a5_ e2
              obtain⟨g1,g2,g3⟩:=hnt j c b' ht hjF hc hbb
              rw[← e1,← e2,zo_ hne,g2,← g1]
              exact OH.ag ag2' ag2 g3
          | false =>
            right
            rw[af5,hc,b0_] at e3
            have e3:some (OH hv (hv j) (cond (inL j q.2.1.F) .gone c))=some b:=e3
            rw[hjF,a1_] at e3
            have e3:=a5_ e3
            rw[← e1,← e3,zo_ hne]
            exact OH.ag ag1' ag1 (D.wfo c (b9_ hc))
  · rcases zt_ h hb hp hds hon hw0 (d:=d) A.ho A.hq x with ⟨e,es⟩ | ⟨e,es⟩
    · rw[es]
      rcases hvs x with ⟨_,hr⟩ | ⟨e2,_⟩
      · exact RA.ag ag2 hlt hr
      · exact absurd e e2
    · rw[es]
      rcases hvs x with ⟨e2,_⟩ | ⟨_,hr⟩
      · exact absurd e2 e
      · rw[hr]
        exact RA.ag ag1 (D.wfs x) (RA.mono hle (D.rel x))
  · rcases zt_ h hb hp hds hon hw0 (d:=d) A.ho A.hq x with ⟨e,es⟩ | ⟨e,es⟩
    · rw[es];exact AV.lt_mono hvb hlt
    · rw[es];exact AV.lt_mono hble (D.wfs x)
  · obtain⟨j,hj,e⟩:=List.getElem_of_mem ha
    have hj':j<C0.length:=by rwa [jn_] at hj
    have e2:(cur fr0 C0 tr (λj=>Nat.beq j i||d j))[j]?=some a:=by rw[a7_ hj,e]
    rw[get j hj'] at e2
    cases ht:tch fr0 j i q with
    | true =>
      rw[ht,a4_] at e2
      have hjo:j<ob.length:=by omega
      exact AO.lt_mono hvb (htc j a _ ht e2 (a7_ hjo)).2.2.1
    | false =>
      rw[ht,a1_] at e2
      exact AO.lt_mono hble (D.wfo a (b9_ e2))
  · obtain⟨b,e1,k1⟩:=D.keep o a ho
    have hl:=(a3_.1 ho).1
    rw[get o hl]
    cases ht:tch fr0 o i q with
    | false=>exact⟨b,e1,k1⟩
    | true =>
      have hq2:q.2.2[o]?=some (q.2.2[o]'(by omega)):=a7_ _
      refine⟨_,hq2,?_⟩
      by_cases e:o=fr0+i
      · subst e
        rw[hb.un _ (by omega) hl] at ho
        cases ho
        exact bw0 _
      · have hjo:o<ob.length:=by omega
        exact k1.trans ((htc o _ _ ht hq2 (a7_ hjo)).2.2.2 e b e1)
end
section
variable {P:Program} [Tb P] {n:Nat} {sl:Nat→AV} {dsts:List (Option Nat)} {fr0:Nat} {os:List Oper} {C0:List AO} {tr:List (AV×DR×List AO)}
variable (h:sl_ P n sl dsts (le_ os []) fr0 os (le_ os []) [] [] C0 tr) (hb:Base fr0 os C0) (hp:sw_ os 0=true) (hds:dsts=os.map (·.dst)) (hon:sy_ dsts=true) (hw0:WfS sl C0)
variable {S0:PH} {hv0:Nat→Value} {ob0:List AO} {Fm:List HP} {D0:List Deferred} (hob:BLe ob0 C0) {ro:Option Nat}
include h hb hp hds hon hw0 hob
theorem cv3 {d:Nat→Bool} (hd:Cl os d) {i:Nat} {p:Oper} {anc:List Nat} {q:AV×DR×List AO} (A:At P n sl dsts fr0 os C0 tr i p anc q) (hi:d i=false) (hanc:∀ j,inL j anc=true→d j=true)
    (hd':Cl os (λj=>Nat.beq j i||d j)) {S:PH} {hv:Nat→Value} {f:Fr} {w:World} {V:List AV} (hV:VOk V ((tr.take i).map (·.1)))
    (hR:Ran P n sl dsts (le_ os []) fr0 (fr0+i) p anc V ((tr.take i).map (·.2.1)) (Cat C0 tr i) q.1 q.2.1 q.2.2)
    (D:Dy S0 hv0 ob0 Fm D0 sl dsts C0 (cur fr0 C0 tr d) (nl_ sl dsts tr d) S hv f w) :
    OP P n ro p f w λf' w'=>∃ S' hv',Dy S0 hv0 ob0 Fm D0 sl dsts C0 (cur fr0 C0 tr (λj=>Nat.beq j i||d j)) (nl_ sl dsts tr (λj=>Nat.beq j i||d j)) S' hv' f' w':=by
  have hil:=(a3_.1 A.ho).1
  have hlc:=qv_ h (show i≤os.length by omega)
  have hvis:pb_ fr0 anc q.2.1.F 0 (cur fr0 C0 tr d)=pb_ fr0 anc q.2.1.F 0 (Cat C0 tr i) :=
    yt_ (by rw[jn_,hlc]) (λo ho hF=>ready h hb hp hd A hi hanc hF (by rwa [jn_] at ho)) (λo ho=>by rw[sd_ h hb hp ho,ow_ h hb hp ho (show i≤os.length by omega)])
  have hunF:=ca1 h hb hp hds hon hw0 A
  have hoks:=hR.oks
  unfold okS2 at hoks
  rw[a2_,a2_] at hoks
  have hfr:=ca2 h hb hp hil
  have visF:∀ j,inL j q.2.1.F=true→(pb_ fr0 anc q.2.1.F 0 (Cat C0 tr i))[j]?=(cur fr0 C0 tr d)[j]?:=λj hj=>by
    rw[← hvis,jp_,b0_]
    cases (cur fr0 C0 tr d)[j]? with
    | none=>rfl
    | some a=>show some _=_;rw[ax4 hj]
  have bornF:∀ j,inL j q.2.1.F=true→born (pb_ fr0 anc q.2.1.F 0 (Cat C0 tr i)) j=true:=λj hj=>vr_ (A.good.foot.2.1 hj).2 (.inl hj)
  have hVl:V.length=i:=by
    have:=hV.1
    have htl:=(nf_ h).1
    rw[this,d2_,c6_]
    omega
  have hs:Sit S hv (OHs hv 0 (cu0 q.2.1.F 0 (cur fr0 C0 tr d))++Fm) (ce9 sl dsts (le_ os []) anc V) (pb_ fr0 anc q.2.1.F 0 (Cat C0 tr i)) f w:=by
    refine⟨?_,env_ra hV hanc (λj hj=>bb0 hd hi j (by rw[hVl] at hj;exact hj)) D.rel,λx => ?_,λa ha=>bj_ hoks.1.2 a ha,D.gl⟩
    · rw[← hvis]
      refine an4 (T:=OHs hv 0 (cur fr0 C0 tr d)) (by rw[jh_,jh_,ux_]) (by rw[jh_,jh_,af4]) ?_ D.inv
      intro j t a b e1 e2 e3
      rw[wu_,b0_] at e1 e2 e3
      cases hc:(cur fr0 C0 tr d)[j]? with
      | none=>rw[hc] at e1;cases e1
      | some c =>
        rw[hc] at e1
        rw[jp_,hc,b0_] at e2
        rw[af5,hc,b0_] at e3
        have e1:some (OH hv (hv j) c)=some t:=e1
        have e2:some (OH hv (hv j) (aq5 fr0 anc q.2.1.F j c))=some a:=e2
        have e3:some (OH hv (hv j) (cond (inL j q.2.1.F) .gone c))=some b:=e3
        have e1:=a5_ e1
        have e2:=a5_ e2
        have e3:=a5_ e3
        cases hF:inL j q.2.1.F with
        | true =>
          rw[hF] at e3
          rw[ax4 hF] at e2
          exact .inl ⟨e2.symm.trans e1,e3.symm⟩
        | false =>
          rw[hF] at e3
          refine .inr ⟨?_,e3.symm.trans e1⟩
          rcases bl5 (fr0:=fr0) (anc:=anc) (a:=c) hF with e | e <;> (rw[e] at e2;exact e2.symm)
    · unfold ce9
      have hold:(sl x).lt (pb_ fr0 anc q.2.1.F 0 (Cat C0 tr i))=true:=by
        refine AV.lt_mono (λo ho => ?_) (hw0 x)
        have hol:=be7 ho
        have h0:o<fr0:=by
          apply Nat.lt_of_not_le
          intro hge
          rw[ba_,hb.un o hge hol] at ho
          obtain⟨a,h1,h2⟩:=ho
          cases h1
          exact h2 rfl
        exact vr_ (by rw[ow_ h hb hp h0 (show i≤os.length by omega)];exact ho) (.inr h0)
      cases hx:go_ x dsts 0 with
      | none=>exact hold
      | some j =>
        show (cond (inL j anc) ((V[j]?).getD (.b .dead)) (cond (inL V.length (((le_ os [])[j]?).getD [])) (sl x) (.b .dead))).lt _=true
        cases hj:inL j anc with
        | false =>
          cases inL V.length (((le_ os [])[j]?).getD []) with
          | false=>rfl
          | true=>exact hold
        | true =>
          show ((V[j]?).getD (.b .dead)).lt _=true
          cases hv:V[j]? with
          | none=>rfl
          | some a=>exact okU_at hoks.2 hv (by rw[b0_];exact hj)
  rcases hR.run with ⟨hw,ob,hop,hC,hokW,hbF,hl⟩ | ⟨hw,hop,hC⟩
  · refine hop hs hR.dst λv S' hv'' w' hble hkeep hwfo hlt hle hag hra hinv=>⟨S',_,av4 h hb hp hds hon hw0 hob hd A hi hanc hd' D hle (by rw[← hlc];exact hl) ?_ ?_ hag hinv so_ ?_ hR.lt⟩
    · intro j c b ht hc hbb
      have hC':=hc
      rw[hC] at hc
      have hlt2:inL j ((fr0+i)::q.2.1.F)=true→c.lt ((pb_ fr0 anc q.2.1.F 0 (Cat C0 tr i)).set (fr0+i) .gone)=true:=λhj=>okW_at hokW hC' (by rw[b0_];exact hj)
      have hjl:j<(Cat C0 tr i).length:=by
        have:=(a3_.1 hc).1
        rwa [py_,mn_] at this
      rcases jg_.1 ht with rfl | ⟨_,hjF⟩
      · have hin:inL (fr0+i) ((fr0+i)::q.2.1.F)=true:=by simp[inL]
        refine⟨?_,λhne=>absurd rfl hne,hlt2 hin,λhne=>absurd rfl hne⟩
        have e:(jo_ ((fr0+i)::q.2.1.F) 0 (Cat C0 tr i) ob)[fr0+i]?=some b:=by
          rw[pp_ hl,b0_,hin,mf_.2 hjl]
          exact hbb
        unfold ft_ at hc
        rw[e] at hc
        by_cases hub:b = .unborn
        · subst hub
          right
          have hc:((jo_ ((fr0+i)::q.2.1.F) 0 (Cat C0 tr i) ob).set (fr0+i) .gone)[fr0+i]?=some c:=hc
          rw[e9_ (by rw[mn_];exact hjl)] at hc
          exact⟨(a5_ hc).symm,rfl⟩
        · left
          have hc:(jo_ ((fr0+i)::q.2.1.F) 0 (Cat C0 tr i) ob)[fr0+i]?=some c:=by
            cases b<;>first | exact absurd rfl hub | exact hc
          rw[e] at hc
          exact (a5_ hc).symm
      · have hne:j≠fr0+i:=by rintro rfl;rw[hunF] at hjF;cases hjF
        have hin:inL j ((fr0+i)::q.2.1.F)=true:=by
          show (Nat.beq j (fr0+i)||inL j q.2.1.F)=true
          rw[hjF,p0_]
        rw[sj_ hne,pp_ hl,b0_,hin,mf_.2 hjl] at hc
        have hc:ob[j]?=some c:=hc
        have ecb:c=b:=by rw[hbb] at hc;exact (a5_ hc).symm
        refine⟨.inl ecb,λ_=>hag j (bornF j hjF),hlt2 hin,λ_ a ha => ?_⟩
        obtain⟨b',h1,h2⟩:=hkeep j a (by rw[visF j hjF];exact ha)
        rw[hbb] at h1
        cases h1
        rw[ecb]
        exact h2
    · intro j c b ht hjF
      rw[jg_.2 (.inr ⟨hw,hjF⟩)] at ht
      cases ht
    · intro x
      cases hx:p.dst with
      | none=>exact .inr ⟨by simp,rfl⟩
      | some y =>
        by_cases e:y=x
        · subst e;exact .inl ⟨rfl,by show RA hv'' S' q.1 (upd f y v y);rw[pd_];exact hra⟩
        · exact .inr ⟨λh=>e (a5_ h),vt_ f y v (o6_ e)⟩
  · refine hop hs hR.dst λv S' hv'' w' hble hkeep hwfo hlt hle hag hra hinv=>⟨S',_,av4 h hb hp hds hon hw0 hob hd A hi hanc hd' D hle (by rw[ux_,hlc];exact c4_ _) ?_ ?_ hag hinv so_ ?_ hR.lt⟩
    · intro j c b ht hc hbb
      rcases jg_.1 ht with rfl | ⟨hw',_⟩
      · rw[hC] at hc
        unfold ft_ at hc
        rw[hfr] at hc
        have hc:((Cat C0 tr i).set (fr0+i) .gone)[fr0+i]?=some c:=hc
        rw[e9_ (by rw[hlc,hb.len];omega)] at hc
        cases hc
        rw[jp_,hfr,b0_] at hbb
        have hbb:some (aq5 fr0 anc q.2.1.F (fr0+i) .unborn)=some b:=hbb
        have hia:inL (fr0+i - fr0) anc=false:=by
          cases hia:inL (fr0+i - fr0) anc with
          | false=>rfl
          | true =>
            rw[show fr0+i - fr0=i by omega] at hia
            have:=ap7 hp A.ho A.ha hia
            omega
        rw[pc_ hunF (by omega),hia] at hbb
        cases hbb
        exact⟨.inr ⟨rfl,rfl⟩,λhne=>absurd rfl hne,rfl,λhne=>absurd rfl hne⟩
      · rw[hw] at hw';cases hw'
    · intro j c b ht hjF hc hbb
      rw[visF j hjF,hc] at hbb
      cases hbb
      refine⟨rfl,hag j (bornF j hjF),ap3 ?_⟩
      exact bj_ hoks.1.2 c (b9_ (by rw[visF j hjF];exact hc))
    · intro x
      cases hx:p.dst with
      | none=>exact .inr ⟨by simp,rfl⟩
      | some y =>
        by_cases e:y=x
        · subst e;exact .inl ⟨rfl,by show RA hv'' S' q.1 (upd f y v y);rw[pd_];exact hra⟩
        · exact .inr ⟨λh=>e (a5_ h),vt_ f y v (o6_ e)⟩
theorem dy_op {d:Nat→Bool} (hd:Cl os d) {i:Nat} {p:Oper} (ho:os[i]?=some p) (hi:d i=false) (hpre:∀ j ∈ ck_ p,d j=true)
    {S:PH} {hv:Nat→Value} {f:Fr} {w:World} (D:Dy S0 hv0 ob0 Fm D0 sl dsts C0 (cur fr0 C0 tr d) (nl_ sl dsts tr d) S hv f w) :
    OPg P n ro os.toArray i f w λf' w'=>∃ S' hv',Dy S0 hv0 ob0 Fm D0 sl dsts C0 (cur fr0 C0 tr (λj=>Nat.beq j i||d j)) (nl_ sl dsts tr (λj=>Nat.beq j i||d j)) S' hv' f' w':=by
  obtain⟨anc,q,A⟩:=cp2 h ho
  obtain⟨hanc',hd'⟩:=hd.step ho hpre
  have hanc:=hanc' anc A.ha
  have hoa:os.toArray[i]?=some p:=by simpa using ho
  obtain⟨V,hV,hg⟩:=A.good.go
  split at hg
  · rename_i hgd
    exact wr_ hoa hgd (cv3 h hb hp hds hon hw0 hob hd A hi hanc hd' hV hg D)
  · rename_i j b hgd
    obtain⟨hja,hdg,a0,ha0,hg⟩:=hg
    unfold dstG at hdg
    split at hdg
    · rename_i dd hdd
      have hdj:=hanc j hja
      have hrel:RA hv S a0 (f dd):=by
        have:=D.rel dd
        unfold nl_ at this
        rw[af1 hon hdd] at this
        have this:RA hv S (cond (d j) (bk5 tr j) (sl dd)) (f dd):=this
        rw[hdj] at this
        have this:RA hv S (bk5 tr j) (f dd):=this
        rw[aw2 ha0] at this
        exact this
      have hjd:(os.toArray[j]?).bind (·.dst)=some dd:=by
        rw[hds,d6_] at hdd
        rw[e2_]
        cases hq:os[j]? with
        | none=>rw[hq] at hdd;cases hdd
        | some o=>rw[hq] at hdd;exact a5_ hdd
      rcases hg with ⟨hcb,hR⟩ | ⟨hcb,hdo,hav,hr,hC⟩
      · exact am2 hoa hgd hjd hdg (en_ hrel hcb) rfl (cv3 h hb hp hds hon hw0 hob hd A hi hanc hd' hV hR D)
      · suffices hK:∃ S' hv',Dy S0 hv0 ob0 Fm D0 sl dsts C0 (cur fr0 C0 tr (λj=>Nat.beq j i||d j)) (nl_ sl dsts tr (λj=>Nat.beq j i||d j)) S' hv' (vu_ f p.dst undef) w by
          rcases hcb with hcb | hcb
          · exact az6 hoa hgd hjd hdg (en_ hrel hcb) rfl hdo hK
          · exact zf_ hoa hgd hjd hdg (bm3 hcb hrel) hdo hK
        refine⟨S,_,av4 h hb hp hds hon hw0 hob hd A hi hanc hd' (hv'':=hv) (ob:=pb_ fr0 anc q.2.1.F 0 (Cat C0 tr i)) D (PH.Le.refl S) ?_ ?_ ?_ (λ_ _=>rfl) ?_ so_ ?_ ?_⟩
        all_goals have hil:=(a3_.1 A.ho).1
        all_goals have hlc:=qv_ h (show i≤os.length by omega)
        · rw[ux_,hlc];exact c4_ _
        · intro k c' b' ht hc' hbb
          have hfr:=ca2 h hb hp hil
          rcases jg_.1 ht with rfl | ⟨hw',_⟩
          · rw[hC] at hc'
            unfold ft_ at hc'
            rw[hfr] at hc'
            have hc':((Cat C0 tr i).set (fr0+i) .gone)[fr0+i]?=some c':=hc'
            rw[e9_ (by rw[hlc,hb.len];omega)] at hc'
            cases hc'
            have hunF:=ca1 h hb hp hds hon hw0 A
            rw[jp_,hfr,b0_] at hbb
            have hbb:some (aq5 fr0 anc q.2.1.F (fr0+i) .unborn)=some b':=hbb
            have hia:inL (fr0+i - fr0) anc=false:=by
              cases hia:inL (fr0+i - fr0) anc with
              | false=>rfl
              | true =>
                rw[show fr0+i - fr0=i by omega] at hia
                have:=ap7 hp A.ho A.ha hia
                omega
            rw[pc_ hunF (by omega),hia] at hbb
            cases hbb
            exact⟨.inr ⟨rfl,rfl⟩,λhne=>absurd rfl hne,rfl,λhne=>absurd rfl hne⟩
          · rw[hr] at hw';cases hw'
        · intro k c' b' ht hjF
          rw[hr] at hjF
          simp[inL] at hjF
        · -- nothing is seen, all is hidden
          have hvis:pb_ fr0 anc q.2.1.F 0 (cur fr0 C0 tr d)=pb_ fr0 anc q.2.1.F 0 (Cat C0 tr i) :=
            yt_ (by rw[jn_,hlc]) (λo ho hF=>ready h hb hp hd A hi hanc hF (by rwa [jn_] at ho)) (λo ho=>by rw[sd_ h hb hp ho,ow_ h hb hp ho (show i≤os.length by omega)])
          rw[← hvis]
          refine an4 (T:=OHs hv 0 (cur fr0 C0 tr d)) (by rw[jh_,jh_,ux_]) (by rw[jh_,jh_,af4]) ?_ D.inv
          intro j t a b e1 e2 e3
          rw[wu_,b0_] at e1 e2 e3
          cases hc:(cur fr0 C0 tr d)[j]? with
          | none=>rw[hc] at e1;cases e1
          | some c =>
            rw[hc] at e1
            rw[jp_,hc,b0_] at e2
            rw[af5,hc,b0_] at e3
            have hF:inL j q.2.1.F=false:=by rw[hr];rfl
            have e1:some (OH hv (hv j) c)=some t:=e1
            have e2:some (OH hv (hv j) (aq5 fr0 anc q.2.1.F j c))=some a:=e2
            have e3:some (OH hv (hv j) (cond (inL j q.2.1.F) .gone c))=some b:=e3
            have e1:=a5_ e1
            have e2:=a5_ e2
            have e3:=a5_ e3
            rw[hF] at e3
            refine .inr ⟨?_,e3.symm.trans e1⟩
            rcases bl5 (fr0:=fr0) (anc:=anc) (a:=c) hF with e | e <;> (rw[e] at e2;exact e2.symm)
        · intro x
          cases hx:p.dst with
          | none=>exact .inr ⟨by simp,rfl⟩
          | some y =>
            by_cases e:y=x
            · subst e;exact .inl ⟨rfl,by rw[hav];show RA hv S (.tup []) (upd f y undef y);rw[pd_];exact un_ra⟩
            · exact .inr ⟨λh=>e (a5_ h),vt_ f y undef (o6_ e)⟩
        · rw[hav];rfl
    · cases hdg
end
end
section
variable [Gb]
theorem bz3 {fr0:Nat} {C0:List AO} {tr:List (AV×DR×List AO)}:cur fr0 C0 tr (λ_=>false)=C0:=by
  refine f1_ λo => ?_
  unfold cur
  rw[d6_]
  by_cases ho:o<C0.length
  · rw[m3_ ho]
    show some ((cAt (λ_=>false) fr0 o 0 tr C0[o]?).getD .unborn)=_
    rw[vl_ λi q _ _=>rfl,a7_ ho]
    rfl
  · rw[b3_ (by simpa using ho),b3_ (by simpa using ho)]
    rfl
theorem be2 {os:List Oper}:Cl os (λ_=>false):=λi anc _ h=>by cases h
theorem keep_ext {l:List AO} {k:Nat}:Keep l (l++List.replicate k .unborn):=λo a ho=>⟨a,by rw[b2_ (a3_.1 ho).1];exact ho,K1.refl a⟩
theorem an6 {x:Nat} {os:List Oper} (h:inL x (la_ os)=false):go_ x (os.map (·.dst)) 0=none:=by
  have gen:∀ (os:List Oper) (i:Nat),inL x (la_ os)=false→go_ x (os.map (·.dst)) i=none:=by
    intro os
    induction os with
    | nil=>intro i _;rfl
    | cons o os ih =>
      intro i h
      rw[j8_]
      cases hd:o.dst with
      | none =>
        show go_ x (os.map (·.dst)) (i+1)=none
        refine ih (i+1) ?_
        simpa [la_,hd] using h
      | some d =>
        have h2:(Nat.beq x d||inL x (la_ os))=false:=by simpa [la_,hd,inL] using h
        rw[c2_] at h2
        show cond (Nat.beq x d) (some i) (go_ x (os.map (·.dst)) (i+1))=none
        rw[h2.1]
        exact ih (i+1) h2.2
  exact gen os 0 h
section
variable {ρ:Type} {P:Program} [Tb P] {cx:Cx P} {n:Nat} {r:ρ}
theorem bp4 {ops:List Oper} {s:A} {k:A→Option ρ} (h:regD cx n ops s k=some r) :
    ∃ s',k s'=some r∧P.follows .mixedOrders=true∧(∀ d,inL d (la_ ops)=false→s'.slot d=s.slot d) ∧
    ∀ {ro:Option Nat} {S0:PH} {hv0:Nat→Value} {ob0:List AO} {Fm:List HP} {f:Fr} {w:World} {N:Fr→World→Prop},
      Rl S0 hv0 ob0 Fm s f w→(∀ f' w',Rl S0 hv0 ob0 Fm s' f' w'→Keep s.objs s'.objs→N f' w')→WA P n ro ops N f w:=by
  unfold regD at h
  rw[ai6] at h
  obtain⟨hc,h⟩:=bv_ h
  rw[a2_,a2_] at hc
  obtain⟨⟨hm,hon⟩,hpre⟩:=hc
  obtain⟨tr,V,hg,hV,hk⟩:=ag9 (avs:=[]) h ⟨rfl,λj a hj=>by simp at hj⟩
  rw[g7_] at hV
  have hb:Base s.objs.length ops (s.objs++List.replicate ops.length .unborn):=⟨by simp,λo h1 h2=>by
    rw[d0_ h1,j9_]
    rw[a8_,f5_] at h2
    rw[if_pos (by omega)]⟩
  have hlen:=(nf_ hg).1
  refine⟨_,hk,hm,λd hd => ?_,λ{ro S0 hv0 ob0 Fm f w N} hr kont => ?_⟩
  · show (match go_ d (ops.map (·.dst)) 0 with
      | none=>s.slot d
      | some j=>(V[j]?).getD (.b .dead))=s.slot d
    rw[an6 hd]
  obtain⟨S,hv,Ds,hle,hag,hbl,hs,hdsf⟩:=hr
  have hs0:=hs.ext ops.length
  have hob:BLe ob0 (s.objs++List.replicate ops.length .unborn):=hbl.trans λ_=>vm_
  intro Q a ha
  let don:Array Bool→Nat→Bool:=λlisted i=>listed.getD i false
  refine⟨(λlisted a w=>∃ (f':Fr) (S':PH) (hv':Nat→Value),Fits n a f'∧Cl ops (don listed) ∧
      Dy S0 hv0 ob0 (ai8 Ds::Fm) (ck7 Ds) s.slot (ops.map (·.dst)) (s.objs++List.replicate ops.length .unborn) (cur s.objs.length (s.objs++List.replicate ops.length .unborn) tr (don listed)) (nl_ s.slot (ops.map (·.dst)) tr (don listed)) S' hv' f' w),?_,?_,?_⟩
  · refine⟨f,S,hv,ha,?_,?_⟩
    · have e:don (Array.replicate ops.length false)=λ_=>false:=by
        funext i
        show (Array.replicate ops.length false).getD i false=false
        simp only[a9_,h1_]
        split<;>rfl
      rw[e]
      exact be2
    · have e:don (Array.replicate ops.length false)=λ_=>false:=by
        funext i
        show (Array.replicate ops.length false).getD i false=false
        simp only[a9_,h1_]
        split<;>rfl
      rw[e,bz3]
      refine⟨hle,hag,hs0.inv.world rfl rfl λ_ _ h=>h,λx => ?_,λx => ?_,hs0.wfo,Keep.refl _,hdsf,hs0.gl⟩
      · unfold nl_
        cases go_ x (ops.map (·.dst)) 0<;>exact hs0.rel x
      · unfold nl_
        cases go_ x (ops.map (·.dst)) 0<;>exact hs0.wfs x
  · rintro listed a w i hsz ⟨f',S',hv',hfit,hcl,hD⟩ hi
    have hm':=d1_.1 hi
    have hir:i<ops.length:=by simpa using hm'.1
    have h2:=hm'.2
    rw[a2_] at h2
    have hlt:i<listed.size:=by rw[hsz];simpa using hir
    have hun:don listed i=false:=by
      have:=h2.1
      show listed.getD i false=false
      simpa [a9_,d4_ hlt] using this
    have ho:ops[i]?=some (ops[i]'hir):=a7_ hir
    generalize ops[i]'hir=o at ho
    have hpr:∀ p ∈ ck_ o,don listed p=true:=by
      intro p hp
      have:=h2.2
      simp only[e2_,ho,g6_,e5_] at this
      unfold ck_ at hp
      obtain⟨e,he,rfl⟩:=d8_.1 hp
      obtain⟨he1,he2⟩:=d1_.1 he
      rw[j3_] at this
      have:=this e (by simpa using he1)
      rw[he2] at this
      show listed.getD e.on false=true
      simpa [a9_] using this
    have hset:(λj=>Nat.beq j i||don listed j)=don (listed.setIfInBounds i true):=by
      funext j
      show (Nat.beq j i||listed.getD j false)=(listed.setIfInBounds i true).getD j false
      by_cases hj:j=i
      · subst hj
        rw[i1_]
        simp[a9_,k1_,hlt]
      · rw[xy_ hj]
        simp[a9_,h5_ (o6_ hj)]
    have hres:=dy_op (ro:=ro) hg hb hpre rfl hon hs0.wfs hob hcl ho hun hpr hD a hfit Q
    refine wpOpIn_mono ?_ hres
    rintro a' w' ⟨f'',hfit',S'',hv'',hD'⟩
    rw[hset] at hD'
    exact⟨f'',S'',hv'',hfit',by rw[← hset];exact (hcl.step ho hpr).2,hD'⟩
  · rintro listed a w hsz ⟨f',S',hv',hfit,hcl,hD⟩ hnil
    have hall:∀ i,i<ops.length→don listed i=true:=by
      intro i
      induction i using Nat.strongRecOn with
      | _ i ih =>
        intro hir
        cases hd:don listed i with
        | true=>rfl
        | false =>
          exfalso
          have ho:ops[i]?=some (ops[i]'hir):=a7_ hir
          have hmem:i ∈ Region.ready .any ops.toArray listed:=by
            unfold Region.ready
            refine d1_.2 ⟨by simpa using hir,?_⟩
            rw[a2_]
            constructor
            · have hlt:i<listed.size:=by rw[hsz];simpa using hir
              have hd':listed.getD i false=false:=hd
              simpa [a9_,d4_ hlt] using hd'
            · simp only[e2_,ho,g6_,e5_]
              rw[j3_]
              intro e he
              cases hb:Region.binds .any e with
              | false=>rfl
              | true =>
                have hp:e.on ∈ ck_ (ops[i]'hir):=d8_.2 ⟨e,d1_.2 ⟨by simpa using he,hb⟩,rfl⟩
                have hlt:=rp_ hpre ho e.on hp
                have:=ih e.on (by omega) (by omega)
                have this:listed.getD e.on false=true:=this
                simpa [a9_] using this
          rw[hnil] at hmem
          cases hmem
    have hcur:cur s.objs.length (s.objs++List.replicate ops.length .unborn) tr (don listed)=sz_ (s.objs++List.replicate ops.length .unborn) tr:=by
      have e1:=ca3 hg hb hpre (t:=ops.length) (c4_ _)
      unfold Cat at e1
      rw[g9_ (by omega)] at e1
      rw[e1]
      unfold cur
      refine n4_ λo _ => ?_
      congr 1
      refine ov_ λi q hq _ => ?_
      have:=(a3_.1 hq).1
      rw[b0_,hall i (by omega),mf_.2 (by omega)]
    have hslot:∀ (d:Nat) (av:AV),av=(match go_ d (ops.map (·.dst)) 0 with
      | none=>s.slot d
      | some j=>(V[j]?).getD (.b .dead))→RA hv' S' av (f' d)∧av.lt (sz_ (s.objs++List.replicate ops.length .unborn) tr)=true:=by
      rintro d av rfl
      have h1:=hD.rel d
      have h2:=hD.wfs d
      rw[hcur] at h2
      unfold nl_ at h1 h2
      cases hx:go_ d (ops.map (·.dst)) 0 with
      | none=>rw[hx] at h1 h2;exact⟨h1,h2⟩
      | some j =>
        rw[hx] at h1 h2
        obtain⟨k,e,hk⟩:=mq_ hx
        rw[b0_] at e
        subst e
        have hj:j<ops.length:=by
          have:=(a3_.1 hk).1
          simpa using this
        have h1:RA hv' S' (cond (don listed j) (bk5 tr j) (s.slot d)) (f' d):=h1
        have h2:(cond (don listed j) (bk5 tr j) (s.slot d)).lt _=true:=h2
        rw[hall j hj] at h1 h2
        have h1:RA hv' S' (bk5 tr j) (f' d):=h1
        have h2:(bk5 tr j).lt _=true:=h2
        show RA hv' S' ((V[j]?).getD (.b .dead)) (f' d)∧((V[j]?).getD (.b .dead)).lt _=true
        cases hq:V[j]? with
        | none=>exact⟨trivial,rfl⟩
        | some a =>
          obtain⟨a0,h0⟩:=ax3 hV hq
          have e0:bk5 tr j=a0:=by
            refine aw2 (i:=tr.length) ?_
            rw[d7_]
            exact h0
          rw[e0] at h1 h2
          exact⟨ax2 hV hq h0 h1,cq0 hV hq h0 h2⟩
    refine⟨f',hfit,kont f' w ⟨S',hv',Ds,hD.le,hD.ag,?_,⟨?_,λd=>(hslot d _ rfl).1,λd=>(hslot d _ rfl).2,?_,hD.gl⟩,hD.ds⟩ ?_⟩
    · intro o ho
      have h3:=hob o ho
      have hl:=be7 h3
      show born (sz_ _ tr) o=true
      rw[← hcur]
      have h0:o<s.objs.length:=by
        apply Nat.lt_of_not_le
        intro hge
        rw[ba_,hb.un o hge hl] at h3
        obtain⟨a,h1,h2⟩:=h3
        cases h1
        exact h2 rfl
      rw[sd_ hg hb hpre h0]
      exact h3
    · have:=hD.inv
      rw[hcur] at this
      exact this
    · have:=hD.wfo
      rw[hcur] at this
      exact this
    · have:=hD.keep
      rw[hcur] at this
      exact keep_ext.trans this
theorem regD_ok {ops:List Oper} {s:A} {k:A→Option ρ} (h:regD cx n ops s k=some r) :
    ∃ s',k s'=some r∧(∀ d,inL d (la_ ops)=false→s'.slot d=s.slot d) ∧
    ∀ {ro:Option Nat} {S0:PH} {hv0:Nat→Value} {ob0:List AO} {Fm:List HP} {f:Fr} {w:World} {id:Nat} {N R:Fr→World→Prop} {X:Nat→Fr→World→Prop},
      Rl S0 hv0 ob0 Fm s f w→(∀ f' w',Rl S0 hv0 ob0 Fm s' f' w'→Keep s.objs s'.objs→N f' w')→WP P n ro (.region id ops.toArray true) N R X f w:=by
  obtain⟨s',h1,hm,h2,h3⟩:=bp4 h
  exact⟨s',h1,h2,λhr kont=>bl4 hm (h3 hr kont)⟩
end
end
section
variable [Gb]
theorem mskA_lt (a:AV):(mskA a).lt []=true:=by
  unfold mskA
  cases h:a.lt [] with
  | true=>exact h
  | false=>rfl
theorem mskA_ra {hv:Nat→Value} {S:PH} {a:AV} {v:Value} (h:RA hv S a v):RA hv S (mskA a) v:=by
  unfold mskA
  cases a.lt [] with
  | true=>exact h
  | false=>trivial
theorem ag_nil {a b:Nat→Value}:Ag [] a b:=λi h=>by cases h
section
variable {P:Program} [Tb P] {n:Nat} {sl:Nat→AV} {dsts:List (Option Nat)} {tab:List (List Nat)}
structure RanQ (P:Program) [Tb P] (n:Nat) (sl:Nat→AV) (dsts:List (Option Nat)) (tab:List (List Nat)) (o:Oper) (anc:List Nat) (V:List AV) (av:AV):Prop where
  dst:ew_ n o.dst=true
  lt:av.lt []=true
  run:∃ ob,OpUn P o (envQ sl dsts tab anc V) [] av ob
def cp7 (P:Program) [Tb P] (n:Nat) (sl:Nat→AV) (dsts:List (Option Nat)) (tab:List (List Nat)) (o:Oper) (anc:List Nat) (avs:List AV) (av:AV):Prop :=
  ∃ V,VOk V avs∧match o.guard with
    | none=>RanQ P n sl dsts tab o anc V av
    | some (j,b)=>inL j anc=true∧dstG n dsts j=true∧∃ a0,avs[j]?=some a0∧((asD .bool a0=some b∧RanQ P n sl dsts tab o anc V av)∨((asD .bool a0=some (!b)∨unA a0=true)∧ew_ n o.dst=true∧av = .tup []))
def aa0 (P:Program) [Tb P] (n:Nat) (sl:Nat→AV) (dsts:List (Option Nat)) (tab:List (List Nat)):List Oper→List (List Nat)→List AV→List AV→Prop
  | [],_,_,[]=>True
  | o::os,anc::ancs,avs,q::tr=>cp7 P n sl dsts tab o anc avs q∧aa0 P n sl dsts tab os ancs (avs++[q]) tr
  | _,_,_,_=>False
theorem cg7 {ρ:Type} {cx:Cx P} {r:ρ} {o:Oper} {anc:List Nat} {vals:List AV} {k:AV→Option ρ} (h:aq8 cx n sl dsts tab o anc vals k=some r):∃ av,k av=some r∧RanQ P n sl dsts tab o anc vals av:=by
  unfold aq8 at h
  simp only[af8] at h
  obtain⟨hd,h⟩:=bv_ h
  obtain⟨av,ob,h1,h2⟩:=aa6 h
  obtain⟨hl,h1⟩:=bv_ h1
  exact⟨av,h1,hd,hl,ob,h2⟩
theorem ag8 {ρ:Type} {cx:Cx P} {r:ρ}:∀ {os:List Oper} {ancs:List (List Nat)} {vals avs:List AV} {k:List AV→Option ρ},tf_ cx n sl dsts tab os ancs vals k=some r→VOk vals avs →
    ∃ tr V,aa0 P n sl dsts tab os ancs avs tr∧VOk V (avs++tr)∧k V=some r
  | [],ancs,vals,avs,k,h,hv=>⟨[],vals,trivial,by simpa using hv,h⟩
  | o::os,[],vals,avs,k,h,hv=>by cases h
  | o::os,anc::ancs,vals,avs,k,h,hv=>by
    unfold tf_ at h
    have run:∀ (V:List AV),VOk V avs→aq8 cx n sl dsts tab o anc V (λav=>tf_ cx n sl dsts tab os ancs (V++[av]) k)=some r →
        (∀ av,RanQ P n sl dsts tab o anc V av→cp7 P n sl dsts tab o anc avs av)→∃ tr V,aa0 P n sl dsts tab (o::os) (anc::ancs) avs tr∧VOk V (avs++tr)∧k V=some r:=λV hV h hg=>by
      obtain⟨av,h1,h2⟩:=cg7 h
      obtain⟨tr,W,g1,g2,g3⟩:=ag8 h1 (hV.app av)
      exact⟨av::tr,W,⟨hg av h2,g1⟩,by simpa using g2,g3⟩
    have skip:∀ (V:List AV),VOk V avs→cond (ew_ n o.dst) (tf_ cx n sl dsts tab os ancs (V++[.tup []]) k) none=some r→(ew_ n o.dst=true→cp7 P n sl dsts tab o anc avs (.tup [])) →
        ∃ tr V,aa0 P n sl dsts tab (o::os) (anc::ancs) avs tr∧VOk V (avs++tr)∧k V=some r:=λV hV h hg=>by
      obtain⟨hd,h⟩:=bv_ h
      obtain⟨tr,W,g1,g2,g3⟩:=ag8 h (hV.app (.tup []))
      exact⟨.tup []::tr,W,⟨hg hd,g1⟩,by simpa using g2,g3⟩
    split at h
    · rename_i hg
      exact run vals hv h λav hR=>⟨vals,hv,by rw[hg];exact hR⟩
    · rename_i j b hg
      obtain⟨hj,h⟩:=bv_ h
      rw[a2_] at hj
      obtain⟨hj,hjd⟩:=hj
      obtain⟨vj,hvj,h⟩:=bnd h
      obtain⟨a0,ha0,hrel⟩:=hv.2 j vj hvj
      cases hun:unA vj with
      | true =>
        rw[hun] at h
        have hun0:unA a0=true:=by
          rcases hrel with rfl | ⟨c',h3,rfl⟩
          · exact hun
          · cases hun
        exact skip vals hv (show cond (ew_ n o.dst) _ none=some r from h) λhd=>⟨vals,hv,by rw[hg];exact⟨hj,hjd,a0,ha0,.inr ⟨.inr hun0,hd,rfl⟩⟩⟩
      | false =>
      rw[hun] at h
      obtain⟨c,hc,h⟩:=bnd (show Option.bind _ _=some r from h)
      have hc0:asD .bool a0=some c:=by
        rcases hrel with rfl | ⟨c',h3,rfl⟩
        · exact hc
        · have h4:asD .bool (bV c')=some c':=rfl
          rw[h4] at hc
          cases hc
          exact h3
      have hV:=hv.set hvj hc
      have go:∀ c',c'=c→c'=b→aq8 cx n sl dsts tab o anc (vals.set j (bV c')) (λav=>tf_ cx n sl dsts tab os ancs (vals.set j (bV c')++[av]) k)=some r→_:=λc' e e2 h =>
        run (vals.set j (bV c')) (by rw[e];exact hV) h λav hR=>⟨vals.set j (bV c'),by rw[e];exact hV,by rw[hg];exact⟨hj,hjd,a0,ha0,.inl ⟨hc0.trans (congrArg some (e.symm.trans e2)),hR⟩⟩⟩
      have no:∀ c',c'=c→c' = !b→cond (ew_ n o.dst) (tf_ cx n sl dsts tab os ancs (vals.set j (bV c')++[.tup []]) k) none=some r→_:=λc' e e2 h =>
        skip (vals.set j (bV c')) (by rw[e];exact hV) h λhd=>⟨vals.set j (bV c'),by rw[e];exact hV,by rw[hg];exact⟨hj,hjd,a0,ha0,.inr ⟨.inl (hc0.trans (congrArg some (e.symm.trans e2))),hd,rfl⟩⟩⟩
      cases c with
      | true=>cases b with
        | true=>exact go true rfl rfl h
        | false=>exact no true rfl rfl h
      | false=>cases b with
        | true=>exact no false rfl rfl h
        | false=>exact go false rfl rfl h
theorem rz_:∀ {os:List Oper} {ancs:List (List Nat)} {avs tr:List AV},aa0 P n sl dsts tab os ancs avs tr →
    tr.length=os.length∧∀ (t:Nat) (o:Oper),os[t]?=some o→∃ anc q,ancs[t]?=some anc∧tr[t]?=some q∧cp7 P n sl dsts tab o anc (avs++tr.take t) q
  | [],_,_,[],_=>⟨rfl,λt o h=>by simp at h⟩
  | [],_,_,_::_,h=>h.elim
  | _::_,[],_,_,h=>h.elim
  | _::_,_::_,_,[],h=>h.elim
  | o::os,anc::ancs,avs,q::tr,h=>by
    obtain⟨h1,h2⟩:=rz_ h.2
    refine⟨by simp[h1],λt p hp => ?_⟩
    cases t with
    | zero =>
      simp at hp
      subst hp
      exact⟨anc,q,rfl,rfl,by simpa using h.1⟩
    | succ t =>
      obtain⟨a,x,e1,e2,g⟩:=h2 t p (by simpa using hp)
      refine⟨a,x,by simpa using e1,by simpa using e2,?_⟩
      simpa using g
end
def avQ (tr:List AV) (j:Nat):AV:=(tr[j]?).getD (.b .dead)
def ic_ (sl:Nat→AV) (dsts:List (Option Nat)) (tr:List AV) (d:Nat→Bool) (x:Nat):AV:=match go_ x dsts 0 with
  | none=>sl x
  | some j=>cond (d j) (avQ tr j) (sl x)
section
variable {P:Program} [Tb P] {n:Nat} {sl:Nat→AV} {dsts:List (Option Nat)} {tab:List (List Nat)} {os:List Oper} {tr:List AV} {ro:Option Nat} {S0:PH} {hv0:Nat→Value} {ob0 objs:List AO} {Fm:List HP}
theorem takeQ {i j:Nat} {a0:AV} (h:(tr.take i)[j]?=some a0):avQ tr j=a0:=by
  rw[j2_] at h
  split at h
  · unfold avQ;rw[h];rfl
  · cases h
theorem xw_ {d:Nat→Bool} (hon:sy_ dsts=true) (hds:dsts=os.map (·.dst)) {i:Nat} {o:Oper} {q:AV} (ho:os[i]?=some o) (hq:tr[i]?=some q) (x:Nat) :
    ic_ sl dsts tr (λj=>Nat.beq j i||d j) x=if o.dst=some x then q else ic_ sl dsts tr d x:=by
  unfold ic_
  cases hx:go_ x dsts 0 with
  | none =>
    have:=zn_ hx i
    rw[hds,d6_,ho] at this
    have hne:¬ o.dst=some x:=λe=>this (by rw[← e];rfl)
    rw[if_neg hne]
  | some j =>
    obtain⟨k,e,hk⟩:=mq_ hx
    rw[b0_] at e
    subst e
    show cond (Nat.beq j i||d j) (avQ tr j) (sl x)=_
    by_cases e:j=i
    · subst e
      have:o.dst=some x:=by
        rw[hds,d6_,ho] at hk
        exact a5_ hk
      rw[if_pos this,i1_]
      show avQ tr j=q
      unfold avQ
      rw[hq]
      rfl
    · have hne:¬ o.dst=some x:=λe2=>by
        have h3:dsts[i]?=some (some x):=by rw[hds,d6_,ho,← e2];rfl
        exact e (ba0 hon hk h3)
      rw[if_neg hne,xy_ e,k0_]
theorem dq_op (hg:aa0 P n sl dsts (le_ os []) os (le_ os []) [] tr) (hpre:sw_ os 0=true) (hds:dsts=os.map (·.dst)) (hon:sy_ dsts=true) {d:Nat→Bool} (hd:Cl os d) {i:Nat} {p:Oper} (ho:os[i]?=some p) (hi:d i=false) (hw:∀ j ∈ ck_ p,d j=true)
    {f:Fr} {w:World} (D:Rl S0 hv0 ob0 Fm ⟨ic_ sl dsts tr d,objs⟩ f w) :
    OPg P n ro os.toArray i f w λf' w'=>Rl S0 hv0 ob0 Fm ⟨ic_ sl dsts tr (λj=>Nat.beq j i||d j),objs⟩ f' w':=by
  obtain⟨anc,q,ha,hq,V,hV,hgo⟩:=(rz_ hg).2 i p ho
  rw[g7_] at hV
  obtain⟨hanc',_⟩:=hd.step ho hw
  have hanc:=hanc' anc ha
  have hoa:os.toArray[i]?=some p:=by simpa using ho
  obtain⟨S,hv,Ds,hle,hag,hbl,hs,hdsf⟩:=D
  have fin:∀ (S':PH) (v:Value) (w':World),S.Le S'→RA hv S' q v→q.lt []=true→Inv w' S' (OHs hv 0 objs++(ai8 Ds::Fm))→Rl S0 hv0 ob0 Fm ⟨ic_ sl dsts tr (λj=>Nat.beq j i||d j),objs⟩ (vu_ f p.dst v) w':=by
    intro S' v w' hle' hr hl hI
    refine⟨S',hv,Ds,hle.trans hle',hag,hbl,⟨hI,λx => ?_,λx => ?_,hs.wfo,hs.gl.mono hle'⟩,by rw[so_];exact hdsf⟩
    · show RA hv S' (ic_ sl dsts tr (λj=>Nat.beq j i||d j) x) (vu_ f p.dst v x)
      rw[xw_ hon hds ho hq]
      by_cases e:p.dst=some x
      · rw[if_pos e,e]
        show RA hv S' q (upd f x v x)
        rw[pd_]
        exact hr
      · rw[if_neg e]
        have:vu_ f p.dst v x=f x:=by
          cases hp:p.dst with
          | none=>rfl
          | some y =>
            rw[hp] at e
            exact vt_ f y v λh=>e (by rw[h])
        rw[this]
        exact RA.mono hle' (hs.rel x)
    · show (ic_ sl dsts tr (λj=>Nat.beq j i||d j) x).lt objs=true
      rw[xw_ hon hds ho hq]
      by_cases e:p.dst=some x
      · rw[if_pos e]
        exact AV.lt_mono (λo h=>by cases h) hl
      · rw[if_neg e]
        exact hs.wfs x
  have ran:RanQ P n sl dsts (le_ os []) p anc V q→OP P n ro p f w λf' w'=>Rl S0 hv0 ob0 Fm ⟨ic_ sl dsts tr (λj=>Nat.beq j i||d j),objs⟩ f' w':=by
    rintro⟨hdo,hl,ob,hun⟩
    have hrel:∀ x,RA hv S (envQ sl dsts (le_ os []) anc V x) (f x):=by
      intro x
      refine mskA_ra ?_
      have h0:=hs.rel x
      have h0:RA hv S (ic_ sl dsts tr d x) (f x):=h0
      unfold ic_ at h0
      unfold ce9
      cases hx:go_ x dsts 0 with
      | none=>rw[hx] at h0;exact h0
      | some j =>
        rw[hx] at h0
        show RA hv S (cond (inL j anc) ((V[j]?).getD (.b .dead)) (cond (inL V.length (((le_ os [])[j]?).getD [])) (sl x) (.b .dead))) (f x)
        cases hj:inL j anc with
        | false =>
          cases hb:inL V.length (((le_ os [])[j]?).getD []) with
          | false=>trivial
          | true =>
            have hVl:V.length=i:=by
              have h1:=hV.1
              have h2:=(rz_ hg).1
              have h3:=(a3_.1 ho).1
              rw[h1,c6_]
              omega
            rw[hVl] at hb
            have h0:RA hv S (cond (d j) (avQ tr j) (sl x)) (f x):=h0
            rw[bb0 hd hi j hb] at h0
            exact h0
        | true =>
          have h0:RA hv S (cond (d j) (avQ tr j) (sl x)) (f x):=h0
          rw[hanc j hj] at h0
          have h0:RA hv S (avQ tr j) (f x):=h0
          show RA hv S ((V[j]?).getD (.b .dead)) (f x)
          cases hvj:V[j]? with
          | none=>trivial
          | some a =>
            obtain⟨a0,e0⟩:=ax3 hV hvj
            rw[takeQ e0] at h0
            exact ax2 hV hvj e0 h0
    have hsit:Sit S hv (OHs hv 0 objs++(ai8 Ds::Fm)) (envQ sl dsts (le_ os []) anc V) [] f w:=⟨hs.inv,hrel,λx=>mskA_lt _,λa h=>(by cases h),hs.gl⟩
    refine hun hsit hdo λv S' hv' w' _ _ _ _ hle' _ hr hI => ?_
    exact fin S' v w' hle' (RA.ag (n:=[]) ag_nil hl hr) hl (rx_ hI)
  split at hgo
  · rename_i hgd
    exact wr_ hoa hgd (ran hgo)
  · rename_i j b hgd
    obtain⟨hja,hdg,a0,ha0,hgo⟩:=hgo
    rw[g7_] at ha0
    unfold dstG at hdg
    split at hdg
    · rename_i dd hdd
      have hdj:=hanc j hja
      have hrel:RA hv S a0 (f dd):=by
        have:=hs.rel dd
        have this:RA hv S (ic_ sl dsts tr d dd) (f dd):=this
        unfold ic_ at this
        rw[af1 hon hdd] at this
        have this:RA hv S (cond (d j) (avQ tr j) (sl dd)) (f dd):=this
        rw[hdj] at this
        have this:RA hv S (avQ tr j) (f dd):=this
        rw[takeQ ha0] at this
        exact this
      have hjd:(os.toArray[j]?).bind (·.dst)=some dd:=by
        rw[hds,d6_] at hdd
        rw[e2_]
        cases hq:os[j]? with
        | none=>rw[hq] at hdd;cases hdd
        | some o=>rw[hq] at hdd;exact a5_ hdd
      rcases hgo with ⟨hcb,hR⟩ | ⟨hcb,hdo,hav⟩
      · exact am2 hoa hgd hjd hdg (en_ hrel hcb) rfl (ran hR)
      · have hK:=fin S undef w (PH.Le.refl S) (by rw[hav];exact un_ra) (by rw[hav];rfl) hs.inv
        rcases hcb with hcb | hcb
        · exact az6 hoa hgd hjd hdg (en_ hrel hcb) rfl hdo hK
        · exact zf_ hoa hgd hjd hdg (bm3 hcb hrel) hdo hK
    · cases hdg
end
section
variable {ρ:Type} {P:Program} [Tb P] {cx:Cx P} {n:Nat} {r:ρ}
theorem regQ_ok {ops:List Oper} {s:A} {k:A→Option ρ} (h:regQ cx n ops s k=some r) :
    ∃ s',k s'=some r∧(∀ d,inL d (la_ ops)=false→s'.slot d=s.slot d) ∧
    ∀ {ro:Option Nat} {S0:PH} {hv0:Nat→Value} {ob0:List AO} {Fm:List HP} {f:Fr} {w:World} {id:Nat} {N R:Fr→World→Prop} {X:Nat→Fr→World→Prop},
      Rl S0 hv0 ob0 Fm s f w→(∀ f' w',Rl S0 hv0 ob0 Fm s' f' w'→Keep s.objs s'.objs→N f' w')→WP P n ro (.region id ops.toArray true) N R X f w:=by
  unfold regQ at h
  rw[ai6] at h
  obtain⟨hc,h⟩:=bv_ h
  rw[a2_,a2_] at hc
  obtain⟨⟨hm,hon⟩,hpre⟩:=hc
  obtain⟨tr,V,hg,hV,hk⟩:=ag8 (avs:=[]) h ⟨rfl,λj a hj=>by simp at hj⟩
  rw[g7_] at hV
  have hlen:=(rz_ hg).1
  refine⟨_,hk,λd hd => ?_,λ{ro S0 hv0 ob0 Fm f w id N R X} hr kont => ?_⟩
  · show (match go_ d (ops.map (·.dst)) 0 with
      | none=>s.slot d
      | some j=>(V[j]?).getD (.b .dead))=s.slot d
    rw[an6 hd]
  intro a ha
  refine wpIn_region_any hm ?_
  let don:Array Bool→Nat→Bool:=λlisted i=>listed.getD i false
  refine nt_ (λlisted a w=>∃ (f':Fr),Fits n a f'∧Cl ops (don listed)∧Rl S0 hv0 ob0 Fm ⟨ic_ s.slot (ops.map (·.dst)) tr (don listed),s.objs⟩ f' w) ?_ ?_ _ _ _ _ (by simp) (c7_ l5_ (by simp)) ?_
  · rintro listed a w i hsz ⟨f',hfit,hcl,hD⟩ hi
    have hm':=d1_.1 hi
    have hir:i<ops.length:=by simpa using hm'.1
    have h2:=hm'.2
    rw[a2_] at h2
    have hlt:i<listed.size:=by rw[hsz];simpa using hir
    have ho:ops[i]?=some (ops[i]'hir):=a7_ hir
    generalize ops[i]'hir=o at ho
    have hpr:∀ p ∈ ck_ o,don listed p=true:=by
      intro p hp
      have:=h2.2
      simp only[e2_,ho,g6_,e5_] at this
      unfold ck_ at hp
      obtain⟨e,he,rfl⟩:=d8_.1 hp
      obtain⟨he1,he2⟩:=d1_.1 he
      rw[j3_] at this
      have:=this e (by simpa using he1)
      rw[he2] at this
      show listed.getD e.on false=true
      simpa [a9_] using this
    have hset:(λj=>Nat.beq j i||don listed j)=don (listed.setIfInBounds i true):=by
      funext j
      show (Nat.beq j i||listed.getD j false)=(listed.setIfInBounds i true).getD j false
      by_cases hj:j=i
      · subst hj
        rw[i1_]
        simp[a9_,k1_,hlt]
      · rw[xy_ hj]
        simp[a9_,h5_ (o6_ hj)]
    have hun:don listed i=false:=by
      have:=h2.1
      show listed.getD i false=false
      simpa [a9_,d4_ hlt] using this
    have hres:=dq_op (ro:=ro) hg hpre rfl hon hcl ho hun hpr hD a hfit (Go.Proofs.YtdibamopklkilaaGreatDoor.Pad.Ends n N R X)
    refine wpOpIn_mono ?_ hres
    rintro a' w' ⟨f'',hfit',hD'⟩
    rw[hset] at hD'
    exact⟨f'',hfit',by rw[← hset];exact (hcl.step ho hpr).2,hD'⟩
  · rintro listed a w hsz ⟨f',hfit,hcl,hD⟩ hnil
    have hall:∀ i,i<ops.length→don listed i=true:=by
      intro i
      induction i using Nat.strongRecOn with
      | _ i ih =>
        intro hir
        cases hd:don listed i with
        | true=>rfl
        | false =>
          exfalso
          have ho:ops[i]?=some (ops[i]'hir):=a7_ hir
          have hmem:i ∈ Region.ready .any ops.toArray listed:=by
            unfold Region.ready
            refine d1_.2 ⟨by simpa using hir,?_⟩
            rw[a2_]
            constructor
            · have hlt:i<listed.size:=by rw[hsz];simpa using hir
              have hd':listed.getD i false=false:=hd
              simpa [a9_,d4_ hlt] using hd'
            · simp only[e2_,ho,g6_,e5_]
              rw[j3_]
              intro e he
              cases hb:Region.binds .any e with
              | false=>rfl
              | true =>
                have hp:e.on ∈ ck_ (ops[i]'hir):=d8_.2 ⟨e,d1_.2 ⟨by simpa using he,hb⟩,rfl⟩
                have hlt:=rp_ hpre ho e.on hp
                have:=ih e.on (by omega) (by omega)
                have this:listed.getD e.on false=true:=this
                simpa [a9_] using this
          rw[hnil] at hmem
          cases hmem
    obtain⟨S',hv',Ds,d1,d2,d3,d4,d5⟩:=hD
    have hslot:∀ (d:Nat) (av:AV),av=(match go_ d (ops.map (·.dst)) 0 with
      | none=>s.slot d
      | some j=>(V[j]?).getD (.b .dead))→RA hv' S' av (f' d)∧av.lt s.objs=true:=by
      rintro d av rfl
      have h1:=d4.rel d
      have h2:=d4.wfs d
      have h1:RA hv' S' (ic_ s.slot (ops.map (·.dst)) tr (don listed) d) (f' d):=h1
      have h2:(ic_ s.slot (ops.map (·.dst)) tr (don listed) d).lt s.objs=true:=h2
      unfold ic_ at h1 h2
      cases hx:go_ d (ops.map (·.dst)) 0 with
      | none=>rw[hx] at h1 h2;exact⟨h1,h2⟩
      | some j =>
        rw[hx] at h1 h2
        obtain⟨k,e,hk⟩:=mq_ hx
        rw[b0_] at e
        subst e
        have hj:j<ops.length:=by
          have:=(a3_.1 hk).1
          simpa using this
        have h1:RA hv' S' (cond (don listed j) (avQ tr j) (s.slot d)) (f' d):=h1
        have h2:(cond (don listed j) (avQ tr j) (s.slot d)).lt _=true:=h2
        rw[hall j hj] at h1 h2
        have h1:RA hv' S' (avQ tr j) (f' d):=h1
        have h2:(avQ tr j).lt _=true:=h2
        show RA hv' S' ((V[j]?).getD (.b .dead)) (f' d)∧((V[j]?).getD (.b .dead)).lt _=true
        cases hq:V[j]? with
        | none=>exact⟨trivial,rfl⟩
        | some a =>
          obtain⟨a0,h0⟩:=ax3 hV hq
          have e0:avQ tr j=a0:=by
            refine takeQ (i:=tr.length) ?_
            rw[d7_]
            exact h0
          rw[e0] at h1 h2
          exact⟨ax2 hV hq h0 h1,cq0 hV hq h0 h2⟩
    exact⟨f',hfit,kont f' w ⟨S',hv',Ds,d1,d2,d3,⟨d4.inv,λd=>(hslot d _ rfl).1,λd=>(hslot d _ rfl).2,d4.wfo,d4.gl⟩,d5⟩ (Keep.refl _)⟩
  · refine⟨f,ha,?_,?_⟩
    · have e:don (Array.replicate ops.toArray.size false)=λ_=>false:=by
        funext i
        show (Array.replicate ops.toArray.size false).getD i false=false
        simp only[a9_,h1_]
        split<;>rfl
      rw[e]
      exact be2
    · have e:don (Array.replicate ops.toArray.size false)=λ_=>false:=by
        funext i
        show (Array.replicate ops.toArray.size false).getD i false=false
        simp only[a9_,h1_]
        split<;>rfl
      rw[e]
      have e2:ic_ s.slot (ops.map (·.dst)) tr (λ_=>false)=s.slot:=by
        funext x
        unfold ic_
        cases go_ x (ops.map (·.dst)) 0<;>rfl
      rw[e2]
      obtain⟨S,hv,Ds,d1,d2,d3,d4,d5⟩:=hr
      exact⟨S,hv,Ds,d1,d2,d3,⟨d4.inv.world rfl rfl λ_ _ h=>h,d4.rel,d4.wfs,d4.wfo,d4.gl⟩,d5⟩
end
end
section
variable [Gb]
theorem xs_ {d:Nat}:∀ {os:List Oper},inL d (la_ os)=true→∃ o ∈ os,o.dst=some d
  | [],h=>by cases h
  | x::os,h=>by
    cases ho:x.dst with
    | none =>
      have h':inL d (la_ os)=true:=by simpa [la_,ho] using h
      obtain⟨o,h1,h2⟩:=xs_ h'
      exact⟨o,by simp[h1],h2⟩
    | some y =>
      have h':(Nat.beq d y||inL d (la_ os))=true:=by simpa [la_,ho,inL] using h
      rw[c9_] at h'
      rcases h' with h' | h'
      · exact⟨x,by simp,by rw[ho,a6_ h']⟩
      · obtain⟨o,h1,h2⟩:=xs_ h'
        exact⟨o,by simp[h1],h2⟩
section
variable {P:Program} [Tb P] {cx:Cx P} {n:Nat} {ro:Option Nat} {S0:PH} {hv0:Nat→Value} {ob0:List AO} {Fm:List HP}
theorem Po.refl {asg:List Nat} {s:A} {f:Fr} {w:World} (h:Rl S0 hv0 ob0 Fm s f w):Po S0 hv0 ob0 Fm asg s s f w:=⟨h,Keep.refl _,λ_ _=>rfl⟩
theorem okS_len {ob:List AO} {es:List Sp1} {o:Nat} {ks:List CK} {T:TypeId} {c:List SV} {ro:List Nat} (hok:okS ob es=true) (hm:.b o ks ∈ es) (ho:ob[o]?=some (AO.cells T c ro)):ks.length=c.length:=by
  rcases wt_ hok (mp_ hm) with ⟨af,e,hfr⟩ | ⟨ks',T,c,ro,h1,h2,h3,h4⟩ | ⟨Y,st,e⟩
  · rw[ho] at e;cases e;cases hfr
  · rw[ho] at h2
    cases h2
    have:=pr_ hok h1
    rw[pr_ hok hm] at this
    cases this
    exact h3
  · rw[ho] at e;cases e
theorem ac6 {asg:List Nat} {es:List Sp1} {mv:List Nat} {s s':A} {x:ev_ es} {f0 f:Fr} {w0 w:World} (h0:Rl S0 hv0 ob0 Fm s f0 w0) (hok:okS s.objs es=true) (hov:okV asg es=true) (hm:okM s.objs mv=true)
    (hr:Rl S0 hv0 ob0 Fm s' f w) (h4:∀ d,inL d asg=false→s'.slot d=s.slot d)
    (h5:∀ (j:Nat) (a b:AO),s.objs[j]?=some a→s'.objs[j]?=some b→(listed es j||inL j mv)=false→a≠.unborn→a≠.gone→OHeq a b)
    (hl:s.objs.length≤s'.objs.length) (h6:Kp es s.objs s'.objs) (hg:td_ es s mv s'=some x):Po S0 hv0 ob0 Fm asg s (mc_ false asg es mv s x) f w:=by
  obtain⟨S,hv,Ds,hle,hag,hbl,hs,hds⟩:=h0
  exact⟨bq2 hbl hs.wfs hs.wfo hr h4 h5 hl h6 hg,bj2 hok hm,λd hd=>wh_ hov hd⟩
inductive Out where
  | n (s:A)
  | r (s:A)
  | x (i:Nat) (s:A)
def Out.k {ρ:Type} (kN kR:A→Option ρ) (kX:Nat→A→Option ρ):Out→Option ρ
  | .n s=>kN s
  | .r s=>kR s
  | .x i s=>kX i s
def RoOk (ro:Option Nat) (c:Code):Prop:=ro≠none→ai9 c=true
theorem RoOk.s1 {ro:Option Nat} {a b:Code} (h:RoOk ro (.seq a b)):RoOk ro a:=λe=>by
  have h:(ai9 a&&ai9 b)=true:=h e
  rw[a2_] at h
  exact h.1
theorem RoOk.s2 {ro:Option Nat} {a b:Code} (h:RoOk ro (.seq a b)):RoOk ro b:=λe=>by
  have h:(ai9 a&&ai9 b)=true:=h e
  rw[a2_] at h
  exact h.2
theorem RoOk.c1 {ro:Option Nat} {q:Operand} {a b:Code} (h:RoOk ro (.cond q a b)):RoOk ro a:=RoOk.s1 (b:=b) λe=>h e
theorem RoOk.c2 {ro:Option Nat} {q:Operand} {a b:Code} (h:RoOk ro (.cond q a b)):RoOk ro b:=RoOk.s2 (a:=a) λe=>h e
theorem RoOk.b {ro:Option Nat} {i:Nat} {c:Code} (h:RoOk ro (.block i c)):RoOk ro c:=λe=>h e
theorem RoOk.l {ro:Option Nat} {c:Code} (h:RoOk ro (.loop c)):RoOk ro c:=λe=>h e
def To (P:Program) [Tb P] (n:Nat) (c:Code) (s:A) (o:Out):Prop:=∀ {ro:Option Nat} {S0:PH} {hv0:Nat→Value} {ob0:List AO} {Fm:List HP} {f:Fr} {w:World},RoOk ro c→Rl S0 hv0 ob0 Fm s f w →
  WP P n ro c (λf' w'=>∃ s',o = .n s'∧Po S0 hv0 ob0 Fm (gk_ c) s s' f' w') (λf' w'=>∃ s',o = .r s'∧Po S0 hv0 ob0 Fm (gk_ c) s s' f' w') (λi f' w'=>∃ s',o = .x i s'∧Po S0 hv0 ob0 Fm (gk_ c) s s' f' w') f w
def bj1 {σ τ:Type} (body:σ→Option (σ⊕τ)):Nat→σ→σ
  | 0,d=>d
  | k+1,d=>match body d with
    | some (.inl d')=>bj1 body k d'
    | _=>d
theorem an2 {σ τ:Type} {body:σ→Option (σ⊕τ)} {out:τ}:∀ {k:Nat} {d:σ},gr_ body k d=some out→body (bj1 body k d)=some (.inr out)
  | 0,d,h=>by simp[gr_] at h
  | k+1,d,h=>by
    unfold gr_ at h
    unfold bj1
    cases hb:body d with
    | none=>rw[hb] at h;cases h
    | some o=>cases o with
      | inl d'=>rw[hb] at h;exact an2 (k:=k) h
      | inr r=>rw[hb] at h;simp only;rw[hb];cases h;rfl
theorem sx_ {c:Operand} {a b:Code} {s s':A} {f:Fr} {w:World} (h:Po S0 hv0 ob0 Fm (gk_ a) s s' f w∨Po S0 hv0 ob0 Fm (gk_ b) s s' f w):Po S0 hv0 ob0 Fm (gk_ (.cond c a b)) s s' f w:=by
  rcases h with h | h
  · exact h.sub λd hd=>by rw[gk_,xe_,c2_] at hd;exact hd.1
  · exact h.sub λd hd=>by rw[gk_,xe_,c2_] at hd;exact hd.2
theorem av0:∀ (ns:List Nm) (s:A),(frzN s ns).slot=s.slot∧Keep s.objs (frzN s ns).objs∧∀ {S0:PH} {hv0:Nat→Value} {ob0:List AO} {Fm:List HP} {f:Fr} {w:World},Rl S0 hv0 ob0 Fm s f w→Rl S0 hv0 ob0 Fm (frzN s ns) f w
  | [],s=>⟨rfl,Keep.refl _,λh=>h⟩
  | p::ps,s=>by
    unfold frzN
    cases hl:bk6 s p with
    | none=>exact av0 ps s
    | some o =>
      obtain⟨a,b,c⟩:=av0 ps ⟨s.slot,aq2 s.objs o⟩
      refine⟨a,frz1_keep.trans b,λhr=>c ?_⟩
      obtain⟨S,hv,Ds,hle,hag,hbl,hs,hds⟩:=hr
      obtain⟨S1,h1,h2⟩:=bx3 (o:=o) hs.inv
      exact⟨S1,hv,Ds,hle.trans h1,hag,hbl.trans frz1_ble,⟨h2,λd=>RA.mono h1 (hs.rel d),λd=>AV.lt_mono frz1_ble (hs.wfs d),bc0 hs.wfo,hs.gl.mono h1⟩,hds⟩
theorem bv8 {es:List Sp1} {mv:List Nat} {s s':A} (hok:okS s.objs es=true) (hm:okM s.objs mv=true) (hk:Keep (maskJ es mv 0 s.objs) s'.objs):Keep s.objs (Rex.unm s s').objs:=by
  intro j a ha
  obtain⟨b,hb,hK⟩:=hk j (cond (listed es j||inL j mv) (mJ a (aj0 es j)) (oh_ a)) (by rw[rv_,ha,b0_];rfl)
  refine⟨_,by have:=uy_ (l:=s.objs) hb;rw[ha] at this;exact this,?_⟩
  show K1 a (ce2 a b)
  cases hls:listed es j with
  | true =>
    rw[hls,Bool.true_or,a4_] at hK
    rcases wt_ hok hls with ⟨af,e,hfr⟩ | ⟨ks,T,c,ro,h1,h2,h3,h4⟩ | ⟨Y,st,e⟩
    · rw[ha] at e
      cases e
      exact av1 hfr
    · rw[ha] at h2
      cases h2
      rw[pr_ hok h1] at hK
      obtain⟨c2,rfl,g1,g2⟩:=(show ∃ c2:List SV,b = .cells T c2 (roC ks 0)∧c2.length=c.length∧∀ j ∈ roC ks 0,c2[j]?=c[j]? from hK)
      exact⟨c2,rfl,g1,λi hi=>g2 i (h4 i hi)⟩
    · rw[ha] at e
      cases e
      have e3:mJ (.yld Y st false) (aj0 es j) = .yld Y st false:=by cases aj0 es j<;>rfl
      rw[e3] at hK
      obtain⟨st2,rfl,_⟩:=(show ∃ st2,b=AO.yld Y st2 false∧(false=true→st2=st) from hK)
      exact⟨st2,rfl,λe=>by cases e⟩
  | false =>
    rw[hls,k0_] at hK
    cases hmv:inL j mv with
    | true =>
      have:=bj_ hm j (tc_ hmv)
      simp only[ha] at this
      split at this
      · rename_i e;cases e;trivial
      · cases this
    | false =>
      rw[hmv,a1_] at hK
      cases a with
      | unborn=>trivial
      | gone=>trivial
      | row t T l ro =>
        have h:b = .row t T l true:=hK
        subst h
        exact K1.refl _
      | map k v m ro =>
        have h:b = .map k v m true:=hK
        subst h
        exact K1.refl _
      | grid G l q ro =>
        have h:b = .grid G l q true:=hK
        subst h
        exact K1.refl _
      | fn f0 x0 y0=>exact hK
      | froz t x=>exact hK
      | yld Y st ro =>
        obtain⟨st2,rfl,h2⟩:=(show ∃ st2,b=AO.yld Y st2 true∧(true=true→st2=st) from hK)
        exact⟨st2,rfl,λ_=>h2 rfl⟩
      | cells T c ro =>
        obtain⟨c',rfl,hl,hc⟩:=(show ∃ c':List SV,b = .cells T c' (List.range c.length)∧c'.length=c.length∧∀ j ∈ List.range c.length,c'[j]?=c[j]? from hK)
        refine⟨c',rfl,hl,λi hi => ?_⟩
        by_cases hil:i<c.length
        · exact hc i (by simpa using hil)
        · rw[b3_ (by omega),b3_ (by omega)]
theorem bq1 {ρ:Type} {g:Operand} {ps:Array Nat} {assign body:Code} {ds:List Nat} {x y:An} {s:A} {kN kR:A→Option ρ} {kX:Nat→A→Option ρ} {r:ρ}
    (h:ie_ cx n (.rangeFunc g ps assign body) (.rf ds x y) ρ s kN kR kX=some r):∃ o:Out,o.k kN kR kX=some r∧To P n (.rangeFunc g ps assign body) s o:=by
  have h : cond (fd_ (fun p => Nat.blt p n) ps.toList && ai9 assign && ai9 body) (slF s.slot ds fun sl =>
        cx.callV ρ (evA s.slot g) [.b (.one (.fn s.objs.length))] (s.objs++[.yld ⟨n,ps.toList,assign,body,.p x y,sl⟩ .rdy false]) λ_ ob=>cu3 ob λob=>rfEnd s ob kN kR kX) none=some r:=h
  obtain⟨hc,h⟩:=bv_ h
  rw[cq4] at h
  simp only[af7] at h
  obtain⟨av,ob,h1,hct⟩:=cx.okV h
  have fin:∀ (o:Out) (Y':Yld) (st:YS) (rr:Bool),ob[s.objs.length]?=some (.yld Y' st rr)→st.st≠.busy →
      (st.pend=none→o = .n ⟨s.slot,ob.set s.objs.length .gone⟩)→(st.pend=some .ret→o = .r ⟨s.slot,ob.set s.objs.length .gone⟩)→(∀ i,st.pend=some (.exit i)→o = .x i ⟨s.slot,ob.set s.objs.length .gone⟩) →
      (∀ c,st.pend=some c→c = .ret∨∃ i,c = .exit i)→To P n (.rangeFunc g ps assign body) s o:=by
    intro o Y' st rr hob hst o1 o2 o3 hp ro S0 hv0 ob0 Fm f w hro hr
    obtain rfl:ro=none:=by
      cases ro with
      | none=>rfl
      | some l=>cases hro (by simp)
    obtain⟨S,hv,Ds,hle,hag,hbl,hs,hds⟩:=hr
    have main:WP P n none (.rangeFunc g ps.toList.toArray assign body) (λf' w'=>∃ s',o = .n s'∧Po S0 hv0 ob0 Fm (gk_ (.rangeFunc g ps assign body)) s s' f' w') (λf' w'=>∃ s',o = .r s'∧Po S0 hv0 ob0 Fm (gk_ (.rangeFunc g ps assign body)) s s' f' w') (λi f' w'=>∃ s',o = .x i s'∧Po S0 hv0 ob0 Fm (gk_ (.rangeFunc g ps assign body)) s s' f' w') f w:=by
      refine bk8 hs.inv λl D fn tm w₁ hsz htm hI1 => ?_
      let Y:Yld:=⟨n,ps.toList,assign,body,.p x y,ds.map λd=>(d,s.slot d)⟩
      let vy:Value:=.func (.yield l) #[] #[]
      have e0:AgN s.objs.length hv (ins hv s.objs.length vy):=ae6
      have hYlt:(AO.yld Y .rdy false).lt (s.objs++[AO.yld Y .rdy false])=true:=hf_ λp hp=>by
        obtain⟨d,_,rfl⟩:=d8_.1 hp
        exact AV.lt_mono (λ_=>jf_) (hs.wfs d)
      have hnew:born (s.objs++[AO.yld Y .rdy false]) s.objs.length=true:=ba_.2 ⟨.yld Y .rdy false,by simp,by simp⟩
      have hI2:Inv w₁ S (OHs (ins hv s.objs.length vy) 0 (s.objs++[.yld Y .rdy false])++(ai8 (D::Ds)::Fm)):=by
        have h2:Inv w₁ S (YldA (ins hv s.objs.length vy) vy Y .rdy::Dfr D::(OHs hv 0 s.objs++(ai8 Ds::Fm))):=hI1.headMap λq hq=>⟨l,D,fn,tm,rfl,hq,hsz,λd=>by
          rw[htm d]
          exact RA.ag (n:=s.objs) (e0.ag (c4_ _)) (aj8 (hf_ λp hp=>by
            obtain⟨d,_,rfl⟩:=d8_.1 hp
            exact hs.wfs d) d) (cq3 (f:=λi=>f i) (λp hp=>by
            obtain⟨d,_,rfl⟩:=d8_.1 hp
            exact hs.rel d) d)⟩
        rw[OHs.app,← bf5 e0 (c4_ _) hs.wfo]
        show Inv w₁ S ((OHs hv 0 s.objs++[OH _ (ins hv s.objs.length vy (0+s.objs.length)) _])++_)
        rw[b0_,cx_]
        have h3:Inv w₁ S (Dfr D::ai8 Ds::(YldA (ins hv s.objs.length vy) vy Y .rdy::(OHs hv 0 s.objs++Fm))):=by
          refine h2.perm ?_
          refine (List.Perm.swap _ _ _).trans (List.Perm.cons _ ?_)
          exact (List.Perm.cons _ f0_).trans (List.Perm.swap _ _ _)
        have h4:(YldA (ins hv s.objs.length vy) vy Y .rdy::(OHs hv 0 s.objs++Fm)).Perm ((OHs hv 0 s.objs++[YldA (ins hv s.objs.length vy) vy Y .rdy])++Fm):=by
          rw[b5_]
          exact List.perm_middle.symm
        exact h3.consD.perm ((List.Perm.cons _ h4).trans List.perm_middle.symm)
      have hwo:WfO (s.objs++[.yld Y .rdy false]):=λa ha=>by
        rcases b8_.1 ha with h1 | h1
        · exact AO.lt_mono (λ_=>jf_) (hs.wfo a h1)
        · simp at h1;subst h1;exact hYlt
      obtain⟨kf,cap,e1,hk,hcall⟩:=hct (vs:=[vy]) hs.gl hI2 hwo (RA.ag (n:=s.objs) (e0.ag (c4_ _)) (ig_ hs.wfs g) (hs.ev g)) ⟨⟨rfl,(cx_ _ _ _).symm⟩,trivial⟩ (λa ha=>by simp at ha;subst ha;exact hnew)
      refine⟨kf,[],cap,e1,hk,hcall.mono λe w' ⟨v,S',hv',he,b1,b2,b3,b4,b5,b6,b7,b8⟩ => ?_⟩
      obtain⟨L,p1,p2⟩:=OHs.focus (hv:=hv') (i:=0) hob
      rw[b0_] at p1 p2
      have hI3:Inv w' S' (YldA hv' (hv' s.objs.length) Y' st::(L++(ai8 (D::Ds)::Fm))):=b8.perm (p1.append_right _)
      obtain⟨q,⟨l',D',fn',tm',e2,e3,_,_⟩,hI4⟩:=hI3.open_
      have e4:l'=l:=by
        have h5:=b6 s.objs.length hnew
        rw[cx_,e2] at h5
        have h6:vy = .func (.yield l') #[] #[]:=h5
        injection h6 with h7
        injection h7 with h8
        exact h8.symm
      subst e4
      have hI5:Inv w' S' (ai7 l' (rn_ fn' tm' Y'.ps.toArray Y'.assign Y'.body D' st.st st.pend)::(L++(ai8 (D::Ds)::Fm))):=Inv.shut (A:=ai7 _ _) hI4 e3
      refine⟨v,_,he,hI5.obj,hst,?_⟩
      have hI6:=(hI5.setObj (.loop { rn_ fn' tm' Y'.ps.toArray Y'.assign Y'.body D' st.st st.pend with state:=.exhausted })).drop
      have hI7:=(ne_ hI6).perm ((p2 .gone).symm.append_right (ai8 (D::Ds)::Fm))
      have hb0:BLe s.objs ob:=λ_ h=>b1 _ (jf_ h)
      have hbo:BLe s.objs (ob.set s.objs.length .gone):=hb0.trans (bl_ (by simp))
      have hrl:Rl S0 hv0 ob0 Fm ⟨s.slot,ob.set s.objs.length .gone⟩ (Pad.mark f D) { w' with heap:=w'.heap.setIfInBounds l' (.loop { rn_ fn' tm' Y'.ps.toArray Y'.assign Y'.body D' st.st st.pend with state:=.exhausted }) } :=
        ⟨S',hv',D::Ds,hle.trans b5,hag.trans ((e0.ag (c4_ _)).sub hbl |>.trans (b6.sub (hbl.trans λ_=>jf_))),hbl.trans hbo,⟨hI7,λd=>RA.mono b5 (RA.ag b6 (AV.lt_mono (λ_=>jf_) (hs.wfs d)) (RA.ag (n:=s.objs) (e0.ag (c4_ _)) (hs.wfs d) (hs.rel d))),λd=>AV.lt_mono hbo (hs.wfs d),ej_ (by simp) b3 rfl,hs.gl.mono b5⟩,mark_ds hds⟩
      have hpo:Po S0 hv0 ob0 Fm (gk_ (.rangeFunc g ps assign body)) s ⟨s.slot,ob.set s.objs.length .gone⟩ (Pad.mark f D) { w' with heap:=w'.heap.setIfInBounds l' (.loop { rn_ fn' tm' Y'.ps.toArray Y'.assign Y'.body D' st.st st.pend with state:=.exhausted }) } :=
        ⟨hrl,λj a ha=>by
          have hj:=(a3_.1 ha).1
          obtain⟨b,g1,g2⟩:=b2 j a (by rw[b2_ hj];exact ha)
          exact⟨b,by rw[b6_ (by omega)];exact g1,g2⟩,λ_ _=>rfl⟩
      suffices hj:∀ pe,st.pend=pe→Jumps _ _ _ _ _ pe from hj _ rfl
      intro pe hpe
      cases pe with
      | none=>exact⟨_,o1 hpe,hpo⟩
      | some c =>
        rcases hp c hpe with rfl | ⟨i,rfl⟩
        · exact⟨_,o2 hpe,hpo⟩
        · exact⟨_,o3 i hpe,hpo⟩
    simpa using main
  unfold rfEnd at h1
  split at h1
  · rename_i Y' rr hob
    exact⟨.n _,h1,fin _ Y' .rdy rr hob (by simp[YS.st]) (λ_=>rfl) (λe=>by cases e) (λi e=>by cases e) λc e=>by cases e⟩
  · rename_i Y' rr hob
    exact⟨.r _,h1,fin _ Y' .ret rr hob (by simp[YS.st]) (λe=>by cases e) (λ_=>rfl) (λi e=>by cases e) λc e=>by cases e;exact .inl rfl⟩
  · rename_i Y' i rr hob
    exact⟨.x i _,h1,fin _ Y' (.ex i) rr hob (by simp[YS.st]) (λe=>by cases e) (λe=>by cases e) (λj e=>by cases e;rfl) λc e=>by cases e;exact .inr ⟨i,rfl⟩⟩
  · cases h1
theorem xq_:∀ (c:Code) (an:An) (ρ:Type) (s:A) (kN kR:A→Option ρ) (kX:Nat→A→Option ρ) (r:ρ),ie_ cx n c an ρ s kN kR kX=some r→∃ o:Out,o.k kN kR kX=some r∧To P n c s o:=by
  intro c
  induction c with
  | skip=>intro an ρ s kN kR kX r h;exact⟨.n s,h,λ_ hr=>mv_ ⟨s,rfl,Po.refl hr⟩⟩
  | ret=>intro an ρ s kN kR kX r h;exact⟨.r s,h,λ_ hr=>vp_ ⟨s,rfl,Po.refl hr⟩⟩
  | exit i=>intro an ρ s kN kR kX r h;exact⟨.x i s,h,λ_ hr=>uw_ ⟨s,rfl,Po.refl hr⟩⟩
  | block i c ih =>
    intro an ρ s kN kR kX r h
    obtain⟨o,ho,hto⟩:=ih an ρ s kN kR _ r h
    cases o with
    | n s'=>exact⟨.n s',ho,λhro hr=>gp_ ((hto hro.b hr).mono (λf w h=>h) (λf w h=>h) λj f w ⟨q,e,_⟩=>by cases e)⟩
    | r s'=>exact⟨.r s',ho,λhro hr=>gp_ ((hto hro.b hr).mono (λf w ⟨q,e,_⟩=>by cases e) (λf w h=>h) λj f w ⟨q,e,_⟩=>by cases e)⟩
    | x j s' =>
      have ho:cond (Nat.beq j i) (kN s') (kX j s')=some r:=ho
      cases hb:Nat.beq j i with
      | true =>
        rw[hb] at ho
        exact⟨.n s',ho,λhro hr=>gp_ ((hto hro.b hr).mono (λf w ⟨q,e,_⟩=>by cases e) (λf w ⟨q,e,_⟩=>by cases e) λj' f w ⟨q,e,hp⟩=>by
          cases e
          rw[hb]
          exact⟨s',rfl,hp⟩)⟩
      | false =>
        rw[hb] at ho
        exact⟨.x j s',ho,λhro hr=>gp_ ((hto hro.b hr).mono (λf w ⟨q,e,_⟩=>by cases e) (λf w ⟨q,e,_⟩=>by cases e) λj' f w ⟨q,e,hp⟩=>by
          cases e
          rw[hb]
          exact⟨s',rfl,hp⟩)⟩
  | cond c a b iha ihb =>
    intro an ρ s kN kR kX r h
    obtain⟨q,hq,h⟩:=bnd h
    have hc:∀ {S0:PH} {hv0:Nat→Value} {ob0:List AO} {Fm:List HP} {f:Fr} {w:World},Rl S0 hv0 ob0 Fm s f w→ev f c = .bool q:=λhr=>by
      obtain⟨S,hv,Ds,hle,hag,hbl,hs,hds⟩:=hr
      exact en_ (hs.ev c) hq
    cases q with
    | true =>
      obtain⟨o,ho,hto⟩:=iha an.l ρ s kN kR kX r h
      exact⟨o,ho,λhro hr=>ns_ (hc hr) rfl ((hto hro.c1 hr).mono (λf w ⟨q,e,hp⟩=>⟨q,e,sx_ (.inl hp)⟩) (λf w ⟨q,e,hp⟩=>⟨q,e,sx_ (.inl hp)⟩) λi f w ⟨q,e,hp⟩=>⟨q,e,sx_ (.inl hp)⟩)⟩
    | false =>
      obtain⟨o,ho,hto⟩:=ihb an.r ρ s kN kR kX r h
      exact⟨o,ho,λhro hr=>kl_ (hc hr) rfl ((hto hro.c2 hr).mono (λf w ⟨q,e,hp⟩=>⟨q,e,sx_ (.inr hp)⟩) (λf w ⟨q,e,hp⟩=>⟨q,e,sx_ (.inr hp)⟩) λi f w ⟨q,e,hp⟩=>⟨q,e,sx_ (.inr hp)⟩)⟩
  | region i ops dr =>
    intro an ρ s kN kR kX r h
    have fin:∀ s',qf_ ops.toList kN s'=some r→∃ s'',kN s''=some r∧s''.slot=s'.slot∧Keep s'.objs s''.objs∧∀ {S0:PH} {hv0:Nat→Value} {ob0:List AO} {Fm:List HP} {f:Fr} {w:World},Rl S0 hv0 ob0 Fm s' f w→Rl S0 hv0 ob0 Fm s'' f w:=by
      intro s' h
      unfold qf_ at h
      cases hg:anyGl ops.toList with
      | false=>rw[hg] at h;exact⟨s',h,rfl,Keep.refl _,λh=>h⟩
      | true =>
        rw[hg] at h
        obtain⟨b1,b2,b3⟩:=st_ (ob:=s'.objs) s'.objs.length
        refine⟨restA s',h,rfl,b2,λ{S0 hv0 ob0 Fm f w} ⟨S,hv,Ds,d1,d2,d3,d4,d5⟩=>⟨S,hv,Ds,d1,d2,d3.trans b1,⟨ab7 d4.inv _,d4.rel,λd=>AV.lt_mono b1 (d4.wfs d),b3 d4.wfo,d4.gl⟩,d5⟩⟩
    cases dr with
    | true =>
      have h:regX cx n an ops.toList s kN=some r:=h
      have both:∃ s',kN s'=some r∧(∀ d,inL d (la_ ops.toList)=false→s'.slot d=s.slot d) ∧
          ∀ {ro:Option Nat} {S0:PH} {hv0:Nat→Value} {ob0:List AO} {Fm:List HP} {f:Fr} {w:World} {id:Nat} {N R:Fr→World→Prop} {X:Nat→Fr→World→Prop},
            Rl S0 hv0 ob0 Fm s f w→(∀ f' w',Rl S0 hv0 ob0 Fm s' f' w'→Keep s.objs s'.objs→N f' w')→WP P n ro (.region id ops.toList.toArray true) N R X f w:=by
        cases an with
        | q ns x y=>exact regQ_ok h
        | sp k m =>
          have h:regS cx n k m ops.toList s (qf_ ops.toList kN)=some r:=h
          generalize ops.toList=ops at *
          unfold regS at h
          rw[ai6] at h
          obtain⟨hc,h⟩:=bv_ h
          rw[a2_,a2_,a2_,a2_] at hc
          obtain⟨⟨⟨⟨c1,c2⟩,c3⟩,c4⟩,c5⟩:=hc
          have c1:=a6_ c1
          have c2:=a6_ c2
          obtain⟨s1,h1,hm,h2,h3⟩:=bp4 h
          obtain⟨s2,h4,L⟩:=pu_ (λo ho=>List.mem_of_mem_drop ho) h1
          obtain⟨s3,k1,k2,k3,k4⟩:=fin s2 h4
          have ht:∀ o ∈ ops.take k,o ∈ ops:=λo ho=>r1_ ho
          refine⟨s3,k1,λd hd => ?_,λ{ro S0 hv0 ob0 Fm f w id N R X} hr kont => ?_⟩
          · rw[k2,L.slot d (ah1 hd)]
            refine h2 d ?_
            cases hi:inL d (la_ (ops.take k)) with
            | false=>rfl
            | true =>
              obtain⟨o,ho,e⟩:=xs_ hi
              exact absurd e (ah1 hd o (ht o ho))
          · have e:ops.take k++ops.drop k=ops:=h2_ k ops
            have:=cf9 (R:=R) (X:=X) (id:=id) (l1:=ops.take k) (l2:=ops.drop k) (N:=N) (n:=n) (ro:=ro) (f:=f) (w:=w) hm (by rw[e,c1,c2];exact c3) (by rw[e];exact c4) (by rw[c1];exact c5)
              (h3 (N:=λf w=>WL P n ro (ops.take k++ops.drop k).toArray N (ops.drop k) f w) hr λf1 w1 hr1 kp1=>by
                rw[e]
                exact L.run hr1 λf2 w2 hr2 kp2=>kont f2 w2 (k4 hr2) ((kp1.trans kp2).trans k3))
            rw[e] at this
            exact this
        | _ =>
          obtain⟨s',h1,h2,h3⟩:=regD_ok (show regD cx n ops.toList s (qf_ ops.toList kN)=some r from h)
          obtain⟨s'',k1,k2,k3,k4⟩:=fin s' h1
          exact⟨s'',k1,λd hd=>by rw[k2];exact h2 d hd,λhr kont=>h3 hr λf' w' hr' hkp=>kont f' w' (k4 hr') (hkp.trans k3)⟩
      obtain⟨s',h1,h2,h3⟩:=both
      refine⟨.n s',h1,λ{ro S0 hv0 ob0 Fm f w} _ hr => ?_⟩
      have h4:=h3 (ro:=ro) (id:=i) (N:=λf' w'=>∃ s'',Out.n s' = .n s''∧Po S0 hv0 ob0 Fm (gk_ (.region i ops true)) s s'' f' w') (R:=λf' w'=>∃ s'',Out.n s' = .r s''∧Po S0 hv0 ob0 Fm (gk_ (.region i ops true)) s s'' f' w') (X:=λj f' w'=>∃ s'',Out.n s' = .x j s''∧Po S0 hv0 ob0 Fm (gk_ (.region i ops true)) s s'' f' w') hr λf' w' hr' hkp=>⟨s',rfl,hr',hkp,h2⟩
      simpa using h4
    | false =>
      have h:tg_ cx n ops.toList ops.toList s (qf_ ops.toList kN)=some r:=h
      obtain⟨s0,h1,L⟩:=pu_ (λo ho=>ho) h
      obtain⟨s',k1,k2,k3,k4⟩:=fin s0 h1
      refine⟨.n s',k1,λ{ro S0 hv0 ob0 Fm f w} _ hr => ?_⟩
      have h2:=bf_ (R:=λf' w'=>∃ s'',Out.n s' = .r s''∧Po S0 hv0 ob0 Fm (gk_ (.region i ops false)) s s'' f' w') (X:=λj f' w'=>∃ s'',Out.n s' = .x j s''∧Po S0 hv0 ob0 Fm (gk_ (.region i ops false)) s s'' f' w') (i:=i)
        (L.run (ro:=ro) (N:=λf' w'=>∃ s'',Out.n s' = .n s''∧Po S0 hv0 ob0 Fm (gk_ (.region i ops false)) s s'' f' w') hr λf' w' hr' hkp=>⟨s',rfl,k4 hr',hkp.trans k3,λd hd=>by rw[k2];exact L.slot d (ah1 hd)⟩)
      simpa using h2
  | seq a b iha ihb =>
    intro an ρ s kN kR kX r h
    have sa:∀ d,inL d (gk_ (.seq a b))=false→inL d (gk_ a)=false:=λd hd=>by rw[gk_,xe_,c2_] at hd;exact hd.1
    have two:∀ {s s1:A} {o:Out},(∀ {ro:Option Nat} {S0:PH} {hv0:Nat→Value} {ob0:List AO} {Fm:List HP} {f:Fr} {w:World},RoOk ro a→Rl S0 hv0 ob0 Fm s f w →
        WP P n ro a (λf' w'=>Po S0 hv0 ob0 Fm (gk_ a) s s1 f' w') (λ_ _=>False) (λ_ _ _=>False) f w)→To P n b s1 o→To P n (.seq a b) s o:=by
      intro s s1 o h1 h2 ro S0 hv0 ob0 Fm f w hro hr
      exact bp_ ((h1 hro.s1 hr).mono (λf1 w1 p1=>(h2 hro.s2 p1.rl).mono (λf w ⟨q,e,hp⟩=>⟨q,e,p1.trans hp⟩) (λf w ⟨q,e,hp⟩=>⟨q,e,p1.trans hp⟩) λi f w ⟨q,e,hp⟩=>⟨q,e,p1.trans hp⟩) (λ_ _ h=>h.elim) λ_ _ _ h=>h.elim)
    have plain:∀ (s:A) x y,ie_ cx n a x ρ s (λs=>ie_ cx n b y ρ s kN kR kX) kR kX=some r→∃ o:Out,o.k kN kR kX=some r∧To P n (.seq a b) s o:=λs x y h=>by
      obtain⟨o,ho,hto⟩:=iha x ρ s _ kR kX r h
      cases o with
      | n s1 =>
        obtain⟨o2,ho2,hto2⟩:=ihb y ρ s1 kN kR kX r ho
        exact⟨o2,ho2,two (λhro hr=>(hto hro hr).mono (λf w ⟨q,e,hp⟩=>by cases e;exact hp) (λf w ⟨q,e,_⟩=>by cases e) λi f w ⟨q,e,_⟩=>by cases e) hto2⟩
      | r s1=>exact⟨.r s1,ho,λhro hr=>bp_ ((hto hro.s1 hr).mono (λf w ⟨q,e,_⟩=>by cases e) (λf w ⟨q,e,hp⟩=>⟨q,e,hp.sub sa⟩) λi f w ⟨q,e,_⟩=>by cases e)⟩
      | x i s1=>exact⟨.x i s1,ho,λhro hr=>bp_ ((hto hro.s1 hr).mono (λf w ⟨q,e,_⟩=>by cases e) (λf w ⟨q,e,_⟩=>by cases e) λj f w ⟨q,e,hp⟩=>⟨q,e,hp.sub sa⟩)⟩
    cases an with
    | z=>exact plain s _ _ h
    | p x y=>exact plain s _ _ h
    | lp vs ws os b x=>exact plain s _ _ h
    | ls vs ws os b x=>exact plain s _ _ h
    | rf ds x y=>exact plain s _ _ h
    | sp k m=>exact plain s _ _ h
    | q ns x y =>
      obtain⟨e1,e2,e3⟩:=av0 ns s
      obtain⟨o,ho,hto⟩:=plain (frzN s ns) x y h
      refine⟨o,ho,λhro hr=>(hto hro (e3 hr)).mono (λf w ⟨q,e,hp⟩=>⟨q,e,hp.rl,e2.trans hp.keep,λd hd => ?_⟩) (λf w ⟨q,e,hp⟩=>⟨q,e,hp.rl,e2.trans hp.keep,λd hd => ?_⟩) λi f w ⟨q,e,hp⟩=>⟨q,e,hp.rl,e2.trans hp.keep,λd hd => ?_⟩⟩
      all_goals rw[hp.slot d hd,e1]
    | js σ0 x y =>
      obtain⟨σ,_,h⟩:=bnd h
      have h:cond (okA s (gk_ a) σ) ((ie_ cx n a x (ev_ σ⊕ρ) ⟨s.slot,maskJ σ (mvS s.slot s.objs σ) 0 s.objs⟩ (λs'=>(td_ σ s (mvS s.slot s.objs σ) s').map .inl) (λs'=>(kR (unm s s')).map .inr)
        (λi s'=>(kX i (unm s s')).map .inr)).bind fun
        | .inl d=>ie_ cx n b y ρ (mc_ false (gk_ a) σ (mvS s.slot s.objs σ) s d) kN kR kX
        | .inr r=>some r) none=some r:=h
      obtain⟨hok,h⟩:=bv_ h
      simp only[okA,a2_] at hok
      obtain⟨out,h1,h⟩:=bnd h
      obtain⟨o,ho,hto⟩:=iha x _ _ _ _ _ out h1
      have back:∀ {S0:PH} {hv0:Nat→Value} {ob0:List AO} {Fm:List HP} {s':A} {f':Fr} {w':World},Po S0 hv0 ob0 Fm (gk_ a) ⟨s.slot,maskJ σ (mvS s.slot s.objs σ) 0 s.objs⟩ s' f' w'→Po S0 hv0 ob0 Fm (gk_ a) s (unm s s') f' w':=λhp =>
        ⟨hp.rl.unm,bv8 hok.1.1 hok.2 hp.keep,hp.slot⟩
      cases o with
      | r s1 =>
        obtain⟨y',hy,hyo⟩:=au0 (show Option.map _ _=some _ from ho)
        cases hyo
        cases (show some y'=some r from h)
        exact⟨.r (unm s s1),hy,λhro hr=>bp_ ((hto hro.s1 (Rl.maskJ hr)).mono (λf w ⟨q,e,_⟩=>by cases e) (λf w ⟨q,e,hp⟩=>by cases e;exact⟨_,rfl,(back hp).sub sa⟩) λi f w ⟨q,e,_⟩=>by cases e)⟩
      | x i s1 =>
        obtain⟨y',hy,hyo⟩:=au0 (show Option.map _ _=some _ from ho)
        cases hyo
        cases (show some y'=some r from h)
        exact⟨.x i (unm s s1),hy,λhro hr=>bp_ ((hto hro.s1 (Rl.maskJ hr)).mono (λf w ⟨q,e,_⟩=>by cases e) (λf w ⟨q,e,_⟩=>by cases e) λj f w ⟨q,e,hp⟩=>by cases e;exact⟨_,rfl,(back hp).sub sa⟩)⟩
      | n s1 =>
        obtain⟨d,hy,hyo⟩:=au0 (show Option.map _ _=some _ from ho)
        cases hyo
        obtain⟨o2,ho2,hto2⟩:=ihb y ρ _ kN kR kX r h
        refine⟨o2,ho2,two (λhro hr=>(hto hro (Rl.maskJ hr)).mono (λf w ⟨q,e,hp⟩ => ?_) (λf w ⟨q,e,_⟩=>by cases e) λi f w ⟨q,e,_⟩=>by cases e) hto2⟩
        cases e
        obtain⟨k5,kl,k6⟩:=ct5 hok.1.1 hp.keep
        exact ac6 hr hok.1.1 hok.1.2 hok.2 hp.rl hp.slot k5 kl k6 hy
    | j0 σ0 x y =>
      obtain⟨σ,_,h⟩:=bnd h
      have h:cond (okA s (gk_ a) σ) ((ie_ cx n a x (ev_ σ) ⟨s.slot,maskJ σ (mvS s.slot s.objs σ) 0 s.objs⟩ (td_ σ s (mvS s.slot s.objs σ)) (λ_=>none) (λ_ _=>none)).bind λd =>
        ie_ cx n b y ρ (mc_ false (gk_ a) σ (mvS s.slot s.objs σ) s d) kN kR kX) none=some r:=h
      obtain⟨hok,h⟩:=bv_ h
      simp only[okA,a2_] at hok
      obtain⟨d,h1,h⟩:=bnd h
      obtain⟨o,ho,hto⟩:=iha x (ev_ σ) _ _ _ _ d h1
      cases o with
      | r s1=>cases ho
      | x i s1=>cases ho
      | n s1 =>
        obtain⟨o2,ho2,hto2⟩:=ihb y ρ _ kN kR kX r h
        refine⟨o2,ho2,two (λhro hr=>(hto hro (Rl.maskJ hr)).mono (λf w ⟨q,e,hp⟩ => ?_) (λf w ⟨q,e,_⟩=>by cases e) λi f w ⟨q,e,_⟩=>by cases e) hto2⟩
        cases e
        obtain⟨k5,kl,k6⟩:=ct5 hok.1.1 hp.keep
        exact ac6 hr hok.1.1 hok.1.2 hok.2 hp.rl hp.slot k5 kl k6 ho
  | loop c ih =>
    intro an ρ s kN kR kX r h
    have head:∀ {S0:PH} {hv0:Nat→Value} {ob0:List AO} {Fm:List HP} {f:Fr} {w:World},Rl S0 hv0 ob0 Fm s f w→∀ {vs ws os:List Sp1} {d:ev_ (vs++os)} {asg:List Nat},okA s asg (vs++os)=true→okS s.objs (ws++os)=true→okV asg (ws++os)=true→noO vs=true→noO ws=true→asg=gk_ c →
        ∀ {s':A} {f':Fr} {w':World},Po S0 hv0 ob0 Fm asg (mc_ true asg (vs++os) (mvS s.slot s.objs (vs++os)) s d) s' f' w' →
        (∀ y,td_ (vs++os) s (mvS s.slot s.objs (vs++os)) s'=some y→Rl S0 hv0 ob0 Fm (mc_ true asg (vs++os) (mvS s.slot s.objs (vs++os)) s y) f' w') ∧
        (∀ y,td_ (ws++os) s (mvS s.slot s.objs (vs++os)) s'=some y→Po S0 hv0 ob0 Fm asg s (mc_ false asg (ws++os) (mvS s.slot s.objs (vs++os)) s y) f' w'):=by
      intro S0 hv0 ob0 Fm f w hr vs ws os d asg hA hS hV n1 n2 ea s' f' w' hp
      simp only[okA,a2_] at hA
      obtain⟨k5,kl,k6⟩:=cm0 hA.1.1 (λj Y st ro hm e=>by
        have:=bj_ hA.2 j (tc_ hm)
        simp only[e] at this
        cases this) hp.keep
      have h4:∀ e,inL e asg=false→s'.slot e=s.slot e:=λe he=>(hp.slot e he).trans (wh_ hA.1.2 he)
      obtain⟨S,hv,Ds,hle,hag,hbl,hs,hds⟩:=id hr
      refine⟨λy hy=>bq2 hbl hs.wfs hs.wfo hp.rl h4 k5 kl k6 hy,λy hy=>ac6 hr hS hV hA.2 hp.rl h4 (λj a b ha hb hc=>k5 j a b ha hb ?_) kl ⟨λo ks T c ro T' c' ro' hm=>k6.1 o ks T c ro T' c' ro' ?_,k6.2⟩ hy⟩
      · rw[zk_,mm_ n2] at hc
        rw[zk_,mm_ n1]
        exact hc
      · rcases b8_.1 hm with h1 | h1
        · exact absurd h1 (ad4 n2)
        · exact b8_.2 (.inr h1)
    have start:∀ {S0:PH} {hv0:Nat→Value} {ob0:List AO} {Fm:List HP} {f:Fr} {w:World},Rl S0 hv0 ob0 Fm s f w→∀ {es:List Sp1} {d:ev_ es},okS s.objs es=true→td_ es s (mvS s.slot s.objs es) s=some d→Rl S0 hv0 ob0 Fm (mc_ true (gk_ c) es (mvS s.slot s.objs es) s d) f w:=by
      intro S0 hv0 ob0 Fm f w hr es d hok hd
      obtain⟨S,hv,Ds,hle,hag,hbl,hs,hds⟩:=id hr
      refine bq2 hbl hs.wfs hs.wfo hr (λ_ _=>rfl) (λj a b ha hb _ _ _=>by rw[ha] at hb;cases hb;exact OHeq.refl _) (c4_ _) ⟨λo ks T c ro T' c' ro' hm ho hr' => ?_,λo Y st ro Y' st' ro' ho hr'=>by rw[ho] at hr';cases hr';rfl⟩ hd
      rw[ho] at hr'
      cases hr'
      exact⟨rfl,wz_ ks c c 0 (okS_len hok hm ho) rfl λ_ _ _=>rfl⟩
    cases an with
    | z=>cases h
    | p x y=>cases h
    | q ns x y=>cases h
    | j0 σ x y=>cases h
    | js σ x y=>cases h
    | rf ds x y=>cases h
    | sp k m=>cases h
    | lp vs0 ws0 os0 b x =>
      obtain⟨vs,_,h⟩:=bnd h
      obtain⟨ws,_,h⟩:=bnd h
      obtain⟨os,_,h⟩:=bnd h
      have h:cond (okA s (gk_ c) (vs++os)&&okS s.objs (ws++os)&&okV (gk_ c) (ws++os)&&noO vs&&noO ws)
        ((td_ (vs++os) s (mvS s.slot s.objs (vs++os)) s).bind λd0 =>
          (ag_ (λd=>ie_ cx n c x (ev_ (vs++os)⊕ev_ (ws++os)) (mc_ true (gk_ c) (vs++os) (mvS s.slot s.objs (vs++os)) s d)
            (λs'=>(td_ (vs++os) s (mvS s.slot s.objs (vs++os)) s').map .inl) (λ_=>none)
            (λi s'=>cond (Nat.beq i b) ((td_ (ws++os) s (mvS s.slot s.objs (vs++os)) s').map .inr) none)) d0).bind λd =>
          kX b (mc_ false (gk_ c) (ws++os) (mvS s.slot s.objs (vs++os)) s d)) none=some r:=h
      obtain⟨hok,h⟩:=bv_ h
      simp only[a2_] at hok
      obtain⟨⟨⟨⟨o1,o2⟩,o3⟩,o4⟩,o5⟩:=hok
      obtain⟨d0,g1,h⟩:=bnd h
      obtain⟨out,g2,h⟩:=bnd h
      have oS:okS s.objs (vs++os)=true:=by simp only[okA,a2_] at o1;exact o1.1.1
      refine⟨.x b (mc_ false (gk_ c) (ws++os) (mvS s.slot s.objs (vs++os)) s out),h,λ{ro S0 hv0 ob0 Fm f w} hro hr => ?_⟩
      refine aj1 (λd f w=>Rl S0 hv0 ob0 Fm (mc_ true (gk_ c) (vs++os) (mvS s.slot s.objs (vs++os)) s d) f w) g2 (start hr oS g1) λd f1 w1 o hI hbody hout => ?_
      obtain⟨oo,ho,hto⟩:=ih x _ _ _ _ _ o hbody
      refine (hto hro.l hI).mono (λf' w' ⟨s',e,hp⟩ => ?_) (λf' w' ⟨s',e,hp⟩ => ?_) λi f' w' ⟨s',e,hp⟩ => ?_
      · subst e
        obtain⟨y,hy,hyo⟩:=au0 (show Option.map _ _=some _ from ho)
        exact⟨y,hyo.symm,(head hr o1 o2 o3 o4 o5 rfl hp).1 y hy⟩
      · subst e;cases ho
      · subst e
        obtain⟨hi,hk2⟩:=bv_ (show cond (Nat.beq i b) _ none=some o from ho)
        obtain⟨y,hy,hyo⟩:=au0 hk2
        have e1:=hout y hyo.symm
        refine⟨mc_ false (gk_ c) (ws++os) (mvS s.slot s.objs (vs++os)) s y,?_,(head hr o1 o2 o3 o4 o5 rfl hp).2 y hy⟩
        rw[a6_ hi,e1]
    | ls vs0 ws0 os0 b x =>
      obtain⟨vs,_,h⟩:=bnd h
      obtain⟨ws,_,h⟩:=bnd h
      obtain⟨os,_,h⟩:=bnd h
      have h:cond (okA s (gk_ c) (vs++os)&&okS s.objs (ws++os)&&okV (gk_ c) (ws++os)&&noO vs&&noO ws)
        ((td_ (vs++os) s (mvS s.slot s.objs (vs++os)) s).bind λd0 =>
          (ag_ (λd=>ie_ cx n c x (ev_ (vs++os)⊕(ev_ (ws++os)⊕ρ)) (mc_ true (gk_ c) (vs++os) (mvS s.slot s.objs (vs++os)) s d)
            (λs'=>(td_ (vs++os) s (mvS s.slot s.objs (vs++os)) s').map .inl) (λs'=>(kR (unm s s')).map λr=>.inr (.inr r))
            (λi s'=>cond (Nat.beq i b) ((td_ (ws++os) s (mvS s.slot s.objs (vs++os)) s').map λy=>.inr (.inl y)) ((kX i (unm s s')).map λr=>.inr (.inr r)))) d0).bind fun
          | .inl d=>kX b (mc_ false (gk_ c) (ws++os) (mvS s.slot s.objs (vs++os)) s d)
          | .inr r=>some r) none=some r:=h
      obtain⟨hok,h⟩:=bv_ h
      simp only[a2_] at hok
      obtain⟨⟨⟨⟨o1,o2⟩,o3⟩,o4⟩,o5⟩:=hok
      obtain⟨d0,g1,h⟩:=bnd h
      obtain⟨out,g2,h⟩:=bnd h
      have oS:okS s.objs (vs++os)=true:=by simp only[okA,a2_] at o1;exact o1.1.1
      have oV:okV (gk_ c) (vs++os)=true:=by simp only[okA,a2_] at o1;exact o1.1.2
      have oM:okM s.objs (mvS s.slot s.objs (vs++os))=true:=by simp only[okA,a2_] at o1;exact o1.2
      have back:∀ {S0:PH} {hv0:Nat→Value} {ob0:List AO} {Fm:List HP} {d:ev_ (vs++os)} {s':A} {f':Fr} {w':World},Po S0 hv0 ob0 Fm (gk_ c) (mc_ true (gk_ c) (vs++os) (mvS s.slot s.objs (vs++os)) s d) s' f' w'→Po S0 hv0 ob0 Fm (gk_ c) s (unm s s') f' w':=λhp =>
        ⟨hp.rl.unm,cl9 oS oM hp.keep,λe he=>(hp.slot e he).trans (wh_ oV he)⟩
      generalize hbd : (fun d => ie_ cx n c x (ev_ (vs ++ os) ⊕ (ev_ (ws ++ os) ⊕ ρ)) (mc_ true (gk_ c) (vs ++ os) (mvS s.slot s.objs (vs ++ os)) s d)
            (λs'=>(td_ (vs++os) s (mvS s.slot s.objs (vs++os)) s').map .inl) (λs'=>(kR (unm s s')).map λr=>.inr (.inr r))
            (λi s'=>cond (Nat.beq i b) ((td_ (ws++os) s (mvS s.slot s.objs (vs++os)) s').map λy=>.inr (.inl y)) ((kX i (unm s s')).map λr=>.inr (.inr r))))=body at g2
      obtain⟨k0,gk⟩:=ii_.1 g2
      have hlast:=an2 gk
      generalize hdl:bj1 body k0 d0=dl at hlast
      have hl2:=hlast
      rw[← hbd] at hl2
      obtain⟨ol,hol,htol⟩:=ih x _ _ _ _ _ _ hl2
      have walk:∀ (o:Out),(∀ s',ol = .r s'→o = .r (unm s s'))→(∀ i s',ol = .x i s'→Nat.beq i b=false→o = .x i (unm s s')) →
          (∀ i s' y,ol = .x i s'→Nat.beq i b=true→td_ (ws++os) s (mvS s.slot s.objs (vs++os)) s'=some y→o = .x b (mc_ false (gk_ c) (ws++os) (mvS s.slot s.objs (vs++os)) s y))→To P n (.loop c) s o:=by
        intro o w1 w2 w3 ro S0 hv0 ob0 Fm f w hro hr
        refine aj1 (λd f w=>Rl S0 hv0 ob0 Fm (mc_ true (gk_ c) (vs++os) (mvS s.slot s.objs (vs++os)) s d) f w∧∃ k,gr_ body k d=some out∧bj1 body k d=dl) g2 ⟨start hr oS g1,k0,gk,hdl⟩ λd f1 w1' oS1 hI hbody hout => ?_
        obtain⟨hI,k,hk1,hk2⟩:=hI
        cases k with
        | zero=>simp[gr_] at hk1
        | succ k =>
          unfold gr_ at hk1
          unfold bj1 at hk2
          rw[hbody] at hk1 hk2
          cases oS1 with
          | inl d' =>
            have hb2:=hbody
            rw[← hbd] at hb2
            obtain⟨oo,ho,hto⟩:=ih x _ _ _ _ _ _ hb2
            refine (hto hro.l hI).mono (λf' w' ⟨s',e,hp⟩ => ?_) (λf' w' ⟨s',e,hp⟩ => ?_) λi f' w' ⟨s',e,hp⟩ => ?_
            · subst e
              obtain⟨y,hy,hyo⟩:=au0 (show Option.map _ _=some _ from ho)
              cases hyo
              exact⟨d',rfl,(head hr o1 o2 o3 o4 o5 rfl hp).1 d' hy,k,hk1,hk2⟩
            · subst e
              obtain⟨y,hy,hyo⟩:=au0 (show Option.map _ _=some _ from ho)
              cases hyo
            · subst e
              have ho:cond (Nat.beq i b) ((td_ (ws++os) s (mvS s.slot s.objs (vs++os)) s').map λy=>Sum.inr (Sum.inl y)) ((kX i (unm s s')).map λr=>Sum.inr (Sum.inr r))=some (Sum.inl d'):=ho
              cases hi:Nat.beq i b with
              | true=>rw[hi] at ho;obtain⟨y,hy,hyo⟩:=au0 (show Option.map _ _=some _ from ho);cases hyo
              | false=>rw[hi] at ho;obtain⟨y,hy,hyo⟩:=au0 (show Option.map _ _=some _ from ho);cases hyo
          | inr o' =>
            have ed:d=dl:=hk2
            subst ed
            refine (htol hro.l hI).mono (λf' w' ⟨s',e,hp⟩ => ?_) (λf' w' ⟨s',e,hp⟩=>⟨_,w1 s' e,back hp⟩) λi f' w' ⟨s',e,hp⟩ => ?_
            · subst e
              obtain⟨y,hy,hyo⟩:=au0 (show Option.map _ _=some _ from hol)
              cases hyo
            · cases hi:Nat.beq i b with
              | false=>exact⟨_,w2 i s' e hi,back hp⟩
              | true =>
                subst e
                have ho:cond (Nat.beq i b) ((td_ (ws++os) s (mvS s.slot s.objs (vs++os)) s').map λy=>Sum.inr (Sum.inl y)) ((kX i (unm s s')).map λr=>Sum.inr (Sum.inr r))=some (Sum.inr out):=hol
                rw[hi] at ho
                obtain⟨y,hy,hyo⟩:=au0 (show Option.map _ _=some _ from ho)
                have:=w3 i s' y rfl hi hy
                rw[a6_ hi]
                exact⟨_,this,(head hr o1 o2 o3 o4 o5 rfl hp).2 y hy⟩
      cases ol with
      | n s' =>
        obtain⟨y,hy,hyo⟩:=au0 (show Option.map _ _=some _ from hol)
        cases hyo
      | r s' =>
        obtain⟨y,hy,hyo⟩:=au0 (show Option.map _ _=some _ from hol)
        cases hyo
        obtain rfl:y=r:=a5_ h
        exact⟨.r (unm s s'),hy,walk _ (λq e=>by cases e;rfl) (λi q e=>by cases e) λi q y e=>by cases e⟩
      | x i s' =>
        have ho:cond (Nat.beq i b) ((td_ (ws++os) s (mvS s.slot s.objs (vs++os)) s').map λy=>Sum.inr (Sum.inl y)) ((kX i (unm s s')).map λr=>Sum.inr (Sum.inr r))=some (Sum.inr out):=hol
        cases hi:Nat.beq i b with
        | true =>
          rw[hi] at ho
          obtain⟨y,hy,hyo⟩:=au0 (show Option.map _ _=some _ from ho)
          cases hyo
          exact⟨.x b (mc_ false (gk_ c) (ws++os) (mvS s.slot s.objs (vs++os)) s y),h,walk _ (λq e=>by cases e) (λj q e hj=>by cases e;rw[hi] at hj;cases hj) λj q y' e hj hy'=>by cases e;rw[hy] at hy';cases hy';rfl⟩
        | false =>
          rw[hi] at ho
          obtain⟨y,hy,hyo⟩:=au0 (show Option.map _ _=some _ from ho)
          cases hyo
          obtain rfl:y=r:=a5_ h
          exact⟨.x i (unm s s'),hy,walk _ (λq e=>by cases e) (λj q e hj=>by cases e;rfl) λj q y' e hj=>by cases e;rw[hi] at hj;cases hj⟩
  | rangeFunc g ps assign body _ _ =>
    intro an ρ s kN kR kX r h
    cases an with
    | sp k m=>cases h
    | rf ds x y=>exact bq1 h
    | _=>cases h
  | _=>intro an ρ s kN kR kX r h;cases h
end
end
section
variable [Gb]
section
variable {ρ:Type}
def resL (P:Program) [Tb P]:List ResultVar→A→(List AV→Option ρ)→Option ρ
  | [],_,k=>k []
  | .tmp t::rs,s,k=>resL P rs s λl=>k (s.slot t::l)
  | .cell a T::rs,s,k=>bu4 P T (s.slot a) s.objs λv=>resL P rs s λl=>k (v::l)
def toBs:List AV→Option (List BV)
  | []=>some []
  | .b x::l=>(toBs l).bind λr=>some (x::r)
  | _=>none
def bt9:List AV→Option AV
  | [a]=>some a
  | l=>(toBs l).bind λr=>some (.tup r)
def cf2 (l:List AV) (i:Nat):AV:=(l[i]?).getD (.b .dead)
def okFn (fn:Func) (m:Nat):Bool:=Nat.ble m fn.ntmps&&!(fn.name == "runtime.NumGoroutine")
noncomputable def inlF {P:Program} [Tb P] (cx:Cx P) (an:An) (k:FuncId) (args:List AV) (objs:List AO) (kk:AV→List AO→Option ρ):Option ρ:=(fns P k).bind λfn=>fn.body.bind λc =>
  cond (okFn fn args.length) (ie_ cx fn.ntmps c an ρ ⟨cf2 args,objs⟩ (λs=>resL P fn.results.toList s λl=>(bt9 l).bind λav=>kk av s.objs)
    (λs=>resL P fn.results.toList s λl=>(bt9 l).bind λav=>kk av s.objs) λ_ _=>none) none
end
def capA:(t:Ty)→t.den→Option (List AV)
  | .unit,_=>some []
  | .pair a b,x=>cond a.agg none ((capA b x.2).bind λl=>some (.b (.one (.val a x.1))::l))
  | _,_=>none
def fnA (g:AV) (objs:List AO):Option (FuncId×List AV):=match g with
  | .b (.one (.val (.clo k t) x))=>(capA t x).bind λl=>some (k,l)
  | .b (.one (.fn o))=>match objs[o]? with
    | some (.fn (.func k) [] l)=>some (k,l.map λs=>.b (.one s))
    | _=>none
  | _=>none
section
variable {ρ:Type} {P:Program} [Tb P] {S:PH} {hv:Nat→Value} {Fm:List HP} {r:ρ}
theorem be6:∀ {t:Ty} {x:t.den} {l:List AV} {ys:List Value},capA t x=some l→t.enc.rep S ys x→Fa (RA hv S) l ys∧∀ n,∀ a ∈ l,a.lt n=true
  | .unit,x,l,ys,h,hr=>by
    cases h
    have hr:ys=[]:=hr
    subst hr
    exact⟨trivial,λ_ a ha=>by cases ha⟩
  | .pair a b,x,l,ys,h,⟨c1,c2,e,r1,r2⟩=>by
    have h:cond a.agg none ((capA b x.2).bind λl=>some (.b (.one (.val a x.1))::l))=some l:=h
    cases h0:a.agg with
    | true=>rw[h0] at h;cases h
    | false =>
      rw[h0] at h
      obtain⟨m,h1,h⟩:=bnd (show Option.bind _ _=some _ from h)
      cases h
      obtain⟨g1,g2⟩:=be6 h1 r2
      have h3:=tw_ (hv:=hv) h0 r1
      cases c1 with
      | nil=>exact h3.elim
      | cons u c1 =>
        cases c1 with
        | cons _ _=>exact h3.2.elim
        | nil =>
          subst e
          exact⟨⟨h3.1,g1⟩,λn q hq=>by
            rcases e1_.1 hq with rfl | hq
            · rfl
            · exact g2 n q hq⟩
  | .int,_,_,_,h,_=>by cases h
  | .bool,_,_,_,h,_=>by cases h
  | .u8,_,_,_,h,_=>by cases h
  | .str,_,_,_,h,_=>by cases h
  | .one _,_,_,_,h,_=>by cases h
  | .list _,_,_,_,h,_=>by cases h
  | .ref _,_,_,_,h,_=>by cases h
  | .clo _ _,_,_,_,h,_=>by cases h
theorem bx8 {sl:Nat→AV} {objs:List AO} {f:Fr} {w:World} {g:AV} {k:FuncId} {l:List AV} {v:Value} (hs:Sit S hv Fm sl objs f w) (h:fnA g objs=some (k,l)) (hr:RA hv S g v) :
    ∃ cap:List Value,v = .func (.func k) #[] cap.toArray∧Fa (RA hv S) l cap∧∀ a ∈ l,a.lt objs=true:=by
  unfold fnA at h
  split at h
  · rename_i k' t x
    obtain⟨m,h1,h⟩:=bnd h
    cases h
    obtain⟨_,_,cs,⟨ys,e1,e2⟩,e3⟩:=hr
    obtain⟨g1,g2⟩:=be6 (hv:=hv) h1 e2
    subst e1
    exact⟨ys,e3,g1,g2 objs⟩
  · rename_i o
    split at h
    · rename_i k' m ho
      cases h
      obtain⟨L,hI,_⟩:=hs.at ho
      obtain⟨hh,⟨h0,xs,ys,e1,e2,e3⟩,_⟩:=hI.open_
      have e4:v=hv o:=hr.2
      cases xs with
      | cons _ _=>exact e2.elim
      | nil =>
        refine⟨ys,e4.trans e1,?_,λa ha => ?_⟩
        · have gen:∀ {m:List SV} {ys:List Value},Fa (RS hv S) m ys→Fa (RA hv S) (m.map λs=>AV.b (.one s)) ys:=by
            intro m
            induction m with
            | nil=>intro ys h;cases ys with
              | nil=>trivial
              | cons _ _=>exact h.elim
            | cons s m ih=>intro ys h;cases ys with
              | nil=>exact h.elim
              | cons y ys=>exact⟨h.1,ih h.2⟩
          exact gen e3
        · obtain⟨s,hs1,rfl⟩:=d8_.1 ha
          have:=hs.wfo _ (b9_ ho)
          simp only[AO.lt,a2_] at this
          exact bj_ this.2 s hs1
    · cases h
  · cases h
theorem cl5 {T:TypeId} {v u:Value} {w:World} (h:(Instr.loadAt T v).run P w = .ok u w):(do loadVar T (← asAddr v):Sem Value).run P w = .ok u w:=by
  have hp:∃ a,v = .pointer (some a):=by
    cases v with
    | pointer a=>cases a with
      | some a=>exact⟨a,rfl⟩
      | none=>simp[Instr.loadAt,Instr.sureAddr] at h
    | _=>simp[Instr.loadAt,Instr.sureAddr] at h
  obtain⟨a,rfl⟩:=hp
  simpa [Instr.loadAt,Instr.sureAddr,asAddr] using h
theorem ar6:∀ {rs:List ResultVar} {s:A} {k:List AV→Option ρ},resL P rs s k=some r→∃ l,k l=some r∧(WfS s.slot s.objs→WfO s.objs→∀ a ∈ l,a.lt s.objs=true) ∧
    ∀ {S:PH} {hv:Nat→Value} {Fm:List HP} {f:Fr} {w:World},Sit S hv Fm s.slot s.objs f w→∃ vs,Fa (RA hv S) l vs∧∀ tm:Array Value,(∀ i,tm.getD i undef=f i)→(rs.mapM fun
      | .tmp t=>pure (tm.getD t undef)
      | .cell a t=>do loadVar t (← asAddr (tm.getD a undef)):Sem (List Value)).run P w = .ok vs w
  | [],s,k,h=>⟨[],h,λ_ _ a ha=>(by cases ha),λhs=>⟨[],trivial,λ_ _=>rfl⟩⟩
  | .tmp t::rs,s,k,h=>by
    obtain⟨l,h1,h2,h4⟩:=ar6 (rs:=rs) h
    refine⟨_,h1,λa b x hx => ?_,λ{S hv Fm f w} hs => ?_⟩
    · rcases e1_.1 hx with rfl | hx
      · exact a t
      · exact h2 a b x hx
    · obtain⟨vs,g2,g1⟩:=h4 hs
      refine⟨f t::vs,⟨hs.rel t,g2⟩,λtm ht => ?_⟩
      rw[List.mapM_cons]
      simp only[Sem.run_bind,Sem.run_pure,Result.andThen_ok,g1 tm ht,ht t]
  | .cell a T::rs,s,k,h=>by
    obtain⟨v,h0,hl,hv0⟩:=ba7 (show bu4 P T (s.slot a) s.objs _=some r from h)
    obtain⟨l,h1,h2,h4⟩:=ar6 (rs:=rs) h0
    refine⟨_,h1,λa b x hx => ?_,λ{S hv Fm f w} hs => ?_⟩
    · rcases e1_.1 hx with rfl | hx
      · exact hl b
      · exact h2 a b x hx
    · obtain⟨vs,g2,g1⟩:=h4 hs
      obtain⟨u,e1,e2⟩:=hv0 hs (hs.rel a)
      refine⟨u::vs,⟨e2,g2⟩,λtm ht => ?_⟩
      have e3:=cl5 e1
      rw[List.mapM_cons]
      simp only[Sem.run_bind] at e3
      simp only[Sem.run_bind,ht a,e3,Sem.run_pure,Result.andThen_ok,g1 tm ht]
theorem bm5:∀ {l:List AV} {bs:List BV} {vs:List Value},toBs l=some bs→Fa (RA hv S) l vs→Fa (RB hv S) bs vs∧∀ n,(∀ a ∈ l,a.lt n=true)→fd_ (BV.lt n) bs=true
  | [],bs,[],h,_=>by cases h;exact⟨trivial,λ_ _=>rfl⟩
  | .b x::l,bs,v::vs,h,hf=>by
    obtain⟨q,h1,h⟩:=bnd h
    cases h
    obtain⟨g1,g2⟩:=bm5 h1 hf.2
    refine⟨⟨hf.1,g1⟩,λn hn => ?_⟩
    simp only[fd_,a2_]
    exact⟨hn (.b x) (by simp),g2 n λa ha=>hn a (by simp[ha])⟩
  | .tup t::l,bs,v::vs,h,hf=>by cases h
theorem ck6 {l:List AV} {av:AV} {vs:List Value} (h:bt9 l=some av) (hf:Fa (RA hv S) l vs):RA hv S av (if h:vs.toArray.size=1 then vs.toArray[0] else .tuple vs.toArray)∧∀ n,(∀ a ∈ l,a.lt n=true)→av.lt n=true:=by
  unfold bt9 at h
  split at h
  · rename_i a
    cases h
    match vs,hf with
    | [v],hf=>exact⟨hf.1,λn hn=>hn av (by simp)⟩
  · rename_i hne
    obtain⟨bs,h1,h⟩:=bnd h
    cases h
    obtain⟨g1,g2⟩:=bm5 h1 hf
    have hl:¬ vs.toArray.size=1:=by
      intro e
      have:=hf.len
      match l,this,hne with
      | [a],_,hne=>exact hne a rfl
      | [],h,_=>simp at e;simp at h;omega
      | _::_::_,h,_=>simp at e;simp at h;omega
    rw[dif_neg hl]
    exact⟨⟨vs,rfl,g1⟩,g2⟩
end
end
section
variable [Gb]
theorem by5 {α β:Type} {R:α→β→Prop} {l l':List α} {m m':List β} (h:Fa R l m) (k:Fa R l' m'):Fa R (l++l') (m++m'):=Fa.app h k
theorem cc6 {hv:Nat→Value} {S:PH}:∀ {l:List AV} {vs:List Value},Fa (RA hv S) l vs→∀ i,RA hv S (cf2 l i) (fr0 vs i)
  | [],[],_,i=>by simp[cf2];trivial
  | a::l,v::vs,h,0=>h.1
  | a::l,v::vs,h,i+1=>by
    have e:cf2 (a::l) (i+1)=cf2 l i:=by simp[cf2]
    rw[e]
    exact cc6 h.2 i
theorem argS_lt {l:List AV} {n:List AO} (h:∀ a ∈ l,a.lt n=true) (i:Nat):(cf2 l i).lt n=true:=by
  unfold cf2
  cases hi:l[i]? with
  | none=>rfl
  | some a=>exact h a (b9_ hi)
noncomputable def callI {ρ:Type} {P:Program} [Tb P] (cx:Cx P) (an:FuncId→An) (o:Oper) (sl:Nat→AV) (objs:List AO) (k:AV→List AO→Option ρ):Option ρ:=match o.op with
  | .call ⟨.value g,⟨args⟩,_⟩=>(fnA (evA sl g) objs).bind λq=>inlF cx (an q.1) q.1 (args.map (evA sl)++q.2) objs k
  | _=>none
section
variable {ρ:Type} {P:Program} [Tb P] {cx:Cx P}
theorem au9 {an:An} {fk:FuncId} {avs:List AV} {objs:List AO} {k:AV→List AO→Option ρ} {r:ρ} (h:inlF cx an fk avs objs k=some r):eu_ P fk∧∃ av objs',k av objs'=some r ∧
    ∀ {S:PH} {hv:Nat→Value} {Fm:List HP} {w:World} {vs:List Value},GlS S→Inv w S (OHs hv 0 objs++Fm)→WfO objs→Fa (RA hv S) avs vs→(∀ a ∈ avs,a.lt objs=true) →
      Calls P fk vs.toArray w λe w'=>∃ v S' hv',e = .returned v∧BLe objs objs'∧Keep objs objs'∧WfO objs'∧av.lt objs'=true∧S.Le S'∧Ag objs hv hv'∧RA hv' S' av v∧Inv w' S' (OHs hv' 0 objs'++Fm):=by
  obtain⟨fn,hfn,h⟩:=bnd h
  have hfn:=cu4 hfn
  obtain⟨c,hc,h⟩:=bnd h
  obtain⟨hok,h⟩:=bv_ h
  simp only[okFn,a2_,k6_] at hok
  refine⟨⟨fn,hfn,by rw[hc];rfl,hok.2⟩,?_⟩
  obtain⟨out,ho,hto⟩:=xq_ c an ρ _ _ _ _ r h
  have main:∀ (s1:A),(resL P fn.results.toList s1 λl=>(bt9 l).bind λav=>k av s1.objs)=some r→(out = .n s1∨out = .r s1) →
      ∃ av objs',k av objs'=some r∧∀ {S:PH} {hv:Nat→Value} {Fm:List HP} {w:World} {vs:List Value},GlS S→Inv w S (OHs hv 0 objs++Fm)→WfO objs→Fa (RA hv S) avs vs→(∀ a ∈ avs,a.lt objs=true) →
      Calls P fk vs.toArray w λe w'=>∃ v S' hv',e = .returned v∧BLe objs objs'∧Keep objs objs'∧WfO objs'∧av.lt objs'=true∧S.Le S'∧Ag objs hv hv'∧RA hv' S' av v∧Inv w' S' (OHs hv' 0 objs'++Fm):=by
    intro s1 h1 hout
    obtain⟨rl,g1,g2,g4⟩:=ar6 h1
    obtain⟨av,g5,g6⟩:=bnd g1
    refine⟨av,s1.objs,g6,?_⟩
    intro S hv Fm w vs hG hI hw hargs hlt
    have hlen:=hargs.len
    refine ap1 (n:=fn.ntmps) hfn hc rfl (by rw[← hlen];exact hok.1) ?_
    have hr:Rl S hv objs Fm ⟨cf2 avs,objs⟩ (fr0 vs) w :=
      ⟨S,hv,[],PH.Le.refl _,λ_ _=>rfl,BLe.refl _,⟨(Inv.noD hI).perm List.perm_middle.symm,cc6 hargs,argS_lt hlt,hw,hG⟩,rfl⟩
    have fin:∀ (f':Fr) (w':World),Po S hv objs Fm (gk_ c) ⟨cf2 avs,objs⟩ s1 f' w'→RetM P fn fn.ntmps (λe w'=>∃ v S' hv',e = .returned v∧BLe objs s1.objs∧Keep objs s1.objs∧WfO s1.objs∧av.lt s1.objs=true∧S.Le S'∧Ag objs hv hv'∧RA hv' S' av v∧Inv w' S' (OHs hv' 0 s1.objs++Fm)) f' w':=by
      intro f' w' hp
      obtain⟨S',hv',Ds,hle,hag,hbl,hs0,hds⟩:=hp.rl
      refine ret_m (O:=OHs hv' 0 s1.objs++Fm) hds (hs0.inv.perm f0_) λw2 hI2 => ?_
      have hs':Sit S' hv' Fm s1.slot s1.objs f' w2:=⟨hI2,hs0.rel,hs0.wfs,hs0.wfo,hs0.gl⟩
      obtain⟨vs,q2,q1⟩:=g4 hs'
      obtain⟨q3,q4⟩:=ck6 g5 q2
      refine⟨_,λa ha => ?_,_,S',hv',rfl,hbl,hp.keep,hs'.wfo,q4 _ (g2 hs'.wfs hs'.wfo),hle,hag,q3,hs'.inv⟩
      unfold results
      rw[Sem.run_bind,Array.mapM_eq_mapM_toList,map_eq_pure_bind,Sem.run_bind]
      exact congrArg (λz:Result (List Value)=>(z.andThen λa w'=>Sem.run P (pure a.toArray) w').andThen λa w'=>Sem.run P (pure (if h:a.size=1 then a[0] else Value.tuple a)) w') (q1 a.tmps ha.at_)
    refine (hto (λe=>absurd rfl e) hr).mono (λf' w' ⟨q,e,hp⟩ => ?_) (λf' w' ⟨q,e,hp⟩ => ?_) λi f' w' ⟨q,e,hp⟩ => ?_
    · rcases hout with h | h
      · rw[h] at e;cases e;exact fin f' w' hp
      · rw[h] at e;cases e
    · rcases hout with h | h
      · rw[h] at e;cases e
      · rw[h] at e;cases e;exact fin f' w' hp
    · rcases hout with h | h<;>rw[h] at e<;>cases e
  cases out with
  | n s1=>exact main s1 ho (.inl rfl)
  | r s1=>exact main s1 ho (.inr rfl)
  | x i s1=>cases ho
variable {an:FuncId→An}
theorem co4 {o:Oper} {sl:Nat→AV} {objs:List AO} {k:AV→List AO→Option ρ} {r:ρ} (h:callI cx an o sl objs k=some r):∃ av objs',k av objs'=some r∧OpUn P o sl objs av objs':=by
  obtain⟨dd,op,ty,pos,af,gd⟩:=o
  unfold callI at h
  simp only at h
  split at h
  · rename_i g args ct
    obtain⟨⟨fk,l⟩,hq,h⟩:=bnd h
    obtain⟨hcall,av,objs',h1,h2⟩:=au9 h
    refine⟨av,objs',h1,?_⟩
    intro S hv Fm f w n ro K hs hd kk
    obtain⟨cap,e1,e2,e3⟩:=bx8 hs hq (hs.ev g)
    have hargs:Fa (RA hv S) (args.map (evA sl)++l) (args.map (ev f)++cap):=by5 (ag4 hs args) e2
    have hlt:∀ a ∈ args.map (evA sl)++l,a.lt objs=true:=λa ha=>by
      rcases b8_.1 ha with h1 | h1
      · obtain⟨x,_,rfl⟩:=d8_.1 h1
        exact ig_ hs.wfs x
      · exact e3 a h1
    refine mh_ (k:=fk) (vs:=(args.map (ev f)++cap).toArray) (rl_ hcall e1 (by simp)) (h2 hs.gl hs.inv hs.wfo hargs hlt) λe w' ⟨v,S',hv',he,g1,g2,g3,g4,g5,g6,g7,g8⟩ => ?_
    exact⟨v,he,hd,kk v S' hv' w' g1 g2 g3 g4 g5 g6 g7 g8⟩
  · cases h
def mvFn {ρ:Type} (fr m:Nat) (k:AV→List AO→Option ρ) (av:AV) (objs:List AO):Option ρ:=match av with
  | .b (.one (.fn o))=>match objs[o]? with
    | some (.fn f a b)=>cond (isUn objs fr) (k (.b (.one (.fn fr))) (objs.set fr (.fn f a b))) (k av objs)
    | _=>k av objs
  | .b (.one (.row o))=>match objs[o]? with
    | some (.row t T l false)=>cond (isUn objs fr&&Nat.ble m o) (k (.b (.one (.row fr))) ((objs.set o .gone).set fr (.row t T l false))) (k av objs)
    | _=>k av objs
  | _=>k av objs
theorem mvFn_ok {o:Oper} {sl:Nat→AV} {objs objs':List AO} {fr m:Nat} {av:AV} {k:AV→List AO→Option ρ} {r:ρ} (h:mvFn fr m k av objs'=some r) (hu:OpUn P o sl objs av objs'):∃ av2 ob2,k av2 ob2=some r∧OpUn P o sl objs av2 ob2:=by
  unfold mvFn at h
  split at h
  · rename_i o2
    split at h
    · rename_i f0 a b hf
      cases hi:isUn objs' fr with
      | false=>rw[hi] at h;exact⟨_,_,h,hu⟩
      | true =>
        rw[hi] at h
        refine⟨_,_,h,?_⟩
        intro S hv Fm f w n ro K hs hd kk
        have hn:=cn_ hi
        refine hu hs hd λv S' hv' w' b1 b2 b3 b4 b5 b6 b7 b8 => ?_
        have hl:(AO.fn f0 a b).lt objs'=true:=b3 _ (b9_ hf)
        have hag:=np_ (hv:=hv') (v:=v) hn
        have hb:Ag objs' (ins hv' fr v) hv':=λi h=>(hag i h).symm
        have e:OH (ins hv' fr v) v (.fn f0 a b)=OH hv' (hv' o2) (.fn f0 a b):=by
          rw[← OH.ag hag hb hl]
          exact congrArg (λz=>OH hv' z (.fn f0 a b)) b7.2
        have hi2:Inv w' S' (OH (ins hv' fr v) v (.fn f0 a b)::(OHs hv' 0 objs'++Fm)):=by
          rw[e]
          obtain⟨L,h1,h2⟩:=OHs.focus (hv:=hv') (i:=0) hf
          rw[b0_] at h1
          obtain⟨q,hq,_⟩:=(b8.perm (h1.append_right Fm)).open_
          have hq0:q=Hp.emp:=hq.1
          refine Inv.shut (k:=q) ?_ hq
          rw[hq0]
          exact ne_ b8
        exact kk v S' (ins hv' fr v) w' (b1.trans (bl_ (by simp))) (b2.trans (cj_ hn trivial)) (ej_ (by simp) b3 (AO.lt_mono (bl_ (by simp)) hl)) (ja_ hi (by simp)) b5 (b6.trans (hag.sub b1)) ⟨b7.1,(cx_ _ _ _).symm⟩ (id_ b3 hn hi2)
    · exact⟨_,_,h,hu⟩
  · rename_i o2
    split at h
    · rename_i t T l hf
      cases hi:(isUn objs' fr&&Nat.ble m o2) with
      | false=>rw[hi] at h;exact⟨_,_,h,hu⟩
      | true =>
        rw[hi] at h
        rw[a2_] at hi
        refine⟨_,_,h,?_⟩
        intro S hv Fm f w n ro K hs hd kk
        have hn:=cn_ hi.1
        have hne:o2≠fr:=by
          rintro rfl
          rw[hf] at hn
          cases hn
        have hn2:(objs'.set o2 .gone)[fr]?=some .unborn:=by rw[b6_ hne];exact hn
        have hi2:isUn (objs'.set o2 .gone) fr=true:=by unfold isUn;rw[hn2]
        refine hu hs hd λv S' hv' w' b1 b2 b3 b4 b5 b6 b7 b8 => ?_
        have hw2:WfO (objs'.set o2 .gone):=ej_ (by simp) b3 rfl
        have hag:=np_ (hv:=hv') (v:=v) hn
        have hb2:BLe objs' (objs'.set o2 .gone):=bl_ (by simp)
        have hi3:Inv w' S' (OH (ins hv' fr v) v (.row t T l false)::(OHs hv' 0 (objs'.set o2 .gone)++Fm)):=by
          have e:OH (ins hv' fr v) v (.row t T l false)=OH hv' (hv' o2) (.row t T l false):=congrArg (λz=>OH hv' z (.row t T l false)) b7.2
          rw[e]
          obtain⟨L,h1,h2⟩:=OHs.focus (hv:=hv') (i:=0) hf
          rw[b0_] at h1 h2
          have h3:=(ne_ (b8.perm (h1.append_right Fm))).swap
          exact h3.perm (((h2 .gone).symm.append_right Fm).cons _)
        exact kk v S' (ins hv' fr v) w' (b1.trans (hb2.trans (bl_ (by simp)))) ((b2.trans (cj_ hf trivial)).trans (cj_ hn2 trivial)) (ej_ (by simp) hw2 rfl) (ja_ hi2 (by simp)) b5 (b6.trans (hag.sub b1)) ⟨b7.1,(cx_ _ _ _).symm⟩ (id_ hw2 hn2 hi3)
    · exact⟨_,_,h,hu⟩
  · exact⟨_,_,h,hu⟩
theorem inlV_ok {an:FuncId→An} {g:AV} {args:List AV} {objs:List AO} {k:AV→List AO→Option ρ} {r:ρ} (h:((fnA g objs).bind λq=>inlF cx (an q.1) q.1 (args++q.2) objs k)=some r):∃ av objs',k av objs'=some r∧cw2 P g args objs av objs':=by
  obtain⟨⟨fk,l⟩,hq,h⟩:=bnd h
  obtain⟨hcall,av,objs',h1,h2⟩:=au9 h
  refine⟨av,objs',h1,?_⟩
  intro S hv Fm w gv vs hG hI hw hg ha hlt
  have hs:Sit S hv Fm (λ_=>.b .dead) objs ⟨λ_=>undef,[]⟩ w:=⟨hI,λ_=>trivial,λ_=>rfl,hw,hG⟩
  obtain⟨cap,e1,e2,e3⟩:=bx8 hs hq hg
  exact⟨fk,cap,e1,hcall,h2 hG hI hw (by5 ha e2) λa h=>by
    rcases b8_.1 h with h1 | h1
    · exact hlt a h1
    · exact e3 a h1⟩
def updY (sl:Nat→AV):List Nat→List AV→Nat→AV
  | p::ps,a::l=>updY (updA sl p a) ps l
  | _,_=>sl
theorem bl7 {S:PH} {hv:Nat→Value}:∀ {ps:List Nat} {l:List AV} {us:List Value} {sl:Nat→AV} {g:Nat→Value},(∀ i,RA hv S (sl i) (g i))→Fa (RA hv S) l us→∀ i,RA hv S (updY sl ps l i) (updL g ps us i)
  | [],l,us,sl,g,h,ha,i=>by cases us<;>exact h i
  | p::ps,[],[],sl,g,h,ha,i=>h i
  | p::ps,a::l,u::us,sl,g,h,ha,i=>bl7 (ps:=ps) (λj=>bm0 (f:=⟨g,[]⟩) h ha.1 j) ha.2 i
theorem bl8 {n:List AO}:∀ {ps:List Nat} {l:List AV} {sl:Nat→AV},(∀ i,(sl i).lt n=true)→(∀ a ∈ l,a.lt n=true)→∀ i,(updY sl ps l i).lt n=true
  | [],l,sl,h,ha,i=>h i
  | p::ps,[],sl,h,ha,i=>h i
  | p::ps,a::l,sl,h,ha,i=>bl8 (ps:=ps) (λj=>by
    show (cond (Nat.beq j p) a (sl j)).lt n=true
    cases Nat.beq j p with
    | true=>exact ha a (by simp)
    | false=>exact h j) (λb hb=>ha b (by simp[hb])) i
noncomputable def callY {ρ:Type} {P:Program} [Tb P] (cx:Cx P) (y:Nat) (Y:Yld) (avs:List AV) (objs:List AO) (k:AV→List AO→Option ρ):Option ρ :=
  cond (Nat.beq avs.length Y.ps.length&&fd_ (λp=>Nat.blt p Y.n) Y.ps&&ai9 Y.assign&&ai9 Y.body)
    (ie_ cx Y.n Y.assign Y.an.l ρ ⟨updY (slY Y.sl) Y.ps avs,objs.set y (.yld Y .asg false)⟩ (λs=>match s.objs[y]? with
      | some (.yld _ .asg _)=>ie_ cx Y.n Y.body Y.an.r ρ ⟨s.slot,s.objs.set y (.yld Y .busy false)⟩ (λs=>k (bV true) (s.objs.set y (.yld Y .rdy false))) (λs=>k (bV false) (s.objs.set y (.yld Y .ret false))) λi s=>k (bV false) (s.objs.set y (.yld Y (.ex i) false))
      | _=>none) (λ_=>none) λ_ _=>none) none
def yldA (g:AV) (objs:List AO):Option (Nat×Yld):=match g with
  | .b (.one (.fn y))=>match objs[y]? with
    | some (.yld Y .rdy false)=>some (y,Y)
    | _=>none
  | _=>none
theorem cj8 {n:Nat} {o:Oper} {f:Fr} {w:World} {K:Fr→World→Prop} {ro:Option Nat} {g:Operand} {args:List Operand} {ct:Array TypeId} {l:Nat} {fn:FuncId} {tmps:Array Value} {assign body:Code} {vs:List Value}
    (ho:o.op = .call ⟨.value g,⟨args⟩,ct⟩) (hd:ew_ n o.dst=true) (hg:ev f g = .func (.yield l) #[] #[]) (hargs:args.map (ev f)=vs) (hy:(Instr.yield l vs.toArray).run P w = .ok (.round l fn tmps assign body) w)
    (hr:RoundIn (FW none) 0 P l fn tmps assign body w λe w'=>∃ v,e = .returned v∧K (vu_ f o.dst v) w'):OP P n ro o f w K:=by
  obtain⟨dd,op,ty,pos,af,gd⟩:=o
  simp only at ho
  subst ho
  intro a ha Q
  refine⟨λ_ _=>trivial,?_⟩
  have hrun:(execOp a.eval ⟨dd,.call ⟨.value g,⟨args⟩,ct⟩,ty,pos,af,gd⟩).run P w = .ok (.round l fn tmps assign body) w:=by
    rw[ha.eval]
    simp[execOp,resolve,hg,Deferred.ofValue,invoke,hargs,hy]
  rw[rk_ hrun (λ_ e=>by cases e)]
  refine⟨λh=>(by cases h),RoundIn.mono (F:=FW ro) hr λe w' h => ?_⟩
  obtain⟨r,rfl,h⟩:=h
  exact⟨_,ha.putO hd r,h⟩
theorem bv7 {l:List AO} {y:Nat} {Y:Yld} {st st':YS} (h:l[y]?=some (.yld Y st false)):Keep l (l.set y (.yld Y st' false)):=λj a ha=>by
  by_cases e:y=j
  · subst e
    rw[h] at ha
    cases ha
    exact⟨.yld Y st' false,by simp[(a3_.1 h).1],st',rfl,λe=>by cases e⟩
  · exact⟨a,by rw[b6_ e];exact ha,K1.refl a⟩
theorem co3 {o:Oper} {sl:Nat→AV} {objs:List AO} {k:AV→List AO→Option ρ} {r:ρ} {g:Operand} {args:List Operand} {ct:Array TypeId} {y:Nat} {Y:Yld}
    (ho:o.op = .call ⟨.value g,⟨args⟩,ct⟩) (hy:yldA (evA sl g) objs=some (y,Y)) (h:callY cx y Y (args.map (evA sl)) objs k=some r):∃ av objs',k av objs'=some r∧OpUn P o sl objs av objs':=by
  have hgy:evA sl g = .b (.one (.fn y))∧objs[y]?=some (.yld Y .rdy false):=by
    unfold yldA at hy
    split at hy
    · rename_i y' hg
      split at hy
      · rename_i Y' hob
        cases hy
        exact⟨hg,hob⟩
      · cases hy
    · cases hy
  obtain⟨hg,hob⟩:=hgy
  obtain⟨hc,h⟩:=bv_ h
  simp only[a2_] at hc
  obtain⟨⟨⟨hl,hps⟩,n1⟩,n2⟩:=hc
  obtain⟨o1,ho1,hto1⟩:=xq_ _ _ _ _ _ _ _ _ h
  cases o1 with
  | r s1=>cases ho1
  | x i s1=>cases ho1
  | n s1 =>
  have ho1:(match s1.objs[y]? with
      | some (.yld _ .asg _)=>ie_ cx Y.n Y.body Y.an.r ρ ⟨s1.slot,s1.objs.set y (.yld Y .busy false)⟩ (λs=>k (bV true) (s.objs.set y (.yld Y .rdy false))) (λs=>k (bV false) (s.objs.set y (.yld Y .ret false))) λi s=>k (bV false) (s.objs.set y (.yld Y (.ex i) false))
      | _=>none)=some r:=ho1
  split at ho1
  case h_2=>cases ho1
  rename_i Y1 r1 hob1
  obtain⟨o2,ho2,hto2⟩:=xq_ _ _ _ _ _ _ _ _ ho1
  have walk:∀ (s2:A) (st:YS) (b:Bool) (j:Option Code),j=st.pend→(j.isNone=b)→(st.st=if j.isNone then .ready else .done)→k (bV b) (s2.objs.set y (.yld Y st false))=some r →
      ((o2 = .n s2∧j=none)∨(o2 = .r s2∧j=some .ret)∨∃ i,o2 = .x i s2∧j=some (.exit i))→∃ av objs',k av objs'=some r∧OpUn P o sl objs av objs':=by
    intro s2 st b j hj hb hst hk ho2e
    refine⟨_,_,hk,?_⟩
    intro S hv Fm f w n ro K hs hd kk
    have hyl:y<objs.length:=(a3_.1 hob).1
    have hby:born objs y=true:=ba_.2 ⟨_,hob,by simp⟩
    have hgv:ev f g=hv y:=by
      have:=hs.ev g
      rw[hg] at this
      exact this.2
    obtain⟨L,p1,p2⟩:=OHs.focus (hv:=hv) (i:=0) hob
    rw[b0_] at p1 p2
    obtain⟨q,⟨l,D,fn,tm,e1,e2,hsz,htm⟩,hI1⟩:=(hs.inv.perm (p1.append_right Fm)).open_
    have hI2:Inv w S (ai7 l (rn_ fn tm Y.ps.toArray Y.assign Y.body D .ready none)::(L++Fm)):=Inv.shut (A:=ai7 _ _) hI1 e2
    have hlen:(args.map (ev f)).length=Y.ps.length:=by
      have:=a6_ hl
      simpa using this
    refine cj8 ho hd (by rw[hgv,e1]) rfl (ar1 hI2.obj (by simpa [rn_] using hlen)) (ci1 ?_)
    have hps':(Y.ps.all λp=>Nat.blt p Y.n)=true:=e6_.2 λp hp=>bj_ hps p hp
    have hfit:=zs_ (n:=Y.n) (f:=⟨λ_=>undef,[]⟩) Y.ps (args.map (ev f)) tm (λi=>tm.getD i undef) hps' hlen.symm hsz λ_=>rfl
    have e3:((Y.ps.toArray.zip (args.map (ev f)).toArray).foldl (λts (t,a)=>ts.setIfInBounds t a) tm)=(Y.ps.zip (args.map (ev f))).foldl (λts (t,a)=>ts.setIfInBounds t a) tm:=by
      rw[← Array.foldl_toList];simp
    show Y.assign.wpIn (FW (some l)) 0 P _ { tmps:=((Y.ps.toArray.zip (args.map (ev f)).toArray).foldl (λts (t,a)=>ts.setIfInBounds t a) tm),defers:=[] } w
    rw[e3]
    have hYlt:(AO.yld Y .rdy false).lt objs=true:=hs.wfo _ (b9_ hob)
    have hwf1:WfO (objs.set y (.yld Y .asg false)):=ej_ (by simp) hs.wfo (AO.lt_mono (bl_ (by simp)) hYlt)
    have hble1:BLe objs (objs.set y (.yld Y .asg false)):=bl_ (by simp)
    have hI3:Inv w S (OHs hv 0 (objs.set y (.yld Y .asg false))++(ai8 []::Fm)):=by
      have h1:Inv w S (OH hv (hv y) (.yld Y .asg false)::(L++Fm)):=Inv.shut (A:=YldA hv (hv y) Y .asg) hI1 ⟨l,D,fn,tm,e1,e2,hsz,htm⟩
      have h2:=h1.perm ((p2 (.yld Y .asg false)).symm.append_right Fm)
      exact (Inv.noD h2).perm List.perm_middle.symm
    have hr1:Rl S hv (objs.set y (.yld Y .asg false)) Fm ⟨updY (slY Y.sl) Y.ps (args.map (evA sl)),objs.set y (.yld Y .asg false)⟩ ⟨updL (λi=>tm.getD i undef) Y.ps (args.map (ev f)),[]⟩ w :=
      ⟨S,hv,[],PH.Le.refl _,λ_ _=>rfl,BLe.refl _,⟨hI3,bl7 htm (ag4 hs args),bl8 (aj8 (AO.lt_mono hble1 hYlt)) (λa ha=>by
        obtain⟨x,_,rfl⟩:=d8_.1 ha
        exact AV.lt_mono hble1 (ig_ hs.wfs x)),hwf1,hs.gl⟩,rfl⟩
    refine Go.wpIn_mono ((hto1 (ro:=some l) (λ_=>n1) hr1) _ hfit) λe a₁ w₁ hq => ?_
    obtain⟨f₁,hf₁,hq⟩:=hq
    have back:∀ {m:List AO},Keep (objs.set y (.yld Y .asg false)) m→∃ st',m[y]?=some (.yld Y st' false):=λhk=>by
      obtain⟨b,g1,st',g2,_⟩:=hk y (.yld Y .asg false) (by simp[hyl])
      exact⟨st',by rw[g1,g2]⟩
    cases e with
    | ret=>obtain⟨_,e,_⟩:=hq;cases e
    | exit i=>obtain⟨_,e,_⟩:=hq;cases e
    | goto t=>exact hq.elim
    | panic ch=>exact hq.elim
    | outgrown=>exact hq.elim
    | normal =>
    obtain⟨s1',e,hp1⟩:=hq
    cases e
    obtain⟨st1,g1⟩:=back hp1.keep
    have hob1':=hob1
    rw[g1] at hob1'
    cases hob1'
    obtain⟨S1,hv1,Ds1,x1,x2,x3,hs1,hds1⟩:=hp1.rl
    obtain⟨L1,q1,q2⟩:=OHs.focus (hv:=hv1) (i:=0) g1
    rw[b0_] at q1 q2
    obtain⟨k1,⟨l1,D1,fn1,tm1,a1,a2,a3,a4⟩,hI4⟩:=(hs1.inv.perm (q1.append_right _)).open_
    have hl1:∀ (hv':Nat→Value) (lx:Nat),Ag (objs.set y (.yld Y .asg false)) hv hv'→hv' y = .func (.yield lx) #[] #[]→lx=l:=λhv' lx ha hx=>by
      have h5:=ha y (hble1 y hby)
      rw[e1,hx] at h5
      have h6:Value.func (.yield l) #[] #[] = .func (.yield lx) #[] #[]:=h5
      injection h6 with h7
      injection h7 with h8
      exact h8.symm
    obtain rfl:=hl1 _ _ x2 a1
    have hI5:Inv w₁ S1 (ai7 l1 (rn_ fn1 tm1 Y.ps.toArray Y.assign Y.body D1 .ready none)::(L1++(ai8 Ds1::Fm))):=Inv.shut (A:=ai7 _ _) hI4 a2
    refine⟨rfl,_,bo8 hI5.obj rfl,?_⟩
    have hI6:=hI5.setObj (.loop { rn_ fn1 tm1 Y.ps.toArray Y.assign Y.body D1 .ready none with state:=.busy })
    have hI7:=(hI6.headMap (B:=OH hv1 (hv1 y) (.yld Y .busy false)) λq hq=>⟨l1,D1,fn1,tm1,a1,hq,a3,a4⟩).perm ((q2 (.yld Y .busy false)).symm.append_right _)
    have hk2:Keep s1.objs (s1.objs.set y (.yld Y .busy false)):=bv7 g1
    have hble2:BLe s1.objs (s1.objs.set y (.yld Y .busy false)):=bl_ (by simp)
    have hwf2:WfO (s1.objs.set y (.yld Y .busy false)):=ej_ (by simp) hs1.wfo (AO.lt_mono hble2 (show (AO.yld Y .asg false).lt s1.objs=true from hs1.wfo _ (b9_ g1)))
    have hr2:Rl S hv (objs.set y (.yld Y .asg false)) Fm ⟨s1.slot,s1.objs.set y (.yld Y .busy false)⟩ f₁ _ :=
      ⟨S1,hv1,Ds1,x1,x2,x3.trans hble2,⟨hI7,hs1.rel,λd=>AV.lt_mono hble2 (hs1.wfs d),hwf2,hs1.gl⟩,hds1⟩
    refine Go.wpIn_mono ((hto2 (ro:=some l1) (λ_=>n2) hr2) _ hf₁) λe a₂ w₂ hq => ?_
    obtain⟨f₂,hf₂,hq⟩:=hq
    have done:∀ {asg:List Nat},Po S hv (objs.set y (.yld Y .asg false)) Fm asg ⟨s1.slot,s1.objs.set y (.yld Y .busy false)⟩ s2 f₂ w₂→∃ v w',(Instr.endRound l1 j).run P w₂ = .ok v w'∧∃ v',Ending.returned v = .returned v'∧K (vu_ f o.dst v') w':=by
      intro asg hp2
      obtain⟨S2,hv2,Ds2,y1,y2,y3,hs2,hds2⟩:=hp2.rl
      obtain⟨st2,g2⟩:=back ((hp1.keep.trans hk2).trans hp2.keep)
      obtain⟨L2,r1,r2⟩:=OHs.focus (hv:=hv2) (i:=0) g2
      rw[b0_] at r1 r2
      obtain⟨k2,⟨l2,D2,fn2,tm2,b1,b2,b3,b4⟩,hI8⟩:=(hs2.inv.perm (r1.append_right _)).open_
      obtain rfl:=hl1 _ _ y2 b1
      have hI9:Inv w₂ S2 (ai7 l2 (rn_ fn2 tm2 Y.ps.toArray Y.assign Y.body D2 st2.st st2.pend)::(L2++(ai8 Ds2::Fm))):=Inv.shut (A:=ai7 _ _) hI8 b2
      refine⟨_,_,run_end j hI9.obj,_,rfl,?_⟩
      have hI10:=hI9.setObj (.loop { rn_ fn2 tm2 Y.ps.toArray Y.assign Y.body D2 st2.st st2.pend with state:=if j.isNone then .ready else .done,pending:=j })
      have hI11:=(hI10.headMap (B:=OH hv2 (hv2 y) (.yld Y st false)) λq hq=>⟨l2,D2,fn2,tm2,b1,by rw[← hj,hst];exact hq,b3,b4⟩).perm ((r2 (.yld Y st false)).symm.append_right _)
      have hI12:=(hI11.perm f0_).drop
      have hble3:BLe s2.objs (s2.objs.set y (.yld Y st false)):=bl_ (by simp)
      have hwf3:WfO (s2.objs.set y (.yld Y st false)):=ej_ (by simp) hs2.wfo (AO.lt_mono hble3 (show (AO.yld Y st2 false).lt s2.objs=true from hs2.wfo _ (b9_ g2)))
      have hkeep:Keep objs (s2.objs.set y (.yld Y st false)):=((bv7 hob).trans ((hp1.keep.trans hk2).trans hp2.keep)).trans (bv7 g2)
      refine kk _ S2 hv2 _ (hble1.trans (y3.trans hble3)) hkeep hwf3 rfl y1 (y2.sub hble1) ?_ hI12
      rw[hb]
      exact tr_ b
    cases e with
    | normal =>
      obtain⟨s2',e,hp2⟩:=hq
      rcases ho2e with ⟨h1,h2⟩ | ⟨h1,h2⟩ | ⟨i,h1,h2⟩<;>rw[h1] at e<;>cases e
      rw[h2] at done
      exact done hp2
    | ret =>
      obtain⟨s2',e,hp2⟩:=hq
      rcases ho2e with ⟨h1,h2⟩ | ⟨h1,h2⟩ | ⟨i,h1,h2⟩<;>rw[h1] at e<;>cases e
      rw[h2] at done
      exact done hp2
    | exit i =>
      obtain⟨s2',e,hp2⟩:=hq
      rcases ho2e with ⟨h1,h2⟩ | ⟨h1,h2⟩ | ⟨i,h1,h2⟩<;>rw[h1] at e<;>cases e
      rw[h2] at done
      exact done hp2
    | goto t=>exact hq.elim
    | panic ch=>exact hq.elim
    | outgrown=>exact hq.elim
  cases o2 with
  | n s2=>exact walk s2 .rdy true none rfl rfl rfl ho2 (.inl ⟨rfl,rfl⟩)
  | r s2=>exact walk s2 .ret false (some .ret) rfl rfl rfl ho2 (.inr (.inl ⟨rfl,rfl⟩))
  | x i s2=>exact walk s2 (.ex i) false (some (.exit i)) rfl rfl rfl ho2 (.inr (.inr ⟨i,rfl,rfl⟩))
noncomputable def cxI {P:Program} [Tb P] (an:FuncId→An) (has:FuncId→Bool) (con:Cx P):Nat→Cx P
  | 0=>con
  | d+1=>⟨con.need,λρ o sl objs fr k=>match o.op with
    | .call ⟨.value g,⟨args⟩,_⟩=>match yldA (evA sl g) objs with
      | some q=>callY (cxI an has con d) q.1 q.2 (args.map (evA sl)) objs k
      | none=>(fnA (evA sl g) objs).bind λq=>cond (has q.1) (con.call ρ o sl objs fr k) (callI (cxI an has con d) an o sl objs (mvFn fr objs.length k))
    | _=>none,λ{ρ o sl objs fr k r} h=>(by
      split at h
      · rename_i g args ct ho
        split at h
        · rename_i q hq
          exact co3 ho hq h
        · obtain⟨q,_,h⟩:=bnd h
          cases hq:has q.1 with
          | true=>rw[hq] at h;exact con.ok h
          | false =>
            rw[hq] at h
            obtain⟨av,ob,h1,h2⟩:=co4 h
            exact mvFn_ok h1 h2
      · cases h),λρ g args objs k=>(fnA g objs).bind λq=>inlF (cxI an has con d) (an q.1) q.1 (args++q.2) objs k,λh=>inlV_ok h⟩
end
end
section
variable [Gb]
structure CSrc (t:Ty) (S:PH) (O:List HP) (v:Value) (l:List t.den):Prop where
  form:∀ {w},Inv w S O→∃ a cap,v = .slice a l.length cap∧(a=none→l=[])
  src:∀ {w} {A:List HP},Inv w S (A++O)→@Src t.den t.enc w S v l
theorem bz4 {t:Ty} {S:PH} {O:List HP} {v:Value} {l:List t.den} (h:RVt (.list t) S v l):CSrc t S O v l where
  form _:=by
    obtain⟨a,cap,e,_,_,hn,_⟩:=@ij_ t.den t.enc S v l h
    exact⟨a,cap,e,λh=>(hn h).1⟩
  src hI:=@RV.src t.den t.enc _ S v l h hI.in_
theorem co0 {t:Ty} {S:PH} {O L:List HP} {E:TypeId} {v:Value} {l:List t.den} (hp:O.Perm (@Row t.den t.enc E v l::L)):CSrc t S O v l where
  form hI:=by
    obtain⟨a,cap,e,hn⟩:=@Inv.rowForm t.den t.enc _ S L E v l (hI.perm hp)
    refine⟨a,cap,e,λha => ?_⟩
    obtain⟨k,hk,_⟩:=(hI.perm hp).open_
    rcases hk with ⟨_,h2,_⟩ | ⟨g,cp,pre,ls,post,h1,_⟩
    · exact h2
    · rw[e,ha] at h1;cases h1
  src {w A} hI:=by
    have:(A++O).Perm (@Row t.den t.enc E v l::(A++L)):=(m7_ A hp).trans f0_
    exact @Inv.rowSrc t.den t.enc w S (A++L) E v l (hI.perm this)
theorem co1 {t:Ty} {S:PH} {O:List HP}:CSrc t S O (.slice none 0 0) [] where
  form _:=⟨none,0,rfl,λ_=>rfl⟩
  src hI:=@Inv.rowSrc t.den t.enc _ S _ 0 (.slice none 0 0) [] hI.rowNil
structure Cpy (P:Program) [Tb P] where
  k:FuncId
  t:Ty
  E:TypeId
  ok:∀ {w:World} {S:PH} {O:List HP} {v:Value} {l r:List t.den},CSrc t S O v l→Inv w S O→push? [] l=some r →
    Calls P k [v].toArray w λe w'=>∃ u,e = .returned u∧Inv w' S (@Row t.den t.enc E u r::O)
def cloneC (T T2:TypeId) (r0 r1 r2 r3:Nat) (t0 t1 t2 t3 t4 t5 t6 t7:TypeId) (p0 p1 p2 p3 p4 p5 p6 p7:String) (e0 e1 e2 e3 e4 e5 e6 e7:Array Edge):Code :=
  .seq (.region r0 [⟨some 2,.assign (.const (.slice none 0 0)),t0,p0,e0,none⟩].toArray false)
    (.seq (.seq (.region r1 [⟨some 3,.move (.tmp 0),t1,p1,e1,none⟩,⟨some 4,.binOp .eql T (.tmp 3) (.const (.slice none 0 0)) T2,t2,p2,e2,none⟩].toArray false)
        (.cond (.tmp 4) (.seq (.region r2 [⟨some 2,.assign (.const (.slice none 0 0)),t3,p3,e3,none⟩].toArray false) .ret) .skip))
      (.seq (.region r3 [⟨some 5,.buildSlice T 0 [].toArray,t4,p4,e4,none⟩,⟨some 6,.move (.tmp 0),t5,p5,e5,none⟩,⟨some 7,.call ⟨.builtin .append,[.tmp 5,.tmp 6].toArray,[T,T].toArray⟩,t6,p6,e6,none⟩,⟨some 2,.assign (.tmp 7),t7,p7,e7,none⟩].toArray false) .ret))
theorem be1 {P:Program} [Tb P] {k:FuncId} {fn:Func} {T T2 E:TypeId} {t:Ty} {zd:t.den} {r0 r1 r2 r3:Nat} {t0 t1 t2 t3 t4 t5 t6 t7:TypeId} {p0 p1 p2 p3 p4 p5 p6 p7:String} {e0 e1 e2 e3 e4 e5 e6 e7:Array Edge}
    (hf:P.funcs[k]?=some fn) (hb:fn.body=some (cloneC T T2 r0 r1 r2 r3 t0 t1 t2 t3 t4 t5 t6 t7 p0 p1 p2 p3 p4 p5 p6 p7 e0 e1 e2 e3 e4 e5 e6 e7)) (hn:fn.ntmps=8) (hr:fn.results = #[.tmp 2])
    (hT:elemOf P T=some E) (hz:rc_ P E t=some zd) (hs:Nat.blt 0 t.sz=true)
    {w:World} {S:PH} {O:List HP} {v:Value} {l r:List t.den} (hc:CSrc t S O v l) (hI:Inv w S O) (h:push? [] l=some r) :
    Calls P k [v].toArray w λe w'=>∃ u,e = .returned u∧Inv w' S (@Row t.den t.enc E u r::O):=by
  have hT:=fs_ hT
  obtain⟨bytes,zv,h1,h2,_⟩:=lg_ hz
  obtain⟨z1,cp1,rfl,hnil⟩:=hc.form hI
  refine qw_ (n:=8) (vs:=[.slice z1 l.length cp1]) hf hb hn rfl ?_
  refine bp_ (bf_ (uk_ rfl (oa_ (v:=.slice none 0 0) rfl rfl (ec_ ?_))))
  refine bp_ (bp_ (bf_ (uk_ rfl (nb_ (v:=.slice z1 l.length cp1) rfl rfl (uk_ rfl (cj9 rfl hT rfl rfl (ec_ ?_)))))))
  cases z1 with
  | none =>
    refine ns_ (b:=true) rfl rfl ?_
    refine bp_ (bf_ (uk_ rfl (oa_ (v:=.slice none 0 0) rfl rfl (ec_ ?_))))
    refine vp_ ?_
    have hl:=hnil rfl
    subst hl
    obtain rfl:=a5_ h
    exact⟨rfl,_,res1 hr rfl,_,rfl,hI.rowNil⟩
  | some ad =>
    refine kl_ (b:=false) rfl rfl (mv_ ?_)
    refine bp_ (bf_ ?_)
    refine uk_ rfl (@rs_ none P 8 _ w _ 5 _ _ _ _ T E t.den t.enc S O bytes zv zd [] [] 0 [] rfl hT h1 parts0 rfl (by simp) (by decide) trivial hI (λu1 w1 I1 => ?_))
    refine uk_ rfl (nb_ (v:=.slice (some ad) l.length cp1) rfl rfl ?_)
    refine uk_ rfl (@ws_ none P 8 _ w1 _ 7 _ _ _ _ (.tmp 5) (.tmp 6) u1 (.slice (some ad) l.length cp1) T E t.den t.enc S O [] bytes zv zd l r #[T,T] rfl rfl hT h1 h2 (by rw[cg_];exact c0_ hs) rfl rfl I1 (hc.src (A:=[_]) I1) h (λu2 w2 I2 => ?_))
    refine uk_ rfl (oa_ (v:=u2) rfl rfl ?_)
    refine ec_ ?_
    refine vp_ ?_
    exact⟨rfl,_,res1 hr rfl,_,rfl,I2⟩
def ca0 {ρ:Type} {P:Program} [Tb P] (c:Cpy P) (a:AV) (objs:List AO) (fr:Nat) (k:AV→List AO→Option ρ):Option ρ:=match a with
  | .b (.one (.val (.list t) l))=>(ys_ t c.t l).bind λl=>(push? [] l).bind λr=>yd_ objs fr (.row c.t c.E r false) (yi_ fr) k
  | .b (.one .nils)=>yd_ objs fr (.row c.t c.E [] false) (yi_ fr) k
  | .b (.one (.row o))=>match objs[o]? with
    | some (.row t _ l _)=>(ys_ t c.t l).bind λl=>(push? [] l).bind λr=>yd_ objs fr (.row c.t c.E r false) (yi_ fr) k
    | _=>none
  | _=>none
section
variable {ρ:Type} {P:Program} [Tb P] {objs:List AO} {r:ρ} {fr:Nat} {k:AV→List AO→Option ρ}
theorem bz9 {c:Cpy P} {a:AV} (h:ca0 c a objs fr k=some r):∃ av objs',k av objs'=some r∧BLe objs objs'∧Keep objs objs'∧(WfO objs→WfO objs')∧av.lt objs'=true ∧
    ∀ {S:PH} {hv:Nat→Value} {Fm:List HP} {sl:Nat→AV} {f:Fr} {w:World} {v:Value},Sit S hv Fm sl objs f w→RA hv S a v →
      Calls P c.k [v].toArray w λe w'=>∃ u hv',e = .returned u∧Ag objs hv hv'∧RA hv' S av u∧Inv w' S (OHs hv' 0 objs'++Fm):=by
  have fin:∀ {l m:List c.t.den},push? [] l=some m→yd_ objs fr (.row c.t c.E m false) (yi_ fr) k=some r →
      (∀ {S:PH} {hv:Nat→Value} {Fm:List HP} {sl:Nat→AV} {f:Fr} {w:World} {v:Value},Sit S hv Fm sl objs f w→RA hv S a v→CSrc c.t S (OHs hv 0 objs++Fm) v l) →
      ∃ av objs',k av objs'=some r∧BLe objs objs'∧Keep objs objs'∧(WfO objs→WfO objs')∧av.lt objs'=true ∧
    ∀ {S:PH} {hv:Nat→Value} {Fm:List HP} {sl:Nat→AV} {f:Fr} {w:World} {v:Value},Sit S hv Fm sl objs f w→RA hv S a v →
      Calls P c.k [v].toArray w λe w'=>∃ u hv',e = .returned u∧Ag objs hv hv'∧RA hv' S av u∧Inv w' S (OHs hv' 0 objs'++Fm):=by
    intro l m hm h hsrc
    obtain⟨hu,h⟩:=fw_ h
    refine⟨_,_,h,bl_ (by simp),cj_ (cn_ hu) trivial,λhw=>ej_ (by simp) hw rfl,ja_ hu (by simp),λ{S hv Fm sl f w v} hs hr => ?_⟩
    refine (c.ok (hsrc hs hr) hs.inv hm).mono λe w' he => ?_
    obtain⟨u,rfl,hI⟩:=he
    obtain⟨g1,g2⟩:=ql_ (hv:=hv) (fr:=fr) hI
    exact⟨u,_,rfl,np_ (cn_ hu),g2,id_ hs.wfo (cn_ hu) hI⟩
  unfold ca0 at h
  split at h
  · rename_i t l
    obtain⟨m,h1,h3⟩:=bnd h
    obtain⟨q,h2,h4⟩:=bnd h3
    clear h h3
    obtain⟨e1,e2⟩:=hp_ h1
    subst e1
    have e2:m=l:=e2
    subst e2
    exact fin h2 h4 λhs hr=>bz4 hr.2.2
  · exact fin (l:=[]) rfl h λ{S hv Fm sl f w v} hs hr=>by
      have e:v = .slice none 0 0:=hr.2
      rw[e]
      exact co1
  · rename_i o
    split at h
    · rename_i t B l ro ho
      obtain⟨m,h1,h3⟩:=bnd h
      obtain⟨q,h2,h4⟩:=bnd h3
      clear h h3
      obtain⟨e1,e2⟩:=hp_ h1
      subst e1
      have e2:m=l:=e2
      subst e2
      exact fin h2 h4 λ{S hv Fm sl f w v} hs hr=>by
        obtain⟨L,g1,_⟩:=OHs.focus (hv:=hv) (i:=0) ho
        rw[b0_] at g1
        have e:v=hv o:=hr.2
        rw[e]
        exact co0 (g1.append_right Fm)
    · cases h
  · cases h
end
end
section
variable [Gb]
def nq_:List Ty→Type
  | []=>Unit
  | t::ts=>t.den×nq_ ts
def bs3 (t:Ty) (x:t.den):BV:=cond t.agg (.val t x) (.one (.val t x))
def ce4:(ts:List Ty)→nq_ ts→List AV
  | [],_=>[]
  | t::ts,x=>.b (bs3 t x.1)::ce4 ts x.2
def ofBs:(ts:List Ty)→nq_ ts→List BV
  | [],_=>[]
  | t::ts,x=>bs3 t x.1::ofBs ts x.2
def at4:(rs:List Ty)→nq_ rs→AV
  | [t],x=>.b (bs3 t x.1)
  | rs,x=>.tup (ofBs rs x)
theorem bs2 {t:Ty} {x:t.den}:ofD t x = .b (bs3 t x):=by unfold ofD bs3;cases t.agg<;>rfl
theorem od_ {hv:Nat→Value} {S:PH} {t:Ty} {x:t.den} {v:Value} (h:RVt t S v x):RB hv S (bs3 t x) v:=by
  have:=rt_ (hv:=hv) h
  rw[bs2] at this
  exact this
theorem qq_ {hv:Nat→Value} {S:PH} {t:Ty} {x:t.den} {v:Value} (h:RB hv S (bs3 t x) v):RVt t S v x:=by
  unfold bs3 at h
  cases h0:t.agg with
  | true=>rw[h0] at h;exact h.2
  | false=>rw[h0] at h;exact h.2.2
theorem at7 {n:List AO} {t:Ty} {x:t.den}:(bs3 t x).lt n=true:=by unfold bs3;cases t.agg<;>rfl
theorem bs5 {n:List AO}:∀ {ts:List Ty} {x:nq_ ts},fd_ (BV.lt n) (ofBs ts x)=true
  | [],_=>rfl
  | t::ts,x=>by
    show (BV.lt n (bs3 t x.1)&&fd_ (BV.lt n) (ofBs ts x.2))=true
    rw[at7,bs5]
    rfl
theorem at3 {n:List AO} {rs:List Ty} {x:nq_ rs}:(at4 rs x).lt n=true:=by
  unfold at4
  split
  · exact at7
  · exact bs5
def Ty.flat:Ty→Bool
  | .int | .bool | .u8 | .str | .unit=>true
  | .one t=>t.flat
  | .pair a b=>a.flat&&b.flat
  | .clo _ t=>t.flat
  | _=>false
theorem sb_ {S S':PH}:∀ {t:Ty} {cs:List Value} {x:t.den},t.flat=true→t.enc.rep S cs x→t.enc.rep S' cs x
  | .int,_,_,_,h=>h
  | .bool,_,_,_,h=>h
  | .u8,_,_,_,h=>h
  | .str,_,_,_,h=>h
  | .unit,_,_,_,h=>h
  | .one t,_,_,hf,h=>sb_ (t:=t) hf h
  | .pair a b,_,_,hf,⟨c1,c2,e,h1,h2⟩=>by
    simp only[Ty.flat,a2_] at hf
    exact⟨c1,c2,e,sb_ hf.1 h1,sb_ hf.2 h2⟩
  | .clo f t,_,_,hf,⟨ys,e,h⟩=>⟨ys,e,sb_ (t:=t) hf h⟩
  | .list _,_,_,hf,_=>by cases hf
  | .ref _,_,_,hf,_=>by cases hf
theorem by1 {S S':PH} {t:Ty} {v:Value} {x:t.den} (hf:t.flat=true) (h:RVt t S v x):RVt t S' v x:=by
  obtain⟨cs,hr,e⟩:=h
  exact⟨cs,sb_ hf hr,e⟩
theorem by2 {hv hv':Nat→Value} {S S':PH}:∀ {ts:List Ty} {x:nq_ ts} {vs:List Value},fd_ Ty.flat ts=true→Fa (RB hv S) (ofBs ts x) vs→Fa (RB hv' S') (ofBs ts x) vs
  | [],_,[],_,_=>trivial
  | t::ts,x,v::vs,hf,h=>by
    simp only[fd_,a2_] at hf
    exact⟨od_ (by1 hf.1 (qq_ h.1)),by2 hf.2 h.2⟩
theorem cn0 {hv hv':Nat→Value} {S S':PH} {rs:List Ty} {x:nq_ rs} {v:Value} (hf:fd_ Ty.flat rs=true) (h:RA hv S (at4 rs x) v):RA hv' S' (at4 rs x) v:=by
  revert h
  unfold at4
  split<;>intro h
  · rename_i t x
    simp only[fd_,a2_] at hf
    exact od_ (by1 hf.1 (qq_ h))
  · obtain⟨vs,e,hf2⟩:=h
    exact⟨vs,e,by2 hf hf2⟩
theorem br7 {hv hv':Nat→Value} {S:PH} {rs:List Ty} {x:nq_ rs} {v:Value} (h:RA hv S (at4 rs x) v):RA hv' S (at4 rs x) v :=
  RA.ag (n:=[]) (λi hi=>by cases hi) at3 h
structure Con (P:Program) [Tb P] where
  k:FuncId
  ts:List Ty
  rs:List Ty
  F:nq_ ts→Option (nq_ rs)
  ok:∀ {w:World} {S:PH} {Fr:List HP} {hv:Nat→Value} {vs:List Value} {x:nq_ ts} {r:nq_ rs},GlS S→Inv w S Fr→Fa (RA hv S) (ce4 ts x) vs→F x=some r →
    Calls P k vs.toArray w (Done S Fr λT v O'=>O'=[]∧RA (λ_=>undef) T (at4 rs r) v)
def hdS:List SV→Option (SV×List SV)
  | []=>none
  | s::l=>some (s,l)
def full {α:Type}:Option (α×List SV)→Option α
  | some (x,[])=>some x
  | _=>none
def imR (ob:List AO) (t:Ty) (s:SV):Option (Ty.list t).den:=match s with
  | .row o=>match ob[o]? with
    | some (.row t' _ m _)=>ys_ t' t m
    | _=>none
  | s=>asC (.list t) s
def imP (ob:List AO) (t:Ty) (f:List SV→Option (t.den×List SV)) (s:SV):Option (Ty.ref t).den:=match s with
  | .ptr o 0=>match ob[o]? with
    | some (.cells _ c _)=>full (f c)
    | _=>none
  | s=>asC (.ref t) s
def im1 (t:Ty) (f:SV→Option t.den) (l:List SV):Option (t.den×List SV):=(hdS l).bind λq=>(f q.1).bind λx=>some (x,q.2)
def imL (ob:List AO):(t:Ty)→List SV→Option (t.den×List SV)
  | .unit,l=>some ((),l)
  | .one t,l=>imL ob t l
  | .pair a b,l=>(imL ob a l).bind λp=>(imL ob b p.2).bind λq=>some ((p.1,q.1),q.2)
  | .ref t,l=>im1 (.ref t) (imP ob t (imL ob t)) l
  | .list t,l=>im1 (.list t) (imR ob t) l
  | .int,l=>im1 .int (asC .int) l
  | .bool,l=>im1 .bool (asC .bool) l
  | .u8,l=>im1 .u8 (asC .u8) l
  | .str,l=>im1 .str (asC .str) l
  | .clo f t,l=>im1 (.clo f t) (asC (.clo f t)) l
def ldA (ob:List AO) (t:Ty):AV→Option t.den
  | .b (.one s)=>cond t.agg none (full (imL ob t [s]))
  | .b (.val a x)=>ca5 a t x
  | .b (.agg l)=>cond t.agg (full (imL ob t l)) none
  | _=>none
def ldAs (ob:List AO):(ts:List Ty)→List AV→Option (nq_ ts)
  | [],[]=>some ()
  | t::ts,a::l=>(ldA ob t a).bind λx=>(ldAs ob ts l).bind λy=>some (x,y)
  | _,_=>none
def asDs:(ts:List Ty)→List AV→Option (nq_ ts)
  | [],[]=>some ()
  | t::ts,a::l=>(asD t a).bind λx=>(asDs ts l).bind λy=>some (x,y)
  | _,_=>none
structure Lent (hv:Nat→Value) (ob:List AO) (T:PH):Prop where
  row:∀ (o:Nat) (t:Ty) (E:TypeId) (l:List t.den) (ro:Bool),ob[o]?=some (AO.row t E l ro)→RVt (.list t) T (hv o) l
  cell:∀ (o:Nat) (E:TypeId) (c:List SV) (ro:List Nat),ob[o]?=some (AO.cells E c ro)→∃ (g:Nat) (cs:List Value),hv o = .pointer (some ⟨g,0,none⟩)∧Fa (RS hv T) c cs∧T.m g=some (.cells cs.toArray E (0,0))
theorem cl8 {w:World} {S:PH} {hv:Nat→Value} {ob:List AO} {Fm:List HP} (hI:Inv w S (OHs hv 0 ob++Fm)):∃ T,∃ Fr:List HP,S.Le T∧Inv w T Fr∧Lent hv ob T∧∀ {w' U},Inv w' U Fr→T.Le U→Inv w' S (OHs hv 0 ob++Fm):=by
  obtain⟨T,hs,Fr,hle,hI2,hlen,hat,back⟩:=Inv.lendN (OHs hv 0 ob) hI
  refine⟨T,Fr,hle,hI2,⟨λo t E l ro ho => ?_,λo E c ro ho => ?_⟩,λh1 h2=>back [] trivial h1 h2⟩
  · have hA:(OHs hv 0 ob)[o]?=some (OH hv (hv o) (.row t E l ro)):=by rw[wu_,ho,b0_];rfl
    have hl:o<hs.length:=by rw[hlen];exact (a3_.1 hA).1
    obtain⟨p1,q1⟩:=hat o _ _ hA (a7_ hl)
    exact RowP.rv p1 hle q1
  · have hA:(OHs hv 0 ob)[o]?=some (OH hv (hv o) (.cells E c ro)):=by rw[wu_,ho,b0_];rfl
    have hl:o<hs.length:=by rw[hlen];exact (a3_.1 hA).1
    obtain⟨⟨g,cs,e1,e2,e3⟩,q1⟩:=hat o _ _ hA (a7_ hl)
    exact⟨g,cs,e1,e2.imp λ_ _=>RS.mono hle,q1 g _ (by rw[e3];simp[Hp.one])⟩
section
variable {hv:Nat→Value} {T:PH} {ob:List AO}
theorem xh_ {α:Type} {q:Option (α×List SV)} {x:α} (h:full q=some x):q=some (x,[]):=by
  unfold full at h
  split at h
  · cases h;rfl
  · cases h
theorem qt_ {t:Ty} (h0:t.agg=false) {f:SV→Option t.den} (hf:∀ s v x,RS hv T s v→f s=some x→RVt t T v x) {l l':List SV} {cs:List Value} {x:t.den} (h:Fa (RS hv T) l cs) (hx:im1 t f l=some (x,l')) :
    ∃ a b,cs=a++b∧t.enc.rep T a x∧Fa (RS hv T) l' b:=by
  obtain⟨⟨s,l1⟩,h1,hx⟩:=bnd hx
  obtain⟨y,h2,hx⟩:=bnd hx
  cases hx
  cases l with
  | nil=>cases h1
  | cons s' l =>
    cases h1
    cases cs with
    | nil=>exact h.elim
    | cons v cs=>exact⟨[v],cs,rfl,nw_ h0 (hf _ _ _ h.1 h2),h.2⟩
theorem bw4 (hL:Lent hv ob T):∀ {t:Ty} {l l':List SV} {cs:List Value} {x:t.den},Fa (RS hv T) l cs→imL ob t l=some (x,l')→∃ a b,cs=a++b∧t.enc.rep T a x∧Fa (RS hv T) l' b:=by
  intro t
  induction t with
  | unit=>intro l l' cs x h hx;cases hx;exact⟨[],cs,rfl,rfl,h⟩
  | one t ih=>intro l l' cs x h hx;exact ih h hx
  | pair a b iha ihb =>
    intro l l' cs x h hx
    obtain⟨⟨y,l1⟩,h1,hx⟩:=bnd hx
    obtain⟨⟨z,l2⟩,h2,hx⟩:=bnd hx
    cases hx
    obtain⟨c1,c2,rfl,r1,f1⟩:=iha h h1
    obtain⟨c3,c4,rfl,r2,f2⟩:=ihb f1 h2
    exact⟨c1++c3,c4,by simp,⟨c1,c3,rfl,r1,r2⟩,f2⟩
  | ref t ih =>
    intro l l' cs x h hx
    refine qt_ (t:=.ref t) rfl (λs v y hr hy => ?_) h hx
    unfold imP at hy
    split at hy
    · rename_i o
      split at hy
      · rename_i E c ro ho
        have hy:=xh_ hy
        obtain⟨g,ds,e1,e2,e3⟩:=hL.cell o E c ro ho
        obtain⟨c1,c2,rfl,r1,f1⟩:=ih e2 hy
        cases c2 with
        | cons _ _=>exact f1.elim
        | nil =>
          refine mj_ ⟨⟨g,0,none⟩,c1,?_,r1,λj u hu => ?_⟩
          · have h2:(∃ a,v = .pointer (some a))∧v=be_ (hv o) 0:=hr.2
            rw[e1] at h2
            exact sc_ h2.2
          · rw[gl_]
            simp only[PH.cell,e3]
            simpa using hu
      · cases hy
    · exact qg_ rfl hr hy
  | list t ih =>
    intro l l' cs x h hx
    refine qt_ (t:=.list t) rfl (λs v y hr hy => ?_) h hx
    cases s
    case row o =>
      have hy:imR ob t (.row o)=some y:=hy
      unfold imR at hy
      cases ho:ob[o]? with
      | none=>simp[ho] at hy
      | some a =>
        cases a with
        | row t' E m ro =>
          simp only[ho] at hy
          obtain⟨e1,e2⟩:=hp_ hy
          subst e1
          have e3:y=m:=e2
          subst e3
          have:=hL.row o t' E y ro ho
          have e4:v=hv o:=hr.2
          rw[e4]
          exact this
        | _=>simp[ho] at hy
    all_goals exact qg_ rfl hr hy
  | int=>exact λh hx=>qt_ (t:=.int) rfl (λs v y hr hy=>qg_ rfl hr hy) h hx
  | bool=>exact λh hx=>qt_ (t:=.bool) rfl (λs v y hr hy=>qg_ rfl hr hy) h hx
  | u8=>exact λh hx=>qt_ (t:=.u8) rfl (λs v y hr hy=>qg_ rfl hr hy) h hx
  | str=>exact λh hx=>qt_ (t:=.str) rfl (λs v y hr hy=>qg_ rfl hr hy) h hx
  | clo f t ih=>exact λh hx=>qt_ (t:=.clo f t) rfl (λs v y hr hy=>qg_ rfl hr hy) h hx
theorem ldA_rv (hL:Lent hv ob T) {t:Ty} {a:AV} {v:Value} {x:t.den} (h:RA hv T a v) (hx:ldA ob t a=some x):RVt t T v x:=by
  cases a with
  | tup l=>cases hx
  | b a =>
    cases a with
    | dead=>cases hx
    | one s =>
      cases h0:t.agg with
      | true=>simp[ldA,h0] at hx
      | false =>
        have hx:=xh_ (show full (imL ob t [s])=some x by simpa [ldA,h0] using hx)
        obtain⟨c1,c2,e,hr,hf2⟩:=bw4 hL (l:=[s]) (cs:=[v]) ⟨h,trivial⟩ hx
        cases c2 with
        | cons _ _=>cases hf2
        | nil =>
          rw[e3_] at e
          subst e
          exact bo2 h0 hr
    | val t' y =>
      obtain⟨rfl,rfl⟩:=tn_ hx
      exact h.2
    | agg l =>
      cases h0:t.agg with
      | false=>simp[ldA,h0] at hx
      | true =>
        have hx:=xh_ (show full (imL ob t l)=some x by simpa [ldA,h0] using hx)
        obtain⟨cs,rfl,hf⟩:=h
        obtain⟨c1,c2,rfl,hr,hf2⟩:=bw4 hL hf hx
        cases c2 with
        | cons _ _=>cases hf2
        | nil=>exact⟨c1,hr,by rw[kz_,h0,e3_];rfl⟩
theorem bv1 (hL:Lent hv ob T):∀ {ts:List Ty} {l:List AV} {vs:List Value} {x:nq_ ts},Fa (RA hv T) l vs→ldAs ob ts l=some x→Fa (RA hv T) (ce4 ts x) vs
  | [],[],[],x,_,_=>trivial
  | t::ts,a::l,v::vs,x,h,hx=>by
    obtain⟨y,h1,hx⟩:=bnd hx
    obtain⟨z,h2,hx⟩:=bnd hx
    cases hx
    exact⟨od_ (ldA_rv hL h.1 h1),bv1 hL h.2 h2⟩
  | [],_::_,_,_,_,hx=>by cases hx
  | _::_,[],_,_,_,hx=>by cases hx
end
theorem aw4 {hv:Nat→Value} {S:PH}:∀ {ts:List Ty} {l:List AV} {vs:List Value} {x:nq_ ts},Fa (RA hv S) l vs→asDs ts l=some x→Fa (RA hv S) (ce4 ts x) vs
  | [],[],[],x,_,_=>trivial
  | t::ts,a::l,v::vs,x,h,hx=>by
    obtain⟨y,h1,hx⟩:=bnd hx
    obtain⟨z,h2,hx⟩:=bnd hx
    cases hx
    exact⟨od_ (gm_ h.1 h1),aw4 h.2 h2⟩
  | [],_::_,_,_,_,hx=>by cases hx
  | _::_,[],_,_,_,hx=>by cases hx
def af2:List AV→List Nat
  | []=>[]
  | a::l=>ct7 a++af2 l
def ap2 (P:Program) [Tb P] (k:FuncId):Bool:=match fns P k with
  | some fn=>fn.body.isSome&&!(fn.name == "runtime.NumGoroutine")
  | none=>false
def ah4 {ρ:Type} {P:Program} [Tb P] (c:Con P) (avs:List AV) (objs:List AO) (k:AV→List AO→Option ρ):Option ρ :=
  cond (fd_ Ty.flat c.rs) ((ldAs objs c.ts avs).bind λx=>(c.F x).bind λr=>k (at4 c.rs r) objs)
    ((asDs c.ts (avs.map (rsA (vi_ objs (af2 avs))))).bind λx=>(c.F x).bind λr=>k (at4 c.rs r) (vi_ objs (af2 avs)))
def conL {ρ:Type} {P:Program} [Tb P]:List (Con P)→FuncId→List AV→List AO→(AV→List AO→Option ρ)→Option ρ
  | [],_,_,_,_=>none
  | c::cs,q,avs,objs,k=>cond (Nat.beq c.k q) (ah4 c avs objs k) (conL cs q avs objs k)
def conX {ρ:Type} {P:Program} [Tb P] (cs:List (Con P)) (o:Oper) (sl:Nat→AV) (objs:List AO) (k:AV→List AO→Option ρ):Option ρ:=match o.op with
  | .call ⟨.value g,⟨args⟩,_⟩=>(fnA (evA sl g) objs).bind λq=>cond (ap2 P q.1) (conL cs q.1 (args.map (evA sl)++q.2) objs k) none
  | _=>none
section
variable {ρ:Type} {P:Program} [Tb P]
theorem xx_ {k:FuncId} (h:ap2 P k=true):eu_ P k:=by
  unfold ap2 at h
  split at h
  · rename_i fn e
    simp only[a2_,k6_] at h
    exact⟨fn,cu4 e,by simpa using h.1,h.2⟩
  · cases h
theorem bj7 {c:Con P} {avs:List AV} {objs:List AO} {k:AV→List AO→Option ρ} {r:ρ} (h:ah4 c avs objs k=some r):∃ av objs',k av objs'=some r ∧
    ∀ {S:PH} {hv:Nat→Value} {Fm:List HP} {sl:Nat→AV} {f:Fr} {w:World} {vs:List Value},Sit S hv Fm sl objs f w→Fa (RA hv S) avs vs →
      Calls P c.k vs.toArray w λe w'=>∃ v S',e = .returned v∧BLe objs objs'∧Keep objs objs'∧WfO objs'∧av.lt objs'=true∧S.Le S'∧RA hv S' av v∧Inv w' S' (OHs hv 0 objs'++Fm):=by
  unfold ah4 at h
  cases hf:fd_ Ty.flat c.rs with
  | true =>
    rw[hf] at h
    obtain⟨x,hx,h⟩:=bnd (show Option.bind _ _=some r from h)
    obtain⟨y,hy,h⟩:=bnd h
    refine⟨_,_,h,λ{S hv Fm sl f w vs} hs hr => ?_⟩
    obtain⟨T,Fr,hle,hI,hL,back⟩:=cl8 hs.inv
    refine (c.ok (hs.gl.mono hle) hI (bv1 hL (hr.imp λ_ _=>RA.mono hle) hx) hy).mono λe w' he => ?_
    cases e with
    | returned v =>
      obtain⟨U,O',h1,h2,rfl,h3⟩:=he
      exact⟨v,S,rfl,BLe.refl _,Keep.refl _,hs.wfo,at3,PH.Le.refl S,cn0 hf h3,back h2 h1⟩
    | panicked _=>exact he.elim
    | outgrown=>exact he.elim
  | false =>
    rw[hf] at h
    obtain⟨x,hx,h⟩:=bnd (show Option.bind _ _=some r from h)
    obtain⟨y,hy,h⟩:=bnd h
    refine⟨_,_,h,λ{S hv Fm sl f w vs} hs hr => ?_⟩
    obtain⟨S1,hle,hI⟩:=xi_ (os:=af2 avs) hs.inv
    have hr2:Fa (RA hv S1) (avs.map (rsA (vi_ objs (af2 avs)))) vs:=Fa.map (R:=RA hv S) (f:=rsA (vi_ objs (af2 avs))) (λa v ha=>ay4 hI (RA.mono hle ha)) hr
    refine (c.ok (hs.gl.mono hle) hI (aw4 hr2 hx) hy).mono λe w' he => ?_
    cases e with
    | returned v =>
      obtain⟨U,O',h1,h2,rfl,h3⟩:=he
      exact⟨v,U,rfl,frzL_ble,frzL_keep,sa_ hs.wfo,at3,hle.trans h1,br7 h3,h2⟩
    | panicked _=>exact he.elim
    | outgrown=>exact he.elim
theorem bz6:∀ {cs:List (Con P)} {q:FuncId} {avs:List AV} {objs:List AO} {k:AV→List AO→Option ρ} {r:ρ},conL cs q avs objs k=some r→∃ av objs',k av objs'=some r ∧
    ∀ {S:PH} {hv:Nat→Value} {Fm:List HP} {sl:Nat→AV} {f:Fr} {w:World} {vs:List Value},Sit S hv Fm sl objs f w→Fa (RA hv S) avs vs →
      Calls P q vs.toArray w λe w'=>∃ v S',e = .returned v∧BLe objs objs'∧Keep objs objs'∧WfO objs'∧av.lt objs'=true∧S.Le S'∧RA hv S' av v∧Inv w' S' (OHs hv 0 objs'++Fm)
  | [],_,_,_,_,_,h=>by cases h
  | c::cs,q,avs,objs,k,r,h=>by
    unfold conL at h
    cases hb:Nat.beq c.k q with
    | true =>
      rw[hb] at h
      have:=a6_ hb
      subst this
      exact bj7 (show ah4 c avs objs k=some r from h)
    | false =>
      rw[hb] at h
      exact bz6 (show conL cs q avs objs k=some r from h)
theorem bz5 {cs:List (Con P)} {o:Oper} {sl:Nat→AV} {objs:List AO} {k:AV→List AO→Option ρ} {r:ρ} (h:conX cs o sl objs k=some r):∃ av objs',k av objs'=some r∧OpUn P o sl objs av objs':=by
  obtain⟨dd,op,ty,pos,af,gd⟩:=o
  unfold conX at h
  simp only at h
  split at h
  · rename_i g args ct
    obtain⟨⟨fk,l⟩,hq,h⟩:=bnd h
    obtain⟨hok,h⟩:=bv_ h
    obtain⟨av,objs',h1,h2⟩:=bz6 h
    refine⟨av,objs',h1,?_⟩
    intro S hv Fm f w n ro K hs hd kk
    obtain⟨cap,e1,e2,e3⟩:=bx8 hs hq (hs.ev g)
    have hargs:Fa (RA hv S) (args.map (evA sl)++l) (args.map (ev f)++cap):=by5 (ag4 hs args) e2
    refine mh_ (k:=fk) (vs:=(args.map (ev f)++cap).toArray) (rl_ (xx_ hok) e1 (by simp)) (h2 hs hargs) λe w' he => ?_
    obtain⟨v,S',rfl,g1,g2,g3,g4,g5,g6,g7⟩:=he
    exact⟨v,rfl,hd,kk v S' hv w' g1 g2 g3 g4 g5 (λ_ _=>rfl) g6 g7⟩
  · cases h
def statK:Op→Option FuncId
  | .call ⟨.value (.func k),_,_⟩=>some k
  | _=>none
def bj3:List (Cpy P)→FuncId→Option (Cpy P)
  | [],_=>none
  | c::cs,q=>cond (Nat.beq c.k q) (some c) (bj3 cs q)
theorem bx0:∀ {cs:List (Cpy P)} {q:FuncId} {c:Cpy P},bj3 cs q=some c→c.k=q
  | [],_,_,h=>by cases h
  | c::cs,q,d,h=>by
    unfold bj3 at h
    cases hb:Nat.beq c.k q with
    | true=>rw[hb] at h;cases h;exact a6_ hb
    | false=>rw[hb] at h;exact bx0 h
def clX (cl:List (Cpy P)) (o:Oper) (sl:Nat→AV) (objs:List AO) (fr:Nat) (k:AV→List AO→Option ρ) (els:Option ρ):Option ρ:=match o.op with
  | .call ⟨.value (.func q),⟨[x]⟩,_⟩=>match bj3 cl q with
    | some c=>cond (ap2 P q) (ca0 c (evA sl x) objs fr k) none
    | none=>els
  | _=>els
theorem cv5 {cl:List (Cpy P)} {o:Oper} {sl:Nat→AV} {objs:List AO} {fr:Nat} {k:AV→List AO→Option ρ} {els:Option ρ} {r:ρ} (h:clX cl o sl objs fr k els=some r):els=some r∨∃ av objs',k av objs'=some r∧OpUn P o sl objs av objs':=by
  obtain⟨dd,op,ty,pos,af,gd⟩:=o
  unfold clX at h
  simp only at h
  split at h
  · rename_i q x ct
    split at h
    · rename_i c hc
      obtain⟨hok,h⟩:=bv_ h
      obtain⟨av,objs',h1,g1,g2,g3,g4,g5⟩:=bz9 h
      have hk:=bx0 hc
      subst hk
      refine .inr ⟨av,objs',h1,?_⟩
      intro S hv Fm f w n ro K hs hd kk
      refine mh_ (k:=c.k) (vs:=[ev f x].toArray) (rl_ (xx_ hok) (f:=f) (g:=.func c.k) (cap := #[]) rfl (by simp)) (g5 hs (hs.ev x)) λe w' he => ?_
      obtain⟨u,hv',rfl,q1,q2,q3⟩:=he
      exact⟨u,rfl,hd,kk u S hv' w' g1 g2 (g3 hs.wfo) g4 (PH.Le.refl _) q1 q2 q3⟩
    · exact .inl h
  · exact .inl h
def cxC (cs:List (Con P)) (cl:List (Cpy P)):Cx P:=⟨λo=>match statK o.op with
    | some q=>cond (bj3 cl q).isSome 1 0
    | none=>0,λ_ o sl objs fr k=>clX cl o sl objs fr k (conX cs o sl objs k),λh=>(cv5 h).elim bz5 id,λ_ _ _ _ _=>none,λh=>(by cases h)⟩
structure Rpt (P:Program) [Tb P] where
  k:FuncId
  ts:List Ty
  t:Ty
  E:TypeId
  F:nq_ ts→Option (List t.den)
  ok:∀ {w:World} {S:PH} {Fr:List HP} {hv:Nat→Value} {vs:List Value} {x:nq_ ts} {r:List t.den},GlS S→Inv w S Fr→Fa (RA hv S) (ce4 ts x) vs→F x=some r →
    Calls P k vs.toArray w λe w'=>∃ u S',e = .returned u∧S.Le S'∧Inv w' S' (@Row t.den t.enc E u r::Fr)
def bw7:List (Rpt P)→FuncId→Option (Rpt P)
  | [],_=>none
  | c::cs,q=>cond (Nat.beq c.k q) (some c) (bw7 cs q)
theorem bw6:∀ {cs:List (Rpt P)} {q:FuncId} {c:Rpt P},bw7 cs q=some c→c.k=q
  | [],_,_,h=>by cases h
  | c::cs,q,d,h=>by
    unfold bw7 at h
    cases hb:Nat.beq c.k q with
    | true=>rw[hb] at h;cases h;exact a6_ hb
    | false=>rw[hb] at h;exact bw6 h
def rptCall (c:Rpt P) (avs:List AV) (objs:List AO) (fr:Nat) (k:AV→List AO→Option ρ):Option ρ :=
  (asDs c.ts (avs.map (rsA (vi_ objs (af2 avs))))).bind λx=>(c.F x).bind λr=>yd_ (vi_ objs (af2 avs)) fr (.row c.t c.E r false) (yi_ fr) k
def rpX (rp:List (Rpt P)) (o:Oper) (sl:Nat→AV) (objs:List AO) (fr:Nat) (k:AV→List AO→Option ρ) (els:Option ρ):Option ρ:=match o.op with
  | .call ⟨.value (.func q),⟨args⟩,_⟩=>match bw7 rp q with
    | some c=>cond (ap2 P q) (rptCall c (args.map (evA sl)) objs fr k) none
    | none=>els
  | _=>els
theorem rpX_ok {rp:List (Rpt P)} {o:Oper} {sl:Nat→AV} {objs:List AO} {fr:Nat} {k:AV→List AO→Option ρ} {els:Option ρ} {r:ρ} (h:rpX rp o sl objs fr k els=some r):els=some r∨∃ av objs',k av objs'=some r∧OpUn P o sl objs av objs':=by
  obtain⟨dd,op,ty,pos,af,gd⟩:=o
  unfold rpX at h
  simp only at h
  split at h
  · rename_i q args ct
    split at h
    · rename_i c hc
      obtain⟨hok,h⟩:=bv_ h
      obtain⟨x,hx,h⟩:=bnd h
      obtain⟨y,hy,h⟩:=bnd h
      obtain⟨hu,h9⟩:=fw_ h
      have hk:=bw6 hc
      subst hk
      refine .inr ⟨_,_,h9,?_⟩
      intro S hv Fm f w n ro K hs hd kk
      generalize hids:af2 (args.map (evA sl))=ids at hx hu kk ⊢
      obtain⟨S1,hle,hI⟩:=xi_ (os:=ids) hs.inv
      have hr2:Fa (RA hv S1) ((args.map (evA sl)).map (rsA (vi_ objs ids))) (args.map (ev f)):=Fa.map (R:=RA hv S) (f:=rsA (vi_ objs ids)) (λa v ha=>ay4 hI (RA.mono hle ha)) (ag4 hs args)
      refine mh_ (k:=c.k) (vs:=(args.map (ev f)).toArray) (rl_ (xx_ hok) (f:=f) (g:=.func c.k) (cap := #[]) rfl (by simp)) (c.ok (hs.gl.mono hle) hI (aw4 hr2 hx) hy) λe w' he => ?_
      obtain⟨u,S2,rfl,h1,h2⟩:=he
      obtain⟨g1,g2⟩:=ql_ (hv:=hv) (fr:=fr) h2
      exact⟨u,rfl,hd,kk u S2 (ins hv fr u) w' (frzL_ble.trans (bl_ (by simp))) (frzL_keep.trans (cj_ (cn_ hu) trivial)) (ej_ (by simp) (sa_ hs.wfo) rfl) (ja_ hu (by simp)) (hle.trans h1) ((np_ (cn_ hu)).sub frzL_ble) g2 (id_ (sa_ hs.wfo) (cn_ hu) h2)⟩
    · exact .inl h
  · exact .inl h
def cxR (rp:List (Rpt P)) (cs:List (Con P)) (cl:List (Cpy P)):Cx P:=⟨λo=>match statK o.op with
    | some q=>cond (bj3 cl q).isSome 1 (cond (bw7 rp q).isSome 1 0)
    | none=>0,λ_ o sl objs fr k=>rpX rp o sl objs fr k (clX cl o sl objs fr k (conX cs o sl objs k)),λh=>(rpX_ok h).elim (λh=>(cv5 h).elim bz5 id) id,λ_ _ _ _ _=>none,λh=>(by cases h)⟩
end
end
section
variable [Gb]
def asBs:(ts:List Ty)→List BV→Option (nq_ ts)
  | [],[]=>some ()
  | t::ts,a::l=>(asD t (.b a)).bind λx=>(asBs ts l).bind λy=>some (x,y)
  | _,_=>none
def outR:(rs:List Ty)→AV→Option (nq_ rs)
  | [t],a=>(asD t a).bind λx=>some (x,())
  | rs,.tup l=>asBs rs l
  | _,_=>none
def outD (rs:List Ty) (av:AV) (objs:List AO):Option (nq_ rs):=outR rs (rsA (vi_ objs (ct7 av)) av)
noncomputable def av_ {P:Program} [Tb P] (cx:Cx P) (an:An) (k:FuncId) (ts rs:List Ty) (x:nq_ ts):Option (nq_ rs):=inlF cx an k (ce4 ts x) [] λav objs=>outD rs av objs
section
variable {hv:Nat→Value} {S:PH}
theorem cc4:∀ {ts:List Ty} {l:List BV} {vs:List Value} {x:nq_ ts},Fa (RB hv S) l vs→asBs ts l=some x→Fa (RB hv S) (ofBs ts x) vs
  | [],[],[],x,_,_=>trivial
  | t::ts,a::l,v::vs,x,h,hx=>by
    obtain⟨y,h1,hx⟩:=bnd hx
    obtain⟨z,h2,hx⟩:=bnd hx
    cases hx
    exact⟨od_ (gm_ (a:=.b a) h.1 h1),cc4 h.2 h2⟩
  | [],_::_,_,_,_,hx=>by cases hx
  | _::_,[],_,_,_,hx=>by cases hx
theorem outR_ok {rs:List Ty} {a:AV} {v:Value} {x:nq_ rs} (h:RA hv S a v) (hx:outR rs a=some x):RA hv S (at4 rs x) v:=by
  unfold outR at hx
  split at hx
  · obtain⟨y,h1,hx⟩:=bnd hx
    cases hx
    exact od_ (gm_ h h1)
  · rename_i rs' l hne
    obtain⟨vs,e,hf⟩:=h
    unfold at4
    split
    · exact absurd rfl (hne _)
    · exact⟨vs,e,cc4 hf hx⟩
  · cases hx
theorem bs1 {n:List AO}:∀ {ts:List Ty} {x:nq_ ts},∀ a ∈ ce4 ts x,a.lt n=true
  | [],_,a,h=>by cases h
  | t::ts,x,a,h=>by
    rcases e1_.1 h with rfl | h
    · exact at7
    · exact bs1 (ts:=ts) a h
end
theorem cn4 {P:Program} [Tb P] {cx:Cx P} {an:An} {k:FuncId} {ts rs:List Ty} {x:nq_ ts} {r:nq_ rs} (h:av_ cx an k ts rs x=some r) {w:World} {S:PH} {Fr:List HP} {hv:Nat→Value} {vs:List Value} (hG:GlS S) (hI:Inv w S Fr) (ha:Fa (RA hv S) (ce4 ts x) vs) :
    Calls P k vs.toArray w (Done S Fr λT v O'=>O'=[]∧RA (λ_=>undef) T (at4 rs r) v):=by
  obtain⟨_,av,objs',h1,h2⟩:=au9 h
  refine (h2 (Fm:=Fr) (hv:=hv) hG hI (λa ha=>by cases ha) ha λa h=>bs1 a h).mono λe w' he => ?_
  obtain⟨v,S',hv',rfl,g1,g2,g3,g4,g5,g6,g7,g8⟩:=he
  obtain⟨S2,h3,h4⟩:=xi_ (os:=ct7 av) g8
  exact⟨S2,[],g5.trans h3,rx_ h4,rfl,br7 (outR_ok (ay4 h4 (RA.mono h3 g7)) h1)⟩
noncomputable def ax_ {P:Program} [Tb P] (cx:Cx P) (an:An) (k:FuncId) (ts rs:List Ty) (F:nq_ ts→Option (nq_ rs)) (h:av_ cx an k ts rs=F):Con P :=
  ⟨k,ts,rs,F,λhG hI ha hF=>cn4 (by rw[h];exact hF) hG hI ha⟩
def ce0 (P:Program) [Tb P] (k:FuncId) (ts rs:List Ty) (F:nq_ ts→Option (nq_ rs)):Prop :=
  ∀ {w:World} {S:PH} {Fr:List HP} {hv:Nat→Value} {vs:List Value} {x:nq_ ts} {r:nq_ rs},GlS S→Inv w S Fr→Fa (RA hv S) (ce4 ts x) vs→F x=some r →
    Calls P k vs.toArray w (Done S Fr λT v O'=>O'=[]∧RA (λ_=>undef) T (at4 rs r) v)
def cnv {P:Program} [Tb P] (k:FuncId) (ts rs:List Ty) (F:nq_ ts→Option (nq_ rs)) (h:ce0 P k ts rs F):Con P:=⟨k,ts,rs,F,λhG hI ha hF=>h hG hI ha hF⟩
def bx_ {α β γ:Type} (v:α⊕β) (f:α→γ) (g:β→γ):γ:=Sum.casesOn v f g
@[simp] theorem aa4 {α β γ:Type} (x:α) (f:α→γ) (g:β→γ):bx_ (.inl x) f g=f x:=rfl
@[simp] theorem sumE_inr {α β γ:Type} (x:β) (f:α→γ) (g:β→γ):bx_ (.inr x) f g=g x:=rfl
end
section
noncomputable def cpCon [Gb] {P:Program} [Tb P] (c:Cpy P):Con P :=
  ⟨c.k,[.list c.t],[.list c.t],λx=>(push? [] x.1).map λr=>(r,()),λ{w S Fr hv vs x r} hG hI hf hF=>by
    match vs,hf with
    | [v],⟨hv1,_⟩ =>
      have hr:RVt (.list c.t) S v x.1:=qq_ (hv:=hv) hv1
      obtain⟨m,hm,rfl⟩:=f7_.1 hF
      refine (c.ok (bz4 hr) hI hm).mono λe w' he => ?_
      obtain⟨u,rfl,hI2⟩:=he
      obtain⟨U,g1,g2,g3⟩:=@Inv.rowFreeze c.t.den c.t.enc _ _ _ _ _ _ hI2
      exact⟨U,[],g1,g2,rfl,od_ (t:=.list c.t) g3⟩⟩
def cvG {i j:Gb} {P:Program} [Tb P] (h:∀ g,@Gb.ev j g=@Gb.ev i g) (h2:∀ g,@Gb.rw j g=@Gb.rw i g) (c:@Con i P _):@Con j P _ :=
  @Con.mk j P _ (@Con.k i P _ c) (@Con.ts i P _ c) (@Con.rs i P _ c) (@Con.F i P _ c) λ{w S Fr hv vs x r} hG hI hf hF=>@Con.ok i P _ c w S Fr hv vs x r ⟨λg d e=>hG.1 g d (by rw[h];exact e),λg cs e=>hG.2 g cs (by rw[h2];exact e)⟩ hI hf hF
end
end Go.Proofs.YtdibamopklkilaaGreatDoor.Rex
namespace Go.Proofs.YtdibamopklkilaaGreatDoor.Pad
open Go Go.ChangeShapes Go.WideShapes Go.ChangeAt Go.RowKit Go.Deep
section
def PH.all (W:World):PH:=⟨λb=>W.heap[b]?,W.os,W.output⟩
theorem inv_all (W:World):Inv W (PH.all W) []:=⟨rfl,rfl,λ_ _ h=>h⟩
section
variable {H:Type} {enc:TypeId×Value→H} {P:Program} {W:World} {base:Nat} {sp:Nat→Bool} {hd:Bool}
def Rd (enc:TypeId×Value→H) (P:Program) (W:World) (base:Nat) (sp:Nat→Bool) (hd:Bool) (α:Type) [Enc α] (t:TypeId):Prop :=
  ∀ (n:Nat) (cs:List Value) (x:DataW H×List MemPlace),DataW.trod enc P W base sp hd n t cs=some x→∃ a:α,Enc.rep (PH.all W) cs a
theorem rd_int {t:TypeId} (ht:P.underlying t=some (.int .i64)):Rd enc P W base sp hd Int t:=by
  intro n cs x h
  obtain⟨a,rfl,_,_⟩:=DataW.trod_int ht h
  exact⟨a,rfl⟩
theorem rd_bool {t:TypeId} (ht:P.underlying t=some .bool):Rd enc P W base sp hd Bool t:=by
  intro n cs x h
  obtain⟨a,rfl,_⟩:=DataW.trod_bool ht h
  exact⟨a,rfl⟩
theorem cu1 {α:Type} {Q:Nat→α→Prop}:∀ {n:Nat},(∀ i,i<n→∃ x,Q i x)→∃ l:List α,l.length=n∧∀ i x,l[i]?=some x→Q i x
  | 0,_=>⟨[],rfl,λi x h=>by simp at h⟩
  | n+1,h=>by
    obtain⟨l,h1,h2⟩:=cu1 (n:=n) (λi hi=>h i (by omega))
    obtain⟨y,hy⟩:=h n (by omega)
    refine⟨l++[y],by simp[h1],λi x hx => ?_⟩
    rcases m0_ i n with hi | hi
    · rw[b2_ (by omega)] at hx
      exact h2 i x hx
    · rw[d0_ (by omega)] at hx
      have:i=n:=by
        rcases m0_ (i - l.length) 1 with h' | h'
        · omega
        · rw[b3_ (by simpa using h')] at hx;cases hx
      subst this
      rw[h1,k2_] at hx
      simp only[m4_,p9_] at hx
      subst hx;exact hy
theorem rd_list {α:Type} [Enc α] {t e:TypeId} (ht:P.underlying t=some (.slice e)) (hc:P.cellsOf e=Enc.sz α) (h:Rd enc P W base sp hd α e):Rd enc P W base sp hd (List α) t:=by
  intro n cs x hx
  rcases open_slice ht hx with ⟨rfl,_⟩ | ⟨a,len,cap,m,k,D,Pl,rfl,_,hl,hm,hmm,_,hel⟩
  · exact⟨[],none,0,rfl,c4_ _,by decide,λ_=>⟨rfl,rfl⟩,λad had=>by cases had⟩
  · have hle:len≤m:=by rw[hmm];split<;>omega
    obtain⟨l,h1,h2⟩:=cu1 (n:=len) (Q:=λi (y:α)=>∃ es,Enc.rep (PH.all W) es y∧∀ j u,es[j]?=some u→W.cell? (a.add (i * Enc.sz α+j))=some u) (λi hi=>by
      obtain⟨cs',c1,c2⟩:=hel i (by omega)
      obtain⟨y,hy⟩:=h k cs' _ c2
      obtain⟨_,c3,c4⟩:=World.cells?_some c1
      refine⟨y,cs',hy,λj u hj => ?_⟩
      have hj':j<P.cellsOf e:=by rw[← c3];exact (a3_.1 hj).1
      have:=c4 j hj'
      rw[ex_,hj,hc] at this
      exact this)
    exact⟨l,some a,cap,by rw[h1],by omega,hm,λh=>(by cases h),λad had i y hy=>(by cases had;exact h2 i y hy)⟩
def RdF (enc:TypeId×Value→H) (P:Program) (W:World) (base:Nat) (sp:Nat→Bool) (hd:Bool) (α:Type) [Enc α] (off:Nat) (fs:List Field):Prop :=
  ∀ (n:Nat) (cs:List Value),cs.length=off+Enc.sz α→(∀ f ∈ fs,∃ y,DataW.trod enc P W base sp hd n f.type ((cs.drop f.offset).take (P.cellsOf f.type))=some y)→∃ a:α,Enc.rep (PH.all W) (cs.drop off) a
theorem bp8 {α:Type} [Enc α] {off:Nat} {f:Field} (ho:f.offset=off) (hc:P.cellsOf f.type=Enc.sz α) (h:Rd enc P W base sp hd α f.type):RdF enc P W base sp hd α off [f]:=by
  intro n cs hl hf
  obtain⟨y,hy⟩:=hf f (by simp)
  obtain⟨a,ha⟩:=h _ _ _ hy
  rw[ho,g9_ (by rw[k9_,hc];omega)] at ha
  exact⟨a,ha⟩
theorem az0 {α β:Type} [Enc α] [Enc β] {off:Nat} {f:Field} {fs:List Field} (ho:f.offset=off) (hc:P.cellsOf f.type=Enc.sz α) (h:Rd enc P W base sp hd α f.type)
    (hr:RdF enc P W base sp hd β (off+Enc.sz α) fs):RdF enc P W base sp hd (α×β) off (f::fs):=by
  intro n cs hl hf
  obtain⟨y,hy⟩:=hf f (by simp)
  obtain⟨a,ha⟩:=h _ _ _ hy
  have hl':cs.length=off+(Enc.sz α+Enc.sz β):=hl
  obtain⟨b,hb⟩:=hr n cs (by omega) (λg hg=>hf g (by simp[hg]))
  rw[ho,hc] at ha
  refine⟨(a,b),_,_,?_,ha,hb⟩
  rw[← List.drop_drop,h2_]
theorem al2 {σ τ:Type} [Enc τ] (f:σ→τ) (g:τ→σ) (hfg:∀ x,f (g x)=x) {t:TypeId} {fs:Array Field} (ht:P.underlying t=some (.struct fs)) (hc:P.cellsOf t=Enc.sz τ)
    (h:RdF enc P W base sp hd τ 0 fs.toList):@Rd H enc P W base sp hd σ (encBy f) t:=by
  intro n cs x hx
  obtain⟨xs,k,_,_,hl,hlen,hf⟩:=DataW.trod_struct ht hx
  obtain⟨a,ha⟩:=h k cs (by omega) (λfl hfl=>by
    obtain⟨i,hi,e⟩:=List.getElem_of_mem hfl
    have hi':i<fs.size:=by simpa using hi
    have:=hf i fl (by rw[d4_ hi',← e];simp)
    rw[a7_ (by omega)] at this
    exact⟨_,this⟩)
  refine⟨g a,?_⟩
  show Enc.rep (PH.all W) cs (f (g a))
  rw[hfg]
  simpa using ha
theorem ak1 {α:Type} [Enc α] {r:Reach} {b0:Nat} {t:TypeId} {fs:Array Field} {v:Value} {d:DataW H} {ps:List MemPlace} (ha:Enc.agg α=true) (ht:P.underlying t=some (.struct fs))
    (hval:Value.okWide P W r b0 t v) (hr:DataW.Trod enc P W base sp hd t v d ps) (h:Rd enc P W base sp hd α t):∃ a:α,RV (PH.all W) v a:=by
  obtain⟨cs,rfl,_⟩:=okWide_struct ht hval
  obtain⟨n,hn⟩:=hr
  obtain⟨a,h1⟩:=h _ _ _ hn
  refine⟨a,_,h1,?_⟩
  rw[ha];simp[mkV,Value.cells]
theorem ch5 {α:Type} [Enc α] {r:Reach} {b0:Nat} {t e:TypeId} {v:Value} {d:DataW H} {ps:List MemPlace} (ht:P.underlying t=some (.slice e))
    (hval:Value.okWide P W r b0 t v) (hr:DataW.Trod enc P W base sp hd t v d ps) (h:Rd enc P W base sp hd (List α) t):∃ a:List α,RV (PH.all W) v a:=by
  obtain⟨a,len,cap,rfl⟩:=okWide_slice ht hval
  obtain⟨n,hn⟩:=hr
  obtain⟨x,h1⟩:=h _ _ _ hn
  exact⟨x,_,h1,rfl⟩
end
structure Old (W W':World):Prop where
  os:W'.os=W.os
  out:W'.output=W.output
  heap:∀ (b:Nat) o,W.heap[b]?=some o→W'.heap[b]?=some o
theorem Old.of_inv {W W':World} {T:PH} {O:List HP} (h:Inv W' T O) (hle:(PH.all W).Le T):Old W W' :=
  ⟨h.os.trans hle.os,h.out.trans hle.out,λb o hb=>h.in_ b o (hle.m b o hb)⟩
theorem Old.at_ {W W':World} (h:Old W W') {b:Nat} (hb:b<W.heap.size):W'.heap[b]?=W.heap[b]?:=by
  rw[d4_ hb]
  exact h.heap b _ (d4_ hb)
theorem Old.same {W W':World} (h:Old W W') {p:MemPlace} (hp:p.block<W.heap.size):W.sameAt W' p:=by
  cases p with
  | cell b off =>
    show W'.cell? ⟨b,off,none⟩=W.cell? ⟨b,off,none⟩
    unfold World.cell?
    rw[h.at_ (by exact hp)]
  | map b=>exact h.at_ hp
theorem Old.kept {W W':World} (h:Old W W') (may:MemPlace→Prop):W.keptBut W' may:=by
  refine⟨h.os,h.out,λi hi => ?_⟩
  rw[h.at_ hi,d4_ hi]
  cases W.heap[i] with
  | cells c t fr=>exact⟨rfl,rfl,rfl,λ_ _=>rfl⟩
  | map es cl=>exact .inr ⟨rfl,rfl⟩
  | _=>rfl
section
variable {H:Type} {enc:TypeId×Value→H} {P:Program}
theorem Old.trodAll {W W':World} (h:Old W W') (hl:laidOutB P=true) {sp':Nat→Bool}:∀ {ts:List TypeId} {vs:List Value} {ds:List (DataW H)} {ps:List MemPlace},
    (∀ t ∈ ts,P.readableRec t=true∧t<P.types.size)→DataW.TrodAll enc P W 0 (λ_=>true) true ts vs ds ps→(∀ p ∈ ps,p.block<W.heap.size)→(∀ p ∈ ps,sp' p.block=true)→DataW.TrodAll enc P W' 0 sp' true ts vs ds ps
  | [],_,_,_,_,hA,_,_=>by
    obtain⟨rfl,rfl,rfl⟩:=trodAll_nil hA
    exact rfl
  | t::ts,_,_,_,ht,hA,hp,hs=>by
    obtain⟨v,vs,d,ds,p,q,rfl,rfl,rfl,h0,h1⟩:=trodAll_cons hA
    exact⟨p,q,WideElems.Trod_stays hl (ht t (by simp)).1 (ht t (by simp)).2 h0 (λx hx=>h.same (hp x (by simp[hx]))) (λx hx=>hs x (by simp[hx])),
      Old.trodAll h hl (λt ht'=>ht t (by simp[ht'])) h1 (λx hx=>hp x (by simp[hx])) (λx hx=>hs x (by simp[hx])),rfl⟩
theorem cj4 {f:Func} {s:ChangeSpec} {W W':World} {args:Array Value} {ds gs:List (DataW H)} {before:List MemPlace} {tb:TypeId}
    (hl:laidOutB P=true) (hts:∀ t ∈ f.params.toList,P.readableRec t=true∧t<P.types.size) (hv:s.vars=[]) (hr:f.resultTypes = #[tb]) (hb:P.underlying tb=some .bool)
    (hW:DataW.Whole enc P f.params.toList s.vars false W args.toList ds gs before) (hold:Old W W')
    (e1:(s.fn H (ds++gs)).results=[.lit (.bool true)]) (e2:(s.fn H (ds++gs)).args=ds) (e3:(s.fn H (ds++gs)).vars=[]) :
    s.post enc P f false true false false W args (.bool true) W':=by
  have hlt:=hW.lt
  obtain⟨p,q,hA,hV,rfl,hz,hn⟩:=id hW
  rw[hv] at hV
  obtain⟨rfl,rfl⟩:=trodVars_none hV
  simp only[e3_] at hlt hW
  have hold':∀ x ∈ p,(λb=>decide (b<W.heap.size)) x.block=true:=λx hx=>by simpa using hlt x hx
  refine⟨ds,[],p,[],p,[],hW,?_,?_,?_,World.keptBut_mono (λx hx=>⟨hx,.inr (.inl hx)⟩) (hold.kept _),λh=>by cases h⟩
  · simp only[e3_] at e1
    rw[hr]
    simp only[e3_,e1]
    exact trodAll_cons_mk (shut_bool hb _) trodAll_mk0
  · rw[e3_] at e2 ⊢
    rw[e2]
    exact hold.trodAll hl hts hA hlt hold'
  · rw[e3_] at e3 ⊢
    rw[e3,hv]
    exact rfl
end
end
end Go.Proofs.YtdibamopklkilaaGreatDoor.Pad
namespace Go.Proofs.YtdibamopklkilaaGreatDoor.Rex
open Go Pad Go.ChangeShapes Go.WideShapes Go.ChangeAt Go.RowKit Go.Deep
section
mutual
def rdB (P:Program) [Tb P]:Ty→TypeId→Bool
  | .int,T=>match und P T with
    | some (.int .i64)=>true
    | _=>false
  | .bool,T=>match und P T with
    | some .bool=>true
    | _=>false
  | .str,T=>match und P T with
    | some .string=>true
    | _=>false
  | .list t,T=>match und P T with
    | some (.slice e)=>Nat.beq (P.cellsOf e) t.sz&&rdB P t e
    | _=>false
  | .one t,T=>match und P T with
    | some (.struct ⟨[f]⟩)=>Nat.beq (P.cellsOf T) t.sz&&(Nat.beq f.offset 0&&(Nat.beq (P.cellsOf f.type) t.sz&&rdB P t f.type))
    | _=>false
  | .pair a b,T=>match und P T with
    | some (.struct ⟨f::r⟩)=>Nat.beq (P.cellsOf T) (a.sz+b.sz)&&(Nat.beq f.offset 0&&(Nat.beq (P.cellsOf f.type) a.sz&&(rdB P a f.type&&rdFB P b a.sz r)))
    | _=>false
  | _,_=>false
def rdFB (P:Program) [Tb P]:Ty→Nat→List Field→Bool
  | .one t,off,[f]=>Nat.beq f.offset off&&(Nat.beq (P.cellsOf f.type) t.sz&&rdB P t f.type)
  | .pair a b,off,f::r=>Nat.beq f.offset off&&(Nat.beq (P.cellsOf f.type) a.sz&&(rdB P a f.type&&rdFB P b (off+a.sz) r))
  | _,_,_=>false
end
section
variable [Gb] {H:Type} {enc:TypeId×Value→H} {P:Program} [Tb P] {W:World} {base:Nat} {sp:Nat→Bool} {hd:Bool}
abbrev RdT (enc:TypeId×Value→H) (P:Program) (W:World) (base:Nat) (sp:Nat→Bool) (hd:Bool) (t:Ty) (T:TypeId):Prop:=@Rd H enc P W base sp hd t.den t.enc T
abbrev RdFT (enc:TypeId×Value→H) (P:Program) (W:World) (base:Nat) (sp:Nat→Bool) (hd:Bool) (t:Ty) (off:Nat) (fs:List Field):Prop:=@RdF H enc P W base sp hd t.den t.enc off fs
theorem rd_str {t:TypeId} (ht:P.underlying t=some .string):RdT enc P W base sp hd .str t:=by
  intro n cs x h
  obtain⟨s,rfl,_,_⟩:=DataW.trod_string ht h
  refine⟨s.data.toList,?_⟩
  show [Value.string s]=[Value.string ⟨s.data.toList.toArray⟩]
  rw[l8_]
theorem cb7 {a b:Nat} (h:Nat.beq a b=true):a=b:=a6_ h
mutual
theorem za_:∀ {t:Ty} {T:TypeId},rdB P t T=true→RdT enc P W base sp hd t T
  | .int,T,h=>by
    unfold rdB at h
    split at h
    · rename_i hu;exact rd_int (dk_ hu)
    · cases h
  | .bool,T,h=>by
    unfold rdB at h
    split at h
    · rename_i hu;exact rd_bool (dk_ hu)
    · cases h
  | .str,T,h=>by
    unfold rdB at h
    split at h
    · rename_i hu;exact rd_str (dk_ hu)
    · cases h
  | .list t,T,h=>by
    unfold rdB at h
    split at h
    · rename_i e hu
      rw[a2_] at h
      exact @rd_list H enc P W base sp hd t.den t.enc T e (dk_ hu) ((cb7 h.1).trans (cg_ t).symm) (za_ h.2)
    · cases h
  | .one t,T,h=>by
    unfold rdB at h
    split at h
    · rename_i f hu
      simp only[a2_] at h
      obtain⟨h1,h2,h3,h4⟩:=h
      exact @al2 H enc P W base sp hd t.den t.den t.enc (λx=>x) (λx=>x) (λ_=>rfl) T _ (dk_ hu) ((cb7 h1).trans (cg_ t).symm)
        (@bp8 H enc P W base sp hd t.den t.enc 0 f (cb7 h2) ((cb7 h3).trans (cg_ t).symm) (za_ h4))
    · cases h
  | .pair a b,T,h=>by
    unfold rdB at h
    split at h
    · rename_i f r hu
      simp only[a2_] at h
      obtain⟨h1,h2,h3,h4,h5⟩:=h
      have hr:RdFT enc P W base sp hd b (0+a.sz) r:=by rw[b0_];exact bp9 h5
      rw[← cg_ a] at hr
      exact @al2 H enc P W base sp hd (a.den×b.den) (a.den×b.den) (@instEncProd a.den b.den a.enc b.enc) (λx=>x) (λx=>x) (λ_=>rfl) T _ (dk_ hu) ((cb7 h1).trans (by rw[← cg_ a,← cg_ b];rfl))
        (@az0 H enc P W base sp hd a.den b.den a.enc b.enc 0 f r (cb7 h2) ((cb7 h3).trans (cg_ a).symm) (za_ h4) hr)
    · cases h
  | .u8,_,h=>by cases h
  | .unit,_,h=>by cases h
  | .ref _,_,h=>by cases h
  | .clo _ _,_,h=>by cases h
theorem bp9:∀ {t:Ty} {off:Nat} {fs:List Field},rdFB P t off fs=true→RdFT enc P W base sp hd t off fs
  | .one t,off,[f],h=>by
    unfold rdFB at h
    simp only[a2_] at h
    obtain⟨h2,h3,h4⟩:=h
    exact @bp8 H enc P W base sp hd t.den t.enc off f (cb7 h2) ((cb7 h3).trans (cg_ t).symm) (za_ h4)
  | .pair a b,off,f::r,h=>by
    unfold rdFB at h
    simp only[a2_] at h
    obtain⟨h2,h3,h4,h5⟩:=h
    have hr:RdFT enc P W base sp hd b (off+a.sz) r:=bp9 h5
    rw[← cg_ a] at hr
    exact @az0 H enc P W base sp hd a.den b.den a.enc b.enc off f r (cb7 h2) ((cb7 h3).trans (cg_ a).symm) (za_ h4) hr
  | .one _,_,[],h=>by cases h
  | .one _,_,_::_::_,h=>by cases h
  | .pair _ _,_,[],h=>by cases h
  | .int,_,_,h=>by cases h
  | .bool,_,_,h=>by cases h
  | .str,_,_,h=>by cases h
  | .list _,_,_,h=>by cases h
  | .u8,_,_,h=>by cases h
  | .unit,_,_,h=>by cases h
  | .ref _,_,_,h=>by cases h
  | .clo _ _,_,_,h=>by cases h
end
theorem arg_rv {r:Reach} {b0:Nat} {t:Ty} {T:TypeId} {v:Value} {d:DataW H} {ps:List MemPlace} (hb:rdB P t T=true) (hval:Value.okWide P W r b0 T v) (hr:DataW.Trod enc P W base sp hd T v d ps):∃ x:t.den,RVt t (PH.all W) v x:=by
  have hR:RdT enc P W base sp hd t T:=za_ hb
  cases t with
  | int =>
    unfold rdB at hb
    split at hb
    · rename_i hu
      obtain⟨n,rfl,_⟩:=open_int (dk_ hu) hval hr
      exact⟨n,_,rfl,rfl⟩
    · cases hb
  | bool =>
    unfold rdB at hb
    split at hb
    · rename_i hu
      obtain⟨n,rfl,_⟩:=open_bool (dk_ hu) hval hr
      exact⟨n,_,rfl,rfl⟩
    · cases hb
  | str =>
    unfold rdB at hb
    split at hb
    · rename_i hu
      obtain⟨s,rfl⟩:=okWide_string (dk_ hu) hval
      refine⟨s.data.toList,[.string ⟨s.data.toList.toArray⟩],rfl,?_⟩
      rw[l8_]
      rfl
    · cases hb
  | list t =>
    unfold rdB at hb
    split at hb
    · rename_i e hu
      exact @ch5 H enc P W base sp hd t.den t.enc r b0 T e v d ps (dk_ hu) hval hr hR
    · cases hb
  | one t =>
    unfold rdB at hb
    split at hb
    · rename_i f hu
      exact @ak1 H enc P W base sp hd t.den (cv1 t.enc) r b0 T _ v d ps rfl (dk_ hu) hval hr hR
    · cases hb
  | pair a b =>
    unfold rdB at hb
    split at hb
    · rename_i f l hu
      exact @ak1 H enc P W base sp hd (a.den×b.den) (@instEncProd a.den b.den a.enc b.enc) r b0 T _ v d ps rfl (dk_ hu) hval hr hR
    · cases hb
  | u8=>cases hb
  | unit=>cases hb
  | ref _=>cases hb
  | clo _ _=>cases hb
def rdBs (P:Program) [Tb P]:List Ty→List TypeId→Bool
  | [],[]=>true
  | t::ts,T::Ts=>rdB P t T&&rdBs P ts Ts
  | _,_=>false
theorem cc5 {hv:Nat→Value} {r:Reach} {b0:Nat}:∀ {ts:List Ty} {Ts:List TypeId} {vs:List Value} {ds:List (DataW H)} {ps:List MemPlace},rdBs P ts Ts=true→DataW.TrodAll enc P W base sp hd Ts vs ds ps →
    (∀ (j:Nat) T v,Ts[j]?=some T→vs[j]?=some v→Value.okWide P W r b0 T v)→∃ x:nq_ ts,Fa (RA hv (PH.all W)) (ce4 ts x) vs
  | [],[],vs,ds,ps,_,h,_=>by
    obtain⟨rfl,_⟩:=trodAll_nil h
    exact⟨(),trivial⟩
  | t::ts,T::Ts,vs,ds,ps,hb,h,hval=>by
    obtain⟨v,vs',d,ds',p,q,rfl,rfl,rfl,h0,h1⟩:=trodAll_cons h
    unfold rdBs at hb
    rw[a2_] at hb
    obtain⟨x,hx⟩:=arg_rv hb.1 (hval 0 T v rfl rfl) h0
    obtain⟨y,hy⟩:=cc5 (hv:=hv) hb.2 h1 (λj T' v' e1 e2=>hval (j+1) T' v' (by simpa using e1) (by simpa using e2))
    exact⟨(x,y),od_ hx,hy⟩
  | [],_::_,_,_,_,hb,_,_=>by cases hb
  | _::_,[],_,_,_,hb,_,_=>by cases hb
theorem bv5 {fuel:Nat} {t e:TypeId} {n:String} {g:Nat} {cs:Array Value} {l:List (List UInt8)} {p:List MemPlace} (ht:P.underlying t=some (.slice e)) (he:P.underlying e=some .string) (hc:P.cellsOf e=1)
    (hg:P.globalNamed n=some g) (hv:W.var? P n=some cs) (h:DataW.trod (λ_:TypeId×Value=>()) P W 0 (λ_=>true) false fuel t cs.toList=some (.slice (l.map λs=>.lit (.string s)) [],p)) :
    cp6 (.list .str) (PH.all W) (.pointer (some ⟨g,0,none⟩)) l:=by
  rcases open_strings ht he hc h with ⟨_,hx⟩ | ⟨a,len,cap,ss,hcs,_,hl,hm,hlen,hx,hcell,_⟩
  · cases hx
  · simp only[Prod.mk.injEq,DataW.slice.injEq] at hx
    obtain⟨⟨hx1,hx2⟩,_⟩:=hx
    have hsc:ss.length=cap:=by simpa using hlen
    have hd:ss.drop len=[]:=List.map_eq_nil_iff.1 hx2.symm
    have hle:ss.length≤len:=by
      have:=congrArg List.length hd
      rw[k9_,j1_] at this
      omega
    rw[g9_ hle] at hx1
    have hmap:l=ss.map λs=>s.data.toList:=by
      have:=congrArg (List.map λd:DataW Unit=>match d with
        | .lit (.string s)=>s
        | _=>[]) hx1
      unfold strs at this
      rw[List.map_map,List.map_map] at this
      simpa [Function.comp_def] using this
    have hcell0:W.cell? ⟨g,0,none⟩=some (.slice (some a) len cap):=by
      have:=World.var?_cell hg hv 0
      have e:cs = #[.slice (some a) len cap]:=by rw[← l8_ (xs:=cs),hcs]
      rw[e] at this
      simpa using this
    have hlen3:l.length=ss.length:=by rw[hmap,d2_]
    have hlen2:len=l.length:=by omega
    refine⟨_,[.slice (some a) l.length cap],rfl,⟨some a,cap,rfl,c7_ (Nat.le_of_eq hlen2.symm) hl,hm,λh=>(by cases h),λad had i y hy => ?_⟩,λj u hu => ?_⟩
    · obtain rfl:=a5_ had
      have hy:(ss.map λs=>s.data.toList)[i]?=some y:=by rw[← hmap];exact hy
      rw[d6_] at hy
      obtain⟨s,hs,rfl⟩:=f7_.1 hy
      refine⟨[.string ⟨s.data.toList.toArray⟩],rfl,λj u hu => ?_⟩
      have hi:=(a3_.1 hs).1
      have h1:=hcell i hi
      rw[n0_,hs] at h1
      cases j with
      | zero =>
        simp only[m4_,p9_] at hu
        subst hu
        rw[l8_]
        show W.cell? (a.add (i * 1+0))=_
        rw[Nat.mul_one,n6_]
        exact h1
      | succ j=>simp at hu
    · cases j with
      | zero =>
        simp only[m4_,p9_] at hu
        subst hu
        rw[← hlen2]
        exact hcell0
      | succ j=>simp at hu
theorem ra_true {hv:Nat→Value} {T:PH} {v:Value} (h:RA hv T (at4 [.bool] (true,())) v):v = .bool true:=by
  obtain⟨cs,h1,h2⟩:=(qq_ (hv:=hv) (t:=.bool) h:RVt .bool T v true)
  have h1:cs=[.bool true]:=h1
  subst h1
  exact h2
end
end
end Go.Proofs.YtdibamopklkilaaGreatDoor.Rex
namespace Go.Proofs.YtdibamopklkilaaGreatDoor.Rx
open Go Pad Rex Sum
section
theorem bf0 {α:Type} (l:List α) (i:Nat):at? l (i:Int)=l[i]?:=by
  unfold at?
  rw[if_pos (Int.natCast_nonneg i)]
  rfl
theorem ah_ {α:Type} {l:List α} {i:Nat} {x:α} (h:l[i]?=some x):at? l (i:Int)=some x:=by rw[bf0,h]
theorem ak_ {α:Type} {l:List α} {i:Nat} {x:α} (h:l[i]?=some x):i<l.length:=(a3_.1 h).1
theorem aw_ {α:Type} {l:List α} {i:Nat} (h:i<l.length):∃ x,l[i]?=some x:=⟨_,a7_ h⟩
abbrev Sm (n:Nat):Prop:=n≤1000000000
theorem ei_ {n:Int} (h1 : -4000000000≤n) (h2:n≤4000000000):w64 n=n:=lh_ (by omega) (by omega)
theorem az_ {i:Nat} (h:Sm i):w64 ((i:Int)+1)=((i+1:Nat):Int):=by
  rw[ei_ (by omega) (by omega)]
  omega
theorem dlt {i n:Nat} (h:i<n):decide ((i:Int)<(n:Int))=true:=b4_ (by omega)
theorem dnl (n:Nat):decide ((n:Int)<(n:Int))=false:=b1_ (by omega)
def fu_ {α ρ:Type} (p:Nat→α→Option ρ):Nat→List α→Option ρ
  | _,[]=>none
  | i,x::l=>match p i x with
    | some r=>some r
    | none=>fu_ p (i+1) l
theorem pa_ {σ ρ:Type} {body:σ→Option (σ⊕ρ)} {s:σ} {k:Nat} {r:ρ} (h:gr_ body k s=some r):ag_ body s=some r:=ii_.2 ⟨k,h⟩
theorem au5 {σ ρ:Type} {body:σ→Option (σ⊕ρ)} {s t:σ} {k:Nat} (h:body s=some (.inl t)):gr_ body (k+1) s=gr_ body k t:=by
  rw[gr_,h]
theorem ve_ {σ ρ:Type} {body:σ→Option (σ⊕ρ)} {s:σ} {k:Nat} {r:ρ} (h:body s=some (.inr r)):gr_ body (k+1) s=some r:=by
  rw[gr_,h]
theorem am9 {α ρ σ:Type} {l:List α} {p:Nat→α→Option ρ} {F:Nat→σ} {r0:ρ} {body:σ→Option (σ⊕ρ)}
    (h:∀ i x,l[i]?=some x→body (F i)=some (match p i x with | none=>.inl (F (i+1)) | some r=>.inr r)) (e:body (F l.length)=some (.inr r0)) :
    ∀ (m:List α) (i:Nat),i+m.length=l.length→(∀ j x,m[j]?=some x→l[i+j]?=some x)→gr_ body (m.length+1) (F i)=some ((fu_ p i m).getD r0)
  | [],i,hi,_=>by
    have:i=l.length:=by simpa using hi
    subst this
    exact ve_ e
  | x::m,i,hi,hm=>by
    have h0:=h i x (by simpa using hm 0 x rfl)
    unfold fu_
    cases hp:p i x with
    | some r =>
      rw[hp] at h0
      exact ve_ h0
    | none =>
      rw[hp] at h0
      show gr_ body (m.length+1+1) (F i)=_
      rw[au5 h0]
      refine am9 h e m (i+1) (by simp at hi;omega) λj y hj => ?_
      have:=hm (j+1) y (by simpa using hj)
      rw[show i+1+j=i+(j+1) by omega]
      exact this
theorem mo_ {α ρ σ:Type} (l:List α) (p:Nat→α→Option ρ) (F:Nat→σ) {r0:ρ} {body:σ→Option (σ⊕ρ)}
    (h:∀ i x,l[i]?=some x→body (F i)=some (match p i x with | none=>.inl (F (i+1)) | some r=>.inr r)) (e:body (F l.length)=some (.inr r0)) :
    ag_ body (F 0)=some ((fu_ p 0 l).getD r0):=pa_ (am9 h e l 0 (by simp) (λj x hj=>by simpa using hj))
theorem bo_ {α ρ σ τ:Type} (l:List α) (p:Nat→α→Option ρ) (F:Nat→σ) {r0:ρ} {body:σ→Option (σ⊕ρ)} {K:ρ→Option τ} {x:Option τ}
    (h:∀ i x,l[i]?=some x→body (F i)=some (match p i x with | none=>.inl (F (i+1)) | some r=>.inr r)) (e:body (F l.length)=some (.inr r0)) (hk:K ((fu_ p 0 l).getD r0)=x) :
    (ag_ body (F 0)).bind K=x:=by
  rw[mo_ l p F h e,a0_,hk]
theorem jq_ {α ρ:Type} {q:α→Bool} {r:ρ}:∀ (l:List α) (i:Nat),fu_ (λ_ x=>cond (q x) none (some r)) i l=cond (l.all q) none (some r)
  | [],_=>rfl
  | x::l,i=>by
    unfold fu_
    cases hq:q x with
    | false=>simp[hq]
    | true=>simp[hq,jq_ l (i+1)]
theorem gy_ {α ρ:Type} {q:α→Bool} {r:ρ}:∀ (l:List α) (i:Nat),fu_ (λ_ x=>cond (q x) (some r) none) i l=cond (l.any q) (some r) none
  | [],_=>rfl
  | x::l,i=>by
    unfold fu_
    cases hq:q x with
    | true=>simp[hq]
    | false=>simp[hq,gy_ l (i+1)]
theorem ab3 {α ρ:Type} {q:α→Bool} {f:Nat→ρ}:∀ (l:List α) (k:Nat),(fu_ (λi x=>cond (q x) (some (f i)) none) k l=none∧l.any q=false)∨∃ i:Nat,fu_ (λi x=>cond (q x) (some (f i)) none) k l=some (f i)∧l.any q=true
  | [],_=>.inl ⟨rfl,rfl⟩
  | x::l,k=>by
    unfold fu_
    cases hq:q x with
    | true=>exact .inr ⟨k,rfl,by simp[hq]⟩
    | false =>
      simp only[p1_,hq,k0_]
      exact ab3 l (k+1)
theorem ab1 {α ρ τ:Type} {p:Nat→α→Option ρ} {f:ρ→τ}:∀ (l:List α) (i:Nat),fu_ (λi x=>(p i x).map f) i l=(fu_ p i l).map f
  | [],_=>rfl
  | x::l,i=>by
    unfold fu_
    cases p i x with
    | some r=>rfl
    | none=>exact ab1 l (i+1)
theorem iy_ {α ρ:Type} {p:Nat→α→Option ρ}:∀ (l:List α) (i:Nat),fu_ p i l=none↔∀ j x,l[j]?=some x→p (i+j) x=none
  | [],_=>by simp[fu_]
  | x::l,i=>by
    unfold fu_
    constructor
    · intro h j y hj
      cases hp:p i x with
      | some r=>rw[hp] at h;cases h
      | none =>
        rw[hp] at h
        cases j with
        | zero=>simp at hj;subst hj;simpa using hp
        | succ j =>
          have:=(iy_ l (i+1)).1 h j y (by simpa using hj)
          rwa [show i+1+j=i+(j+1) by omega] at this
    · intro h
      have h0:=h 0 x rfl
      rw[n6_] at h0
      rw[h0]
      exact (iy_ l (i+1)).2 λj y hj=>by
        have:=h (j+1) y (by simpa using hj)
        rwa [show i+1+j=i+(j+1) by omega]
theorem kt_ {α τ σ ρ:Type} (l:List α) (f:Nat→τ→α→τ) (F:Nat→τ→σ) (R:τ→ρ) (t0:τ) {body:σ→Option (σ⊕ρ)} (I:Nat→τ→Prop) (h0:I 0 t0)
    (h:∀ i x t,l[i]?=some x→I i t→body (F i t)=some (.inl (F (i+1) (f i t x)))∧I (i+1) (f i t x)) (e:∀ t,I l.length t→body (F l.length t)=some (.inr (R t))) :
    ∃ t,I l.length t∧ag_ body (F 0 t0)=some (R t):=by
  have gen:∀ (k i:Nat) (t:τ),i+k=l.length→I i t→∃ t',I l.length t'∧gr_ body (k+1) (F i t)=some (R t'):=by
    intro k
    induction k with
    | zero =>
      intro i t hi ht
      have:i=l.length:=by omega
      subst this
      exact⟨t,ht,ve_ (e t ht)⟩
    | succ k ih =>
      intro i t hi ht
      obtain⟨x,hx⟩:=aw_ (l:=l) (i:=i) (by omega)
      obtain⟨h1,h2⟩:=h i x t hx ht
      obtain⟨t',a,b⟩:=ih (i+1) _ (by omega) h2
      exact⟨t',a,by rw[au5 h1];exact b⟩
  obtain⟨t,a,b⟩:=gen l.length 0 t0 (by omega) h0
  exact⟨t,a,pa_ b⟩
theorem ou_ {α:Type} {l:List α} (hl:Sm l.length) (q:α→Bool) {body:(Int×Unit)→Option ((Int×Unit)⊕(Unit⊕(Bool×Unit)))}
    (h:∀ (i:Nat) y,l[i]?=some y→body ((i:Int),())=some (cond (q y) (.inr (.inr (decide (0≤(i:Int)),()))) (.inl (w64 ((i:Int)+1),())))) (e:body ((l.length:Int),())=some (.inr (.inl ()))) :
    ((ag_ body (0,())).bind λv=>bx_ v (λ_=>some (decide ((0:Int)≤(-1)),())) (λw=>some w))=some (l.any q,()):=by
  refine bo_ l (λi y=>cond (q y) (some (inr (true,()):Unit⊕(Bool×Unit))) none) (λi=>((i:Int),())) (r0:=inl ()) (λi y hy => ?_) e ?_
  · have hi:=ak_ hy
    rw[h i y hy,az_ (show Sm i by omega),show decide (0≤(i:Int))=true from b4_ (by omega)]
    cases q y<;>rfl
  · rw[gy_ (q:=q)]
    cases l.any q<;>rfl
theorem if_lt {α:Type} {l:List α} (hl:Sm l.length) (q:α→Bool) {body:(Int×Unit)→Option ((Int×Unit)⊕(Unit⊕(Int×Unit)))}
    (h:∀ (i:Nat) y,l[i]?=some y→body ((i:Int),())=some (cond (q y) (.inr (.inr ((i:Int),()))) (.inl (w64 ((i:Int)+1),())))) (e:body ((l.length:Int),())=some (.inr (.inl ()))) :
    ∃ n:Int,((ag_ body (0,())).bind λv=>bx_ v (λ_=>some ((-1:Int),())) (λw=>some w))=some (n,())∧decide (n<0) = !(l.any q)∧(n = -1∨∃ i:Nat,n=(i:Int)∧i<l.length):=by
  have hrun:=mo_ l (λi y=>cond (q y) (some (inr ((i:Int),()):Unit⊕(Int×Unit))) none) (λi=>((i:Int),())) (r0:=inl ()) (body:=body) (λi y hy=>by
    have hi:=ak_ hy
    rw[h i y hy,az_ (show Sm i by omega)]
    cases q y<;>rfl) e
  have hr2:ag_ body (0,())=some ((fu_ (λi y=>cond (q y) (some (inr ((i:Int),()):Unit⊕(Int×Unit))) none) 0 l).getD (inl ())):=hrun
  rw[hr2]
  have key:∀ (m:List α) (k:Nat),(fu_ (λi y=>cond (q y) (some (inr ((i:Int),()):Unit⊕(Int×Unit))) none) k m=none∧m.any q=false)∨∃ i:Nat,fu_ (λi y=>cond (q y) (some (inr ((i:Int),()):Unit⊕(Int×Unit))) none) k m=some (inr ((i:Int),()))∧m.any q=true∧i<k+m.length:=by
    intro m
    induction m with
    | nil=>exact λk=>.inl ⟨rfl,rfl⟩
    | cons x m ih =>
      intro k
      unfold fu_
      cases hq:q x with
      | true=>exact .inr ⟨k,rfl,by simp[hq],by simp⟩
      | false =>
        rcases ih (k+1) with ⟨a,b⟩ | ⟨i,a,b,c⟩
        · exact .inl ⟨a,by simp[hq,b]⟩
        · exact .inr ⟨i,a,by simp[hq,b],by simp only[c5_];omega⟩
  rcases key l 0 with ⟨a,b⟩ | ⟨i,a,b,c⟩
  · refine⟨-1,by rw[a];rfl,by rw[b];rfl,.inl rfl⟩
  · refine⟨(i:Int),by rw[a];rfl,by rw[b];exact b1_ (by omega),.inr ⟨i,rfl,by omega⟩⟩
end
end Go.Proofs.YtdibamopklkilaaGreatDoor.Rx
namespace Go.Proofs.YtdibamopklkilaaGreatDoor.Rx
open Go Pad Rex Go.Proofs Go.Proofs.Tryz Sum
section
set_option maxRecDepth 100000
theorem ui1:prog.info? 1=some t1:=by kernel_rfl
theorem ui2:prog.info? 2=some t2:=by kernel_rfl
theorem ui3:prog.info? 3=some t3:=by kernel_rfl
theorem ui4:prog.info? 4=some t4:=by kernel_rfl
theorem ui5:prog.info? 5=some t5:=by kernel_rfl
theorem ui6:prog.info? 6=some t6:=by kernel_rfl
theorem ui7:prog.info? 7=some t7:=by kernel_rfl
theorem ui8:prog.info? 8=some t8:=by kernel_rfl
theorem ui9:prog.info? 9=some t9:=by kernel_rfl
theorem ui10:prog.info? 10=some t10:=by kernel_rfl
theorem ui11:prog.info? 11=some t11:=by kernel_rfl
theorem ui12:prog.info? 12=some t12:=by kernel_rfl
theorem ui13:prog.info? 13=some t13:=by kernel_rfl
theorem ui14:prog.info? 14=some t14:=by kernel_rfl
theorem ui15:prog.info? 15=some t15:=by kernel_rfl
theorem ui16:prog.info? 16=some t16:=by kernel_rfl
theorem ui17:prog.info? 17=some t17:=by kernel_rfl
theorem ui18:prog.info? 18=some t18:=by kernel_rfl
theorem ui19:prog.info? 19=some t19:=by kernel_rfl
theorem ui20:prog.info? 20=some t20:=by kernel_rfl
theorem ui21:prog.info? 21=some t21:=by kernel_rfl
theorem ui22:prog.info? 22=some t22:=by kernel_rfl
theorem ui23:prog.info? 23=some t23:=by kernel_rfl
theorem ui24:prog.info? 24=some t24:=by kernel_rfl
theorem ui25:prog.info? 25=some t25:=by kernel_rfl
theorem ui26:prog.info? 26=some t26:=by kernel_rfl
theorem ui27:prog.info? 27=some t27:=by kernel_rfl
theorem ui28:prog.info? 28=some t28:=by kernel_rfl
theorem ui29:prog.info? 29=some t29:=by kernel_rfl
theorem ui30:prog.info? 30=some t30:=by kernel_rfl
theorem ui31:prog.info? 31=some t31:=by kernel_rfl
theorem ui32:prog.info? 32=some t32:=by kernel_rfl
theorem ui33:prog.info? 33=some t33:=by kernel_rfl
theorem ui34:prog.info? 34=some t34:=by kernel_rfl
theorem ui35:prog.info? 35=some t35:=by kernel_rfl
theorem ui36:prog.info? 36=some t36:=by kernel_rfl
theorem ui37:prog.info? 37=some t37:=by kernel_rfl
theorem ui38:prog.info? 38=some t38:=by kernel_rfl
theorem ui39:prog.info? 39=some t39:=by kernel_rfl
theorem ui40:prog.info? 40=some t40:=by kernel_rfl
theorem ui41:prog.info? 41=some t41:=by kernel_rfl
theorem ui43:prog.info? 43=some t43:=by kernel_rfl
theorem ui44:prog.info? 44=some t44:=by kernel_rfl
theorem ui45:prog.info? 45=some t45:=by kernel_rfl
theorem ui46:prog.info? 46=some t46:=by kernel_rfl
theorem ui47:prog.info? 47=some t47:=by kernel_rfl
theorem ui48:prog.info? 48=some t48:=by kernel_rfl
theorem ui49:prog.info? 49=some t49:=by kernel_rfl
theorem ui50:prog.info? 50=some t50:=by kernel_rfl
theorem ui52:prog.info? 52=some t52:=by kernel_rfl
theorem ui54:prog.info? 54=some t54:=by kernel_rfl
theorem ui55:prog.info? 55=some t55:=by kernel_rfl
theorem ui56:prog.info? 56=some t56:=by kernel_rfl
theorem ui57:prog.info? 57=some t57:=by kernel_rfl
theorem ui58:prog.info? 58=some t58:=by kernel_rfl
theorem ui59:prog.info? 59=some t59:=by kernel_rfl
theorem ui60:prog.info? 60=some t60:=by kernel_rfl
theorem ui62:prog.info? 62=some t62:=by kernel_rfl
theorem ui63:prog.info? 63=some t63:=by kernel_rfl
theorem ui65:prog.info? 65=some t65:=by kernel_rfl
theorem ui66:prog.info? 66=some t66:=by kernel_rfl
theorem ui67:prog.info? 67=some t67:=by kernel_rfl
theorem ui68:prog.info? 68=some t68:=by kernel_rfl
theorem ui69:prog.info? 69=some t69:=by kernel_rfl
theorem ui70:prog.info? 70=some t70:=by kernel_rfl
theorem ui71:prog.info? 71=some t71:=by kernel_rfl
theorem ui73:prog.info? 73=some t73:=by kernel_rfl
theorem ui74:prog.info? 74=some t74:=by kernel_rfl
theorem ui75:prog.info? 75=some t75:=by kernel_rfl
theorem ui77:prog.info? 77=some t77:=by kernel_rfl
theorem ui78:prog.info? 78=some t78:=by kernel_rfl
theorem ui79:prog.info? 79=some t79:=by kernel_rfl
theorem ui80:prog.info? 80=some t80:=by kernel_rfl
theorem ui82:prog.info? 82=some t82:=by kernel_rfl
theorem ui83:prog.info? 83=some t83:=by kernel_rfl
theorem ui84:prog.info? 84=some t84:=by kernel_rfl
theorem ui85:prog.info? 85=some t85:=by kernel_rfl
theorem ui86:prog.info? 86=some t86:=by kernel_rfl
theorem ui87:prog.info? 87=some t87:=by kernel_rfl
theorem ui88:prog.info? 88=some t88:=by kernel_rfl
theorem ui89:prog.info? 89=some t89:=by kernel_rfl
theorem ui90:prog.info? 90=some t90:=by kernel_rfl
theorem ui91:prog.info? 91=some t91:=by kernel_rfl
theorem ui92:prog.info? 92=some t92:=by kernel_rfl
theorem ui93:prog.info? 93=some t93:=by kernel_rfl
theorem ui94:prog.info? 94=some t94:=by kernel_rfl
theorem ui95:prog.info? 95=some t95:=by kernel_rfl
theorem ui96:prog.info? 96=some t96:=by kernel_rfl
theorem ui97:prog.info? 97=some t97:=by kernel_rfl
theorem ui98:prog.info? 98=some t98:=by kernel_rfl
theorem ui100:prog.info? 100=some t100:=by kernel_rfl
theorem ui101:prog.info? 101=some t101:=by kernel_rfl
theorem ui102:prog.info? 102=some t102:=by kernel_rfl
theorem ui103:prog.info? 103=some t103:=by kernel_rfl
theorem ui104:prog.info? 104=some t104:=by kernel_rfl
theorem ui105:prog.info? 105=some t105:=by kernel_rfl
theorem ui106:prog.info? 106=some t106:=by kernel_rfl
theorem ui107:prog.info? 107=some t107:=by kernel_rfl
theorem ui109:prog.info? 109=some t109:=by kernel_rfl
theorem ui110:prog.info? 110=some t110:=by kernel_rfl
theorem ui111:prog.info? 111=some t111:=by kernel_rfl
theorem ui113:prog.info? 113=some t113:=by kernel_rfl
theorem ui114:prog.info? 114=some t114:=by kernel_rfl
theorem ui115:prog.info? 115=some t115:=by kernel_rfl
theorem ui116:prog.info? 116=some t116:=by kernel_rfl
theorem ui117:prog.info? 117=some t117:=by kernel_rfl
theorem ui119:prog.info? 119=some t119:=by kernel_rfl
theorem ui120:prog.info? 120=some t120:=by kernel_rfl
theorem ui121:prog.info? 121=some t121:=by kernel_rfl
theorem ui122:prog.info? 122=some t122:=by kernel_rfl
theorem ui123:prog.info? 123=some t123:=by kernel_rfl
theorem ui124:prog.info? 124=some t124:=by kernel_rfl
theorem ui125:prog.info? 125=some t125:=by kernel_rfl
theorem ui126:prog.info? 126=some t126:=by kernel_rfl
theorem ui127:prog.info? 127=some t127:=by kernel_rfl
theorem ui128:prog.info? 128=some t128:=by kernel_rfl
theorem ui129:prog.info? 129=some t129:=by kernel_rfl
theorem ui130:prog.info? 130=some t130:=by kernel_rfl
theorem ui131:prog.info? 131=some t131:=by kernel_rfl
theorem ui132:prog.info? 132=some t132:=by kernel_rfl
theorem ui133:prog.info? 133=some t133:=by kernel_rfl
theorem ui134:prog.info? 134=some t134:=by kernel_rfl
theorem ui135:prog.info? 135=some t135:=by kernel_rfl
theorem ui136:prog.info? 136=some t136:=by kernel_rfl
theorem ui137:prog.info? 137=some t137:=by kernel_rfl
theorem ui138:prog.info? 138=some t138:=by kernel_rfl
theorem ui139:prog.info? 139=some t139:=by kernel_rfl
theorem ui140:prog.info? 140=some t140:=by kernel_rfl
theorem ui141:prog.info? 141=some t141:=by kernel_rfl
theorem ui142:prog.info? 142=some t142:=by kernel_rfl
theorem ui143:prog.info? 143=some t143:=by kernel_rfl
theorem ui144:prog.info? 144=some t144:=by kernel_rfl
theorem ui145:prog.info? 145=some t145:=by kernel_rfl
theorem ui146:prog.info? 146=some t146:=by kernel_rfl
theorem ui147:prog.info? 147=some t147:=by kernel_rfl
theorem ui148:prog.info? 148=some t148:=by kernel_rfl
theorem ui149:prog.info? 149=some t149:=by kernel_rfl
theorem ui150:prog.info? 150=some t150:=by kernel_rfl
theorem ui151:prog.info? 151=some t151:=by kernel_rfl
theorem ui152:prog.info? 152=some t152:=by kernel_rfl
theorem ui153:prog.info? 153=some t153:=by kernel_rfl
theorem ui154:prog.info? 154=some t154:=by kernel_rfl
theorem ui155:prog.info? 155=some t155:=by kernel_rfl
theorem ui156:prog.info? 156=some t156:=by kernel_rfl
theorem ui157:prog.info? 157=some t157:=by kernel_rfl
theorem ui158:prog.info? 158=some t158:=by kernel_rfl
theorem ui159:prog.info? 159=some t159:=by kernel_rfl
theorem ui160:prog.info? 160=some t160:=by kernel_rfl
theorem ui161:prog.info? 161=some t161:=by kernel_rfl
theorem ui162:prog.info? 162=some t162:=by kernel_rfl
theorem ui163:prog.info? 163=some t163:=by kernel_rfl
theorem ui164:prog.info? 164=some t164:=by kernel_rfl
theorem ui165:prog.info? 165=some t165:=by kernel_rfl
theorem ui166:prog.info? 166=some t166:=by kernel_rfl
theorem ui167:prog.info? 167=some t167:=by kernel_rfl
theorem ui168:prog.info? 168=some t168:=by kernel_rfl
theorem ui169:prog.info? 169=some t169:=by kernel_rfl
theorem ui170:prog.info? 170=some t170:=by kernel_rfl
theorem ui171:prog.info? 171=some t171:=by kernel_rfl
theorem ui172:prog.info? 172=some t172:=by kernel_rfl
theorem ui173:prog.info? 173=some t173:=by kernel_rfl
theorem ui174:prog.info? 174=some t174:=by kernel_rfl
theorem ui175:prog.info? 175=some t175:=by kernel_rfl
theorem ui176:prog.info? 176=some t176:=by kernel_rfl
theorem ui177:prog.info? 177=some t177:=by kernel_rfl
theorem ui178:prog.info? 178=some t178:=by kernel_rfl
theorem ui179:prog.info? 179=some t179:=by kernel_rfl
theorem ui180:prog.info? 180=some t180:=by kernel_rfl
theorem ui181:prog.info? 181=some t181:=by kernel_rfl
theorem ui182:prog.info? 182=some t182:=by kernel_rfl
theorem ui184:prog.info? 184=some t184:=by kernel_rfl
theorem ui185:prog.info? 185=some t185:=by kernel_rfl
theorem ui186:prog.info? 186=some t186:=by kernel_rfl
theorem ui187:prog.info? 187=some t187:=by kernel_rfl
theorem ui189:prog.info? 189=some t189:=by kernel_rfl
theorem ui190:prog.info? 190=some t190:=by kernel_rfl
theorem ui191:prog.info? 191=some t191:=by kernel_rfl
theorem ui192:prog.info? 192=some t192:=by kernel_rfl
theorem ui193:prog.info? 193=some t193:=by kernel_rfl
theorem ui194:prog.info? 194=some t194:=by kernel_rfl
theorem ui195:prog.info? 195=some t195:=by kernel_rfl
theorem ui196:prog.info? 196=some t196:=by kernel_rfl
theorem ui197:prog.info? 197=some t197:=by kernel_rfl
theorem ui198:prog.info? 198=some t198:=by kernel_rfl
theorem ui199:prog.info? 199=some t199:=by kernel_rfl
theorem ui200:prog.info? 200=some t200:=by kernel_rfl
theorem ui201:prog.info? 201=some t201:=by kernel_rfl
theorem ui202:prog.info? 202=some t202:=by kernel_rfl
theorem ui203:prog.info? 203=some t203:=by kernel_rfl
theorem ui204:prog.info? 204=some t204:=by kernel_rfl
theorem ui205:prog.info? 205=some t205:=by kernel_rfl
theorem ui206:prog.info? 206=some t206:=by kernel_rfl
theorem ui207:prog.info? 207=some t207:=by kernel_rfl
theorem ui208:prog.info? 208=some t208:=by kernel_rfl
theorem ui209:prog.info? 209=some t209:=by kernel_rfl
theorem ui210:prog.info? 210=some t210:=by kernel_rfl
theorem ui211:prog.info? 211=some t211:=by kernel_rfl
theorem ui212:prog.info? 212=some t212:=by kernel_rfl
theorem ui213:prog.info? 213=some t213:=by kernel_rfl
theorem ui214:prog.info? 214=some t214:=by kernel_rfl
theorem ui215:prog.info? 215=some t215:=by kernel_rfl
theorem ui216:prog.info? 216=some t216:=by kernel_rfl
theorem ui217:prog.info? 217=some t217:=by kernel_rfl
theorem ui218:prog.info? 218=some t218:=by kernel_rfl
theorem ui219:prog.info? 219=some t219:=by kernel_rfl
theorem ui220:prog.info? 220=some t220:=by kernel_rfl
theorem ui221:prog.info? 221=some t221:=by kernel_rfl
theorem ui223:prog.info? 223=some t223:=by kernel_rfl
theorem ui224:prog.info? 224=some t224:=by kernel_rfl
theorem ui225:prog.info? 225=some t225:=by kernel_rfl
theorem ui226:prog.info? 226=some t226:=by kernel_rfl
theorem ui227:prog.info? 227=some t227:=by kernel_rfl
theorem ui228:prog.info? 228=some t228:=by kernel_rfl
theorem ui229:prog.info? 229=some t229:=by kernel_rfl
theorem ui231:prog.info? 231=some t231:=by kernel_rfl
theorem ui232:prog.info? 232=some t232:=by kernel_rfl
theorem ui233:prog.info? 233=some t233:=by kernel_rfl
theorem ui234:prog.info? 234=some t234:=by kernel_rfl
theorem ui236:prog.info? 236=some t236:=by kernel_rfl
theorem ui237:prog.info? 237=some t237:=by kernel_rfl
theorem ui238:prog.info? 238=some t238:=by kernel_rfl
theorem ui239:prog.info? 239=some t239:=by kernel_rfl
theorem ui240:prog.info? 240=some t240:=by kernel_rfl
theorem ui241:prog.info? 241=some t241:=by kernel_rfl
theorem ui242:prog.info? 242=some t242:=by kernel_rfl
theorem ui243:prog.info? 243=some t243:=by kernel_rfl
theorem ui244:prog.info? 244=some t244:=by kernel_rfl
theorem ui245:prog.info? 245=some t245:=by kernel_rfl
theorem ui246:prog.info? 246=some t246:=by kernel_rfl
theorem ui247:prog.info? 247=some t247:=by kernel_rfl
theorem ui248:prog.info? 248=some t248:=by kernel_rfl
theorem ui249:prog.info? 249=some t249:=by kernel_rfl
theorem ui250:prog.info? 250=some t250:=by kernel_rfl
theorem ui251:prog.info? 251=some t251:=by kernel_rfl
theorem ui252:prog.info? 252=some t252:=by kernel_rfl
theorem ui253:prog.info? 253=some t253:=by kernel_rfl
theorem ui254:prog.info? 254=some t254:=by kernel_rfl
theorem ui255:prog.info? 255=some t255:=by kernel_rfl
theorem ui256:prog.info? 256=some t256:=by kernel_rfl
theorem ui258:prog.info? 258=some t258:=by kernel_rfl
theorem ui259:prog.info? 259=some t259:=by kernel_rfl
theorem ui261:prog.info? 261=some t261:=by kernel_rfl
theorem ui262:prog.info? 262=some t262:=by kernel_rfl
theorem ui263:prog.info? 263=some t263:=by kernel_rfl
theorem ui264:prog.info? 264=some t264:=by kernel_rfl
theorem ui265:prog.info? 265=some t265:=by kernel_rfl
theorem ui266:prog.info? 266=some t266:=by kernel_rfl
theorem ui267:prog.info? 267=some t267:=by kernel_rfl
theorem ui268:prog.info? 268=some t268:=by kernel_rfl
theorem ui269:prog.info? 269=some t269:=by kernel_rfl
theorem ui270:prog.info? 270=some t270:=by kernel_rfl
theorem ui271:prog.info? 271=some t271:=by kernel_rfl
theorem ui272:prog.info? 272=some t272:=by kernel_rfl
theorem ui273:prog.info? 273=some t273:=by kernel_rfl
theorem ui274:prog.info? 274=some t274:=by kernel_rfl
theorem ui275:prog.info? 275=some t275:=by kernel_rfl
theorem ui276:prog.info? 276=some t276:=by kernel_rfl
theorem ui277:prog.info? 277=some t277:=by kernel_rfl
theorem ui278:prog.info? 278=some t278:=by kernel_rfl
theorem ui279:prog.info? 279=some t279:=by kernel_rfl
theorem ui281:prog.info? 281=some t281:=by kernel_rfl
theorem ui289:prog.info? 289=some t289:=by kernel_rfl
theorem ui290:prog.info? 290=some t290:=by kernel_rfl
theorem ui294:prog.info? 294=some t294:=by kernel_rfl
theorem ui295:prog.info? 295=some t295:=by kernel_rfl
theorem ui300:prog.info? 300=some t300:=by kernel_rfl
theorem ui317:prog.info? 317=some t317:=by kernel_rfl
theorem ui318:prog.info? 318=some t318:=by kernel_rfl
theorem ui320:prog.info? 320=some t320:=by kernel_rfl
theorem ui322:prog.info? 322=some t322:=by kernel_rfl
theorem ui323:prog.info? 323=some t323:=by kernel_rfl
theorem ui324:prog.info? 324=some t324:=by kernel_rfl
theorem ui325:prog.info? 325=some t325:=by kernel_rfl
theorem ui326:prog.info? 326=some t326:=by kernel_rfl
theorem ui328:prog.info? 328=some t328:=by kernel_rfl
noncomputable def trU:Tre (λT=>prog.underlying T):=(.node 150 _ underlying150 (.node 75 _ underlying75 (.node 35 _ underlying35 (.node 18 _ underlying18 (.node 9 _ underlying9 (.node 5 _ underlying5 (.node 3 _ underlying3 (.node 2 _ underlying2 (.node 1 _ underlying1 .nil .nil) .nil) (.node 4 _ underlying4 .nil .nil)) (.node 7 _ underlying7 (.node 6 _ underlying6 .nil .nil) (.node 8 _ underlying8 .nil .nil))) (.node 14 _ underlying14 (.node 12 _ underlying12 (.node 11 _ underlying11 (.node 10 _ underlying10 .nil .nil) .nil) (.node 13 _ underlying13 .nil .nil)) (.node 16 _ underlying16 (.node 15 _ underlying15 .nil .nil) (.node 17 _ underlying17 .nil .nil)))) (.node 27 _ underlying27 (.node 23 _ underlying23 (.node 21 _ underlying21 (.node 20 _ underlying20 (.node 19 _ underlying19 .nil .nil) .nil) (.node 22 _ underlying22 .nil .nil)) (.node 25 _ underlying25 (.node 24 _ underlying24 .nil .nil) (.node 26 _ underlying26 .nil .nil))) (.node 31 _ underlying31 (.node 29 _ underlying29 (.node 28 _ underlying28 .nil .nil) (.node 30 _ underlying30 .nil .nil)) (.node 33 _ underlying33 (.node 32 _ underlying32 .nil .nil) (.node 34 _ underlying34 .nil .nil))))) (.node 55 _ underlying55 (.node 45 _ underlying45 (.node 40 _ underlying40 (.node 38 _ underlying38 (.node 37 _ underlying37 (.node 36 _ underlying36 .nil .nil) .nil) (.node 39 _ underlying39 .nil .nil)) (.node 43 _ underlying43 (.node 41 _ underlying41 .nil .nil) (.node 44 _ underlying44 .nil .nil))) (.node 49 _ underlying49 (.node 47 _ underlying47 (.node 46 _ underlying46 .nil .nil) (.node 48 _ underlying48 .nil .nil)) (.node 52 _ underlying52 (.node 50 _ underlying50 .nil .nil) (.node 54 _ underlying54 .nil .nil)))) (.node 66 _ underlying66 (.node 60 _ underlying60 (.node 58 _ underlying58 (.node 57 _ underlying57 (.node 56 _ underlying56 .nil .nil) .nil) (.node 59 _ underlying59 .nil .nil)) (.node 63 _ underlying63 (.node 62 _ underlying62 .nil .nil) (.node 65 _ underlying65 .nil .nil))) (.node 70 _ underlying70 (.node 68 _ underlying68 (.node 67 _ underlying67 .nil .nil) (.node 69 _ underlying69 .nil .nil)) (.node 73 _ underlying73 (.node 71 _ underlying71 .nil .nil) (.node 74 _ underlying74 .nil .nil)))))) (.node 115 _ underlying115 (.node 95 _ underlying95 (.node 86 _ underlying86 (.node 82 _ underlying82 (.node 79 _ underlying79 (.node 78 _ underlying78 (.node 77 _ underlying77 .nil .nil) .nil) (.node 80 _ underlying80 .nil .nil)) (.node 84 _ underlying84 (.node 83 _ underlying83 .nil .nil) (.node 85 _ underlying85 .nil .nil))) (.node 91 _ underlying91 (.node 89 _ underlying89 (.node 88 _ underlying88 (.node 87 _ underlying87 .nil .nil) .nil) (.node 90 _ underlying90 .nil .nil)) (.node 93 _ underlying93 (.node 92 _ underlying92 .nil .nil) (.node 94 _ underlying94 .nil .nil)))) (.node 105 _ underlying105 (.node 101 _ underlying101 (.node 98 _ underlying98 (.node 97 _ underlying97 (.node 96 _ underlying96 .nil .nil) .nil) (.node 100 _ underlying100 .nil .nil)) (.node 103 _ underlying103 (.node 102 _ underlying102 .nil .nil) (.node 104 _ underlying104 .nil .nil))) (.node 110 _ underlying110 (.node 107 _ underlying107 (.node 106 _ underlying106 .nil .nil) (.node 109 _ underlying109 .nil .nil)) (.node 113 _ underlying113 (.node 111 _ underlying111 .nil .nil) (.node 114 _ underlying114 .nil .nil))))) (.node 133 _ underlying133 (.node 125 _ underlying125 (.node 121 _ underlying121 (.node 119 _ underlying119 (.node 117 _ underlying117 (.node 116 _ underlying116 .nil .nil) .nil) (.node 120 _ underlying120 .nil .nil)) (.node 123 _ underlying123 (.node 122 _ underlying122 .nil .nil) (.node 124 _ underlying124 .nil .nil))) (.node 129 _ underlying129 (.node 127 _ underlying127 (.node 126 _ underlying126 .nil .nil) (.node 128 _ underlying128 .nil .nil)) (.node 131 _ underlying131 (.node 130 _ underlying130 .nil .nil) (.node 132 _ underlying132 .nil .nil)))) (.node 142 _ underlying142 (.node 138 _ underlying138 (.node 136 _ underlying136 (.node 135 _ underlying135 (.node 134 _ underlying134 .nil .nil) .nil) (.node 137 _ underlying137 .nil .nil)) (.node 140 _ underlying140 (.node 139 _ underlying139 .nil .nil) (.node 141 _ underlying141 .nil .nil))) (.node 146 _ underlying146 (.node 144 _ underlying144 (.node 143 _ underlying143 .nil .nil) (.node 145 _ underlying145 .nil .nil)) (.node 148 _ underlying148 (.node 147 _ underlying147 .nil .nil) (.node 149 _ underlying149 .nil .nil))))))) (.node 221 _ underlying221 (.node 186 _ underlying186 (.node 168 _ underlying168 (.node 159 _ underlying159 (.node 155 _ underlying155 (.node 153 _ underlying153 (.node 152 _ underlying152 (.node 151 _ underlying151 .nil .nil) .nil) (.node 154 _ underlying154 .nil .nil)) (.node 157 _ underlying157 (.node 156 _ underlying156 .nil .nil) (.node 158 _ underlying158 .nil .nil))) (.node 164 _ underlying164 (.node 162 _ underlying162 (.node 161 _ underlying161 (.node 160 _ underlying160 .nil .nil) .nil) (.node 163 _ underlying163 .nil .nil)) (.node 166 _ underlying166 (.node 165 _ underlying165 .nil .nil) (.node 167 _ underlying167 .nil .nil)))) (.node 177 _ underlying177 (.node 173 _ underlying173 (.node 171 _ underlying171 (.node 170 _ underlying170 (.node 169 _ underlying169 .nil .nil) .nil) (.node 172 _ underlying172 .nil .nil)) (.node 175 _ underlying175 (.node 174 _ underlying174 .nil .nil) (.node 176 _ underlying176 .nil .nil))) (.node 181 _ underlying181 (.node 179 _ underlying179 (.node 178 _ underlying178 .nil .nil) (.node 180 _ underlying180 .nil .nil)) (.node 184 _ underlying184 (.node 182 _ underlying182 .nil .nil) (.node 185 _ underlying185 .nil .nil))))) (.node 204 _ underlying204 (.node 196 _ underlying196 (.node 192 _ underlying192 (.node 190 _ underlying190 (.node 189 _ underlying189 (.node 187 _ underlying187 .nil .nil) .nil) (.node 191 _ underlying191 .nil .nil)) (.node 194 _ underlying194 (.node 193 _ underlying193 .nil .nil) (.node 195 _ underlying195 .nil .nil))) (.node 200 _ underlying200 (.node 198 _ underlying198 (.node 197 _ underlying197 .nil .nil) (.node 199 _ underlying199 .nil .nil)) (.node 202 _ underlying202 (.node 201 _ underlying201 .nil .nil) (.node 203 _ underlying203 .nil .nil)))) (.node 213 _ underlying213 (.node 209 _ underlying209 (.node 207 _ underlying207 (.node 206 _ underlying206 (.node 205 _ underlying205 .nil .nil) .nil) (.node 208 _ underlying208 .nil .nil)) (.node 211 _ underlying211 (.node 210 _ underlying210 .nil .nil) (.node 212 _ underlying212 .nil .nil))) (.node 217 _ underlying217 (.node 215 _ underlying215 (.node 214 _ underlying214 .nil .nil) (.node 216 _ underlying216 .nil .nil)) (.node 219 _ underlying219 (.node 218 _ underlying218 .nil .nil) (.node 220 _ underlying220 .nil .nil)))))) (.node 261 _ underlying261 (.node 242 _ underlying242 (.node 232 _ underlying232 (.node 227 _ underlying227 (.node 225 _ underlying225 (.node 224 _ underlying224 (.node 223 _ underlying223 .nil .nil) .nil) (.node 226 _ underlying226 .nil .nil)) (.node 229 _ underlying229 (.node 228 _ underlying228 .nil .nil) (.node 231 _ underlying231 .nil .nil))) (.node 238 _ underlying238 (.node 236 _ underlying236 (.node 234 _ underlying234 (.node 233 _ underlying233 .nil .nil) .nil) (.node 237 _ underlying237 .nil .nil)) (.node 240 _ underlying240 (.node 239 _ underlying239 .nil .nil) (.node 241 _ underlying241 .nil .nil)))) (.node 251 _ underlying251 (.node 247 _ underlying247 (.node 245 _ underlying245 (.node 244 _ underlying244 (.node 243 _ underlying243 .nil .nil) .nil) (.node 246 _ underlying246 .nil .nil)) (.node 249 _ underlying249 (.node 248 _ underlying248 .nil .nil) (.node 250 _ underlying250 .nil .nil))) (.node 255 _ underlying255 (.node 253 _ underlying253 (.node 252 _ underlying252 .nil .nil) (.node 254 _ underlying254 .nil .nil)) (.node 258 _ underlying258 (.node 256 _ underlying256 .nil .nil) (.node 259 _ underlying259 .nil .nil))))) (.node 278 _ underlying278 (.node 270 _ underlying270 (.node 266 _ underlying266 (.node 264 _ underlying264 (.node 263 _ underlying263 (.node 262 _ underlying262 .nil .nil) .nil) (.node 265 _ underlying265 .nil .nil)) (.node 268 _ underlying268 (.node 267 _ underlying267 .nil .nil) (.node 269 _ underlying269 .nil .nil))) (.node 274 _ underlying274 (.node 272 _ underlying272 (.node 271 _ underlying271 .nil .nil) (.node 273 _ underlying273 .nil .nil)) (.node 276 _ underlying276 (.node 275 _ underlying275 .nil .nil) (.node 277 _ underlying277 .nil .nil)))) (.node 318 _ underlying318 (.node 294 _ underlying294 (.node 289 _ underlying289 (.node 281 _ underlying281 (.node 279 _ underlying279 .nil .nil) .nil) (.node 290 _ underlying290 .nil .nil)) (.node 300 _ underlying300 (.node 295 _ underlying295 .nil .nil) (.node 317 _ underlying317 .nil .nil))) (.node 324 _ underlying324 (.node 322 _ underlying322 (.node 320 _ underlying320 .nil .nil) (.node 323 _ underlying323 .nil .nil)) (.node 326 _ underlying326 (.node 325 _ underlying325 .nil .nil) (.node 328 _ underlying328 .nil .nil))))))))
noncomputable def trI:Tre (λT=>prog.info? T):=(.node 150 _ ui150 (.node 75 _ ui75 (.node 35 _ ui35 (.node 18 _ ui18 (.node 9 _ ui9 (.node 5 _ ui5 (.node 3 _ ui3 (.node 2 _ ui2 (.node 1 _ ui1 .nil .nil) .nil) (.node 4 _ ui4 .nil .nil)) (.node 7 _ ui7 (.node 6 _ ui6 .nil .nil) (.node 8 _ ui8 .nil .nil))) (.node 14 _ ui14 (.node 12 _ ui12 (.node 11 _ ui11 (.node 10 _ ui10 .nil .nil) .nil) (.node 13 _ ui13 .nil .nil)) (.node 16 _ ui16 (.node 15 _ ui15 .nil .nil) (.node 17 _ ui17 .nil .nil)))) (.node 27 _ ui27 (.node 23 _ ui23 (.node 21 _ ui21 (.node 20 _ ui20 (.node 19 _ ui19 .nil .nil) .nil) (.node 22 _ ui22 .nil .nil)) (.node 25 _ ui25 (.node 24 _ ui24 .nil .nil) (.node 26 _ ui26 .nil .nil))) (.node 31 _ ui31 (.node 29 _ ui29 (.node 28 _ ui28 .nil .nil) (.node 30 _ ui30 .nil .nil)) (.node 33 _ ui33 (.node 32 _ ui32 .nil .nil) (.node 34 _ ui34 .nil .nil))))) (.node 55 _ ui55 (.node 45 _ ui45 (.node 40 _ ui40 (.node 38 _ ui38 (.node 37 _ ui37 (.node 36 _ ui36 .nil .nil) .nil) (.node 39 _ ui39 .nil .nil)) (.node 43 _ ui43 (.node 41 _ ui41 .nil .nil) (.node 44 _ ui44 .nil .nil))) (.node 49 _ ui49 (.node 47 _ ui47 (.node 46 _ ui46 .nil .nil) (.node 48 _ ui48 .nil .nil)) (.node 52 _ ui52 (.node 50 _ ui50 .nil .nil) (.node 54 _ ui54 .nil .nil)))) (.node 66 _ ui66 (.node 60 _ ui60 (.node 58 _ ui58 (.node 57 _ ui57 (.node 56 _ ui56 .nil .nil) .nil) (.node 59 _ ui59 .nil .nil)) (.node 63 _ ui63 (.node 62 _ ui62 .nil .nil) (.node 65 _ ui65 .nil .nil))) (.node 70 _ ui70 (.node 68 _ ui68 (.node 67 _ ui67 .nil .nil) (.node 69 _ ui69 .nil .nil)) (.node 73 _ ui73 (.node 71 _ ui71 .nil .nil) (.node 74 _ ui74 .nil .nil)))))) (.node 115 _ ui115 (.node 95 _ ui95 (.node 86 _ ui86 (.node 82 _ ui82 (.node 79 _ ui79 (.node 78 _ ui78 (.node 77 _ ui77 .nil .nil) .nil) (.node 80 _ ui80 .nil .nil)) (.node 84 _ ui84 (.node 83 _ ui83 .nil .nil) (.node 85 _ ui85 .nil .nil))) (.node 91 _ ui91 (.node 89 _ ui89 (.node 88 _ ui88 (.node 87 _ ui87 .nil .nil) .nil) (.node 90 _ ui90 .nil .nil)) (.node 93 _ ui93 (.node 92 _ ui92 .nil .nil) (.node 94 _ ui94 .nil .nil)))) (.node 105 _ ui105 (.node 101 _ ui101 (.node 98 _ ui98 (.node 97 _ ui97 (.node 96 _ ui96 .nil .nil) .nil) (.node 100 _ ui100 .nil .nil)) (.node 103 _ ui103 (.node 102 _ ui102 .nil .nil) (.node 104 _ ui104 .nil .nil))) (.node 110 _ ui110 (.node 107 _ ui107 (.node 106 _ ui106 .nil .nil) (.node 109 _ ui109 .nil .nil)) (.node 113 _ ui113 (.node 111 _ ui111 .nil .nil) (.node 114 _ ui114 .nil .nil))))) (.node 133 _ ui133 (.node 125 _ ui125 (.node 121 _ ui121 (.node 119 _ ui119 (.node 117 _ ui117 (.node 116 _ ui116 .nil .nil) .nil) (.node 120 _ ui120 .nil .nil)) (.node 123 _ ui123 (.node 122 _ ui122 .nil .nil) (.node 124 _ ui124 .nil .nil))) (.node 129 _ ui129 (.node 127 _ ui127 (.node 126 _ ui126 .nil .nil) (.node 128 _ ui128 .nil .nil)) (.node 131 _ ui131 (.node 130 _ ui130 .nil .nil) (.node 132 _ ui132 .nil .nil)))) (.node 142 _ ui142 (.node 138 _ ui138 (.node 136 _ ui136 (.node 135 _ ui135 (.node 134 _ ui134 .nil .nil) .nil) (.node 137 _ ui137 .nil .nil)) (.node 140 _ ui140 (.node 139 _ ui139 .nil .nil) (.node 141 _ ui141 .nil .nil))) (.node 146 _ ui146 (.node 144 _ ui144 (.node 143 _ ui143 .nil .nil) (.node 145 _ ui145 .nil .nil)) (.node 148 _ ui148 (.node 147 _ ui147 .nil .nil) (.node 149 _ ui149 .nil .nil))))))) (.node 221 _ ui221 (.node 186 _ ui186 (.node 168 _ ui168 (.node 159 _ ui159 (.node 155 _ ui155 (.node 153 _ ui153 (.node 152 _ ui152 (.node 151 _ ui151 .nil .nil) .nil) (.node 154 _ ui154 .nil .nil)) (.node 157 _ ui157 (.node 156 _ ui156 .nil .nil) (.node 158 _ ui158 .nil .nil))) (.node 164 _ ui164 (.node 162 _ ui162 (.node 161 _ ui161 (.node 160 _ ui160 .nil .nil) .nil) (.node 163 _ ui163 .nil .nil)) (.node 166 _ ui166 (.node 165 _ ui165 .nil .nil) (.node 167 _ ui167 .nil .nil)))) (.node 177 _ ui177 (.node 173 _ ui173 (.node 171 _ ui171 (.node 170 _ ui170 (.node 169 _ ui169 .nil .nil) .nil) (.node 172 _ ui172 .nil .nil)) (.node 175 _ ui175 (.node 174 _ ui174 .nil .nil) (.node 176 _ ui176 .nil .nil))) (.node 181 _ ui181 (.node 179 _ ui179 (.node 178 _ ui178 .nil .nil) (.node 180 _ ui180 .nil .nil)) (.node 184 _ ui184 (.node 182 _ ui182 .nil .nil) (.node 185 _ ui185 .nil .nil))))) (.node 204 _ ui204 (.node 196 _ ui196 (.node 192 _ ui192 (.node 190 _ ui190 (.node 189 _ ui189 (.node 187 _ ui187 .nil .nil) .nil) (.node 191 _ ui191 .nil .nil)) (.node 194 _ ui194 (.node 193 _ ui193 .nil .nil) (.node 195 _ ui195 .nil .nil))) (.node 200 _ ui200 (.node 198 _ ui198 (.node 197 _ ui197 .nil .nil) (.node 199 _ ui199 .nil .nil)) (.node 202 _ ui202 (.node 201 _ ui201 .nil .nil) (.node 203 _ ui203 .nil .nil)))) (.node 213 _ ui213 (.node 209 _ ui209 (.node 207 _ ui207 (.node 206 _ ui206 (.node 205 _ ui205 .nil .nil) .nil) (.node 208 _ ui208 .nil .nil)) (.node 211 _ ui211 (.node 210 _ ui210 .nil .nil) (.node 212 _ ui212 .nil .nil))) (.node 217 _ ui217 (.node 215 _ ui215 (.node 214 _ ui214 .nil .nil) (.node 216 _ ui216 .nil .nil)) (.node 219 _ ui219 (.node 218 _ ui218 .nil .nil) (.node 220 _ ui220 .nil .nil)))))) (.node 261 _ ui261 (.node 242 _ ui242 (.node 232 _ ui232 (.node 227 _ ui227 (.node 225 _ ui225 (.node 224 _ ui224 (.node 223 _ ui223 .nil .nil) .nil) (.node 226 _ ui226 .nil .nil)) (.node 229 _ ui229 (.node 228 _ ui228 .nil .nil) (.node 231 _ ui231 .nil .nil))) (.node 238 _ ui238 (.node 236 _ ui236 (.node 234 _ ui234 (.node 233 _ ui233 .nil .nil) .nil) (.node 237 _ ui237 .nil .nil)) (.node 240 _ ui240 (.node 239 _ ui239 .nil .nil) (.node 241 _ ui241 .nil .nil)))) (.node 251 _ ui251 (.node 247 _ ui247 (.node 245 _ ui245 (.node 244 _ ui244 (.node 243 _ ui243 .nil .nil) .nil) (.node 246 _ ui246 .nil .nil)) (.node 249 _ ui249 (.node 248 _ ui248 .nil .nil) (.node 250 _ ui250 .nil .nil))) (.node 255 _ ui255 (.node 253 _ ui253 (.node 252 _ ui252 .nil .nil) (.node 254 _ ui254 .nil .nil)) (.node 258 _ ui258 (.node 256 _ ui256 .nil .nil) (.node 259 _ ui259 .nil .nil))))) (.node 278 _ ui278 (.node 270 _ ui270 (.node 266 _ ui266 (.node 264 _ ui264 (.node 263 _ ui263 (.node 262 _ ui262 .nil .nil) .nil) (.node 265 _ ui265 .nil .nil)) (.node 268 _ ui268 (.node 267 _ ui267 .nil .nil) (.node 269 _ ui269 .nil .nil))) (.node 274 _ ui274 (.node 272 _ ui272 (.node 271 _ ui271 .nil .nil) (.node 273 _ ui273 .nil .nil)) (.node 276 _ ui276 (.node 275 _ ui275 .nil .nil) (.node 277 _ ui277 .nil .nil)))) (.node 318 _ ui318 (.node 294 _ ui294 (.node 289 _ ui289 (.node 281 _ ui281 (.node 279 _ ui279 .nil .nil) .nil) (.node 290 _ ui290 .nil .nil)) (.node 300 _ ui300 (.node 295 _ ui295 .nil .nil) (.node 317 _ ui317 .nil .nil))) (.node 324 _ ui324 (.node 322 _ ui322 (.node 320 _ ui320 .nil .nil) (.node 323 _ ui323 .nil .nil)) (.node 326 _ ui326 (.node 325 _ ui325 .nil .nil) (.node 328 _ ui328 .nil .nil))))))))
noncomputable def trF:Tre (λk=>prog.funcs[k]?):=(.node 121 _ func121 (.node 62 _ func62 (.node 32 _ func32 (.node 17 _ func17 (.node 10 _ func10 (.node 6 _ func6 (.node 4 _ func4 (.node 3 _ func3 .nil .nil) (.node 5 _ func5 .nil .nil)) (.node 8 _ func8 (.node 7 _ func7 .nil .nil) (.node 9 _ func9 .nil .nil))) (.node 14 _ func14 (.node 12 _ func12 (.node 11 _ func11 .nil .nil) (.node 13 _ func13 .nil .nil)) (.node 16 _ func16 (.node 15 _ func15 .nil .nil) .nil))) (.node 25 _ func25 (.node 21 _ func21 (.node 19 _ func19 (.node 18 _ func18 .nil .nil) (.node 20 _ func20 .nil .nil)) (.node 23 _ func23 (.node 22 _ func22 .nil .nil) (.node 24 _ func24 .nil .nil))) (.node 29 _ func29 (.node 27 _ func27 (.node 26 _ func26 .nil .nil) (.node 28 _ func28 .nil .nil)) (.node 31 _ func31 (.node 30 _ func30 .nil .nil) .nil)))) (.node 47 _ func47 (.node 40 _ func40 (.node 36 _ func36 (.node 34 _ func34 (.node 33 _ func33 .nil .nil) (.node 35 _ func35 .nil .nil)) (.node 38 _ func38 (.node 37 _ func37 .nil .nil) (.node 39 _ func39 .nil .nil))) (.node 44 _ func44 (.node 42 _ func42 (.node 41 _ func41 .nil .nil) (.node 43 _ func43 .nil .nil)) (.node 46 _ func46 (.node 45 _ func45 .nil .nil) .nil))) (.node 55 _ func55 (.node 51 _ func51 (.node 49 _ func49 (.node 48 _ func48 .nil .nil) (.node 50 _ func50 .nil .nil)) (.node 53 _ func53 (.node 52 _ func52 .nil .nil) (.node 54 _ func54 .nil .nil))) (.node 59 _ func59 (.node 57 _ func57 (.node 56 _ func56 .nil .nil) (.node 58 _ func58 .nil .nil)) (.node 61 _ func61 (.node 60 _ func60 .nil .nil) .nil))))) (.node 92 _ func92 (.node 77 _ func77 (.node 70 _ func70 (.node 66 _ func66 (.node 64 _ func64 (.node 63 _ func63 .nil .nil) (.node 65 _ func65 .nil .nil)) (.node 68 _ func68 (.node 67 _ func67 .nil .nil) (.node 69 _ func69 .nil .nil))) (.node 74 _ func74 (.node 72 _ func72 (.node 71 _ func71 .nil .nil) (.node 73 _ func73 .nil .nil)) (.node 76 _ func76 (.node 75 _ func75 .nil .nil) .nil))) (.node 85 _ func85 (.node 81 _ func81 (.node 79 _ func79 (.node 78 _ func78 .nil .nil) (.node 80 _ func80 .nil .nil)) (.node 83 _ func83 (.node 82 _ func82 .nil .nil) (.node 84 _ func84 .nil .nil))) (.node 89 _ func89 (.node 87 _ func87 (.node 86 _ func86 .nil .nil) (.node 88 _ func88 .nil .nil)) (.node 91 _ func91 (.node 90 _ func90 .nil .nil) .nil)))) (.node 107 _ func107 (.node 100 _ func100 (.node 96 _ func96 (.node 94 _ func94 (.node 93 _ func93 .nil .nil) (.node 95 _ func95 .nil .nil)) (.node 98 _ func98 (.node 97 _ func97 .nil .nil) (.node 99 _ func99 .nil .nil))) (.node 104 _ func104 (.node 102 _ func102 (.node 101 _ func101 .nil .nil) (.node 103 _ func103 .nil .nil)) (.node 106 _ func106 (.node 105 _ func105 .nil .nil) .nil))) (.node 114 _ func114 (.node 111 _ func111 (.node 109 _ func109 (.node 108 _ func108 .nil .nil) (.node 110 _ func110 .nil .nil)) (.node 113 _ func113 (.node 112 _ func112 .nil .nil) .nil)) (.node 118 _ func118 (.node 116 _ func116 (.node 115 _ func115 .nil .nil) (.node 117 _ func117 .nil .nil)) (.node 120 _ func120 (.node 119 _ func119 .nil .nil) .nil)))))) (.node 183 _ func183 (.node 151 _ func151 (.node 136 _ func136 (.node 129 _ func129 (.node 125 _ func125 (.node 123 _ func123 (.node 122 _ func122 .nil .nil) (.node 124 _ func124 .nil .nil)) (.node 127 _ func127 (.node 126 _ func126 .nil .nil) (.node 128 _ func128 .nil .nil))) (.node 133 _ func133 (.node 131 _ func131 (.node 130 _ func130 .nil .nil) (.node 132 _ func132 .nil .nil)) (.node 135 _ func135 (.node 134 _ func134 .nil .nil) .nil))) (.node 144 _ func144 (.node 140 _ func140 (.node 138 _ func138 (.node 137 _ func137 .nil .nil) (.node 139 _ func139 .nil .nil)) (.node 142 _ func142 (.node 141 _ func141 .nil .nil) (.node 143 _ func143 .nil .nil))) (.node 148 _ func148 (.node 146 _ func146 (.node 145 _ func145 .nil .nil) (.node 147 _ func147 .nil .nil)) (.node 150 _ func150 (.node 149 _ func149 .nil .nil) .nil)))) (.node 168 _ func168 (.node 161 _ func161 (.node 156 _ func156 (.node 153 _ func153 (.node 152 _ func152 .nil .nil) (.node 154 _ func154 .nil .nil)) (.node 158 _ func158 (.node 157 _ func157 .nil .nil) (.node 159 _ func159 .nil .nil))) (.node 165 _ func165 (.node 163 _ func163 (.node 162 _ func162 .nil .nil) (.node 164 _ func164 .nil .nil)) (.node 167 _ func167 (.node 166 _ func166 .nil .nil) .nil))) (.node 176 _ func176 (.node 172 _ func172 (.node 170 _ func170 (.node 169 _ func169 .nil .nil) (.node 171 _ func171 .nil .nil)) (.node 174 _ func174 (.node 173 _ func173 .nil .nil) (.node 175 _ func175 .nil .nil))) (.node 180 _ func180 (.node 178 _ func178 (.node 177 _ func177 .nil .nil) (.node 179 _ func179 .nil .nil)) (.node 182 _ func182 (.node 181 _ func181 .nil .nil) .nil))))) (.node 215 _ func215 (.node 198 _ func198 (.node 191 _ func191 (.node 187 _ func187 (.node 185 _ func185 (.node 184 _ func184 .nil .nil) (.node 186 _ func186 .nil .nil)) (.node 189 _ func189 (.node 188 _ func188 .nil .nil) (.node 190 _ func190 .nil .nil))) (.node 195 _ func195 (.node 193 _ func193 (.node 192 _ func192 .nil .nil) (.node 194 _ func194 .nil .nil)) (.node 197 _ func197 (.node 196 _ func196 .nil .nil) .nil))) (.node 208 _ func208 (.node 204 _ func204 (.node 202 _ func202 (.node 199 _ func199 .nil .nil) (.node 203 _ func203 .nil .nil)) (.node 206 _ func206 (.node 205 _ func205 .nil .nil) (.node 207 _ func207 .nil .nil))) (.node 212 _ func212 (.node 210 _ func210 (.node 209 _ func209 .nil .nil) (.node 211 _ func211 .nil .nil)) (.node 214 _ func214 (.node 213 _ func213 .nil .nil) .nil)))) (.node 233 _ func233 (.node 226 _ func226 (.node 219 _ func219 (.node 217 _ func217 (.node 216 _ func216 .nil .nil) (.node 218 _ func218 .nil .nil)) (.node 221 _ func221 (.node 220 _ func220 .nil .nil) (.node 222 _ func222 .nil .nil))) (.node 230 _ func230 (.node 228 _ func228 (.node 227 _ func227 .nil .nil) (.node 229 _ func229 .nil .nil)) (.node 232 _ func232 (.node 231 _ func231 .nil .nil) .nil))) (.node 242 _ func242 (.node 237 _ func237 (.node 235 _ func235 (.node 234 _ func234 .nil .nil) (.node 236 _ func236 .nil .nil)) (.node 241 _ func241 (.node 240 _ func240 .nil .nil) .nil)) (.node 248 _ func248 (.node 244 _ func244 (.node 243 _ func243 .nil .nil) (.node 245 _ func245 .nil .nil)) (.node 250 _ func250 (.node 249 _ func249 .nil .nil) .nil)))))))
theorem ue59:(if prog.stoodInHeld 59=false∧prog.eqGuardType prog.depth 59=false then some () else none)=some ():=if_pos ⟨stoodInHeld59,eqGuardType59⟩
noncomputable def trE:Tre (λT=>if prog.stoodInHeld T=false∧prog.eqGuardType prog.depth T=false then some () else none):=(.node 59 () ue59 .nil .nil)
noncomputable instance:Tb prog:=⟨trU,trI,trF,trE⟩
end
section
abbrev am_:Ty:=(.pair .int (.one .int))
abbrev ac_:Type:=(Int×Int)
abbrev aq_:Ty:=(.pair .int am_)
abbrev ae_:Type:=(Int×ac_)
abbrev cc_:Ty:=(.pair .int (.pair .int (.one .bool)))
abbrev bd_:Type:=(Int×(Int×Bool))
abbrev qh_:Ty:=(.pair .str aq_)
abbrev hg_:Type:=((List UInt8)×ae_)
abbrev cw_:Ty:=(.pair aq_ (.one .int))
abbrev ad_:Type:=(ae_×Int)
abbrev ap_:Ty:=(.pair (.list .int) (.pair (.list .int) (.one (.list .int))))
abbrev ai_:Type:=((List Int)×((List Int)×(List Int)))
abbrev pf_:Ty:=(.pair .str (.pair .int (.one (.list cc_))))
abbrev kk_:Type:=((List UInt8)×(Int×(List bd_)))
abbrev aj6:Ty:=(.pair .int (.pair .int (.one (.list cc_))))
abbrev oy_:Type:=(Int×(Int×(List bd_)))
abbrev yu_:Ty:=(.pair (.list cc_) (.one am_))
abbrev pz_:Type:=((List bd_)×ac_)
abbrev aj_:Ty:=(.pair ap_ (.one (.list .bool)))
abbrev aa_:Type:=(ai_×(List Bool))
abbrev ar_:Ty:=(.pair .int (.pair .int (.pair .int (.pair .int (.pair .int (.pair (.list .int) (.one .bool)))))))
abbrev al_:Type:=(Int×(Int×(Int×(Int×(Int×((List Int)×Bool))))))
abbrev dl_:Ty:=(.pair (.list aj_) (.one (.list (.list cw_))))
abbrev bq_:Type:=((List aa_)×(List (List ad_)))
abbrev mi_:Ty:=(.pair .str (.pair .int (.pair .int (.pair (.list .int) (.pair (.list cc_) (.pair (.list am_) (.pair (.list .int) (.one (.list .int)))))))))
abbrev cv_:Type:=((List UInt8)×(Int×(Int×((List Int)×((List bd_)×((List ac_)×((List Int)×(List Int))))))))
abbrev pg_:Ty:=(.pair .str (.pair .int (.pair .int (.pair (.list cc_) (.one ar_)))))
abbrev cr_:Type:=((List UInt8)×(Int×(Int×((List bd_)×al_))))
abbrev em_:Ty:=(.pair dl_ (.one (.list .int)))
abbrev dp_:Type:=(bq_×(List Int))
abbrev ao_:Ty:=(.pair (.list .str) (.pair (.list qh_) (.pair (.list pf_) (.pair (.list aj6) (.pair (.list mi_) (.pair (.list yu_) (.pair .int (.one (.list cc_)))))))))
abbrev af_:Type:=((List (List UInt8))×((List hg_)×((List kk_)×((List oy_)×((List cv_)×((List pz_)×(Int×(List bd_))))))))
abbrev fe_:Ty:=(.pair ao_ (.one ap_))
abbrev hr_:Type:=(af_×ai_)
abbrev an_:Ty:=(.pair ao_ (.pair (.list am_) (.pair (.list (.list .int)) (.pair (.list pg_) (.one .int)))))
abbrev ab_:Type:=(af_×((List ac_)×((List (List Int))×((List cr_)×Int))))
def pow10V:List Value:=(List.range 20).map λi=>.int .u64 ((10 ^ i:Nat):Int)
def reserved:List (List UInt8):=[[97,116],[115,116,97,116,101,115],[115,116,97,114,116],[103,111,110,101],[105,102],[108,111,99,107],[119,105,116,104],[115,101,116,115],[115,112,101,110,100,115],[98,114,105,110,103,115]]
instance :Gb:=⟨λg=>cond (Nat.beq g 0) (some ⟨.list .str,reserved⟩) none,λc p=>cond (Nat.beq c 331352064) true (cond (Nat.blt c 331352064) (cond (Nat.beq c 197136384) true (cond (Nat.blt c 197136384) (cond (Nat.beq c 130029568) true (cond (Nat.blt c 130029568) (cond (Nat.beq c 12591103) true (cond (Nat.blt c 12591103) (cond (Nat.beq c 12587008) true (cond (Nat.blt c 12587008) (cond (Nat.beq c 12584960) true (cond (Nat.blt c 12584960) (false) (false))) (cond (Nat.beq c 12589057) true (cond (Nat.blt c 12589057) (false) (false))))) (cond (Nat.beq c 130025472) true (cond (Nat.blt c 130025472) (cond (Nat.beq c 37756929) true (cond (Nat.blt c 37756929) (false) (false))) (cond (Nat.beq c 130027520) true (cond (Nat.blt c 130027520) (false) (false))))))) (cond (Nat.beq c 151003136) true (cond (Nat.blt c 151003136) (cond (Nat.beq c 150999040) true (cond (Nat.blt c 150999040) (cond (Nat.beq c 150996992) (cond (eqS p "ref.go:99") true (cond (eqS p "ref.go:504") true (cond (eqS p "ref.go:36") true (cond (eqS p "ref.go:31") true (cond (eqS p "ref.go:307") true (cond (eqS p "ref.go:145") true (cond (eqS p "ref.go:108") true (cond (eqS p "prove.go:92") true (cond (eqS p "prove.go:62") true (cond (eqS p "prove.go:250") true (cond (eqS p "prove.go:211") true (cond (eqS p "prove.go:185") true (cond (eqS p "prove.go:176") true (cond (eqS p "play.go:55") true (cond (eqS p "play.go:216") true (cond (eqS p "law.go:33") true (cond (eqS p "law.go:24") true (cond (eqS p "law.go:183") true false)))))))))))))))))) (cond (Nat.blt c 150996992) (false) (false))) (cond (Nat.beq c 151001088) (cond (eqS p "ref.go:66") true (cond (eqS p "ref.go:196") true (cond (eqS p "ref.go:152") true (cond (eqS p "ref.go:147") true (cond (eqS p "ref.go:141") true (cond (eqS p "ref.go:121") true (cond (eqS p "prove.go:445") true (cond (eqS p "play.go:35") true (cond (eqS p "play.go:286") true (cond (eqS p "play.go:260") true (cond (eqS p "play.go:248") true (cond (eqS p "play.go:109") true (cond (eqS p "law.go:317") true (cond (eqS p "law.go:252") true false)))))))))))))) (cond (Nat.blt c 151001088) (false) (false))))) (cond (Nat.beq c 197134336) true (cond (Nat.blt c 197134336) (cond (Nat.beq c 188749825) true (cond (Nat.blt c 188749825) (false) (false))) (false))))))) (cond (Nat.beq c 247474178) true (cond (Nat.blt c 247474178) (cond (Nat.beq c 209719296) true (cond (Nat.blt c 209719296) (cond (Nat.beq c 197140481) true (cond (Nat.blt c 197140481) (cond (Nat.beq c 197138433) (cond (eqS p "room.go:337") true (cond (eqS p "room.go:291") true (cond (eqS p "room.go:151") true (cond (eqS p "ref.go:462") true (cond (eqS p "ref.go:336") true (cond (eqS p "ref.go:254") true (cond (eqS p "ref.go:235") true (cond (eqS p "ref.go:182") true false)))))))) (cond (Nat.blt c 197138433) (false) (false))) (cond (Nat.beq c 209717248) true (cond (Nat.blt c 209717248) (false) (false))))) (cond (Nat.beq c 209723393) true (cond (Nat.blt c 209723393) (cond (Nat.beq c 209721345) (cond (eqS p "ref.go:94") true (cond (eqS p "ref.go:78") true (cond (eqS p "ref.go:60") true (cond (eqS p "ref.go:485") true (cond (eqS p "ref.go:170") true (cond (eqS p "prove.go:416") true (cond (eqS p "play.go:95") true (cond (eqS p "play.go:230") true (cond (eqS p "play.go:132") true (cond (eqS p "law.go:37") true false)))))))))) (cond (Nat.blt c 209721345) (false) (false))) (cond (Nat.beq c 247470081) (cond (eqS p "room.go:255") true (cond (eqS p "room.go:223") true false)) (cond (Nat.blt c 247470081) (false) (false))))))) (cond (Nat.beq c 314574848) true (cond (Nat.blt c 314574848) (cond (Nat.beq c 297803777) (cond (eqS p "ref.go:66") true (cond (eqS p "prove.go:445") true false)) (cond (Nat.blt c 297803777) (cond (Nat.beq c 297801728) true (cond (Nat.blt c 297801728) (false) (false))) (cond (Nat.beq c 297805825) true (cond (Nat.blt c 297805825) (false) (false))))) (cond (Nat.beq c 314578944) true (cond (Nat.blt c 314578944) (cond (Nat.beq c 314576896) true (cond (Nat.blt c 314576896) (false) (false))) (false))))))))) (cond (Nat.beq c 620763136) true (cond (Nat.blt c 620763136) (cond (Nat.beq c 394272769) true (cond (Nat.blt c 394272769) (cond (Nat.beq c 381685760) true (cond (Nat.blt c 381685760) (cond (Nat.beq c 360712192) true (cond (Nat.blt c 360712192) (cond (Nat.beq c 331360258) true (cond (Nat.blt c 331360258) (false) (false))) (cond (Nat.beq c 360714240) (cond (eqS p "ref.go:63") true false) (cond (Nat.blt c 360714240) (false) (false))))) (cond (Nat.beq c 394268672) true (cond (Nat.blt c 394268672) (cond (Nat.beq c 394266624) (cond (eqS p "ref.go:14") true (cond (eqS p "play.go:30") true false)) (cond (Nat.blt c 394266624) (false) (false))) (cond (Nat.beq c 394270721) true (cond (Nat.blt c 394270721) (false) (false))))))) (cond (Nat.beq c 591403008) true (cond (Nat.blt c 591403008) (cond (Nat.beq c 402663426) true (cond (Nat.blt c 402663426) (cond (Nat.beq c 402657280) true (cond (Nat.blt c 402657280) (false) (false))) (cond (Nat.beq c 591398912) true (cond (Nat.blt c 591398912) (false) (false))))) (cond (Nat.beq c 620759040) true (cond (Nat.blt c 620759040) (cond (Nat.beq c 591407106) true (cond (Nat.blt c 591407106) (false) (false))) (false))))))) (cond (Nat.beq c 847259650) true (cond (Nat.blt c 847259650) (cond (Nat.beq c 666900480) true (cond (Nat.blt c 666900480) (cond (Nat.beq c 650121216) true (cond (Nat.blt c 650121216) (cond (Nat.beq c 641732608) true (cond (Nat.blt c 641732608) (false) (false))) (cond (Nat.beq c 666896384) true (cond (Nat.blt c 666896384) (false) (false))))) (cond (Nat.beq c 696260609) true (cond (Nat.blt c 696260609) (cond (Nat.beq c 671092736) true (cond (Nat.blt c 671092736) (false) (false))) (false))))) (cond (Nat.beq c 1010837506) true (cond (Nat.blt c 1010837506) (cond (Nat.beq c 864036866) true (cond (Nat.blt c 864036866) (cond (Nat.beq c 855648258) true (cond (Nat.blt c 855648258) (false) (false))) (cond (Nat.beq c 960501761) true (cond (Nat.blt c 960501761) (false) (false))))) (cond (Nat.beq c 1027608576) true (cond (Nat.blt c 1027608576) (cond (Nat.beq c 1027606528) true (cond (Nat.blt c 1027606528) (false) (false))) (false)))))))))),λc=>cond (Nat.beq c 138545152) (some []) (cond (Nat.blt c 138545152) (none) (none)),λc=>cond (Nat.beq c 188936285) true (cond (Nat.blt c 188936285) (cond (Nat.beq c 188928089) true (cond (Nat.blt c 188928089) (false) (false))) (false)),λc=>none,λg=>cond (Nat.beq g 1) (some pow10V) none⟩
end
end Go.Proofs.YtdibamopklkilaaGreatDoor.Rx
namespace Go.Proofs
section
set_option maxRecDepth 100000
def Tryz.lays121_ren:Go.Shelf.Ren:=⟨λ| 121=>106 | 214=>160 | n=>n,λ| 4=>4 | 9=>9 | n=>n,λ| n=>n⟩
theorem Tryz.lays121:Go.Proofs.Lays.n121 Tryz.prog Tryz.lays121_ren:={
  mixed:=by kernel_rfl
  f121:=Tryz.func106.trans (congrArg some (by kernel_rfl))
  f214:=Tryz.func160.trans (congrArg some (by kernel_rfl))
  t4:=Tryz.underlying4
  a4:=Tryz.isAgg4
  z4:=Tryz.sizeOf4
  v4:=Tryz.zeroValue4
  t9:=Tryz.underlying9
  a9:=Tryz.isAgg9
  z9:=Tryz.sizeOf9
  v9:=Tryz.zeroValue9 }
def Tryz.lays169_ren:Go.Shelf.Ren:=⟨λ| 169=>225 | n=>n,λ| 70=>278 | 9=>9 | 0=>0 | 72=>281 | 37=>279 | 127=>295 | 3=>3 | 5=>5 | n=>n,λ| n=>n⟩
theorem Tryz.lays169:Go.Proofs.Lays.n169 Tryz.prog Tryz.lays169_ren:={
  mixed:=by kernel_rfl
  f169:=Tryz.func225.trans (congrArg some (by kernel_rfl))
  t0:=Tryz.underlying0
  a0:=Tryz.isAgg0
  z0:=Tryz.sizeOf0
  v0:=Tryz.zeroValue0
  t3:=Tryz.underlying3
  a3:=Tryz.isAgg3
  z3:=Tryz.sizeOf3
  v3:=Tryz.zeroValue3
  t9:=Tryz.underlying9
  a9:=Tryz.isAgg9
  z9:=Tryz.sizeOf9
  v9:=Tryz.zeroValue9
  t37:=Tryz.underlying279
  a37:=Tryz.isAgg279
  z37:=Tryz.sizeOf279
  v37:=Tryz.zeroValue279
  t70:=Tryz.underlying278
  a70:=Tryz.isAgg278
  z70:=Tryz.sizeOf278
  v70:=Tryz.zeroValue278
  t72:=Tryz.underlying281
  a72:=Tryz.isAgg281
  z72:=Tryz.sizeOf281
  v72:=Tryz.zeroValue281
  t127:=Tryz.underlying295
  a127:=Tryz.isAgg295
  z127:=Tryz.sizeOf295
  v127:=Tryz.zeroValue295 }
theorem Tryz.Builder_Extra_169:Builder.Extra Tryz.prog Tryz.lays169_ren:={
  sizeBuilder:=by kernel_rfl
  liesBuilder:=by kernel_rfl
  t5:=Tryz.underlying5
  a5:=Tryz.isAgg5
  z5:=Tryz.sizeOf5
  v5:=Tryz.zeroValue5
  infoByte:=by kernel_rfl
  cellsByte:=by kernel_rfl
  sizeByte:=by kernel_rfl
  neB5:=by decide }
def Tryz.laysM171_ren:Go.Shelf.Ren:=⟨λ| 171=>224 | 243=>239 | 246=>247 | 283=>251 | 284=>252 | 285=>253 | 286=>254 | 129=>256 | 317=>255 | 318=>257 | 319=>258 | 320=>259 | 337=>260 | 338=>261 | n=>n,λ| 3=>3 | 9=>9 | 2=>2 | 4=>4 | 171=>304 | 0=>0 | 53=>259 | 37=>279 | 5=>5 | 173=>307 | 212=>310 | 51=>256 | 20=>20 | 213=>311 | 46=>221 | 232=>314 | 233=>315 | n=>n,λ| 17=>1 | 18=>2 | 19=>3 | n=>n⟩
theorem Tryz.laysM171:Go.Proofs.LaysM.n171 Tryz.prog Tryz.laysM171_ren:={
  mixed:=by kernel_rfl
  f129:=Tryz.func256.trans (congrArg some (by kernel_rfl))
  f171:=Tryz.func224.trans (congrArg some (by kernel_rfl))
  f243:=Tryz.func239.trans (congrArg some (by kernel_rfl))
  f246:=Tryz.func247.trans (congrArg some (by kernel_rfl))
  f283:=Tryz.func251.trans (congrArg some (by kernel_rfl))
  f284:=Tryz.func252.trans (congrArg some (by kernel_rfl))
  f285:=Tryz.func253.trans (congrArg some (by kernel_rfl))
  f286:=Tryz.func254.trans (congrArg some (by kernel_rfl))
  f317:=Tryz.func255.trans (congrArg some (by kernel_rfl))
  f318:=Tryz.func257.trans (congrArg some (by kernel_rfl))
  f319:=Tryz.func258.trans (congrArg some (by kernel_rfl))
  f320:=Tryz.func259.trans (congrArg some (by kernel_rfl))
  f337:=Tryz.func260.trans (congrArg some (by kernel_rfl))
  f338:=Tryz.func261.trans (congrArg some (by kernel_rfl))
  t0:=Tryz.underlying0
  a0:=Tryz.isAgg0
  z0:=Tryz.sizeOf0
  v0:=Tryz.zeroValue0
  t2:=Tryz.underlying2
  a2:=Tryz.isAgg2
  z2:=Tryz.sizeOf2
  v2:=Tryz.zeroValue2
  t3:=Tryz.underlying3
  a3:=Tryz.isAgg3
  z3:=Tryz.sizeOf3
  v3:=Tryz.zeroValue3
  t4:=Tryz.underlying4
  a4:=Tryz.isAgg4
  z4:=Tryz.sizeOf4
  v4:=Tryz.zeroValue4
  t5:=Tryz.underlying5
  a5:=Tryz.isAgg5
  z5:=Tryz.sizeOf5
  v5:=Tryz.zeroValue5
  t9:=Tryz.underlying9
  a9:=Tryz.isAgg9
  z9:=Tryz.sizeOf9
  v9:=Tryz.zeroValue9
  t20:=Tryz.underlying20
  a20:=Tryz.isAgg20
  z20:=Tryz.sizeOf20
  v20:=Tryz.zeroValue20
  t37:=Tryz.underlying279
  a37:=Tryz.isAgg279
  z37:=Tryz.sizeOf279
  v37:=Tryz.zeroValue279
  t46:=Tryz.underlying221
  a46:=Tryz.isAgg221
  z46:=Tryz.sizeOf221
  v46:=Tryz.zeroValue221
  t51:=Tryz.underlying256
  a51:=Tryz.isAgg256
  z51:=Tryz.sizeOf256
  v51:=Tryz.zeroValue256
  t53:=Tryz.underlying259
  a53:=Tryz.isAgg259
  z53:=Tryz.sizeOf259
  v53:=Tryz.zeroValue259
  t171:=Tryz.underlying304
  a171:=Tryz.isAgg304
  z171:=Tryz.sizeOf304
  v171:=Tryz.zeroValue304
  t173:=Tryz.underlying307
  a173:=Tryz.isAgg307
  z173:=Tryz.sizeOf307
  v173:=Tryz.zeroValue307
  t212:=Tryz.underlying310
  a212:=Tryz.isAgg310
  z212:=Tryz.sizeOf310
  v212:=Tryz.zeroValue310
  t213:=Tryz.underlying311
  a213:=Tryz.isAgg311
  z213:=Tryz.sizeOf311
  t232:=Tryz.underlying314
  a232:=Tryz.isAgg314
  z232:=Tryz.sizeOf314
  v232:=Tryz.zeroValue314
  t233:=Tryz.underlying315
  a233:=Tryz.isAgg315
  z233:=Tryz.sizeOf315
  v233:=Tryz.zeroValue315
  g17:=by kernel_rfl
  g18:=by kernel_rfl
  g19:=by kernel_rfl
  i0:=by kernel_rfl
  i2:=by kernel_rfl
  i3:=by kernel_rfl
  i4:=by kernel_rfl
  i5:=by kernel_rfl
  i9:=by kernel_rfl
  i20:=by kernel_rfl
  i37:=by kernel_rfl
  i46:=by kernel_rfl
  i51:=by kernel_rfl
  i53:=by kernel_rfl
  i171:=by kernel_rfl
  i173:=by kernel_rfl
  i212:=by kernel_rfl
  i232:=by kernel_rfl
  i233:=by kernel_rfl
  m17:=by kernel_rfl
  m18:=by kernel_rfl
  m19:=by kernel_rfl }
def Tryz.lays166_ren:Go.Shelf.Ren:=⟨λ| 166=>223 | 240=>238 | 276=>246 | n=>n,λ| 0=>0 | 3=>3 | 4=>4 | 9=>9 | 20=>20 | 37=>279 | 70=>278 | 72=>281 | 75=>283 | 164=>301 | 5=>5 | 80=>286 | n=>n,λ| n=>n⟩
theorem Tryz.lays166:Go.Proofs.Lays.n166 Tryz.prog Tryz.lays166_ren:={
  mixed:=by kernel_rfl
  f166:=Tryz.func223.trans (congrArg some (by kernel_rfl))
  f240:=Tryz.func238.trans (congrArg some (by kernel_rfl))
  f276:=Tryz.func246.trans (congrArg some (by kernel_rfl))
  t0:=Tryz.underlying0
  a0:=Tryz.isAgg0
  z0:=Tryz.sizeOf0
  v0:=Tryz.zeroValue0
  t3:=Tryz.underlying3
  a3:=Tryz.isAgg3
  z3:=Tryz.sizeOf3
  v3:=Tryz.zeroValue3
  t4:=Tryz.underlying4
  a4:=Tryz.isAgg4
  z4:=Tryz.sizeOf4
  v4:=Tryz.zeroValue4
  t9:=Tryz.underlying9
  a9:=Tryz.isAgg9
  z9:=Tryz.sizeOf9
  v9:=Tryz.zeroValue9
  t20:=Tryz.underlying20
  a20:=Tryz.isAgg20
  z20:=Tryz.sizeOf20
  v20:=Tryz.zeroValue20
  t37:=Tryz.underlying279
  a37:=Tryz.isAgg279
  z37:=Tryz.sizeOf279
  v37:=Tryz.zeroValue279
  t70:=Tryz.underlying278
  a70:=Tryz.isAgg278
  z70:=Tryz.sizeOf278
  v70:=Tryz.zeroValue278
  t72:=Tryz.underlying281
  a72:=Tryz.isAgg281
  z72:=Tryz.sizeOf281
  v72:=Tryz.zeroValue281
  t75:=Tryz.underlying283
  a75:=Tryz.isAgg283
  z75:=Tryz.sizeOf283
  v75:=Tryz.zeroValue283
  t164:=Tryz.underlying301
  a164:=Tryz.isAgg301
  z164:=Tryz.sizeOf301
  v164:=Tryz.zeroValue301 }
theorem Tryz.Builder_Extra_166:Builder.Extra Tryz.prog Tryz.lays166_ren:={
  sizeBuilder:=by kernel_rfl
  liesBuilder:=by kernel_rfl
  t5:=Tryz.underlying5
  a5:=Tryz.isAgg5
  z5:=Tryz.sizeOf5
  v5:=Tryz.zeroValue5
  infoByte:=by kernel_rfl
  cellsByte:=by kernel_rfl
  sizeByte:=by kernel_rfl
  neB5:=by decide }
open Go.RowKit in
theorem aa8 (b:Bool) (w:World):Calls Tryz.prog 106 #[.bool b] w λe w'=>e = .returned (.string ⟨(Lib.formatBool b).toArray⟩)∧w'=w:=Any.strconv_FormatBool Tryz.lays121 b w
open Go.RowKit Go.Sort Go.Lib in
theorem sh_Itoa (n:Int) (h0 : -9223372036854775808≤n) (h1:n≤9223372036854775807) (w:World) (htab:Lib.TabIs Tryz.prog w "internal/strconv.uint64pow10" .u64 Lib.pow10Tab) :
    Calls Tryz.prog 224 #[.int .i64 n] w λe w'=>e = .returned (.string ⟨(Lib.itoa n).toArray⟩)∧∃ k os,w'=grow (w.drewN k) os:=Any.strconv_Itoa Tryz.laysM171 n h0 h1 w htab
open Go.RowKit in
theorem bn7 (B b:Nat) (l:List UInt8) (w:World) (h:Lib.IsBuilderF 281 5 B b (Lib.byteCells l) w) (hBw:B≤w.heap.size) :
    Calls Tryz.prog 225 #[.pointer (some ⟨b,0,none⟩)] w λe w'=>e = .returned (.string ⟨l.toArray⟩)∧(Lib.IsBuilderF 281 5 B b (Lib.byteCells l) w'∧Below B w w'∧Lib.OthersKept 5 (some b) w w'):=Any.Builder_String_any_k Tryz.lays169 Tryz.Builder_Extra_169 B b l w h hBw
open Go.RowKit in
theorem yg_ (B b:Nat) (bs:List Value) (s:ByteArray) (w:World) (h:Lib.IsBuilderF 281 5 B b bs w) (hlen:bs.length+s.size≤140737488355328) (hBw:B≤w.heap.size) :
    Calls Tryz.prog 223 #[.pointer (some ⟨b,0,none⟩),.string s] w λe w'=>e = .returned (.tuple #[.int .i64 s.size,.nilIface])∧(Lib.BuilderAtF 281 5 B b (.pointer (some ⟨b,0,none⟩)) (bs++Lib.strCells s) w'∧Below B w w'∧Lib.OthersKept 5 (some b) w w'):=Any.Builder_WriteString_k Tryz.lays166 Tryz.Builder_Extra_166 B b bs s w h hlen hBw
def Tryz.lays212_ren:Go.Shelf.Ren:=⟨λ| 212=>155 | 263=>200 | 264=>201 | n=>n,λ| 46=>221 | 51=>256 | 146=>257 | 53=>259 | 148=>260 | n=>n,λ| n=>n⟩
theorem Tryz.lays212:Go.Proofs.Lays.n212 Tryz.prog Tryz.lays212_ren:={
  mixed:=by kernel_rfl
  f212:=Tryz.func155.trans (congrArg some (by kernel_rfl))
  f263:=Tryz.func200.trans (congrArg some (by kernel_rfl))
  f264:=Tryz.func201.trans (congrArg some (by kernel_rfl))
  t46:=Tryz.underlying221
  a46:=Tryz.isAgg221
  z46:=Tryz.sizeOf221
  v46:=Tryz.zeroValue221
  t51:=Tryz.underlying256
  a51:=Tryz.isAgg256
  z51:=Tryz.sizeOf256
  v51:=Tryz.zeroValue256
  t53:=Tryz.underlying259
  a53:=Tryz.isAgg259
  z53:=Tryz.sizeOf259
  v53:=Tryz.zeroValue259
  t146:=Tryz.underlying257
  a146:=Tryz.isAgg257
  z146:=Tryz.sizeOf257
  v146:=Tryz.zeroValue257
  t148:=Tryz.underlying260
  a148:=Tryz.isAgg260
  z148:=Tryz.sizeOf260
  v148:=Tryz.zeroValue260 }
theorem sh_Mul (x y:Nat) (hx:x<18446744073709551616) (hy:y<18446744073709551616) (w:World) :
    Calls Tryz.prog 155 #[.int .u64 x,.int .u64 y] w λe w'=>e = .returned (.tuple #[.int .u64 ((x * y / 18446744073709551616:Nat):Int),.int .u64 ((x * y % 18446744073709551616:Nat):Int)])∧w'=w:=Any.bits_Mul Tryz.lays212 x y hx hy w
end
end Go.Proofs
namespace Go.Proofs.YtdibamopklkilaaGreatDoor.Rx
open Go Pad Rex Go.Proofs Go.RowKit Go.Proofs.Tryz Sum
section
set_option maxRecDepth 100000
set_option maxHeartbeats 400000
def ed_ (a0:Bool):Option ((List UInt8)×Unit):=cond a0 (some ([116,114,117,101],())) (some ([102,97,108,115,101],()))
theorem ok_106:ce0 prog 106 [.bool] [.str] (λx=>ed_ x.1):=by
  intro w S Fr hv vs x r hG hI ha hF
  match vs,ha with
  | [v],⟨hv1,_⟩ =>
    obtain rfl:v = .bool x.1:=en_ (a:=ofD .bool x.1) (by rw[bs2];exact hv1) (by cases x.1<;>rfl)
    refine (aa8 x.1 w).mono λe w' he => ?_
    obtain⟨rfl,rfl⟩:=he
    refine⟨S,[],PH.Le.refl _,hI,rfl,?_⟩
    have e1:r.1=Lib.formatBool x.1:=by
      obtain⟨b,u⟩:=x
      cases b with
      | true=>obtain rfl:=a5_ hF;rfl
      | false=>obtain rfl:=a5_ hF;rfl
    have:=bg7 (hv:=λ_=>undef) (S:=S) r.1
    rw[← e1]
    exact this
noncomputable def c_106:Con prog:=cnv 106 [.bool] [.str] (λx=>ed_ x.1) ok_106
theorem ry_ {w w':World} {S:PH} {O:List HP} {B:Nat} (h:Inv w S O) (hB:B=w.heap.size) (hb:Below B w w'):Inv w' S O:=by
  subst hB
  exact h.world hb.os hb.output λb o e=>(hb.block b (i9_.1 e).1).trans e
theorem co9 {T e:TypeId} {B b:Nat} {bs:List Value} {w w':World} (hk:∀ (k:Nat) (o:Obj),w.heap[k]?=some o→w'.heap[k]?=some o) (h:Lib.IsBuilderF T e B b bs w):Lib.IsBuilderF T e B b bs w':=by
  have key:∀ {p:Value},Lib.BuilderAtF T e B b p bs w→Lib.BuilderAtF T e B b p bs w':=by
    rintro p ⟨h1,v,h2,⟨h3,h4⟩,h5⟩
    refine⟨h1,v,hk _ _ h2,⟨h3,?_⟩,h5⟩
    rcases h4 with h4 | ⟨g,cap,cur,fz,g1,g2,g3,g4⟩
    · exact .inl h4
    · exact .inr ⟨g,cap,cur,fz,g1,g2,hk _ _ g3,g4⟩
  exact h.elim (λh=>.inl (key h)) λh=>.inr (key h)
theorem an8 {w:World} {n:Nat} {os:Array Obj}:∀ (k:Nat) (o:Obj),w.heap[k]?=some o→(Go.Sort.grow (w.drewN n) os).heap[k]?=some o:=by
  intro k o h
  show (w.heap++os)[k]?=some o
  rw[Array.getElem?_append_left (i9_.1 h).1]
  exact h
theorem tab_is {w:World} {S:PH} {O:List HP} (hG:GlS S) (hI:Inv w S O):Lib.TabIs prog w "internal/strconv.uint64pow10" .u64 Lib.pow10Tab:=by
  obtain⟨T,fz,h⟩:=hG.2 1 pow10V rfl
  have h2:=Own.in_ hI.own _ _ h
  unfold Lib.TabIs World.var?
  rw[laysM171.m17]
  show (match w.heap[1]? with
    | some (.cells cs _ _)=>some cs
    | _=>none)=_
  rw[h2]
  simp[pow10V,Lib.pow10Tab]
def ce5 (n:Int):List UInt8:=Lib.itoa n++[32]
def am4 (l:List Int):List UInt8:=l.flatMap ce5
def hs_ (ls:List (List Int)):List UInt8:=ls.flatMap am4
def inI (n:Int):Bool:=decide (-9223372036854775808≤n)&&decide (n≤9223372036854775807)
def fq_ (a0:List (List Int)):Option ((List UInt8)×Unit):=cond (a0.all (λl=>l.all inI)&&Nat.ble (hs_ a0).length 2147483648) (some (hs_ a0,())) none
def NInv (v:Value) (n:Nat) (w0:World) (b:Nat) (acc:List UInt8) (f:Pad.Fr) (w:World):Prop :=
  Below w0.heap.size w0 w∧Lib.IsBuilderF 281 5 w0.heap.size b (Lib.byteCells acc) w∧f 3 = .pointer (some ⟨b,0,none⟩)∧f 8=v∧f 9 = .int .i64 n∧f.ds=[]
theorem bx7:∀ (k i:Nat),forS (λ(_:Nat) (_:Unit)=>some ()) k i ()=some ()
  | 0,_=>rfl
  | k+1,i=>bx7 k (i+1)
theorem sh45:Shape prog 45 false 1:=aj9 (by kernel_rfl)
theorem sh3':Shape prog 3 false 1:=aj9 (by kernel_rfl)
theorem cb_223:eu_ prog 223:=⟨_,func223,rfl,by kernel_rfl⟩
theorem cb_224:eu_ prog 224:=⟨_,func224,rfl,by kernel_rfl⟩
theorem cb_225:eu_ prog 225:=⟨_,func225,rfl,by kernel_rfl⟩
theorem az7 {P:Program} {n k d:Nat} {ro:Option Nat} {f:Pad.Fr} {w:World} {K:Pad.Fr→World→Prop} {ty:TypeId} {pos:String} {af:Array Edge} {gd:Option (Nat×Bool)} {vs:List Value} {g:Operand} {args:Array Operand} {ct:Array TypeId} {R:Ending→World→Prop}
    (hd:Nat.blt d n=true) (hk:eu_ P k) (hg:ev f g = .func (.func k) #[] #[]) (hargs:(args.map (ev f)) ++ #[]=vs.toArray) (hc:Calls P k vs.toArray w R) (kont:∀ e w',R e w'→∃ v,e = .returned v∧K (upd f d v) w') :
    OP P n ro ⟨some d,.call ⟨.value g,args,ct⟩,ty,pos,af,gd⟩ f w K :=
  mh_ (rl_ hk hg hargs) hc λe w' he=>by
    obtain⟨v,h1,h2⟩:=kont e w' he
    exact⟨v,h1,hd,h2⟩
theorem str_op {P:Program} [Tb P] {f:Pad.Fr} {w:World} {d:Nat} {x y:Operand} {ty T2:TypeId} {pos:String} {af:Array Edge} {gd:Option (Nat×Bool)} {a b c:Str} (hx:Pad.ev f x = .string ⟨a.toArray⟩) (hy:Pad.ev f y = .string ⟨b.toArray⟩) (h:cat? a b=some c) :
    (execOp (Pad.ev f) ⟨some d,.binOp .add 9 x y T2,ty,pos,af,gd⟩).run P w = .ok (.value (.string ⟨c.toArray⟩)) w:=by
  have h1:=bo4 (P:=P) (T:=9) (w:=w) h
  have h2:=gq_ (P:=P) (T:=9) (op:=.add) (w:=w) (X:=x) (Y:=y) (v:=.string ⟨a.toArray⟩) (u:=.string ⟨b.toArray⟩) trivial
  simp[execOp,Sem.run_bind,hx,hy,h1,h2,Result.andThen]
theorem bs7 {w:World} {S:PH} {Fr:List HP} {v:Value} {ls:List (List Int)} (hG:GlS S) (hI:Inv w S Fr) (hr:RVt (.list (.list .int)) S v ls) (hin:(ls.all λl=>l.all inI)=true) (hlen:(hs_ ls).length≤2147483648) :
    Calls prog 198 [v].toArray w λe w'=>e = .returned (.string ⟨(hs_ ls).toArray⟩)∧Inv w' S Fr:=by
  letI:Enc (List Int):=(Ty.list .int).enc
  letI:Enc Int:=Ty.int.enc
  obtain⟨a0,cap0,hv2,_,hmax,_⟩:=@ij_ (List Int) (Ty.list .int).enc S v ls hr
  have hk0:ls.length≤9223372036854775807:=by
    unfold maxLen at hmax
    omega
  refine qw_ (n:=27) func198 rfl rfl rfl ?_
  refine bp_ (bf_ (wa_ (v:=.string ⟨#[]⟩) rfl rfl (ec_ ?_)))
  have hz:=zeroValue281
  refine bp_ (bf_ (wo_ (ek_ (v:=.pointer (some ⟨w.heap.size,0,none⟩)) (w':=w.alloc (.cells #[.pointer none,.slice none 0 0] 281)) rfl (by simp only[execOp,Instr.alloc,Sem.run_bind,hz w,Result.andThen_ok];rfl) (ec_ ?_))))
  have hI1:Inv (w.alloc (.cells #[.pointer none,.slice none 0 0] 281)) S Fr:=hI.world rfl rfl λb o e=>(Below.heap_alloc w _ b (i9_.1 e).1).trans e
  have hB1:Below w.heap.size w (w.alloc (.cells #[.pointer none,.slice none 0 0] 281)):=⟨rfl,rfl,rfl,by simp,λk hk=>Below.heap_alloc w _ k hk⟩
  have hD1:Lib.IsBuilderF 281 5 w.heap.size w.heap.size (Lib.byteCells []) (w.alloc (.cells #[.pointer none,.slice none 0 0] 281)):=.inl ⟨c4_ _,.slice none 0 0,Array.getElem?_push_size,⟨rfl,.inl ⟨rfl,rfl⟩⟩,by simp[Value.ownBlock]⟩
  refine bp_ (bp_ (bf_ (wm_ (v:=v) rfl rfl (wo_ (az8 rfl underlying33 hv2 (wm_ (v:=.int .i64 0) rfl rfl (ec_ ?_)))))))
  refine aq4 (λf w'=>NInv v ls.length w w.heap.size (hs_ ls) f w') ?_ ?_
  · refine gp_ (bk9 (σ:=Unit) (k:=ls.length) (I:=λi _ f w'=>NInv v ls.length w w.heap.size (hs_ (ls.take i)) f w'∧f 10 = .int .i64 (i:Int)) (bx7 _ _) ⟨⟨hB1,hD1,rfl,rfl,rfl,rfl⟩,rfl⟩ ?_ ?_)
    · rintro i _ f w1 o hi ⟨⟨b1,b2,b3,b4,b5,b6⟩,b7⟩ _
      have I1:=ry_ hI rfl b1
      refine bp_ (bf_ (wo_ (zg_ rfl b7 b5 (ec_ (bp_ (ns_ rfl (len_t hi) (mv_ (bp_ (gp_ ?_)))))))))
      obtain⟨l,hl⟩:∃ l,ls[i]?=some l:=⟨_,a7_ hi⟩
      have hat:at? ls (i:Int)=some l:=by rw[aw3];exact hl
      refine bp_ (bf_ (wo_ (@nz_ _ _ _ _ _ _ _ _ _ _ _ _ _ _ _ (List Int) (Ty.list .int).enc S ls 45 (i:Int) _ rfl underlying33 sh45 b4 hr b7 hat ?_)))
      have hp:cp6 (.list .int) S (cq_ v i 1) l:=qj_ (t:=.list .int) (x:=l) hr hat
      refine wo_ (br9 (α:=List Int) (S:=S) (e:=l) rfl sh45 rfl (hp.at_ I1) λu hu => ?_)
      refine wa_ (v:=u) rfl rfl (ec_ ?_)
      obtain⟨a1,cap1,hu2,_,hmax1,_⟩:=@ij_ Int Ty.int.enc S u l hu
      have hk1:l.length≤9223372036854775807:=by
        unfold maxLen at hmax1
        omega
      refine bp_ (bf_ (wm_ (v:=u) rfl rfl (wo_ (az8 rfl underlying45 hu2 (wm_ (v:=.int .i64 0) rfl rfl (ec_ ?_))))))
      have htk:hs_ (ls.take (i+1))=hs_ (ls.take i)++am4 l:=by
        rw[d3_,hl]
        simp[hs_]
      have hle:(hs_ (ls.take (i+1))).length≤2147483648:=by
        have:hs_ ls=hs_ (ls.take (i+1))++hs_ (ls.drop (i+1)):=by
          unfold hs_
          rw[← r3_,h2_]
        rw[this,a8_] at hlen
        omega
      have hinl:∀ n ∈ l,inI n=true:=λn hn=>e6_.1 (e6_.1 hin l (b9_ hl)) n hn
      refine aq4 (λf w'=>NInv v ls.length w w.heap.size (hs_ (ls.take (i+1))) f w'∧f 10 = .int .i64 (i:Int)) ?_ ?_
      · refine gp_ (bk9 (σ:=Unit) (k:=l.length) (I:=λj _ f w'=>NInv v ls.length w w.heap.size (hs_ (ls.take i)++am4 (l.take j)) f w'∧f 10 = .int .i64 (i:Int)∧f 14=u∧f 15 = .int .i64 l.length∧f 16 = .int .i64 (j:Int)) (bx7 _ _)
          ⟨⟨b1,by rw[show am4 (l.take 0)=[] from rfl,e3_];exact b2,b3,b4,b5,b6⟩,b7,rfl,rfl,rfl⟩ ?_ ?_)
        · rintro j _ f w1 o hj ⟨⟨b1,b2,b3,b4,b5,b6⟩,b7,b8,b9,b10⟩ _
          have I1:=ry_ hI rfl b1
          refine bp_ (bf_ (wo_ (zg_ rfl b10 b9 (ec_ (bp_ (ns_ rfl (len_t hj) (mv_ (bp_ (gp_ ?_)))))))))
          obtain⟨n,hn⟩:∃ n,l[j]?=some n:=⟨_,a7_ hj⟩
          have hatn:at? l (j:Int)=some n:=by rw[aw3];exact hn
          refine bp_ (bf_ (wo_ (@nz_ _ _ _ _ _ _ _ _ _ _ _ _ _ _ _ Int Ty.int.enc S l 3 (j:Int) _ rfl underlying45 sh3' b8 hu b10 hatn ?_)))
          have hpn:cp6 .int S (cq_ u j 1) n:=qj_ (t:=.int) (x:=n) hu hatn
          refine wo_ (at6 rfl sh3' rfl (hpn.at_ I1) ?_)
          refine wa_ (v:=.int .i64 n) rfl rfl (ec_ ?_)
          refine bf_ (wm_ (v:=.int .i64 n) rfl rfl ?_)
          have hni:=hinl n (b9_ hn)
          unfold inI at hni
          rw[a2_] at hni
          have htj:am4 (l.take (j+1))=am4 (l.take j)++ce5 n:=by
            rw[d3_,hn]
            simp[am4]
          have hlej:(hs_ (ls.take i)++(am4 (l.take j)++ce5 n)).length≤2147483648:=by
            have:am4 l=am4 (l.take (j+1))++am4 (l.drop (j+1)):=by
              unfold am4
              rw[← r3_,h2_]
            rw[htk,this,htj,a8_,a8_] at hle
            rw[a8_]
            omega
          refine wo_ (az7 (vs:=[.int .i64 n]) rfl cb_224 rfl (args1 rfl) (sh_Itoa n (f6_ hni.1) (f6_ hni.2) w1 (tab_is hG I1)) λe w2 he => ?_)
          obtain⟨rfl,k,os,rfl⟩:=he
          refine⟨_,rfl,?_⟩
          have b1':Below w.heap.size w (Go.Sort.grow (w1.drewN k) os):=b1.trans ⟨rfl,rfl,rfl,by simp[Go.Sort.grow,World.drewN],λk hk=>by
            have h1:k<w1.heap.size:=g0_ hk b1.size
            exact (an8 k _ (d4_ h1)).trans (d4_ h1).symm⟩
          have b2':=co9 (an8 (n:=k) (os:=os)) b2
          have hcat:cat? (Lib.itoa n) [32]=some (ce5 n):=by
            unfold cat?
            have:Nat.ble ((Lib.itoa n).length+([32]:Str).length) 2147483648=true:=by
              refine i0_ ?_
              have h1:(ce5 n).length=(Lib.itoa n).length+1:=by simp[ce5]
              rw[a8_,a8_,h1] at hlej
              show (Lib.itoa n).length+1≤_
              omega
            rw[this]
            rfl
          refine wo_ (ek_ (v:=.string ⟨(ce5 n).toArray⟩) (w':=Go.Sort.grow (w1.drewN k) os) rfl (str_op rfl rfl hcat) ?_)
          refine wo_ (az7 (vs:=[.pointer (some ⟨w.heap.size,0,none⟩),.string ⟨(ce5 n).toArray⟩]) rfl cb_223 rfl (args2 b3 rfl) (yg_ w.heap.size w.heap.size (Lib.byteCells (hs_ (ls.take i)++am4 (l.take j))) ⟨(ce5 n).toArray⟩ _ b2' ?_ b1'.size) λe w2 he => ?_)
          · rw[Lib.byteCells_length]
            show (hs_ (ls.take i)++am4 (l.take j)).length+(ce5 n).toArray.size≤_
            rw[List.size_toArray,a8_]
            rw[a8_,a8_] at hlej
            omega
          obtain⟨rfl,c1,c2,c3⟩:=he
          refine⟨_,rfl,ec_ ?_⟩
          have c1':Lib.IsBuilderF 281 5 w.heap.size w.heap.size (Lib.byteCells (hs_ (ls.take i)++am4 (l.take (j+1)))) w2:=by
            rw[htj,← b5_,Lib.byteCells_append]
            exact .inr c1
          exact bf_ (wo_ (bs0 rfl b10 rfl (wm_ rfl rfl (ec_ ⟨⟨b1'.trans c2,c1',b3,b4,b5,b6⟩,b7,b8,b9,bb6 hj hk1⟩))))
        · rintro f w1 ⟨⟨b1,b2,b3,b4,b5,b6⟩,b7,b8,b9,b10⟩
          rw[d7_,← htk] at b2
          exact bp_ (bf_ (wo_ (zg_ rfl b10 b9 (ec_ (bp_ (kl_ rfl (len_f _) (uw_ ⟨⟨b1,b2,b3,b4,b5,b6⟩,b7⟩)))))))
      · rintro f w1 ⟨⟨b1,b2,b3,b4,b5,b6⟩,b7⟩
        refine bf_ (wo_ (bs0 rfl b7 rfl (wm_ rfl rfl (ec_ ⟨⟨b1,b2,b3,b4,b5,b6⟩,bb6 hi hk0⟩))))
    · rintro f w1 ⟨⟨b1,b2,b3,b4,b5,b6⟩,b7⟩
      rw[d7_] at b2
      exact bp_ (bf_ (wo_ (zg_ rfl b7 b5 (ec_ (bp_ (kl_ rfl (len_f _) (uw_ ⟨b1,b2,b3,b4,b5,b6⟩)))))))
  · rintro f w1 ⟨b1,b2,b3,b4,b5,b6⟩
    have I1:=ry_ hI rfl b1
    refine bp_ (bf_ (wo_ (az7 (vs:=[.pointer (some ⟨w.heap.size,0,none⟩)]) rfl cb_225 rfl (args1 b3) (bn7 w.heap.size w.heap.size (hs_ ls) w1 b2 b1.size) λe w2 he => ?_)))
    obtain⟨rfl,c1,c2,c3⟩:=he
    refine⟨_,rfl,wa_ (v:=.string ⟨(hs_ ls).toArray⟩) rfl rfl (ec_ (vp_ ⟨b6,_,res1 rfl rfl,rfl,ry_ hI rfl (b1.trans c2)⟩))⟩
theorem ok_198:ce0 prog 198 [.list (.list .int)] [.str] (λx=>fq_ x.1):=by
  intro w S Fr hv vs x r hG hI ha hF
  match vs,ha with
  | [v],⟨hv1,_⟩ =>
    obtain⟨ls,u⟩:=x
    have hF:cond (ls.all (λl=>l.all inI)&&Nat.ble (hs_ ls).length 2147483648) (some (hs_ ls,())) none=some r:=hF
    obtain⟨hc,hF⟩:=bv_ hF
    simp only[a2_] at hc
    obtain⟨hin,hlen⟩:=hc
    obtain rfl:=a5_ hF
    have hr:RVt (.list (.list .int)) S v ls:=qq_ (hv:=hv) hv1
    refine (bs7 hG hI hr hin (c0_ hlen)).mono λe w' he => ?_
    obtain⟨rfl,hI'⟩:=he
    exact⟨S,[],PH.Le.refl _,hI',rfl,bg7 (hv:=λ_=>undef) (S:=S) (hs_ ls)⟩
noncomputable def c_198:Con prog:=cnv 198 [.list (.list .int)] [.str] (λx=>fq_ x.1) ok_198
end
end Go.Proofs.YtdibamopklkilaaGreatDoor.Rx
namespace Go.Proofs.YtdibamopklkilaaGreatDoor.Pad
open Go
section
abbrev sn:Value:=.slice none 0 0
theorem AllP.v {l:List Nat} {sps:List Sp} {f:Fr} {vals:Nat→Value} {S':PH} (h:AllP l (λj=>∀ t,sps[j]?=some t→(∀ d,t.dst=some d→f d=vals j)∧t.fact (t.deps.map vals) S')) (i:Nat) {a d:Nat} {t:Sp} {x:Value}
    (e:(l[i]?,sps[a]?,t.dst,t.fact (t.deps.map vals) S')=(some a,some t,some d,vals a=x)):f d=x :=
  h.u i (h6_ e).1 (h6_ (h6_ e).2).1 (h6_ (h6_ e).2).2
theorem fo {A:Value→Prop} {B C:Value→PH→Prop} {S:PH} {v:Value} (c:C v S) (a:A v:=by exact rfl) (b:B v S:=by exact rfl):∃ v S',A v∧S.Le S'∧B v S'∧C v S':=⟨v,S,a,lr,b,c⟩
section
variable {P:Program} {n:Nat} {ro:Option Nat} {ops:Array Oper} {sps:List Sp} {tks:List Tok} {f0:Fr} {S:PH} {i:Nat} {s:Sp}
theorem ob_ {o:Oper} (ho:(ops[i]?,o.guard)=(some o,none)) (h:∀ {vals:Nat→Value} {f:Fr} {w:World} {S':PH} {X:List HP},S.Le S' →
    AllP s.anc (λj=>∀ t,sps[j]?=some t→(∀ d,t.dst=some d→f d=vals j)∧t.fact (t.deps.map vals) S') →
    (∀ d,(∀ (j:Nat) (t:Sp),sps[j]?=some t→t.dst=some d→i ∈ t.anc∨i=j)→f d=f0 d) →
    Inv w S' (s.cons.map (lc_ tks vals)++(s.rd.map (lc_ tks vals)++X)) →
    OP P n ro o f w λf' w'=>∃ v S'',f'=vu_ f s.dst v∧S'.Le S''∧s.fact (s.deps.map (upv vals i v)) S'' ∧
      Inv w' S'' (s.prod.map (lc_ tks (upv vals i v))++(s.rd.map (lc_ tks vals)++X))):Ob P n ro ops sps tks f0 S i s :=
  λ_ _ _ _ _ a b c d=>pl_ ho (h a b c d)
end
section
variable {P:Program} {n:Nat} {ro:Option Nat} {f:Fr} {w:World} {K:Fr→World→Prop} {d k:Nat} {ty:TypeId} {pos:String} {af:Array Edge} {gd:Option (Nat×Bool)} {x y:Operand} {v:Value} {T:TypeId} {S:PH}
end
end
end Go.Proofs.YtdibamopklkilaaGreatDoor.Pad
