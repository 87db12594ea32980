/- A part of the proof: what the functions of the program compute, shown over the model. -/
import Derived.KernelRfl
import Derived.Test.YtlbfbdbagohinaaGreatDoorPart1
import Derived.Test.YtlbfbdbagohinaaGreatDoorPart4
set_option linter.unusedSectionVars false
set_option linter.unusedVariables false
set_option linter.unusedSimpArgs false
namespace Go.Proofs.YtlbfbdbagohinaaGreatDoor.Rx
open Go Pad Rex Go.Proofs Go.Proofs.Tryz Sum
section
set_option maxRecDepth 100000
noncomputable def opX (a0:ac_) (v1:List Bool) (a2:aj_):Option (Bool×(List aa_×Unit)) :=
 (cond (a2.2.1==4)
 ((bp_ a2.2.2 0 (w64 ((a0.1.2.2.2.2.1.length:Int) - 1))).bind λv2 =>
 (cond v2.1
 ((at? a0.1.2.2.2.2.1 a2.2.2).bind λv3 =>
 (cond (decide (v3.2.2.1<0))
 (some ((!true),([],())))
 ((((ae_ (abB a0 v1 v3.2.2.1) ([],([],(0,())))).bind λv12 =>
 ((at? a0.2.1 v3.2.2.1).bind λv13 =>
 ((az_ v13 v12.2.1).bind λv14 =>
 (((cond (v14.2.1==0)
 (some ((decide (v14.1≤a0.2.2.2.2)),()))
 (some (false,())))).bind λv15 =>
 (cond v15.1
 (some ((kq_ (kq_ [] v3.2.2.1 2) v3.2.2.1 1),()))
 (some ((kq_ [] v3.2.2.1 2),())))))))).bind λv16 =>
 (some ((!((gd_ 0 v16.1 v3.2.2.1)==1)),(v16.1,()))))))
 (some (false,([],())))))
 (some (false,([],()))))
noncomputable def pstX (a0:ac_) (a1:ai_) (a2:aj_):Option (ai_×(Int×Unit)) :=
 ((cs_ a0 a1).bind λv0 =>
 (cond (v0.1 != 0)
 (cond (v0.1 != 0)
 (some ((([],([],[])),[]),(v0.1,())))
 none)
 ((push? (α:=Bool) [] a1.2).bind λv1 =>
 ((((opX a0 v1 a2).bind λv17 =>
 (cond v17.1
 (some ((!false),(v1,(v17.2.1,((a1.1.1,(a1.1.2.1,(a1.1.2.2,()))),())))))
 ((ez_ a0.1 a1.1 a2).bind λv18 =>
 (cond (v18.2.1 != 0)
 (some ((!false),(v1,(v17.2.1,((a1.1.1,(a1.1.2.1,(a1.1.2.2,()))),())))))
 ((ae_ (ρ:=((List Bool)×((List aa_)×Unit))) (pbgB a0 v18.1) (0,(v1,(v17.2.1,())))).bind λv29 =>
 (some ((!true),(v29.1,(v29.2.1,((v18.1.1,(v18.1.2.1,(v18.1.2.2,()))),()))))))))))).bind λv30 =>
 (cond v30.1
 (some ((([],([],[])),[]),(29,())))
 ((push? (α:=Int) [] v30.2.2.2.1.1).bind λv31 =>
 ((push? (α:=Int) [] v30.2.2.2.1.2.1).bind λv32 =>
 ((push? (α:=Int) [] v30.2.2.2.1.2.2.1).bind λv33 =>
 ((push? (α:=Bool) [] v30.2.1).bind λv34 =>
 (some (((v31,(v32,v33)),v34),(0,()))))))))))))
theorem pstX_eq:lv_=pstX:=by kernel_rfl
noncomputable def okM (g:ac_) (d:List Bool) (m:aj_):Bool:=cond (m.2.1==4) ((at? g.1.2.2.2.2.1 m.2.2).elim true λa=>opn g d a.2.2.1) true
noncomputable def stepP (g:ac_) (p:ai_) (m:aj_):Option ai_ :=
 cond (okM g p.2 m&&lgl g.1 p.1 m) ((aa3 g.1 p.1 m).map λs=>(s,rdN g s p.2)) none
abbrev eP:ai_:=(eS,[])
theorem wl_ {g:ac_} (hg:SmG g) (p:ai_):cs_ g p=some (cond (di_ g != 0) (di_ g) (cond (iw_ g.1 p.1 != 0) (iw_ g.1 p.1) (cond ((p.2.length:Int) != (g.2.2.2.1.length:Int)) 28 0)),()):=by
 unfold cs_
 rw[wm_ hg,a0_]
 cases di_ g != 0 with
 | true=>rfl
 | false =>
 simp only[a4_]
 rw[gw_ hg.room,a0_]
 cases iw_ g.1 p.1 != 0 with
 | true=>rfl
 | false =>
 simp only[a4_]
 cases (p.2.length:Int) != (g.2.2.2.1.length:Int)<;>rfl
structure VP (g:ac_) (p:ai_):Prop where
 st:VS g.1 p.1
 rd:p.2.length=g.2.2.2.1.length
theorem pd_ {g:ac_} (hg:SmG g) (h0:di_ g=0) {p:ai_} (hv:VP g p):cs_ g p=some (0,()):=by
 rw[wl_ hg,h0,ik_ (ej_ h0).room hv.st,hv.rd,show ((g.2.2.2.1.length:Int) != (g.2.2.2.1.length:Int))=false by simp]
 rfl
theorem opX_eq {g:ac_} (hg:SmG g) (ok:OkG g) {d:List Bool} (hd:d.length=g.2.2.2.1.length) (m:aj_):∃ x,opX g d m=some (!(okM g d m),(x,())):=by
 have hac:=hg.ac
 unfold opX okM
 cases hk:m.2.1==4 with
 | false=>exact⟨[],rfl⟩
 | true =>
 simp only[a5_,hn_,a0_]
 rcases dz_ (l:=g.1.2.2.2.2.1) (by show _≤1000000000;omega) m.2.2 with ⟨f1,f2⟩ | ⟨j,a,hj,ha,f1,f2⟩
 ·rw[f1,f2];exact⟨[],rfl⟩
 ·rw[f1,f2]
  simp only[a5_,a0_,Option.elim]
  unfold opn
  cases hz:decide (a.2.2.1<0) with
  | true=>exact⟨[],rfl⟩
  | false =>
  have hz:=d1_ hz
  have hlt:=ok.ac j a ha
  obtain⟨l,hl⟩:=bi_ (l:=g.2.1) (i:=a.2.2.1.toNat) (by omega)
  have hl2:at? g.2.1 a.2.2.1=some l:=by rw[show a.2.2.1=((a.2.2.1.toNat:Nat):Int) by omega];exact ag_ hl
  obtain⟨q,e⟩:=am3 hg hd a.2.2.1
  rw[e]
  simp only[a4_,a0_,hl2,vg_ hg ok d (by omega) hl2,Option.elim]
  simp only[show ((0:Int)==0)=true from rfl,a5_,a0_]
  cases decide (rdC g d a.2.2.1 l≤g.2.2.2.2) with
  | true=>exact⟨_,by simp[kq_,gd_,mget?];rfl⟩
  | false=>exact⟨_,by simp[kq_,gd_,mget?];rfl⟩
theorem bc5 {g:ac_} (hg:SmG g) (h0:di_ g=0) {p:ai_} (hv:VP g p) (m:aj_) :
  lv_ g p m=some ((stepP g p m).elim (eP,(29,())) λq=>(q,(0,()))):=by
 have ok:=ej_ h0
 have hn:=hg.nt
 have hrd:=hv.rd
 rw[pstX_eq]
 unfold pstX
 rw[pd_ hg h0 hv,a0_]
 simp only[show ((0:Int) != 0)=false from rfl,a4_]
 rw[bs_ (show Sm p.2.length by show _≤1000000000;omega),a0_]
 obtain⟨x,ex⟩:=opX_eq hg ok hv.rd m
 rw[ex,a0_]
 unfold stepP
 cases okM g p.2 m with
 | false=>rfl
 | true =>
 simp only[e3_,a4_,c6_]
 rw[aa9 hg.room ok.room hv.st m,a0_]
 cases hl:lgl g.1 p.1 m with
 | false=>rfl
 | true =>
 simp only[a5_]
 cases hs:aa3 g.1 p.1 m with
 | none=>rfl
 | some s =>
 have hv2:=xq_ hg.room ok.room hv.st hl hs
 obtain⟨m1,m2,m3⟩:=wc_ hg.room (dp_ ok.room) hv2
 have hrl:=ud_ (s:=s) hv.rd
 obtain⟨z,ez,hz⟩:=uh_ hg ok hv2 hv.rd x
 simp only[Option.elim,show ((0:Int) != 0)=false from rfl,a4_]
 rw[ez,a0_,a0_]
 simp only[e3_,a4_]
 rw[bs_ m1,a0_,bs_ m2,a0_,bs_ m3,a0_,hz,bs_ (show Sm (rdN g s p.2).length by show _≤1000000000;omega),a0_]
 rfl
theorem bq9 {g:ac_} (hg:SmG g) (h0:di_ g=0) {p q:ai_} (hv:VP g p) {m:aj_} (h:stepP g p m=some q):VP g q:=by
 have ok:=ej_ h0
 unfold stepP at h
 cases hc:(okM g p.2 m&&lgl g.1 p.1 m) with
 | false=>rw[hc] at h;cases h
 | true =>
 rw[hc,a5_] at h
 obtain⟨s,hs,rfl⟩:=f8_.1 h
 rw[a1_] at hc
 exact⟨xq_ hg.room ok.room hv.st hc.2 hs,ud_ hv.rd⟩
end
end Go.Proofs.YtlbfbdbagohinaaGreatDoor.Rx
namespace Go.Proofs.YtlbfbdbagohinaaGreatDoor.Rx
open Go Pad Rex Sum
section
set_option maxRecDepth 10000

end
section
set_option maxRecDepth 10000

end
section
set_option maxRecDepth 10000
theorem run_cnt {σ ρ:Type} (n:Nat) (S:Nat→σ) {body:σ→Option (σ⊕ρ)} {r:ρ} (h:∀ i,i<n→body (S i)=some (.inl (S (i+1)))) (e:body (S n)=some (.inr r)):ae_ body (S 0)=some r:=by
 have gen:∀ (k i:Nat),i+k=n→ae_ body (S i)=some r:=by
  intro k
  induction k with
  | zero =>
   intro i hi
   obtain rfl:i=n:=by omega
   exact fj_ e
  | succ k ih =>
   intro i hi
   exact hm_ (h i (by omega)) (ih (i+1) (by omega))
 exact gen n 0 (by omega)
theorem jm_ {σ ρ υ:Type} (n:Nat) (S:Nat→σ) {body:σ→Option (σ⊕ρ)} {r:ρ} {s0:σ} {K:ρ→Option υ} {x:Option υ} (h0:S 0=s0) (h:∀ i,i<n→body (S i)=some (.inl (S (i+1)))) (e:body (S n)=some (.inr r)) (hk:K r=x):(ae_ body s0).bind K=x:=by
 rw[← h0,run_cnt n S h e,a0_,hk]
section
variable (q:aj_→Bool)
def mvK (i k:Int):Nat→List aj_→List aj_
 | 0,l=>l
 | n+1,l=>cond (q (i,(k,(n:Int)))) (mvK i k n l++[(i,(k,(n:Int)))]) (mvK i k n l)
def mvJ (i:Int) (c:Nat→Nat):Nat→List aj_→List aj_
 | 0,l=>l
 | k+1,l=>mvK q i (k:Int) (c k) (mvJ i c k l)
def mvs (c:Nat→Nat):Nat→List aj_
 | 0=>[]
 | n+1=>mvJ q (n:Int) c 5 (mvs c n)
theorem ak4 (i k:Int):∀ n l,(mvK q i k n l).length≤l.length+n
 | 0,l=>b9_ _
 | n+1,l=>by
  have:=ak4 i k n l
  unfold mvK
  cases q (i,(k,(n:Int))) with
  | true=>simp only[a5_,c5_,c8_,h9_];omega
  | false=>simp only[a4_];omega
theorem ak5 (i:Int) {c:Nat→Nat} (hc:∀ k,c k≤24):∀ k l,(mvJ q i c k l).length≤l.length+k * 24
 | 0,l=>b9_ _
 | k+1,l=>by
  have h1:=ak5 i hc k l
  have h2:=ak4 q i (k:Int) (c k) (mvJ q i c k l)
  have h3:=hc k
  unfold mvJ
  omega
theorem ak2 {c:Nat→Nat} (hc:∀ k,c k≤24):∀ n,(mvs q c n).length≤n * 120
 | 0=>b9_ _
 | n+1=>by
  have h1:=ak2 hc n
  have h2:=ak5 q (n:Int) hc 5 (mvs q c n)
  unfold mvs
  omega
end
def am0 (r:ad_) (k:Nat):Nat:=[0,r.2.2.2.1.length,r.2.2.1.length,r.2.2.1.length,r.2.2.2.2.1.length].getD k 0
def cnt24 (k:Nat):Nat:=match k with
 | 0=>0
 | _+1=>24
theorem at5 (a b c d:Nat):∀ {k:Nat},k<5→decide ((k:Int)<(([0,(a:Int),(b:Int),(c:Int),(d:Int)]:List Int).length:Int))=true∧at? [0,(a:Int),(b:Int),(c:Int),(d:Int)] (k:Int)=some ((([0,a,b,c,d]:List Nat).getD k 0:Nat):Int)
 | 0,_=>⟨rfl,rfl⟩
 | 1,_=>⟨rfl,rfl⟩
 | 2,_=>⟨rfl,rfl⟩
 | 3,_=>⟨rfl,rfl⟩
 | 4,_=>⟨rfl,rfl⟩
 | _+5,h=>absurd h (by omega)
theorem cnt_le {r:ad_} (ok:OkR r):∀ k,am0 r k≤cnt24 k:=by
 have hm:=ok.many
 unfold ak6 at hm
 simp only[b8_,decide_eq_false_iff_not] at hm
 intro k
 match k with
 | 0=>exact b9_ _
 | 1=>show r.2.2.2.1.length≤24;omega
 | 2=>show r.2.2.1.length≤24;omega
 | 3=>show r.2.2.1.length≤24;omega
 | 4=>show r.2.2.2.2.1.length≤24;omega
 | k+5=>exact n4_ _
theorem ar6:∀ k,cnt24 k≤24
 | 0=>n4_ _
 | _+1=>b9_ _
def lmv (r:ad_) (s:ak_):List aj_:=mvs (lgl r s) (am0 r) r.2.2.2.2.2.2.1.toNat
theorem au5 {r:ad_} (h:SmR r) (h0:ei_ r=0) {s:ak_} (hv:VS r s):fa_ r s=some (lmv r s,(0,())):=by
 have ok:=dp_ h0
 obtain⟨m1,m2,m3⟩:=wc_ h ok hv
 have hpy:=cm_.1 ok.py
 obtain⟨P,hP⟩:∃ P:Nat,r.2.2.2.2.2.2.1=(P:Int):=⟨_,(Int.toNat_of_nonneg (by omega)).symm⟩
 have hc:∀ k,am0 r k≤24:=λk=>d9_ (cnt_le ok k) (ar6 k)
 unfold fa_ lmv
 rw[gw_ h,a0_,ik_ h0 hv]
 simp only[show ((0:Int) != 0)=false from rfl,a4_,bs_ m1,bs_ m2,bs_ m3,a0_,hP,b7_]
 refine jm_ P (λi=>((i:Int),((),((mvs (lgl r s) (am0 r) i,()),())))) rfl (λi hi => ?_) (by simp only[dnl,a4_];rfl) rfl
 simp only[dlt hi,a5_]
 have l1:=ak2 (lgl r s) hc i
 refine jm_ 5 (λk=>((k:Int),((),((mvJ (lgl r s) (i:Int) (am0 r) k (mvs (lgl r s) (am0 r) i),()),())))) rfl (λk hk => ?_) rfl ?_
 ·have l2:=ak5 (lgl r s) (i:Int) hc k (mvs (lgl r s) (am0 r) i)
  obtain⟨a1,a2⟩:=at5 r.2.2.2.1.length r.2.2.1.length r.2.2.1.length r.2.2.2.2.1.length hk
  simp only[a1,a2,a5_,a0_]
  refine jm_ (am0 r k) (λj=>((j:Int),((),((mvK (lgl r s) (i:Int) (k:Int) j (mvJ (lgl r s) (i:Int) (am0 r) k (mvs (lgl r s) (am0 r) i)),()),())))) rfl (λj hj => ?_) (by exact congrArg (λb=>cond b _ _) (dnl (am0 r k))) ?_
  ·have l3:=ak4 (lgl r s) (i:Int) (k:Int) j (mvJ (lgl r s) (i:Int) (am0 r) k (mvs (lgl r s) (am0 r) i))
   have hk24:=hc k
   have hp:=ea_ (x:=((i:Int),((k:Int),(j:Int)))) (show Sm (mvK (lgl r s) (i:Int) (k:Int) j (mvJ (lgl r s) (i:Int) (am0 r) k (mvs (lgl r s) (am0 r) i))).length by show _≤1000000000;omega)
   have hd:decide ((j:Int)<((([0,r.2.2.2.1.length,r.2.2.1.length,r.2.2.1.length,r.2.2.2.2.1.length]:List Nat).getD k 0:Nat):Int))=true:=dlt hj
   simp only[hd,a5_,show ((r,(s.1,(s.2.1,s.2.2))):gr_)=(r,s) from rfl,ty_ h ok hv,a0_,br_ (show Sm j by show j≤1000000000;omega),mvK]
   cases hq:lgl r s ((i:Int),((k:Int),(j:Int))) with
   | true=>simp only[a5_,hp,a0_]
   | false=>simp only[a4_,a0_]
  ·simp only[br_ (show Sm k by show k≤1000000000;omega)]
   rfl
 ·simp only[br_ (show Sm i by show i≤1000000000;omega)]
  rfl
end
section
set_option maxRecDepth 10000
def bp1 (r:ad_):ak_:=(r.2.1.map (·.2.2.2),(r.2.2.1.map (·.2.1),List.replicate r.2.2.2.2.2.2.1.toNat 0))
theorem bm6 {r:ad_} (h:SmR r) (h0:ei_ r=0):VS r (bp1 r):=by
 have ok:=dp_ h0
 have hpy:=cm_.1 ok.py
 have hth:=h.th
 refine⟨f2_ _,f2_ _,?_,λi n hn => ?_,λi p hp => ?_,λi p hp => ?_⟩
 ·show ((List.replicate _ (0:Int)).length:Int)=_
  rw[f6_]
  omega
 ·have hn:(r.2.1.map (·.2.2.2))[i]?=some n:=hn
  rw[d3_] at hn
  obtain⟨x,hx,rfl⟩:=f8_.1 hn
  have hk:=ok.th i x hx
  unfold bp8 at hk
  simp only[a1_] at hk
  have hi:=an_ hx
  unfold sy_
  rw[ag_ hx,a1_]
  exact⟨cm_.2 (by rw[ic_ (by omega) (by omega)];omega),hk.2.2.2⟩
 ·have hp:(r.2.2.1.map (·.2.1))[i]?=some p:=hp
  rw[d3_] at hp
  obtain⟨x,hx,rfl⟩:=f8_.1 hp
  have hk:=(ok.pr i x hx).1
  unfold prOk at hk
  simp only[a1_,c2_] at hk
  rw[inR_eq h ok.py,c2_,c2_]
  rcases hk.2 with hk | hk
  ·exact .inl hk
  ·exact .inr (.inl hk)
 ·have hp:(List.replicate r.2.2.2.2.2.2.1.toNat (0:Int))[i]?=some p:=hp
  rw[n5_] at hp
  split at hp
  ·obtain rfl:=a7_ hp
   have hpl:=h.pl
   have hne:r.1.length≠0:=λe=>ok.ne (j2_.1 e)
   unfold wt_
   exact cm_.2 (by rw[ic_ (by omega) (by omega)];omega)
  ·cases hp
def begS (r:ad_):Option ak_:=(stl r 101 (bp1 r).1).map λth=>(th,(bp1 r).2)
theorem begS_VS {r:ad_} (h:SmR r) (h0:ei_ r=0) {t:ak_} (ht:begS r=some t):VS r t:=by
 have ok:=dp_ h0
 have hv:=bm6 h h0
 unfold begS at ht
 obtain⟨th,hs,rfl⟩:=f8_.1 ht
 obtain⟨z,ez,hz⟩:=mn_ h ok (pr:=(bp1 r).2.1) (py:=(bp1 r).2.2) 101 0 (bp1 r).1 rfl ⟨hv.l1,hv.th⟩
 rw[hs] at hz
 exact⟨hz.2.1,hv.l2,hv.l3,hz.2.2,hv.pr,hv.py⟩
def as5 (r:ad_):ak_×(Int×Unit):=cond (ei_ r != 0) (eS,(ei_ r,())) ((begS r).elim (eS,(27,())) λs=>(s,(0,())))
theorem ai1 {r:ad_} (h:SmR r):ig_ r=some (as5 r):=by
 rw[bs7]
 unfold rbegX as5
 rw[qz_ h,a0_]
 cases hr:ei_ r != 0 with
 | true=>rfl
 | false =>
 have h0:ei_ r=0:=by simpa using hr
 have ok:=dp_ h0
 have hpy:=cm_.1 ok.py
 have hv:=bm6 h h0
 obtain⟨m1,m2,m3⟩:=wc_ h ok hv
 simp only[a4_]
 have hplayers:mk? (α:=Int) r.2.2.2.2.2.2.1 0=some (List.replicate r.2.2.2.2.2.2.1.toNat 0):=ow_ (by omega) (by omega)
 rw[hplayers,a0_,bp7 h,a0_,bt3 h,a0_]
 simp only
 refine e6_ (congrArg (λo=>Option.bind o _) (bs_ m1)) ?_
 rw[a0_]
 refine e6_ (congrArg (λo=>Option.bind o _) (bs_ m2)) ?_
 rw[a0_]
 refine e6_ (congrArg (λo=>Option.bind o _) (bs_ m3)) ?_
 rw[a0_]
 obtain⟨z,ez,hz⟩:=mn_ h ok (pr:=(bp1 r).2.1) (py:=(bp1 r).2.2) 101 0 (bp1 r).1 rfl ⟨hv.l1,hv.th⟩
 refine e6_ (congrArg (λo=>Option.bind (Option.bind o _) _) ez) ?_
 unfold begS
 cases hs:stl r 101 (bp1 r).1 with
 | none =>
  rw[hs] at hz
  obtain⟨w,rfl⟩:=hz
  rfl
 | some th' =>
  rw[hs] at hz
  obtain⟨rfl,_⟩:=hz
  rfl
end
section
set_option maxRecDepth 10000
theorem kl_ {σ ρ υ:Type} (n:Nat) (Inv:Nat→σ→Prop) {body:σ→Option (σ⊕ρ)} {z0:σ} {K:ρ→Option υ} {x:Option υ} (h0:Inv 0 z0)
  (hs:∀ j z,j<n→Inv j z→∃ z',body z=some (.inl z')∧Inv (j+1) z') (he:∀ z,Inv n z→∃ r,body z=some (.inr r)∧K r=x):(ae_ body z0).bind K=x:=by
 have gen:∀ (k i:Nat) (z:σ),i+k=n→Inv i z→∃ r,ae_ body z=some r∧K r=x:=by
  intro k
  induction k with
  | zero =>
   intro i z hi hz
   obtain rfl:i=n:=by omega
   obtain⟨r,e,hr⟩:=he z hz
   exact⟨r,fj_ e,hr⟩
  | succ k ih =>
   intro i z hi hz
   obtain⟨z',e,hz'⟩:=hs i z (by omega) hz
   obtain⟨r,er,hr⟩:=ih (i+1) z' (by omega) hz'
   exact⟨r,hm_ e er,hr⟩
 obtain⟨r,e,hr⟩:=gen n 0 z0 (by omega) h0
 rw[e,a0_]
 exact hr
noncomputable def bp0 (g:ac_):ai_×(Int×Unit):=cond (di_ g != 0) (eP,(di_ g,())) (cond ((as5 g.1).2.1 != 0) (eP,((as5 g.1).2.1,())) (((as5 g.1).1,rdN g (as5 g.1).1 (List.replicate g.2.2.2.1.length false)),(0,())))
theorem bm5 {r:ad_} (h:SmR r) (he:(as5 r).2.1=0):VS r (as5 r).1:=by
 unfold as5 at he ⊢
 cases hr:ei_ r != 0 with
 | true =>
  rw[hr] at he
  rw[n1_] at hr
  exact absurd he hr
 | false =>
 have h0:ei_ r=0:=by simpa using hr
 rw[hr,a4_] at he
 cases hb:begS r with
 | none =>
  rw[hb] at he
  exact absurd (show (27:Int)=0 from he) (by decide)
 | some t=>exact begS_VS h h0 hb
theorem begP_VP {g:ac_} (hg:SmG g) (he:(bp0 g).2.1=0):di_ g=0∧VP g (bp0 g).1:=by
 unfold bp0 at he ⊢
 cases hr:di_ g != 0 with
 | true =>
  rw[hr] at he
  rw[n1_] at hr
  exact absurd he hr
 | false =>
 rw[hr,a4_] at he
 have h0:di_ g=0:=by simpa using hr
 cases hb:(as5 g.1).2.1 != 0 with
 | true =>
  rw[hb] at he
  rw[n1_] at hb
  exact absurd he hb
 | false =>
 have hb:(as5 g.1).2.1=0:=by simpa using hb
 exact⟨h0,bm5 hg.room hb,ud_ f6_⟩
theorem mk_nt {g:ac_} (hg:SmG g):mk? (α:=Bool) (g.2.2.2.1.length:Int) false=some (List.replicate g.2.2.2.1.length false):=by
 have:=hg.nt
 rw[ow_ (by omega) (by omega),b7_]
theorem aj6 {g:ac_} (hg:SmG g):kf_ g=some (bp0 g):=by
 rw[bt6]
 unfold pbegX bp0
 rw[wm_ hg,a0_]
 cases hr:di_ g != 0 with
 | true=>rfl
 | false =>
 have h0:di_ g=0:=by simpa using hr
 have ok:=ej_ h0
 have hn:=hg.nt
 simp only[a4_]
 rw[ai1 hg.room,a0_]
 cases hb:(as5 g.1).2.1 != 0 with
 | true=>rfl
 | false =>
 have hb:(as5 g.1).2.1=0:=by simpa using hb
 have hv:=bm5 hg.room hb
 obtain⟨m1,m2,m3⟩:=wc_ hg.room (dp_ ok.room) hv
 simp only[a4_]
 rw[mk_nt hg,a0_]
 obtain⟨z,ez,hz⟩:=uh_ hg ok hv (d:=List.replicate g.2.2.2.1.length false) f6_ []
 have hrl:=ud_ (g:=g) (s:=(as5 g.1).1) (d:=List.replicate g.2.2.2.1.length false) f6_
 rw[ez,a0_,bs_ m1,a0_,bs_ m2,a0_,bs_ m3,a0_,hz,bs_ (show Sm (rdN g _ _).length by show _≤1000000000;omega),a0_]
def aw7 (g:ac_) (q:List Nat):List ab_:=q.filterMap λe=>(g.2.2.2.1[e]?).map (·.2.2.2.2)
theorem ak3 {q:aj_→Bool} {i k:Int} {m:aj_}:∀ (n:Nat) (l:List aj_),m ∈ mvK q i k n l→m ∈ l∨q m=true
 | 0,l,h=>.inl h
 | n+1,l,h=>by
  unfold mvK at h
  cases hq:q (i,(k,(n:Int))) with
  | false=>rw[hq] at h;exact ak3 n l h
  | true =>
   rw[hq,a5_] at h
   rcases d8_.1 h with h | h
   ·exact ak3 n l h
   ·rw[m6_] at h
    exact .inr (by rw[h];exact hq)
theorem bd9 {q:aj_→Bool} {i:Int} {c:Nat→Nat} {m:aj_}:∀ (k:Nat) (l:List aj_),m ∈ mvJ q i c k l→m ∈ l∨q m=true
 | 0,l,h=>.inl h
 | k+1,l,h=>(ak3 (c k) _ h).elim (λh=>bd9 k l h) .inr
theorem bd8 {q:aj_→Bool} {c:Nat→Nat} {m:aj_}:∀ n,m ∈ mvs q c n→q m=true
 | 0,h=>by cases h
 | n+1,h=>(bd9 5 _ h).elim (λh=>bd8 n h) id
theorem lmv_mem {r:ad_} {s:ak_} {m:aj_} (h:m ∈ lmv r s):lgl r s m=true:=bd8 _ h
theorem bf4 {r:ad_} (ok:OkR r) (s:ak_):(lmv r s).length≤480:=by
 have hpy:=cm_.1 ok.py
 have:=ak2 (lgl r s) (λk=>d9_ (cnt_le ok k) (ar6 k)) r.2.2.2.2.2.2.1.toNat
 unfold lmv
 omega
noncomputable def pmv (g:ac_) (p:ai_):List aj_:=(lmv g.1 p.1).filter λm=>(stepP g p m).isSome
theorem al6 {α:Type} {l:List α} {i:Nat} {x:α} (q:α→Bool) (hx:l[i]?=some x):(l.take (i+1)).filter q=cond (q x) ((l.take i).filter q++[x]) ((l.take i).filter q):=by
 rw[f4_,hx,m8_]
 cases hq:q x with
 | true=>simp[hq]
 | false=>simp[hq]
end
section
set_option maxRecDepth 10000
theorem be6 {K V:Type} [DecidableEq K] (m:List (K×V)) (k k':K) (v:V):mget? (kq_ m k v) k'=if k'=k then some v else mget? m k':=by
 induction m with
 | nil=>simp[kq_,mget?]
 | cons x m ih =>
  obtain⟨a,u⟩:=x
  unfold kq_
  by_cases h:k=a
  ·subst h
   rw[if_pos rfl]
   unfold mget?
   by_cases h2:k'=k
   ·rw[if_pos h2,if_pos h2]
   ·rw[if_neg h2,if_neg h2,if_neg h2]
  ·rw[if_neg h]
   unfold mget?
   by_cases h2:k'=a
   ·rw[if_pos h2,if_pos h2,if_neg (λe=>h (by rw[← e,h2]))]
   ·rw[if_neg h2,if_neg h2,ih]
theorem jo_ {K V:Type} [DecidableEq K] (z:V) (m:List (K×V)) (k k':K) (v:V):gd_ z (kq_ m k v) k'=if k'=k then v else gd_ z m k':=by
 unfold gd_
 rw[be6]
 split<;>rfl
noncomputable def cmpX (a0:ac_) (d:List Bool) (mm:List aa_) (lock:Int):Option (List aa_×Unit) :=
 (cond ((gd_ 0 mm lock)==0)
 ((ae_ (abB a0 d lock) ([],([],(0,())))).bind λv18 =>
 ((at? a0.2.1 lock).bind λv19 =>
 ((az_ v19 v18.2.1).bind λv20 =>
 (((cond (v20.2.1==0)
 (some ((decide (v20.1≤a0.2.2.2.2)),()))
 (some (false,())))).bind λv21 =>
 (cond v21.1
 (some ((kq_ (kq_ mm lock 2) lock 1),()))
 (some ((kq_ mm lock 2),())))))))
 (some (mm,())))
noncomputable def canX (a0:ac_) (a1:ai_) (v2:List Bool) (mm:List aa_) (v5:aj_):Option (Bool×(List aa_×Unit)) :=
 (((push? (α:=Bool) [] v2).bind λv6 =>
 (((((cond (v5.2.1==4)
 ((bp_ v5.2.2 0 (w64 ((a0.1.2.2.2.2.1.length:Int) - 1))).bind λv7 =>
 (some (v7.1,())))
 (some (false,())))).bind λv8 =>
 (cond v8.1
 ((at? a0.1.2.2.2.2.1 v5.2.2).bind λv9 =>
 (((cond (decide (v9.2.2.1<0))
 (some (mm,()))
 ((cmpX a0 v2 mm v9.2.2.1).bind λv22 =>
 (some (v22.1,()))))).bind λv23 =>
 (some (v23.1,((kq_ [] v9.2.2.1 (gd_ 0 v23.1 v9.2.2.1)),())))))
 (some (mm,([],())))))).bind λv24 =>
 (((((cond (v5.2.1==4)
 ((bp_ v5.2.2 0 (w64 ((a0.1.2.2.2.2.1.length:Int) - 1))).bind λv25 =>
 (cond v25.1
 ((at? a0.1.2.2.2.2.1 v5.2.2).bind λv26 =>
 (cond (decide (v26.2.2.1<0))
 (some ((!true),(v24.2.1,())))
 ((cmpX a0 v6 v24.2.1 v26.2.2.1).bind λv39 =>
 (some ((!((gd_ 0 v39.1 v26.2.2.1)==1)),(v39.1,()))))))
 (some (false,(v24.2.1,())))))
 (some (false,(v24.2.1,()))))).bind λv40 =>
 (cond v40.1
 (some ((!false),(v6,(v40.2.1,((a1.1.1,(a1.1.2.1,(a1.1.2.2,()))),())))))
 ((ez_ a0.1 a1.1 v5).bind λv41 =>
 (cond (v41.2.1 != 0)
 (some ((!false),(v6,(v40.2.1,((a1.1.1,(a1.1.2.1,(a1.1.2.2,()))),())))))
 ((ae_ (pbgB a0 v41.1) (0,(v6,(v40.2.1,())))).bind λv52 =>
 (some ((!true),(v52.1,(v52.2.1,((v41.1.1,(v41.1.2.1,(v41.1.2.2,()))),()))))))))))).bind λv53 =>
 (cond v53.1
 (some (false,(v24.1,())))
 (some (true,(v24.1,()))))))))
noncomputable def canL (a0:ac_) (a1:ai_):Option (List aj_×(Int×Unit)) :=
 ((cs_ a0 a1).bind λv0 =>
 (cond (v0.1 != 0)
 (cond (v0.1 != 0)
 (some ([],(v0.1,())))
 ((fa_ a0.1 a1.1).bind λv1 =>
 (cond (v1.2.1 != 0)
 (some ([],(v1.2.1,())))
 none)))
 ((push? (α:=Bool) [] a1.2).bind λv2 =>
 ((fa_ a0.1 a1.1).bind λv3 =>
 (cond (v3.2.1 != 0)
 (some ([],(v3.2.1,())))
 ((ae_ (ρ:=((List aj_)×((List aa_)×Unit))) (λ(v4:((List aj_)×(Int×((List aa_)×Unit)))) =>
 (cond (decide (v4.2.1<(v3.1.length:Int)))
 ((((at? v3.1 v4.2.1).bind λv5 =>
 ((canX a0 a1 v2 v4.2.2.1 v5).bind λv54 =>
 (cond v54.1
 ((push? (α:=aj_) v4.1 [v5]).bind λv55 =>
 (some (v55,(v54.2.1,()))))
 (some (v4.1,(v54.2.1,()))))))).bind λv56 =>
 (some (inl (v56.1,((w64 (v4.2.1+1)),(v56.2.1,()))))))
 (some (inr (v4.1,(v4.2.2.1,())))))) ([],(0,([],())))).bind λv57 =>
 (some (v57.1,(0,())))))))))
theorem canL_eq:om_=canL:=by
 kernel_rfl
def Mem (g:ac_) (d:List Bool) (mm:List aa_):Prop:=∀ lock,0≤lock→(gd_ 0 mm lock=(0:Int)∨gd_ 0 mm lock=cond (opn g d lock) 1 2)
theorem bk1 {g:ac_} (hg:SmG g) (ok:OkG g) {d:List Bool} (hd:d.length=g.2.2.2.1.length) {mm:List aa_} {lock:Int} (hz:0≤lock) {l:aa_} (hl:at? g.2.1 lock=some l)
  (hm:gd_ 0 mm lock=(0:Int)∨gd_ 0 mm lock=cond (opn g d lock) 1 2) :
  ∃ m',cmpX g d mm lock=some (m',())∧gd_ 0 m' lock=cond (opn g d lock) 1 2∧∀ k,k≠lock→gd_ 0 m' k=gd_ 0 mm k:=by
 unfold cmpX
 cases h0:(gd_ 0 mm lock:Int)==0 with
 | false =>
  have h0:gd_ 0 mm lock≠(0:Int):=by simpa using h0
  exact⟨mm,rfl,hm.resolve_left h0,λ_ _=>rfl⟩
 | true =>
  obtain⟨q,e⟩:=am3 hg hd lock
  have ho:opn g d lock=decide (rdC g d lock l≤g.2.2.2.2):=by
   unfold opn
   rw[c1_ (by omega),hl]
   rfl
  rw[a5_,e]
  simp only[a0_,hl,vg_ hg ok d hz hl]
  simp only[show ((0:Int)==0)=true from rfl,a5_,a0_]
  rw[ho]
  cases decide (rdC g d lock l≤g.2.2.2.2) with
  | true=>exact⟨_,rfl,by rw[jo_,if_pos rfl];rfl,λk hk=>by rw[jo_,if_neg hk,jo_,if_neg hk]⟩
  | false=>exact⟨_,rfl,by rw[jo_,if_pos rfl];rfl,λk hk=>by rw[jo_,if_neg hk]⟩
theorem canX_eq {g:ac_} (hg:SmG g) (h0:di_ g=0) {p:ai_} (hv:VP g p) {m:aj_} (hl:lgl g.1 p.1 m=true) {mm:List aa_} (hM:Mem g p.2 mm) :
    ∃ m',canX g p p.2 mm m=some ((stepP g p m).isSome,(m',()))∧Mem g p.2 m':=by
  have ok:=ej_ h0
  have okr:=dp_ ok.room
  have hac:=hg.ac
  have hnt:=hg.nt
  have hrd:=hv.rd
  have fin:∀ (b:Bool) (u:List aa_) (m':List aa_),okM g p.2 m = !b →
      (((((some (b,(u,())):Option (Bool×(List aa_×Unit)))).bind λv40 =>
 (cond v40.1
 (some ((!false),(p.2,(v40.2.1,((p.1.1,(p.1.2.1,(p.1.2.2,()))),())))))
 ((ez_ g.1 p.1 m).bind λv41 =>
 (cond (v41.2.1 != 0)
 (some ((!false),(p.2,(v40.2.1,((p.1.1,(p.1.2.1,(p.1.2.2,()))),())))))
 ((ae_ (pbgB g v41.1) (0,(p.2,(v40.2.1,())))).bind λv52 =>
 (some ((!true),(v52.1,(v52.2.1,((v41.1.1,(v41.1.2.1,(v41.1.2.2,()))),()))))))))))).bind λv53 =>
 (cond v53.1
 (some (false,(m',())))
 (some (true,(m',())))))=some ((stepP g p m).isSome,(m',())):=by
    intro b u m' hb
    unfold stepP
    rw[hb,hl,i4_,a0_]
    cases b with
    | true=>rfl
    | false =>
    simp only[a4_,k7_,a5_]
    rw[aa9 hg.room ok.room hv.st m,a0_,hl,a5_]
    cases hs:aa3 g.1 p.1 m with
    | none=>rfl
    | some s =>
    have hv2:=xq_ hg.room ok.room hv.st hl hs
    obtain⟨z,ez,hz⟩:=uh_ hg ok hv2 hv.rd u
    simp only[Option.elim,show ((0:Int) != 0)=false from rfl,a4_]
    rw[ez,a0_,a0_]
    rfl
  unfold canX
  rw[bs_ (show Sm p.2.length by show _≤1000000000;omega),a0_]
  simp only[hn_]
  cases hk:m.2.1==4 with
  | false =>
    refine⟨mm,?_,hM⟩
    simp only[a4_,a0_]
    refine fin false [] mm ?_
    unfold okM
    rw[hk]
    rfl
  | true =>
  simp only[a5_,a0_]
  have hl':=hl
  unfold lgl at hl'
  rw[a1_] at hl'
  have hl':=hl'.2
  have hk':m.2.1=4:=k2_.1 hk
  rw[hk'] at hl'
  simp only[show ((4:Int)==1)=false from rfl,show ((4:Int)==2)=false from rfl,show ((4:Int)==3)=false from rfl,show ((4:Int)==4)=true from rfl,a4_,a5_] at hl'
  rcases dz_ (l:=g.1.2.2.2.2.1) (by show _≤1000000000;omega) m.2.2 with ⟨f1,f2⟩ | ⟨j,a,hj,ha,f1,f2⟩
  · rw[f2] at hl';cases hl'
  · have ho:okM g p.2 m=opn g p.2 a.2.2.1:=by
      unfold okM
      rw[hk,a5_,f2]
      rfl
    simp only[f1,f2,a5_,a0_]
    cases hz:decide (a.2.2.1<0) with
    | true =>
      refine⟨mm,?_,hM⟩
      simp only[a5_,a0_]
      refine fin (!true) _ mm ?_
      rw[ho]
      unfold opn
      rw[hz]
      rfl
    | false =>
      have hz':=d1_ hz
      have hlt:=ok.ac j a ha
      obtain⟨l,hlk⟩:=bi_ (l:=g.2.1) (i:=a.2.2.1.toNat) (by omega)
      have hl2:at? g.2.1 a.2.2.1=some l:=by rw[show a.2.2.1=((a.2.2.1.toNat:Nat):Int) by omega];exact ag_ hlk
      obtain⟨m1,e1,k1,r1⟩:=bk1 hg ok hv.rd (mm:=mm) (by omega) hl2 (hM _ (by omega))
      obtain⟨m2,e2,k2,r2⟩:=bk1 hg ok hv.rd (mm:=kq_ [] a.2.2.1 (gd_ 0 m1 a.2.2.1)) (by omega) hl2 (.inr (by rw[jo_,if_pos rfl,k1]))
      refine⟨m1,?_,λlock hlock => ?_⟩
      · simp only[a4_,e1,a0_,e2]
        refine fin _ m2 m1 ?_
        rw[ho,k2]
        cases opn g p.2 a.2.2.1<;>rfl
      · by_cases hE:lock=a.2.2.1
        · rw[hE]
          exact .inr k1
        · rw[r1 lock hE]
          exact hM lock hlock
theorem bt5 {g:ac_} (hg:SmG g) (h0:di_ g=0) {p:ai_} (hv:VP g p):om_ g p=some (pmv g p,(0,())):=by
 have ok:=ej_ h0
 have okr:=dp_ ok.room
 have hll:=bf4 okr p.1
 have hnt:=hg.nt
 have hrd:=hv.rd
 rw[canL_eq]
 unfold canL
 rw[pd_ hg h0 hv,a0_]
 simp only[show ((0:Int) != 0)=false from rfl,a4_]
 rw[bs_ (show Sm p.2.length by show _≤1000000000;omega),a0_,au5 hg.room ok.room hv.st,a0_]
 simp only[show ((0:Int) != 0)=false from rfl,a4_]
 refine kl_ (lmv g.1 p.1).length (λ(i:Nat) (z:List aj_×(Int×(List aa_×Unit)))=>∃ mm,z=(((lmv g.1 p.1).take i).filter (λm=>(stepP g p m).isSome),((i:Int),(mm,())))∧Mem g p.2 mm) ⟨[],by rw[List.take_zero];rfl,λlock _=>.inl rfl⟩ (λi z hi hz => ?_) (λz hz => ?_)
 ·obtain⟨mm,rfl,hM⟩:=hz
  obtain⟨m,hm⟩:=bi_ hi
  have hfl:(((lmv g.1 p.1).take i).filter (λm=>(stepP g p m).isSome)).length≤480:=by
   refine d9_ (i3_ ..) ?_
   rw[c4_];omega
  obtain⟨m',e,hM'⟩:=canX_eq hg h0 hv (lmv_mem (cl_ hm)) hM
  refine⟨_,?_,m',rfl,hM'⟩
  simp only[dlt hi,a5_,ag_ hm,a0_,e,al6 _ hm,br_ (show Sm i by show i≤1000000000;omega)]
  cases (stepP g p m).isSome with
  | false=>rfl
  | true=>simp only[a5_,ea_ (show Sm _ from d9_ hfl (by omega)),a0_]
 ·obtain⟨mm,rfl,hM⟩:=hz
  refine⟨_,by simp only[dnl,a4_];rfl,?_⟩
  simp only[d4_]
  rfl
end
section
set_option maxRecDepth 10000
theorem VS_of {r:ad_} {s:ak_} (hk:ckS r s=0):VS r s:=by
 unfold ckS at hk
 cases hl:yq_ r s with
 | true=>rw[hl] at hk;exact absurd (show (28:Int)=0 from hk) (by decide)
 | false =>
 rw[hl,a4_] at hk
 obtain⟨l1,l2,l3⟩:=ap3 hl
 obtain⟨h1,hk⟩:=dt_ hk (gt_ (λi x=>nb_ (by decide)) _ _)
 obtain⟨h2,hk⟩:=dt_ hk (gt_ (λi x=>nb_ (by decide)) _ _)
 obtain⟨h3,_⟩:=dt_ hk (gt_ (λi x=>nb_ (by decide)) _ _)
 exact⟨l1,l2,l3,λi n hn=>ha_ (ck_ h1 hn),λi n hn=>ha_ (ck_ h2 hn),λi n hn=>ha_ (ck_ h3 hn)⟩
noncomputable def pck (g:ac_) (p:ai_):Int:=cond (iw_ g.1 p.1 != 0) (iw_ g.1 p.1) (cond ((p.2.length:Int) != (g.2.2.2.1.length:Int)) 28 0)
theorem pck_VP {g:ac_} (h0:di_ g=0) {p:ai_} (h:pck g p=0):VP g p:=by
 have ok:=ej_ h0
 unfold pck at h
 cases hs:iw_ g.1 p.1 != 0 with
 | true =>
  rw[hs] at h
  rw[n1_] at hs
  exact absurd h hs
 | false =>
 rw[hs,a4_] at h
 cases hl:(p.2.length:Int) != (g.2.2.2.1.length:Int) with
 | true=>rw[hl] at h;exact absurd (show (28:Int)=0 from h) (by decide)
 | false =>
 have hs:iw_ g.1 p.1=0:=by simpa using hs
 unfold iw_ at hs
 rw[ok.room] at hs
 rw[o4_] at hl
 exact⟨VS_of hs,by omega⟩
end
section
set_option maxRecDepth 10000
theorem al7 {σ ρ υ:Type} {body:σ→Option (σ⊕ρ)} {K:ρ→Option υ} {Q:υ→Prop} (I:σ→Prop) (μ:σ→Nat) {z0:σ} (h0:I z0)
  (st:∀ s,I s→∃ y,body s=some y∧((∃ s',y = .inl s'∧I s'∧μ s'<μ s)∨∃ r z,y = .inr r∧K r=some z∧Q z)):∃ z,(ae_ body z0).bind K=some z∧Q z:=by
 have gen:∀ (n:Nat) (s:σ),μ s=n→I s→∃ r,ae_ body s=some r∧∃ z,K r=some z∧Q z:=by
  intro n
  induction n using Nat.strongRecOn with
  | _ n ih =>
   intro s hn hs
   obtain⟨y,hy,⟨s',rfl,h2,h3⟩ | ⟨r,z,rfl,h2,h3⟩⟩:=st s hs
   ·obtain⟨r,g1,g2⟩:=ih (μ s') (by omega) s' rfl h2
    exact⟨r,hm_ hy g1,g2⟩
   ·exact⟨r,fj_ hy,z,h2,h3⟩
 obtain⟨r,h1,z,h2,h3⟩:=gen _ z0 rfl h0
 exact⟨z,by rw[h1,a0_,h2],h3⟩
theorem of_ex {υ:Type} {x:Option υ} {y:υ} (h:∃ z,x=some z∧z=y):x=some y:=by
 obtain⟨z,h1,rfl⟩:=h
 exact h1
theorem fu_ {α:Type} {l:List α} {k:Nat} {x:α} (h:l[k]?=some x):l.take (k+1)=l.take k++[x]:=by
 rw[f4_,h];rfl
theorem qr_ {σ ρ υ:Type} (n:Nat) (Inv:Nat→σ→Prop) {body:σ→Option (σ⊕ρ)} {z0:σ} {K:ρ→Option υ} {Q:υ→Prop} (h0:Inv 0 z0)
  (hs:∀ j z,j<n→Inv j z→∃ z',body z=some (.inl z')∧Inv (j+1) z') (he:∀ z,Inv n z→∃ r,body z=some (.inr r)∧∃ y,K r=some y∧Q y):∃ y,(ae_ body z0).bind K=some y∧Q y:=by
 have gen:∀ (k i:Nat) (z:σ),i+k=n→Inv i z→∃ r,ae_ body z=some r∧∃ y,K r=some y∧Q y:=by
  intro k
  induction k with
  | zero =>
   intro i z hi hz
   obtain rfl:i=n:=by omega
   obtain⟨r,e,hr⟩:=he z hz
   exact⟨r,fj_ e,hr⟩
  | succ k ih =>
   intro i z hi hz
   obtain⟨z',e,hz'⟩:=hs i z (by omega) hz
   obtain⟨r,er,hr⟩:=ih (i+1) z' (by omega) hz'
   exact⟨r,hm_ e er,hr⟩
 obtain⟨r,e,y,h1,h2⟩:=gen n 0 z0 (by omega) h0
 exact⟨y,by rw[e,a0_];exact h1,h2⟩
theorem sm {n:Nat} (h:n≤30000):Sm n:=d9_ h (by decide)
noncomputable def pk (g:ac_) (p:ai_):Int:=cond (di_ g != 0) (di_ g) (pck g p)
theorem aj3 {g:ac_} (hg:SmG g) (p:ai_):cs_ g p=some (pk g p,()):=wl_ hg p
theorem pk_ok {g:ac_} {p:ai_} (h:(pk g p != 0)=false):di_ g=0∧VP g p:=by
 have h:pk g p=0:=by simpa using h
 unfold pk at h
 cases hc:di_ g != 0 with
 | true=>rw[hc,a5_] at h;simp[h] at hc
 | false =>
  rw[hc,a4_] at h
  have h0:di_ g=0:=by simpa using hc
  exact⟨h0,pck_VP h0 h⟩
theorem VP_pk {g:ac_} (h0:di_ g=0) {p:ai_} (hv:VP g p):pk g p=0:=by
 unfold pk pck
 rw[h0,ik_ (ej_ h0).room hv.st,hv.rd]
 simp
theorem aj4 {g:ac_} (hg:SmG g) (p:ai_):∃ l,ih_ g p=some (l,(pk g p,())):=by
 suffices h:∃ y,ih_ g p=some y∧∃ l,y=(l,(pk g p,())) by
  obtain⟨y,h,l,rfl⟩:=h
  exact⟨l,h⟩
 unfold ih_
 rw[aj3 hg,a0_]
 cases hk:pk g p != 0 with
 | true=>exact⟨_,rfl,_,rfl⟩
 | false =>
 obtain⟨h0,hv⟩:=pk_ok hk
 have hz:pk g p=0:=by simpa using hk
 have ok:=ej_ h0
 have hn:=hg.nt
 have hrd:=hv.rd
 have hlk:=hg.lk
 simp only[a4_]
 rw[bs_ (sm (by omega)),a0_,hz]
 refine qr_ g.2.1.length (λi (z:(List Bool)×(Int×((List aa_)×Unit)))=>∃ l mm,z=(l,((i:Int),(mm,())))∧l.length=i) ⟨[],[],rfl,rfl⟩ (λi z hi hz => ?_) (λz hz => ?_)
 ·obtain⟨l,mm,rfl,hl⟩:=hz
  obtain⟨x,hx⟩:=bi_ hi
  simp only[dlt hi,a5_,c1_ (show ¬ (i:Int)<0 by omega),a4_]
  have fin:∀ mm':List aa_,∃ z',((((some ((mm',()):List aa_×Unit)).bind λv16=>((push? (α:=Bool) l [((gd_ 0 v16.1 (i:Int))==1)]).bind λv17=>(some (v17,(v16.1,()))))).bind λv18=>(some (inl (v18.1,((w64 ((i:Int)+1)),(v18.2.1,()))))):Option (((List Bool)×(Int×((List aa_)×Unit)))⊕((List Bool)×((List aa_)×Unit))))=some (.inl z')∧∃ l mm,z'=(l,(((i+1:Nat):Int),(mm,())))∧l.length=i+1):=λmm'=>by
   simp only[a0_,ea_ (show Sm l.length from sm (by omega)),br_ (show Sm i from sm (by omega))]
   exact⟨_,rfl,_,_,rfl,by simp[hl]⟩
  cases hm:gd_ 0 mm (i:Int)==0 with
  | false =>
   simp only[a4_]
   exact fin mm
  | true =>
   simp only[a5_]
   obtain⟨q,hq⟩:=am3 hg hv.rd (i:Int)
   have hq':=hq
   unfold abB at hq'
   rw[hq']
   simp only[a0_,ag_ hx]
   rw[vg_ hg ok p.2 (by omega) (ag_ hx),a0_]
   simp only[c3_,a5_,a0_]
   cases decide (rdC g p.2 (i:Int) x≤g.2.2.2.2) with
   | true=>simp only[a5_];exact fin _
   | false=>simp only[a4_];exact fin _
 ·obtain⟨l,mm,rfl,hl⟩:=hz
  exact⟨_,by simp only[dnl,a4_];rfl,_,rfl,_,rfl⟩
end
section
set_option maxRecDepth 10000
theorem al9 {l:aa_} (hl:Lk l) {cl:List ab_} (hn:cl.length≤20) (hc:∀ c ∈ cl,ct_ l c=true) {code:List Int} (hk:co_ l code=true):∃ r,fe_ l cl code=some (r,(cl.all (tr · code),(0,()))):=by
 unfold fe_
 obtain⟨r,h1,h2⟩:=vh_ hl hn hc hk
 rw[li_ hl hn hc,a0_]
 simp only[show ((0:Int) != 0)=false from rfl,a4_]
 rw[ga_,a0_,hk,kp_.2 hl]
 simp only[h8_,show ((0:Int) != 0)=false from rfl,a4_]
 rw[h1,a0_,h2]
 exact⟨r,rfl⟩
theorem uu_ {α:Type} {p:List α} {x:α} {t:List α}:(p++x::t)[p.length]?=some x:=by
 rw[b5_ (b9_ _),f3_];rfl
theorem ta_ {α:Type} {p:List α} {x y:α} {t:List α}:(p++x::t).set p.length y=p++y::t:=by
 rw[i2_ _ _ (b9_ _),f3_];rfl
theorem ex_ret1 {Y σ:Type} {X:Option Y} {g:σ→Y} {P:σ→Prop} (h:∃ y,X=some y∧∃ s,P s∧y=g s):∃ s,P s∧X=some (g s):=by
 obtain⟨y,e,s,h1,rfl⟩:=h
 exact⟨s,h1,e⟩
theorem ex_ret {Y σ τ:Type} {X:Option Y} {g:σ→τ→Y} {P:σ→τ→Prop} (h:∃ y,X=some y∧∃ s t,y=g s t∧P s t):∃ s t,X=some (g s t)∧P s t:=by
 obtain⟨y,e,s,t,rfl,h1⟩:=h
 exact⟨s,t,e,h1⟩
abbrev pre (p:List Int) (l:List (List Int)):List (List Int):=l.map (p ++ ·)
theorem rdL_eq {ft:List Int→Option (Int×(Bool×(Int×Unit)))} {good:List Int→Bool} {S W:Nat} (hS:0<S) (hS2:S≤10) (hW:W≤4) (hft:∀ c:List Int,c.length=W→(∀ x ∈ c,0≤x∧x<(S:Int))→∃ r,ft c=some (r,(good c,(0,())))) :
  ∀ (m n:Nat) (p s:List Int) (o:List (List Int)),m+1≤n→p.length+m=W→s.length=m→(∀ x ∈ p,0≤x∧x<(S:Int))→o.length+S ^ m≤20000 →
   ∃ s',s'.length=m∧rdL ft (S:Int) n (p.length:Int) (p++s) o=some (p++s',((o++(pre p (dh_ S m)).filter good,()),())):=by
 intro m
 induction m with
 | zero =>
  intro n p s o hn hp hs hr ho
  obtain⟨n,rfl⟩:∃ k,n=k+1:=⟨n - 1,by omega⟩
  obtain rfl:s=[]:=j2_.1 hs
  refine⟨[],rfl,?_⟩
  unfold rdL
  rw[d6_]
  simp only[c3_,a5_]
  obtain⟨r,e⟩:=hft p (by omega) hr
  rw[e,a0_]
  simp only
  have hf:(pre p (dh_ S 0)).filter good=cond (good p) [p] []:=by
   unfold dh_
   cases hg:good p<;>simp[pre,hg]
  rw[hf]
  cases good p with
  | true =>
   simp only[a5_]
   rw[bs_ (sm (by omega)),a0_,ea_ (show Sm o.length from sm (by omega)),a0_]
  | false=>simp only[a4_,d6_]
 | succ m ih =>
  intro n p s o hn hp hs hr ho
  obtain⟨n,rfl⟩:∃ k,n=k+1:=⟨n - 1,by omega⟩
  obtain⟨x,s,rfl⟩:∃ x t,s=x::t:=by
   cases s with
   | nil=>simp at hs
   | cons x t=>exact⟨x,t,rfl⟩
  have hs:s.length=m:=by simpa using hs
  have hpw:S ^ (m+1)=S ^ m * S:=i1_ ..
  have hne:((p.length:Int)==((p++x::s).length:Int))=false:=by
   rw[m1_,c5_,c8_];omega
  unfold rdL
  rw[hne,a4_,ag_ uu_,a0_,a0_,b7_,ta_]
  refine ex_ret1 ?_
  have hlen:∀ d,(((List.range d).flatMap λa:Nat=>pre (p++[(a:Int)]) (dh_ S m)).filter good).length≤d * S ^ m:=λd=>by
   refine d9_ (i3_ _ _) ?_
   rw[zd_ (m:=S ^ m) _ (λy _=>by rw[pre,f2_,jp_]),g6_]
   exact b9_ _
  refine qr_ S (λd z=>∃ s',s'.length=m∧z=(p++(d:Int)::s',((o++(((List.range d).flatMap λa:Nat=>pre (p++[(a:Int)]) (dh_ S m)).filter good),()),())))
   ⟨s,hs,by simp⟩ (λd z hd hz => ?_) (λz hz => ?_)
  ·obtain⟨s',h1,rfl⟩:=hz
   have hdS:d * S ^ m+S ^ m≤S ^ (m+1):=by
    rw[hpw,← Nat.succ_mul,h7_ (S ^ m) S];exact i6_ _ hd
   obtain⟨s2,h2,h3⟩:=ih n (p++[(d:Int)]) s' (o++(((List.range d).flatMap λa:Nat=>pre (p++[(a:Int)]) (dh_ S m)).filter good)) (by omega) (by rw[c5_,l8_];omega) h1
    (λx hx=>by
     rcases d8_.1 hx with h | h
     ·exact hr x h
     ·rw[m6_.1 h];omega) (by rw[c5_];have:=hlen d;omega)
   have e1:(p++[(d:Int)])++s'=p++(d:Int)::s':=by simp
   have e2:(p++[(d:Int)])++s2=p++(d:Int)::s2:=by simp
   rw[e1,e2,c5_,l8_] at h3
   refine⟨(p++((d+1:Nat):Int)::s2,((o++(((List.range (d+1)).flatMap λa:Nat=>pre (p++[(a:Int)]) (dh_ S m)).filter good),()),())),?_,s2,h2,rfl⟩
   have hd1:w64 ((d:Int)+1)=((d+1:Nat):Int):=br_ (show Sm d from sm (by omega))
   simp only[ag_ uu_,a0_,b4_ (show (d:Int)<(S:Int) by omega),a5_,br_ (show Sm p.length from sm (by omega))]
   rw[h3,a0_]
   simp only[ag_ uu_,a0_,ta_,hd1]
   rw[List.range_succ,List.flatMap_append,m8_,b0_]
   simp only[l6_,List.flatMap_nil,d6_]
  ·obtain⟨s',h1,rfl⟩:=hz
   refine⟨(p++(S:Int)::s',((o++(((List.range S).flatMap λa:Nat=>pre (p++[(a:Int)]) (dh_ S m)).filter good),()),())),?_,?_⟩
   ·simp only[ag_ uu_,a0_,dnl,a4_]
   ·simp only[ag_ uu_,a0_,ta_]
    refine⟨_,rfl,0::s',by simp[h1],?_⟩
    have:pre p (dh_ S (m+1))=(List.range S).flatMap λa:Nat=>pre (p++[(a:Int)]) (dh_ S m):=by
     unfold pre
     rw[show dh_ S (m+1)=(List.range S).flatMap λ(x:Nat)=>(dh_ S m).map λc=>(x:Int)::c from rfl,List.map_flatMap]
     congr 1
     funext a
     rw[n7_]
     congr 1
     funext c
     simp
    rw[this]
theorem vx_ {l:aa_} (hl:Lk l) {cl:List ab_} (hn:cl.length≤20) (hc:∀ c ∈ cl,ct_ l c=true):bk_ l cl=some (rdg l cl,()):=by
 have h1:=hl.w1;have h2:=hl.w2;have h3:=hl.s1;have h4:=hl.s2
 obtain⟨W,hW⟩:∃ W:Nat,l.1=(W:Int):=⟨l.1.toNat,by omega⟩
 obtain⟨S,hS⟩:∃ S:Nat,l.2=(S:Int):=⟨l.2.toNat,by omega⟩
 have hpw:=ao1 hl
 rw[hW,hS,b7_,b7_] at hpw
 unfold bk_
 rw[hW,ow_ (by omega) (by omega),a0_,b7_]
 obtain⟨s',_,e⟩:=rdL_eq (ft:=fe_ l cl) (good:=λc=>cl.all (tr · c)) (S:=S) (W:=W) (by omega) (by omega) (by omega) (λc c1 c2=>al9 hl hn hc (gk_.2 ⟨by omega,λn hn=>by have:=c2 n hn;omega⟩)) W 5 [] (List.replicate W 0) [] (by omega) (by simp) (by simp) (λx hx=>by cases hx) (by simp;omega)
 rw[show (((([]:List Int).length:Nat):Int))=0 from rfl,f5_,f5_,f5_] at e
 rw[hS,e,a0_]
 unfold rdg
 rw[hW,hS,b7_,b7_]
 congr 2
 simp[pre]
end
section
set_option maxRecDepth 10000
theorem bnd_id {α:Type} (x:Option α):x.bind some=x:=by cases x<;>rfl
theorem zq_ {σ ρ υ:Type} {body:σ→Option (σ⊕ρ)} {s:σ} {r:ρ} {K:ρ→Option υ} {x:Option υ} (h:body s=some (.inr r)) (hk:K r=x):(ae_ body s).bind K=x:=by
 rw[fj_ h,a0_,hk]
theorem zr_ {α R:Type} {b:Bool} {l:List α} {i:Int} {x:α} {K:α→Option R} (h:at? l i=some x):atD b l i K=K x:=by
 unfold atD
 rw[h]
 cases b<;>rfl
structure Fok (al:List (List (List Int))) (f:List (List Bool)):Prop where
 n:f.length=al.length
 r:∀ (i:Nat) l r,al[i]?=some l→f[i]?=some r→r.length=l.length
structure Wok (al:List (List (List Int))) (w:List Int):Prop where
 n:w.length=al.length
 r:∀ (i:Nat) l x,al[i]?=some l→w[i]?=some x→0≤x∧x<(l.length:Int)
def trm (f:List (List Bool)) (i m:Nat):Prop:=∃ r,f[i]?=some r∧r[m]?=some true
section
variable {al:List (List (List Int))} {f:List (List Bool)} {w:List Int}
theorem Fok.set (hf:Fok al f) {i:Nat} {r r':List Bool} (h:f[i]?=some r) (hr:r'.length=r.length):Fok al (f.set i r'):=by
 refine⟨by rw[f1_];exact hf.n,λj l r2 hl h2 => ?_⟩
 rw[d2_] at h2
 split at h2
 ·rename_i e
  subst e
  rw[if_pos (an_ h)] at h2
  cases h2
  rw[hr]
  exact hf.r _ _ _ hl h
 ·exact hf.r _ _ _ hl h2
theorem Wok.set (hw:Wok al w) {i:Nat} {x:Int} {l:List (List Int)} (hl:al[i]?=some l) (h0:0≤x) (h1:x<(l.length:Int)):Wok al (w.set i x):=by
 refine⟨by rw[f1_];exact hw.n,λj l2 y h2 hy => ?_⟩
 rw[d2_] at hy
 split at hy
 ·rename_i e
  subst e
  rw[if_pos (by rw[hw.n];exact an_ hl)] at hy
  cases hy
  rw[hl] at h2
  cases h2
  exact⟨h0,h1⟩
 ·exact hw.r _ _ _ h2 hy
theorem ay1 {i m0:Nat} {r:List Bool} (h:f[i]?=some r) {j m:Nat} (ht:trm f j m):trm (f.set i (r.set m0 true)) j m:=by
 obtain⟨r1,h1,h2⟩:=ht
 by_cases e:i=j
 ·subst e
  rw[h] at h1
  cases h1
  refine⟨r.set m0 true,by rw[d2_,if_pos rfl,if_pos (an_ h)],?_⟩
  rw[d2_]
  split
  ·rename_i e
   subst e
   rw[if_pos (an_ h2)]
  ·exact h2
 ·exact⟨r1,by rw[d2_,if_neg e];exact h1,h2⟩
theorem trm_new {i m:Nat} {r:List Bool} (h:f[i]?=some r) (hm:m<r.length):trm (f.set i (r.set m true)) i m :=
 ⟨r.set m true,by rw[d2_,if_pos rfl,if_pos (an_ h)],by rw[d2_,if_pos rfl,if_pos hm]⟩
theorem fnd_ok (hn:al.length≤8) (hf:Fok al f) (hw:Wok al w):∃ f',cd3 w f=some (f',())∧Fok al f'∧(∀ i m,trm f i m→trm f' i m)∧∀ i x,w[i]?=some x→trm f' i x.toNat:=by
 suffices h:∃ y,(cd3 w f).bind some=some y∧∃ f',y=(f',())∧Fok al f'∧(∀ i m,trm f i m→trm f' i m)∧∀ i x,w[i]?=some x→trm f' i x.toNat by
  obtain⟨y,e,f',rfl,h⟩:=h
  rw[bnd_id] at e
  exact⟨f',e,h⟩
 unfold cd3
 have hwn:=hw.n
 refine qr_ w.length (λd z=>∃ f1,z=((d:Int),(f1,()))∧Fok al f1∧(∀ i m,trm f i m→trm f1 i m)∧∀ i x,i<d→w[i]?=some x→trm f1 i x.toNat)
  ⟨f,rfl,hf,λ_ _ h=>h,λi x h=>(by omega)⟩ (λd z hd hz => ?_) (λz hz => ?_)
 ·obtain⟨f1,rfl,g1,g2,g3⟩:=hz
  obtain⟨x,hx⟩:=bi_ hd
  obtain⟨l,hl⟩:=bi_ (l:=al) (i:=d) (by omega)
  obtain⟨r,hr⟩:=bi_ (l:=f1) (i:=d) (by rw[g1.n];omega)
  obtain⟨x0,x1⟩:=hw.r d l x hl hx
  have hrl:=g1.r d l r hl hr
  obtain⟨k,rfl⟩:=Int.eq_ofNat_of_zero_le x0
  obtain⟨v,hv⟩:=bi_ (l:=r) (i:=k) (by omega)
  refine⟨_,by simp only[dlt hd,a5_,ag_ hx,ag_ hr,ag_ hv,a0_,br_ (show Sm d from sm (by omega))];rfl,_,rfl,g1.set hr (by simp),λi m h=>ay1 hr (g2 i m h),λi y hi hy => ?_⟩
  by_cases e:i=d
  ·subst e
   rw[hx] at hy
   cases hy
   exact trm_new hr (by simp only[b7_];omega)
  ·exact ay1 hr (g3 i y (by omega) hy)
 ·obtain⟨f1,rfl,g1,g2,g3⟩:=hz
  exact⟨_,by simp only[dnl,a4_]<;>rfl,_,rfl,_,rfl,g1,g2,λi x hx=>g3 i x (an_ hx) hx⟩
theorem wlE_nil {β Y:Type} {b:Bool} {y:List Int→β→Option (β×Unit)} {ret:β→List Int→Y} {f:β} {w:List Int}:wlE b [] al y ret f w=(y w f).bind λv=>some (ret v.1 w):=by
 unfold wlE
 exact zq_ (r:=inl ()) rfl rfl
theorem wlP_ok {A:Type} {b:Bool} {pk:List (List Bool)→List Int→A} {u1:A→List (List Bool)} {u2:A→List Int} (h1:∀ f w,u1 (pk f w)=f) (h2:∀ f w,u2 (pk f w)=w) (hn:al.length≤8) (hne:∀ l ∈ al,l≠[]∧l.length≤20000) :
  ∀ (k n:Nat) (Y:Type) (ret:List (List Bool)→List Int→Y) (i:Nat) (f:List (List Bool)) (w:List Int),k+1≤n→i+k=al.length→Fok al f→Wok al w →
   ∃ f' w',wlP b pk u1 u2 [] al cd3 n Y ret (i:Int) f w=some (ret f' w')∧Fok al f'∧Wok al w'∧(∀ j,j<i→w'[j]?=w[j]?)∧(∀ j m,trm f j m→trm f' j m)∧(∀ j x,j<i→w[j]?=some x→trm f' j x.toNat)∧(∀ j l m,i≤j→al[j]?=some l→m<l.length→trm f' j m):=by
 intro k
 induction k with
 | zero =>
  intro n Y ret i f w hk hi hf hw
  obtain⟨n,rfl⟩:∃ m,n=m+1:=⟨n - 1,by omega⟩
  unfold wlP
  have:((i:Int)==(w.length:Int))=true:=by rw[k2_,hw.n];omega
  rw[this,a5_,wlE_nil]
  obtain⟨f',e,g1,g2,g3⟩:=fnd_ok (f:=f) (w:=w) hn hf hw
  rw[e,a0_]
  refine⟨f',w,rfl,g1,hw,λ_ _=>rfl,g2,λj x _ hx=>g3 j x hx,λj l m hj hl => ?_⟩
  have:=an_ hl
  omega
 | succ k ih =>
  intro n Y ret i f w hk hi hf hw
  obtain⟨n,rfl⟩:∃ m,n=m+1:=⟨n - 1,by omega⟩
  unfold wlP
  have:((i:Int)==(w.length:Int))=false:=by rw[m1_,hw.n];omega
  obtain⟨l,hl⟩:=bi_ (l:=al) (i:=i) (by omega)
  obtain⟨l1,l2⟩:=hne l (cl_ hl)
  have l3:0<l.length:=m3_.2 l1
  rw[this,a4_,zr_ (ag_ hl)]
  refine ex_ret ?_
  refine qr_ l.length (λd z=>∃ f1 w1,z=((d:Int),pk f1 w1)∧Fok al f1∧Wok al w1∧(∀ j,j<i→w1[j]?=w[j]?)∧(∀ j m,trm f j m→trm f1 j m)∧(0<d→(∀ j x,j<i→w[j]?=some x→trm f1 j x.toNat)∧∀ j l m,i<j→al[j]?=some l→m<l.length→trm f1 j m)∧∀ m,m<d→trm f1 i m)
   ⟨f,w,rfl,hf,hw,λ_ _=>rfl,λ_ _ h=>h,λh=>absurd h (Nat.lt_irrefl 0),λm h=>absurd h (Nat.not_lt_zero m)⟩ (λd z hd hz => ?_) (λz hz => ?_)
  ·obtain⟨f1,w1,rfl,g1,g2,g3,g4,g5,g6⟩:=hz
   obtain⟨x,hx⟩:=bi_ (l:=w1) (i:=i) (by rw[g2.n];omega)
   obtain⟨f2,w2,e,q1,q2,q3,q4,q5,q6⟩:=ih n (A⊕((Int×A)⊕(A⊕Y))) (λf w=>inl (pk f w)) (i+1) f1 (w1.set i (d:Int)) (by omega) (by omega) g1 (g2.set hl (by omega) (by omega))
   have hwi:(w1.set i (d:Int))[i]?=some (d:Int):=by rw[d2_,if_pos rfl,if_pos (an_ hx)]
   have hwj:∀ j,j≠i→(w1.set i (d:Int))[j]?=w1[j]?:=λj hj=>by rw[d2_,if_neg (l2_ hj)]
   refine⟨(((d+1:Nat):Int),pk f2 w2),?_,f2,w2,rfl,q1,q2,λj hj => ?_,λj m h=>q4 j m (g4 j m h),λ_=>⟨λj y hj hy => ?_,λj l' m hj hl' hm=>q6 j l' m (by omega) hl' hm⟩,λm hm => ?_⟩
   ·simp only[dlt hd,a5_,h1,h2,ag_ hx,a0_,br_ (show Sm i from sm (by omega)),b7_]
    rw[e,a0_]
    simp only[hs_,h1,h2,br_ (show Sm d from sm (by omega))]
   ·rw[q3 j (by omega),hwj j (by omega),g3 j hj]
   ·exact q5 j y (by omega) (by rw[hwj j (by omega),g3 j hj];exact hy)
   ·by_cases e:m=d
    ·subst e
     have:=q5 i (m:Int) (by omega) hwi
     rwa [b7_] at this
    ·exact q4 i m (g6 m (by omega))
  ·obtain⟨f1,w1,rfl,g1,g2,g3,g4,g5,g6⟩:=hz
   obtain⟨g7,g8⟩:=g5 l3
   refine⟨_,by simp only[dnl,a4_,h1,h2];rfl,?_⟩
   simp only[hs_,h1,h2]
   refine⟨_,rfl,f1,w1,rfl,g1,g2,g3,g4,g7,λj l' m hj hl' hm => ?_⟩
   by_cases e:j=i
   ·subst e
    rw[hl] at hl'
    cases hl'
    exact g6 m hm
   ·exact g8 j l' m (by omega) hl' hm
end
theorem psbX_ok {R:Type} {b:Bool} {al:List (List (List Int))} (hn:al.length≤8) (hne:∀ l ∈ al,l≠[]∧l.length≤20000) (K:List (List Bool)×(List (List (List Int))×Unit)→Option R):∃ f,psbX b (al.length:Int) [] al K=K (f,(al,())):=by
 have hf0:Fok al (al.map λl=>List.replicate l.length false):=⟨by simp,λi l r hl hr=>by
  rw[d3_,hl] at hr
  cases hr
  simp⟩
 have hw0:Wok al (List.replicate al.length 0):=⟨by simp,λi l x hl hx=>by
  obtain⟨l1,l2⟩:=hne l (cl_ hl)
  have l3:0<l.length:=m3_.2 l1
  rw[n5_,if_pos (an_ hl)] at hx
  cases hx
  omega⟩
 obtain⟨f,w,e,g1,g2,_,_,_,g3⟩:=wlP_ok (b:=b) (pk:=λf w=>(f,((),(w,())))) (u1:=λa=>a.1) (u2:=λa=>a.2.2.1) (λ_ _=>rfl) (λ_ _=>rfl) hn hne al.length 9 (List (List Bool)×Unit) (λf w=>(f,())) 0 _ _ (by omega) (by omega) hf0 hw0
 refine⟨f,?_⟩
 unfold psbX
 rw[ow_ (by omega) (by omega),a0_,b7_]
 have hset:∀ {α:Type} {p:List α} {i m:Nat} {x y:α},p.length=i→(p++x::List.replicate m x).set i y=(p++[y])++List.replicate m x:=λ{α p i m x y} h=>by
  subst h
  rw[ta_,b0_];rfl
 refine kl_ al.length (λi z=>z=((i:Int),(((al.map λl=>List.replicate l.length false).take i++List.replicate (al.length - i) []),()))) (by simp) (λi z hi hz => ?_) (λz hz => ?_)
 ·subst hz
  obtain⟨l,hl⟩:=bi_ hi
  obtain⟨l1,l2⟩:=hne l (cl_ hl)
  obtain⟨m,hm⟩:∃ m,al.length - i=m+1:=⟨al.length - i - 1,by omega⟩
  have hml:(al.map λl=>List.replicate l.length false)[i]?=some (List.replicate l.length false):=by rw[d3_,hl];rfl
  have hpl:((al.map λl=>List.replicate l.length false).take i).length=i:=by rw[c4_,f2_];omega
  refine⟨_,?_,rfl⟩
  simp only[dlt hi,a5_,zr_ (ag_ hl)]
  rw[ow_ (by omega) (by omega),a0_,b7_,hm,g5_]
  have hat:((al.map λl=>List.replicate l.length false).take i++[]::List.replicate m [])[i]?=some ([]:List Bool):=by
   rw[b5_ (by omega),hpl,f3_];rfl
  simp only[ag_ hat,a0_,br_ (show Sm i from sm (by omega)),b7_]
  rw[hset hpl,fu_ hml,show al.length - (i+1)=m by omega]
 ·subst hz
  refine⟨_,by simp only[dnl,a4_];rfl,?_⟩
  rw[f3_,m2_,d6_,e0_ (by simp)]
  rw[ow_ (by omega) (by omega),a0_,b7_]
  have e':wlP b (λf w=>(f,((),(w,())))) (λa=>a.1) (λa=>a.2.2.1) [] al cd3 9 (List (List Bool)×Unit) (λf w=>(f,())) 0 (al.map λl=>List.replicate l.length false) (List.replicate al.length 0)=some (f,()):=e
  rw[e',a0_,ow_ (by omega) (by omega),a0_,b7_]
  refine kl_ al.length (λi z=>z=((i:Int),(f,(al.take i++List.replicate (al.length - i) [],())))) (by simp) (λi z hi hz => ?_) (λz hz => ?_)
  ·subst hz
   obtain⟨l,hl⟩:=bi_ hi
   obtain⟨l1,l2⟩:=hne l (cl_ hl)
   obtain⟨m,hm⟩:∃ m,al.length - i=m+1:=⟨al.length - i - 1,by omega⟩
   have hpl:(al.take i).length=i:=by rw[c4_];omega
   obtain⟨r,hr⟩:=bi_ (l:=f) (i:=i) (by rw[g1.n];omega)
   refine⟨_,?_,rfl⟩
   simp only[dlt hi,a5_,zr_ (ag_ hl)]
   refine kl_ l.length (λn z=>z=((n:Int),(f,(al.take i++l.take n::List.replicate m [],())))) (by rw[hm];rfl) (λn z hn' hz => ?_) (λz hz => ?_)
   ·subst hz
    obtain⟨c,hc⟩:=bi_ hn'
    obtain⟨r',hr',ht⟩:=g3 i l n (n4_ _) hl hn'
    rw[hr] at hr'
    cases hr'
    have hat:(al.take i++l.take n::List.replicate m [])[i]?=some (l.take n):=by
     rw[b5_ (by omega),hpl,f3_];rfl
    refine⟨_,?_,rfl⟩
    have hs2:∀ y:List (List Int),(al.take i++l.take n::List.replicate m []).set i y=al.take i++y::List.replicate m []:=λy=>by
     rw[i2_ _ _ (by omega),hpl,f3_];rfl
    simp only[dlt hn',a5_,ag_ hc,ag_ hr,ag_ ht,ag_ hat,a0_,ea_ (show Sm (l.take n).length from sm (by rw[c4_];omega)),c3_,i4_,b7_,hs2,br_ (show Sm n from sm (by omega)),fu_ hc]
    try rw[show f.set i r=f from br4 hr]
   ·subst hz
    refine⟨_,by simp only[dnl,a4_];rfl,?_⟩
    simp only[br_ (show Sm i from sm (by omega)),d4_]
    rw[fu_ hl,show al.length - (i+1)=m by omega,b0_]
    rfl
  ·subst hz
   refine⟨_,by simp only[dnl,a4_];rfl,?_⟩
   rw[f3_,m2_,d6_,d4_]
end
section
set_option maxRecDepth 10000
theorem se_ (a b c:Int):bo_ a b c=some (wi a b c,()):=at4 a b c
theorem wi_lock {n i:Nat} (hn:n≤30000) (hi:i<n):wi (i:Int) 0 (w64 ((n:Int) - 1))=true:=by
 unfold wi
 rw[ic_ (by omega) (by omega),b4_ (show (0:Int)≤(i:Int) by omega),b4_ (show (i:Int)≤(n:Int) - 1 by omega)]
 rfl
structure GV (r:al_):Prop where
 n1:1≤r.1.length
 n8:r.1.length≤8
 c:r.2.1.length=r.1.length
 k:r.2.2.1.length=r.1.length
 t:r.2.2.2=[]
 lk:∀ (i:Nat) l,r.1[i]?=some l→Lk l∧∃ c k,r.2.1[i]?=some c∧co_ l c=true∧r.2.2.1[i]?=some k∧k.length≤20∧∀ x ∈ k,ct_ l x=true∧tr x c=true
def alw (r:al_):List (List (List Int)):=(r.1.zip r.2.2.1).map λx=>rdg x.1 x.2
def pf_ (l:List (List (List Int))):Nat:=l.foldl (λs x=>s * x.length) 1
def big (r:al_):Bool:=decide (20000<pf_ (alw r))
section
variable {r:al_}
theorem mc_ (hr:GV r):(alw r).length=r.1.length:=by
 unfold alw
 rw[f2_,j0_,hr.k,Nat.min_self]
theorem vr_ {i:Nat} {l:aa_} {k:List ab_} (hl:r.1[i]?=some l) (hk:r.2.2.1[i]?=some k):(alw r)[i]?=some (rdg l k):=by
 unfold alw
 rw[d3_,show (r.1.zip r.2.2.1)[i]?=some (l,k) from e4_.2 ⟨hl,hk⟩]
 rfl
theorem bn7 (hr:GV r) {i:Nat} {a:List (List Int)} (h:(alw r)[i]?=some a):∃ l c k,r.1[i]?=some l∧Lk l∧r.2.1[i]?=some c∧co_ l c=true∧r.2.2.1[i]?=some k∧k.length≤20∧(∀ x ∈ k,ct_ l x=true∧tr x c=true)∧a=rdg l k:=by
 have hi:=an_ h
 rw[mc_ hr] at hi
 obtain⟨l,hl⟩:=bi_ hi
 obtain⟨h1,c,k,h2,h3,h4,h5,h6⟩:=hr.lk i l hl
 rw[vr_ hl h4] at h
 exact⟨l,c,k,hl,h1,h2,h3,h4,h5,h6,(a7_ h).symm⟩
theorem bb2 {l:aa_} {c:List Int} {k:List ab_} (hl:Lk l) (hc:co_ l c=true) (h:∀ x ∈ k,tr x c=true):c ∈ rdg l k:=by
 unfold rdg
 rw[e5_]
 exact⟨(tl_ hl).2 hc,e2_.2 h⟩
theorem alw_ne (hr:GV r):∀ a ∈ alw r,a≠[]∧a.length≤20000:=by
 intro a ha
 obtain⟨i,hi⟩:=f0_ ha
 obtain⟨l,c,k,_,h1,_,h3,_,_,h6,rfl⟩:=bn7 hr hi
 have:=cb7 h1 k
 exact⟨List.ne_nil_of_mem (bb2 h1 h3 λx hx=>(h6 x hx).2),by omega⟩
theorem vq_ (hr:GV r) {i:Nat} {a:List (List Int)} (h:(alw r)[i]?=some a):1≤a.length∧a.length≤10000:=by
 obtain⟨l,c,k,_,h1,_,h3,_,_,h6,rfl⟩:=bn7 hr h
 exact⟨m3_.2 (List.ne_nil_of_mem (bb2 h1 h3 λx hx=>(h6 x hx).2)),cb7 h1 k⟩
theorem qe_ {l:List (List (List Int))} {i:Nat} {a:List (List Int)} (h:l[i]?=some a):pf_ (l.take (i+1))=pf_ (l.take i) * a.length:=by
 unfold pf_
 rw[fu_ h,l5_]
 rfl
theorem ym_ {l:List (List (List Int))} (hp:∀ (i:Nat) a,l[i]?=some a→1≤a.length):∀ (k i:Nat),i+k≤l.length→pf_ (l.take i)≤pf_ (l.take (i+k))
 | 0,i,_=>b9_ _
 | k+1,i,h=>by
  obtain⟨a,ha⟩:=bi_ (l:=l) (i:=i+k) (by omega)
  have h1:=ym_ hp k i (by omega)
  rw[show i+(k+1)=(i+k)+1 by omega,qe_ ha]
  exact d9_ h1 (Nat.le_mul_of_pos_right _ (hp _ _ ha))
theorem bf1 (hr:GV r) {X υ:Type} {e:X} {body:(Int×(Int×Unit))→Option ((Int×(Int×Unit))⊕(Unit⊕X))} {K:(Unit⊕X)→Option υ} {x:Option υ}
  (hb:∀ (i m:Nat) l k,m≤20000→r.1[i]?=some l→r.2.2.1[i]?=some k→Lk l→k.length≤20→(∀ c ∈ k,ct_ l c=true)→body ((m:Int),((i:Int),()))=cond (decide (20000<w64 ((m:Int) * ((rdg l k).length:Int)))) (some (.inr (.inr e))) (some (.inl (w64 ((m:Int) * ((rdg l k).length:Int)),(((i+1:Nat):Int),())))))
  (he:∀ m:Int,body (m,((r.1.length:Int),()))=some (.inr (.inl ()))) (hk:K (cond (big r) (.inr e) (.inl ()))=x):(ae_ body (1,(0,()))).bind K=x:=by
 have hp:∀ (i:Nat) a,(alw r)[i]?=some a→1≤a.length:=λi a h=>(vq_ hr h).1
 have hn:=mc_ hr
 have gen:∀ (j i:Nat),i+j=r.1.length→pf_ ((alw r).take i)≤20000→ae_ body (((pf_ ((alw r).take i):Nat):Int),((i:Int),()))=some (cond (big r) (.inr e) (.inl ())):=by
  intro j
  induction j with
  | zero =>
   intro i hi hm
   obtain rfl:i=r.1.length:=by omega
   have:big r=false:=by
    unfold big
    rw[← hn,d4_] at hm
    exact c1_ (by omega)
   rw[this]
   exact fj_ (he _)
  | succ j ih =>
   intro i hi hm
   obtain⟨l,hl⟩:=bi_ (l:=r.1) (i:=i) (by omega)
   obtain⟨h1,c,k,h2,h3,h4,h5,h6⟩:=hr.lk i l hl
   have ha:=vr_ hl h4
   obtain⟨p1,p2⟩:=vq_ hr ha
   have hb':=hb i (pf_ ((alw r).take i)) l k hm hl h4 h1 h5 λc hc=>(h6 c hc).1
   have hmul:pf_ ((alw r).take i) * (rdg l k).length≤200000000:=m9_ hm p2
   have hw:w64 (((pf_ ((alw r).take i):Nat):Int) * ((rdg l k).length:Int))=((pf_ ((alw r).take (i+1)):Nat):Int):=by
    rw[qe_ ha,← Int.natCast_mul,ic_ (by omega) (by omega)]
   rw[hw] at hb'
   by_cases hc:20000<pf_ ((alw r).take (i+1))
   ·rw[b4_ (show (20000:Int)<((pf_ ((alw r).take (i+1)):Nat):Int) by omega),a5_] at hb'
    have hm2:=ym_ hp j (i+1) (by omega)
    rw[show i+1+j=(alw r).length by omega,d4_] at hm2
    have:big r=true:=b4_ (by omega)
    rw[this]
    exact fj_ hb'
   ·rw[c1_ (show ¬ (20000:Int)<((pf_ ((alw r).take (i+1)):Nat):Int) by omega),a4_] at hb'
    exact hm_ hb' (ih (i+1) (by omega) (by omega))
 have h0:pf_ ((alw r).take 0)=1:=rfl
 have:=gen r.1.length 0 (by omega) (by rw[h0];decide)
 rw[h0] at this
 refine e6_ (congrArg (λo=>Option.bind o K) this) ?_
 rw[a0_,hk]
noncomputable abbrev roomB (a0:al_):(Int×(((List (List (List Int)))×Unit)×Unit))→Option ((Int×(((List (List (List Int)))×Unit)×Unit))⊕(((List (List (List Int)))×Unit)×Unit)):=(λ(v9:(Int×(((List (List (List Int)))×Unit)×Unit))) =>
 (cond (decide (v9.1<(a0.1.length:Int)))
 ((at? a0.1 v9.1).bind λv10 =>
 ((at? a0.2.2.1 v9.1).bind λv11 =>
 ((bk_ v10 v11).bind λv12 =>
 ((push? (α:=(List (List Int))) v9.2.1.1 ([v12.1]:List (List (List Int)))).bind λv13 =>
 (some (inl ((w64 (v9.1+1)),((v13,()),()))))))))
 (some (inr ((v9.2.1.1,()),())))))
theorem ba8 (hr:GV r) {υ:Type} {K:(((List (List (List Int)))×Unit)×Unit)→Option υ} {x:Option υ} (hk:K ((alw r,()),())=x):(ae_ (roomB r) (0,(([],()),()))).bind K=x:=by
 have hn:=mc_ hr
 have h8:=hr.n8
 refine kl_ r.1.length (λi z=>z=((i:Int),(((alw r).take i,()),()))) (by simp) (λi z hi hz => ?_) (λz hz => ?_)
 ·subst hz
  obtain⟨l,hl⟩:=bi_ hi
  obtain⟨h1,c,k,h2,h3,h4,h5,h6⟩:=hr.lk i l hl
  refine⟨_,?_,rfl⟩
  simp only[roomB,dlt hi,a5_,ag_ hl,ag_ h4,a0_,vx_ h1 h5 λc hc=>(h6 c hc).1,ea_ (show Sm ((alw r).take i).length from sm (by rw[c4_];omega)),br_ (show Sm i from sm (by omega)),fu_ (vr_ hl h4)]
 ·subst hz
  refine⟨_,by simp only[roomB,dnl,a4_];rfl,?_⟩
  rw[← hn,d4_]
  exact hk
theorem fits_ok {i:Nat} {l:aa_} {c:List Int} (hl:r.1[i]?=some l) (h1:Lk l) (hc:r.2.1[i]?=some c) (hk:co_ l c=true) (x:ab_):dx_ r (i:Int) x=some (cond (ct_ l x) (tr x c) false,()):=by
 unfold dx_
 rw[ag_ hl,a0_,ag_ hc,a0_,sg_ h1 x hk,a0_]
 simp only
 cases ct_ l x<;>rfl
theorem ar8 (hr:GV r):ca_ r=some (0,()):=by
  have n1:=hr.n1
  have n8:=hr.n8
  unfold ca_
  rw[se_,a0_]
  have hw:wi (r.1.length:Int) 1 8=true:=by
    unfold wi
    rw[b4_ (show (1:Int)≤(r.1.length:Int) by omega),b4_ (show (r.1.length:Int)≤8 by omega)]
    rfl
  simp only[hw,e3_,a4_,hr.c,hr.k,hr.t,e8_,h9_,show decide ((10:Int)<((0:Nat):Int))=false from rfl,a0_]
  refine jm_ r.1.length (λi=>((i:Int),())) rfl (λi hi => ?_) (by simp only[dnl,a4_];rfl) ?_
  · obtain⟨l,hl⟩:=bi_ hi
    obtain⟨h1,c,k,h2,h3,h4,h5,h6⟩:=hr.lk i l hl
    simp only[dlt hi,a5_,ag_ hl,ag_ h2,ag_ h4,a0_]
    rw[ga_,a0_,h3,kp_.2 h1]
    simp only[h8_,show ((0:Int) != 0)=false from rfl,a4_,a0_,c1_ (show ¬ (20:Int)<(k.length:Int) by omega)]
    rw[show ((ae_ (ρ:=(Unit⊕(Bool×Unit))) (λ(v9:(Int×Unit)) =>
 (cond (decide (v9.1<(k.length:Int)))
 ((at? k v9.1).bind λv10 =>
 ((dx_ r (i:Int) v10).bind λv11 =>
 (cond (!v11.1)
 (some (inr (inr ((decide (0≤v9.1)),()))))
 (some (inl ((w64 (v9.1+1)),()))))))
 (some (inr (inl ()))))) (0,())).bind λv12 =>
 (cc_ v12 (λv13=>(some ((decide ((0:Int)≤(-1))),())))
 (λv14=>(some v14))))=some (false,()) from ?_]
    · simp only[a0_,a4_,br_ (show Sm i from sm (by omega))]
    · refine jm_ k.length (λi=>((i:Int),())) rfl (λj hj => ?_) (by simp only[dnl,a4_];rfl) rfl
      obtain⟨x,hx⟩:=bi_ hj
      obtain⟨x1,x2⟩:=h6 x (cl_ hx)
      simp only[dlt hj,a5_,ag_ hx,a0_,fits_ok hl h1 h2 h3,x1,x2,e3_,a4_,br_ (show Sm j from sm (by omega))]
  · simp only[hs_]
    rw[show ((ae_ (ρ:=(Unit⊕(Bool×Unit))) (λ(v19:(Int×Unit)) =>
 (cond (decide (v19.1<((0:Nat):Int)))
 ((at? ([]:List bq_) v19.1).bind λv20 =>
 ((kg_ r v20).bind λv21 =>
 (cond (!v21.1)
 (some (inr (inr ((decide (0≤v19.1)),()))))
 (some (inl ((w64 (v19.1+1)),()))))))
 (some (inr (inl ()))))) (0,())).bind λv22 =>
 (cc_ v22 (λv23=>(some ((decide ((0:Int)≤(-1))),())))
 (λv24=>(some v24))))=some (false,()) from zq_ (r:=inl ()) rfl rfl]
    rfl
theorem aj2 (hr:GV r) {i:Nat} {a:List (List Int)} (ha:(alw r)[i]?=some a):fz_ r (i:Int)=some (cond (big r) ([],(2,())) (a,(0,()))):=by
 have n8:=hr.n8
 have hi:=an_ ha
 have hn:=mc_ hr
 unfold fz_
 rw[ar8 hr,a0_]
 simp only[show ((0:Int) != 0)=false from rfl,a4_]
 refine bf1 hr (e:=(([],(2,())):List (List Int)×(Int×Unit))) (λi m l k hm hl hk h1 h2 h3 => ?_) (λm=>by simp only[dnl,a4_]) ?_
 ·simp only[dlt (an_ hl),a5_,ag_ hl,ag_ hk,a0_]
  rw[sh_ h1 h2 h3,a0_]
  simp only[show ((0:Int) != 0)=false from rfl,a4_,br_ (show Sm i from sm (by have:=an_ hl;omega))]
 ·cases big r with
  | true=>rfl
  | false =>
   simp only[a4_,hs_]
   refine ba8 hr ?_
   simp only
   rw[se_,a0_,wi_lock (by omega) (by omega)]
   simp only[e3_,a0_,a4_]
   rw[hr.t,← hn]
   obtain⟨f,e⟩:=psbX_ok (b:=true) (al:=alw r) (by omega) (alw_ne hr) (λv388:List (List Bool)×(List (List (List Int))×Unit)=>((at? v388.2.1 (i:Int)).bind λv389=>(some (v389,((0:Int),())))))
   rw[e]
   simp only[ag_ ha,a0_]
end
end
section
set_option maxRecDepth 10000
theorem wi_in {n i:Nat} (hn:n≤30000) (hi:i<n):wi (i:Int) 0 (w64 ((n:Int) - 1))=true:=by
 unfold wi
 rw[ic_ (by omega) (by omega),b4_ (show (0:Int)≤(i:Int) by omega),b4_ (show (i:Int)≤(n:Int) - 1 by omega)]
 rfl
theorem ug_ {g:ac_} (hg:SmG g) (h0:di_ g=0) {p:ai_} (hv:VP g p) {q:Nat} (hq:q<g.2.1.length):fy_ g p (q:Int)=some (0,()):=by
 have hlk:=hg.lk
 unfold fy_
 rw[pd_ hg h0 hv,a0_]
 simp only[show ((0:Int) != 0)=false from rfl,a4_]
 unfold kr_
 rw[hn_,a0_,wi_in (by omega) hq]
 rfl
abbrev cluF (lock:Int) (x:dd_×Bool):Option ab_:=cond (x.1.2.2.1==lock&&x.2) (some x.1.2.2.2.2) none
structure Nts (g:ac_) (d:List Bool) (lock:Int) (q:List Nat):Prop where
 n:q.length≤20
 b:∀ e ∈ q,e<g.2.2.2.1.length
 c:aw7 g q=zk_ g d lock
theorem aj5 {g:ac_} (hg:SmG g) (h0:di_ g=0) {p:ai_} (hv:VP g p) {k:Nat} (hk:k<g.2.1.length):∃ q:List Nat,ii_ g p (k:Int)=some (q.map (λe:Nat=>(e:Int)),(0,()))∧Nts g p.2 (k:Int) q:=by
 have hn:=hg.nt
 have hrd:=hv.rd
 suffices h:∃ y,ii_ g p (k:Int)=some y∧∃ q:List Nat,y=(q.map (λe:Nat=>(e:Int)),(0,()))∧Nts g p.2 (k:Int) q by
  obtain⟨y,h,q,rfl,h2⟩:=h
  exact⟨q,h,h2⟩
 unfold ii_
 rw[ug_ hg h0 hv hk,a0_]
 simp only[show ((0:Int) != 0)=false from rfl,a4_]
 refine qr_ g.2.2.2.1.length (λi (z:(List Int)×((List ab_)×(Int×Unit)))=>∃ (q:List Nat) (c:List ab_),z=(q.map (λe:Nat=>(e:Int)),(c,((i:Int),())))∧q.length≤i∧c.length≤i∧(∀ e ∈ q,e<g.2.2.2.1.length)∧aw7 g q=((g.2.2.2.1.zip p.2).take i).filterMap (cluF (k:Int)))
  ⟨[],[],rfl,b9_ _,b9_ _,(λe he=>by cases he),rfl⟩ (λi z hi hz => ?_) (λz hz => ?_)
 ·obtain⟨q,c,rfl,hq,hc,hb,he⟩:=hz
  obtain⟨x,hx⟩:=bi_ hi
  obtain⟨y,hy⟩:=bi_ (l:=p.2) (i:=i) (by omega)
  have hzip:(g.2.2.2.1.zip p.2)[i]?=some (x,y):=by rw[e4_];exact⟨hx,hy⟩
  have hstep:((g.2.2.2.1.zip p.2).take (i+1)).filterMap (cluF (k:Int))=((g.2.2.2.1.zip p.2).take i).filterMap (cluF (k:Int))++cond (x.2.2.1==(k:Int)&&y) [x.2.2.2.2] []:=by
   rw[fu_ hzip,l9_]
   cases hc:(x.2.2.1==(k:Int)&&y) with
   | false=>simp[cluF,hc]
   | true=>simp[cluF,hc]
  have hm:(q.map (λe:Nat=>(e:Int))).length≤i:=by rw[f2_];exact hq
  simp only[dlt hi,a5_,ag_ hx,ag_ hy,a0_,br_ (show Sm i from sm (by omega))]
  cases hcc:(x.2.2.1==(k:Int)&&y) with
  | false =>
   refine⟨(q.map (λe:Nat=>(e:Int)),(c,(((i+1:Nat):Int),()))),?_,q,c,rfl,by omega,by omega,hb,by rw[hstep,hcc,a4_,d6_];exact he⟩
   cases h1:x.2.2.1==(k:Int) with
   | false=>simp only[a4_,a0_]
   | true =>
    rw[h1,c6_] at hcc
    subst hcc
    simp only[a5_,a4_,a0_]
  | true =>
   have hcc2:=hcc
   rw[a1_] at hcc2
   obtain⟨h1,rfl⟩:=hcc2
   refine⟨((q++[i]).map (λe:Nat=>(e:Int)),(c++[x.2.2.2.2],(((i+1:Nat):Int),()))),?_,q++[i],_,rfl,by simp;omega,by simp;omega,λe he => ?_,?_⟩
   ·simp only[h1,a5_,a0_,ea_ (show Sm (q.map (λe:Nat=>(e:Int))).length from sm (by omega)),ea_ (show Sm c.length from sm (by omega)),n8_,g2_,List.map_nil]
   ·rcases d8_.1 he with h | h
    ·exact hb e h
    ·rw[m6_.1 h];exact hi
   ·rw[hstep,hcc,a5_,← he]
    unfold aw7
    rw[l9_]
    simp[hx]
 ·obtain⟨q,c,rfl,hq,hc,hb,he⟩:=hz
  refine⟨_,by simp only[dnl,a4_];rfl,_,rfl,q,rfl,⟨by omega,hb,?_⟩⟩
  rw[he,e0_ (by rw[j0_];omega)]
  rfl
theorem bk3 {g:ac_} {q:List Nat} {j e:Nat} {n:dd_} (h:q[j]?=some e) (hn:g.2.2.2.1[e]?=some n):aw7 g (q.take (j+1))=aw7 g (q.take j)++[n.2.2.2.2]:=by
 unfold aw7
 rw[fu_ h,l9_]
 simp[hn]
theorem by5 (g:ac_) (q:List Nat):(aw7 g q).length≤q.length:=n3_ ..
noncomputable def knw (g:ac_) (d:List Bool):List (List ab_):=(List.range g.2.1.length).map λi=>zk_ g d ((i:Nat):Int)
theorem yr_ (g:ac_) (d:List Bool):(knw g d).length=g.2.1.length:=by simp[knw]
theorem al0 {g:ac_} {d:List Bool} {i:Nat} (hi:i<g.2.1.length):(knw g d)[i]?=some (zk_ g d (i:Int)):=by
 unfold knw
 rw[d3_,j3_ hi]
 rfl
abbrev eR:al_:=([],([],([],[])))
noncomputable def frm (g:ac_) (p:ai_):al_×(Int×Unit) :=
 cond (pk g p != 0) (eR,(pk g p,())) (cond ((g.2.1.length:Int)==0) (eR,(70,())) ((g.2.1,(g.2.2.1,(knw g p.2,[]))),(0,())))
theorem aw0 {c:ab_} (h:c.2.2.2.2.2.1.length≤30000):ce_ c=some (c,()):=by
 unfold ce_
 rw[bs_ (sm h)]
 rfl
theorem bp9 {g:ac_} {i:Nat} {k:List Int} (hk:g.2.2.1[i]?=some k):g.2.2.1.take (i+1)=g.2.2.1.take i++[k]:=fu_ hk
theorem wy_ {g:ac_} (hg:SmG g) (p:ai_):ij_ g p=some (frm g p):=by
 unfold ij_ frm
 obtain⟨lo,ho⟩:=aj4 hg p
 rw[ho,a0_]
 simp only
 cases hk:pk g p != 0 with
 | true=>rfl
 | false =>
 obtain⟨h0,hv⟩:=pk_ok hk
 have ok:=ej_ h0
 have hlk:=hg.lk
 have hnt:=hg.nt
 simp only[a4_]
 cases hl0:(g.2.1.length:Int)==0 with
 | true=>rfl
 | false =>
 simp only[a4_]
 rw[bs_ (sm (by omega)),a0_,ow_ (by omega) (by omega),a0_,b7_]
 have hcd:=ok.cd
 refine kl_ g.2.1.length (λi z=>z=((i:Int),((knw g p.2).take i++List.replicate (g.2.1.length - i) [],(([],([],([],([],())))),((g.2.2.1.take i,()),()))))) (by simp) (λi z hi hz => ?_) (λz hz => ?_)
 ·subst hz
  obtain⟨k,hkc⟩:=bi_ (l:=g.2.2.1) (i:=i) (by omega)
  have hk10:=hg.cdn k (cl_ hkc)
  obtain⟨q,hq,hN⟩:=aj5 hg h0 hv hi
  have ht:(g.2.2.1.take i).length≤30000:=by rw[c4_];omega
  simp only[dlt hi,a5_,ag_ hkc,a0_,bs_ (show Sm k.length from sm (by omega)),ea_ (show Sm (g.2.2.1.take i).length from sm ht)]
  rw[hq,a0_]
  simp only[e8_,a4_]
  have hkl:((knw g p.2).take i).length=i:=by rw[c4_,yr_];omega
  obtain⟨m,hm⟩:∃ m,g.2.1.length - i=m+1:=⟨g.2.1.length - i - 1,by omega⟩
  refine⟨_,?_,rfl⟩
  refine kl_ q.length (λj z=>z=((j:Int),(((knw g p.2).take i++aw7 g (q.take j)::List.replicate m []),()))) (by rw[hm,g5_,List.take_zero];rfl) (λj z hj hz => ?_) (λz hz => ?_)
  ·subst hz
   obtain⟨e,he⟩:=bi_ hj
   obtain⟨n,hn⟩:=bi_ (hN.b e (cl_ he))
   have hqm:(q.map (λe:Nat=>(e:Int)))[j]?=some (e:Int):=by rw[d3_,he];rfl
   have hn10:=(hg.ntn n (cl_ hn)).2.2
   have hat:((knw g p.2).take i++aw7 g (q.take j)::List.replicate m [])[i]?=some (aw7 g (q.take j)):=by
    rw[b5_ (by omega),hkl,f3_];rfl
   have hci:(aw7 g (q.take j)).length≤30000:=by
    have:=by5 g (q.take j)
    have:=hN.n
    rw[c4_] at *
    omega
   refine⟨_,?_,rfl⟩
   simp only[f2_,dlt hj,a5_,ag_ hqm,a0_,ag_ hat,ag_ hn,aw0 (show n.2.2.2.2.2.2.2.2.2.1.length≤30000 by omega),ea_ (sm hci),c3_,i4_,br_ (show Sm j from sm (by have:=hN.n;omega)),b7_,bk3 he hn]
   have hset:∀ (y:List ab_),((knw g p.2).take i++aw7 g (q.take j)::List.replicate m []).set i y=(knw g p.2).take i++y::List.replicate m []:=λy=>by
    rw[i2_ _ _ (by omega),hkl,f3_];rfl
   rw[hset]
  ·subst hz
   refine⟨_,by simp only[f2_,dnl,a4_];rfl,?_⟩
   simp only[br_ (show Sm i from sm (by omega)),d4_]
   rw[hN.c,fu_ (al0 hi),bp9 hkc,show g.2.1.length - (i+1)=m by omega,b0_]
   rfl
 ·subst hz
  refine⟨_,by simp only[dnl,a4_];rfl,?_⟩
  simp only[cc_,f3_,m2_,d6_]
  rw[e0_ (show g.2.2.1.length≤_ by omega),e0_ (show (knw g p.2).length≤_ by rw[yr_];exact b9_ _)]
end
section
set_option maxRecDepth 10000
structure SmRi (r:al_):Prop where
 l:r.1.length≤30000
 t:r.2.2.2.length≤30000
 c:r.2.1.length≤30000
 k:r.2.2.1.length≤30000
 cn:∀ x ∈ r.2.1,x.length≤30000
 kn:∀ x ∈ r.2.2.1,x.length≤30000∧∀ c ∈ x,c.2.2.2.2.2.1.length≤30000
theorem bw1 {g:ac_} (hg:SmG g) {d:List Bool} {i:Nat} {c:ab_} (h:c ∈ zk_ g d (i:Int)):c.2.2.2.2.2.1.length≤10:=by
 obtain⟨i,n,hn,_,rfl⟩:=zi_ h
 exact (hg.ntn n (cl_ hn)).2.2
theorem knw_sm {g:ac_} (hg:SmG g) {d:List Bool} {x:List ab_} (h:x ∈ knw g d):x.length≤30000∧∀ c ∈ x,c.2.2.2.2.2.1.length≤30000:=by
 obtain⟨i,hi,rfl⟩:=d5_.1 h
 exact⟨by have:=zj_ hg d (i:Int);omega,λc hc=>by have:=bw1 hg hc;omega⟩
theorem frm_sm {g:ac_} (hg:SmG g) (d:List Bool):SmRi (g.2.1,(g.2.2.1,(knw g d,[]))):=by
 have hlk:=hg.lk
 have hcd:=hg.cd
 exact⟨show g.2.1.length≤30000 by omega,n4_ _,show g.2.2.1.length≤30000 by omega,by show (knw g d).length≤30000;rw[yr_];omega,λx hx=>by have:=hg.cdn x hx;omega,λx hx=>knw_sm hg hx⟩
end
section
set_option maxRecDepth 10000
theorem nt_tr {g:ac_} (ok:OkG g) {i:Nat} {n:dd_} (hn:g.2.2.2.1[i]?=some n) {l:aa_} {k:List Int} (h0:0≤n.2.2.1) (hl:at? g.2.1 n.2.2.1=some l) (hk:at? g.2.2.1 n.2.2.1=some k):ct_ l n.2.2.2.2=true∧tr n.2.2.2.2 k=true:=by
 have h:=(ok.nt i n hn).1
 unfold cc0 at h
 simp only[a1_] at h
 have h5:=h.2.2.2.2
 rw[c1_ (by omega),hl,hk] at h5
 simp only[a4_] at h5
 have h5:clOk l n.2.2.2.2 k=true:=h5
 unfold clOk at h5
 rw[a1_] at h5
 exact h5
noncomputable abbrev ai2 (g:ac_) (d:List Bool):al_:=(g.2.1,(g.2.2.1,(knw g d,[])))
theorem gv_ridl {g:ac_} (hg:SmG g) (h0:di_ g=0) (d:List Bool) (hn:1≤g.2.1.length):GV (ai2 g d):=by
 have ok:=ej_ h0
 refine⟨hn,ok.n8,ok.cd,yr_ g d,rfl,λi l hl => ?_⟩
 have hl:g.2.1[i]?=some l:=hl
 obtain⟨h1,c,hc,h2⟩:=ok.lk i l hl
 refine⟨h1,c,zk_ g d (i:Int),hc,h2,al0 (an_ hl),zj_ hg d (i:Int),λx hx => ?_⟩
 obtain⟨j,n,hn,e,rfl⟩:=zi_ hx
 exact nt_tr ok hn (by omega) (by rw[e];exact ag_ hl) (by rw[e];exact ag_ hc)
theorem cd1 {g:ac_} (h0:di_ g=0) {p:ai_} (hv:VP g p) (hn:1≤g.2.1.length):frm g p=(ai2 g p.2,(0,())):=by
 unfold frm
 rw[VP_pk h0 hv,show ((g.2.1.length:Int)==0)=false from m1_.2 (by omega)]
 rfl
theorem rdg_sub {l:aa_} {k k':List ab_} (h:∀ x ∈ k,x ∈ k'):∀ c ∈ rdg l k',c ∈ rdg l k:=by
 intro c hc
 unfold rdg at hc ⊢
 rw[e5_] at hc ⊢
 exact⟨hc.1,e2_.2 λx hx=>e2_.1 hc.2 x (h x hx)⟩
theorem ae1 {α:Type} {p q:α→Bool}:∀ {l:List α},(∀ x ∈ l,p x=true→q x=true)→(l.filter p).length≤(l.filter q).length
 | [],_=>b9_ _
 | a::l,h=>by
  have ih:=ae1 (l:=l) (p:=p) (q:=q) λx hx=>h x (o2_ _ hx)
  have ha:=h a (by simp)
  cases hp:p a with
  | false =>
   rw[j5_ (by simp[hp])]
   cases hq:q a with
   | false=>rw[j5_ (by simp[hq])];exact ih
   | true=>rw[h5_ (by simp[hq]),c8_];omega
  | true =>
   rw[h5_ (by simp[hp]),h5_ (by simp[ha hp]),c8_,c8_]
   omega
theorem rdg_le {l:aa_} {k k':List ab_} (h:∀ x ∈ k,x ∈ k'):(rdg l k').length≤(rdg l k).length:=by
 unfold rdg
 exact ae1 λc _ hc=>e2_.2 λx hx=>e2_.1 hc x (h x hx)
theorem be0 {a b:List (List (List Int))} (hn:a.length=b.length) (h:∀ (i:Nat) x y,a[i]?=some x→b[i]?=some y→x.length≤y.length):∀ i,pf_ (a.take i)≤pf_ (b.take i)
 | 0=>b9_ _
 | i+1=>by
  by_cases hi:i<a.length
  ·obtain⟨x,hx⟩:=bi_ hi
   obtain⟨y,hy⟩:=bi_ (l:=b) (i:=i) (by omega)
   rw[qe_ hx,qe_ hy]
   exact m9_ (be0 hn h i) (h i x y hx hy)
  ·have:=be0 hn h i
   rw[e0_ (by omega),e0_ (by omega)] at this ⊢
   exact this
theorem bk2 {g:ac_} {d e:List Bool} (h:∀ (i:Nat),d[i]?=some true→e[i]?=some true) (lock:Int):∀ x ∈ zk_ g d lock,x ∈ zk_ g e lock:=by
 intro x hx
 unfold zk_ at hx ⊢
 rw[List.mem_filterMap] at hx ⊢
 obtain⟨y,hy,hf⟩:=hx
 obtain⟨i,hi⟩:=f0_ hy
 obtain⟨n,b⟩:=y
 rw[e4_] at hi
 obtain⟨h1,h2⟩:=hi
 cases b with
 | false=>simp at hf
 | true=>exact⟨(n,true),cl_ (e4_.2 ⟨h1,h i h2⟩),hf⟩
theorem step_rd {g:ac_} {p q:ai_} {m:aj_} (hv:VP g p) (h:stepP g p m=some q):∀ (i:Nat),p.2[i]?=some true→q.2[i]?=some true:=by
 intro i hi
 unfold stepP at h
 cases hc:okM g p.2 m&&lgl g.1 p.1 m with
 | false=>rw[hc] at h;cases h
 | true =>
  rw[hc,a5_] at h
  cases hs:aa3 g.1 p.1 m with
  | none=>rw[hs] at h;cases h
  | some s =>
   rw[hs] at h
   cases h
   obtain⟨n,hn⟩:=bi_ (l:=g.2.2.2.1) (i:=i) (by rw[← hv.rd];exact an_ hi)
   show (rdN g s p.2)[i]?=some true
   rw[bb3 hn hi]
   rfl
theorem ca1 {g:ac_} {d:List Bool} {i:Nat} {l:aa_} (hl:g.2.1[i]?=some l):(alw (ai2 g d))[i]?=some (rdg l (zk_ g d (i:Int))):=vr_ (r:=ai2 g d) hl (al0 (an_ hl))
theorem bn6 {g:ac_} {d e:List Bool} (h:∀ (i:Nat),d[i]?=some true→e[i]?=some true) {i:Nat} {x y:List (List Int)} (hx:(alw (ai2 g e))[i]?=some x) (hy:(alw (ai2 g d))[i]?=some y):x.length≤y.length∧∀ c ∈ x,c ∈ y:=by
 have hi:i<g.2.1.length:=by
  have:=an_ hx
  unfold alw at this
  rw[f2_,j0_] at this
  have h2:i<min g.2.1.length (knw g e).length:=this
  omega
 obtain⟨l,hl⟩:=bi_ hi
 rw[ca1 hl] at hx hy
 cases hx
 cases hy
 exact⟨rdg_le (bk2 h _),rdg_sub (bk2 h _)⟩
theorem ab2 (a b c:Int):ds_ a b c=some (wi a b c,()):=at4 a b c
theorem bw5 {l:aa_} (h1:Lk l) {c:List Int} (hk:co_ l c=true) {x:ab_} (hs:x.2.2.2.2.2.1.length≤30000) (ho:ct_ l x=true) (ht:tr x c=true):jg_ l c x=some (true,()):=by
 unfold jg_
 rw[sl_ h1 (sm hs),a0_,ho]
 simp only[a5_,show ((0:Int)==0)=true from rfl]
 rw[(ok_ h1 ho hk).1,a0_,ht]
section
variable {r:al_}
theorem ai7 (hr:GV r) (hs:SmRi r):jh_ r=some (0,()):=by
 have n1:=hr.n1
 have n8:=hr.n8
 unfold jh_
 rw[ab2,a0_]
 have hw:wi (r.1.length:Int) 1 8=true:=by
  unfold wi
  rw[b4_ (show (1:Int)≤(r.1.length:Int) by omega),b4_ (show (r.1.length:Int)≤8 by omega)]
  rfl
 simp only[hw,e3_,a4_,hr.c,hr.k,hr.t,e8_,h9_,show decide ((10:Int)<((0:Nat):Int))=false from rfl,a0_]
 refine jm_ r.1.length (λi=>((i:Int),())) rfl (λi hi => ?_) (by simp only[dnl,a4_];rfl) ?_
 ·obtain⟨l,hl⟩:=bi_ hi
  obtain⟨h1,c,k,h2,h3,h4,h5,h6⟩:=hr.lk i l hl
  have hks:=(hs.kn k (cl_ h4)).2
  simp only[dlt hi,a5_,ag_ hl,ag_ h2,ag_ h4,a0_]
  rw[sk_,a0_,h3,kp_.2 h1]
  simp only[h8_,show ((0:Int) != 0)=false from rfl,a4_,a0_,c1_ (show ¬ (20:Int)<(k.length:Int) by omega)]
  refine jm_ (r:=inl ()) k.length (λi=>((i:Int),())) rfl (λj hj => ?_) (by simp only[dnl,a4_]) ?_
  ·obtain⟨x,hx⟩:=bi_ hj
   obtain⟨x1,x2⟩:=h6 x (cl_ hx)
   simp only[dlt hj,a5_,ag_ hx,a0_,bw5 h1 h3 (hks x (cl_ hx)) x1 x2,e3_,a4_,br_ (show Sm j from sm (by omega))]
  ·simp only[hs_,br_ (show Sm i from sm (by omega))]
 ·simp only[hs_]
  exact zq_ (r:=inl ()) rfl rfl
theorem bw0 (hr:GV r) (hs:SmRi r):∃ b,gy_ r=some (b,())∧(b=false→pf_ (alw r)≤200):=by
 have hn:=mc_ hr
 have n8:=hr.n8
 suffices h:∃ y,gy_ r=some y∧∃ b,y=(b,())∧(b=false→pf_ (alw r)≤200) by
  obtain⟨y,h,b,rfl,h2⟩:=h
  exact⟨b,h,h2⟩
 unfold gy_
 rw[ai7 hr hs,a0_]
 simp only[show ((0:Int) != 0)=false from rfl,a4_]
 refine al7 (I:=λs=>∃ i:Nat,s=(((pf_ ((alw r).take i):Nat):Int),((i:Int),()))∧i≤r.1.length∧pf_ ((alw r).take i)≤200) (μ:=λs=>r.1.length - s.2.1.toNat) ⟨0,rfl,n4_ _,show (1:Nat)≤200 by omega⟩ ?_
 rintro s ⟨i,rfl,hi,hm⟩
 by_cases hlt:i<r.1.length
 ·obtain⟨l,hl⟩:=bi_ hlt
  obtain⟨h1,c,k,h2,h3,h4,h5,h6⟩:=hr.lk i l hl
  have ha:=vr_ hl h4
  obtain⟨p1,p2⟩:=vq_ hr ha
  have hpos:1≤pf_ ((alw r).take i):=by
   have:=ym_ (λi a h=>(vq_ hr h).1) i 0 (by omega)
   rw[a8_] at this
   exact this
  simp only[dlt hlt,a5_,ag_ hl,ag_ h4,a0_]
  rw[bb1 h1 h5 λc hc=>(h6 c hc).1,a0_]
  have hmin:aw6 201 ((rdg l k).length:Int)=((min 201 (rdg l k).length:Nat):Int):=by
   unfold aw6
   split<;>omega
  have hle:pf_ ((alw r).take i) * min 201 (rdg l k).length≤200 * 201:=m9_ hm (Nat.min_le_left _ _)
  simp only[hmin]
  rw[← Int.natCast_mul,ic_ (by omega) (by omega)]
  by_cases hc:200<pf_ ((alw r).take i) * min 201 (rdg l k).length
  ·rw[b4_ (show (200:Int)<((pf_ ((alw r).take i) * min 201 (rdg l k).length:Nat):Int) by omega),a5_]
   exact⟨_,rfl,.inr ⟨_,(true,()),rfl,rfl,true,rfl,λh=>by cases h⟩⟩
  ·rw[c1_ (show ¬ (200:Int)<((pf_ ((alw r).take i) * min 201 (rdg l k).length:Nat):Int) by omega),a4_]
   have hmn:min 201 (rdg l k).length=(rdg l k).length:=by
    have:min 201 (rdg l k).length≤pf_ ((alw r).take i) * min 201 (rdg l k).length:=Nat.le_mul_of_pos_left _ hpos
    omega
   rw[hmn] at hc ⊢
   rw[← qe_ ha] at hc ⊢
   refine⟨_,rfl,.inl ⟨_,rfl,⟨i+1,by rw[br_ (show Sm i from sm (by omega))],by omega,by omega⟩,?_⟩⟩
   show r.1.length - (w64 ((i:Int)+1)).toNat<r.1.length - ((i:Int)).toNat
   rw[br_ (show Sm i from sm (by omega))]
   omega
 ·obtain rfl:i=r.1.length:=by omega
  simp only[dnl,a4_]
  refine⟨_,rfl,.inr ⟨_,(false,()),rfl,rfl,false,rfl,λ_ => ?_⟩⟩
  rwa [← hn,d4_] at hm
theorem ce4 (hr:GV r) (hb:big r=false):jy_ r=some (alw r,(true,())):=by
 have hn:=mc_ hr
 have n8:=hr.n8
 unfold jy_
 refine kl_ r.1.length (λi z=>z=((alw r).take i,((i:Int),()))) (by simp) (λi z hi hz => ?_) (λz hz => ?_)
 ·subst hz
  obtain⟨a,ha⟩:=bi_ (l:=alw r) (i:=i) (by omega)
  refine⟨_,?_,rfl⟩
  simp only[dlt hi,a5_]
  rw[aj2 hr ha,hb,a4_,a0_]
  simp only[e8_,a4_,ea_ (show Sm ((alw r).take i).length from sm (by rw[c4_];omega)),a0_,br_ (show Sm i from sm (by omega)),fu_ ha]
 ·subst hz
  refine⟨_,by simp only[dnl,a4_];rfl,?_⟩
  simp only[hs_]
  rw[← hn,d4_]
end
theorem bh0 {l:List (List Int)} (hl:l.length≤20000) (hs:∀ x ∈ l,x.length≤30000) {c:List Int} (hc:c ∈ l):jj_ l c=some (true,()):=by
 unfold jj_
 refine of_ex (al7 (I:=λs=>∃ i:Nat,s=((i:Int),())∧i≤l.length∧c ∈ l.drop i) (μ:=λs=>l.length - s.1.toNat) ⟨0,rfl,n4_ _,hc⟩ ?_)
 rintro s ⟨i,rfl,hi,hm⟩
 have hlt:i<l.length:=by
  rcases Nat.lt_or_ge i l.length with h | h
  ·exact h
  ·rw[List.drop_of_length_le h] at hm;cases hm
 obtain⟨x,hx⟩:=bi_ hlt
 simp only[dlt hlt,a5_,ag_ hx,a0_,ou_ (sm (hs x (cl_ hx)))]
 by_cases e:x=c
 ·rw[b4_ e,a5_]
  exact⟨_,rfl,.inr ⟨_,_,rfl,rfl,rfl⟩⟩
 ·rw[c1_ e,a4_]
  refine⟨_,rfl,.inl ⟨_,rfl,⟨i+1,by rw[br_ (show Sm i from sm (by omega))],by omega,?_⟩,?_⟩⟩
  ·have hd:l.drop i=x::l.drop (i+1):=by
    rw[k6_ hlt]
    rw[a6_ hlt] at hx
    rw[a7_ hx]
   rw[hd] at hm
   rcases c9_.1 hm with h | h
   ·exact absurd h.symm e
   ·exact h
  ·show l.length - (w64 ((i:Int)+1)).toNat<l.length - ((i:Int)).toNat
   rw[br_ (show Sm i from sm (by omega))]
   omega
end
section
set_option maxRecDepth 10000
theorem pick_ok {x:Int} {n:Nat} (h1:1≤n) (h2:n≤30000):∃ j:Nat,j<n∧(w64 (x.tmod (n:Int)+(n:Int))).tmod (n:Int)=(j:Int):=by
 have a1:=Int.tmod_lt_of_pos x (show (0:Int)<(n:Int) by omega)
 have a2:=Int.lt_tmod_of_pos x (show (0:Int)<(n:Int) by omega)
 rw[ic_ (by omega) (by omega)]
 have b1:=Int.tmod_lt_of_pos (x.tmod (n:Int)+(n:Int)) (show (0:Int)<(n:Int) by omega)
 have b2:=Int.tmod_nonneg (n:Int) (show (0:Int)≤x.tmod (n:Int)+(n:Int) by omega)
 exact⟨((x.tmod (n:Int)+(n:Int)).tmod (n:Int)).toNat,by omega,by omega⟩
noncomputable abbrev alS (g:ac_) (i:Nat) (p:ai_):Int×(((List Int)×((List Int)×((List Int)×((List Bool)×Unit))))×(((List aa_)×((List (List Int))×((List (List ab_))×((List bq_)×Unit))))×Unit)) :=
 ((i:Int),((p.1.1,(p.1.2.1,(p.1.2.2,(p.2,())))),((g.2.1,(g.2.2.1,(knw g p.2,([],())))),())))
theorem cd9 {r:al_} (h:pf_ (alw r)≤200):big r=false:=c1_ (by omega)
theorem bs5 {l:aa_} (h1:Lk l) {k:List ab_}:∀ c ∈ rdg l k,c.length≤30000:=by
 intro c hc
 have h2:=h1.w2
 unfold rdg at hc
 rw[e5_] at hc
 have:=(gk_.1 ((tl_ h1).1 hc.1)).1
 omega
theorem zt_ (hw:cp_=some (true,())) (g:ac_) (a b:Int):er_ g a b=some (true,()):=by
 obtain⟨bf,e,hb⟩:=bf7 g
 unfold er_
 rw[e,a0_]
 cases bf with
 | true=>simp only[a5_,hw,a0_]
 | false =>
 have hg:=hb rfl
 simp only[a4_]
 rw[aj6 hg,a0_]
 cases hbe:(bp0 g).2.1 != 0 with
 | true=>simp only[a5_,hw,a0_]
 | false =>
 obtain⟨h0,hv⟩:=begP_VP hg (by simpa using hbe)
 have ok:=ej_ h0
 have n8:=ok.n8
 simp only[a4_]
 rw[wy_ hg,a0_]
 by_cases hn:1≤g.2.1.length
 ·rw[cd1 h0 hv hn]
  have hr:∀ d,GV (ai2 g d):=λd=>gv_ridl hg h0 d hn
  obtain⟨bl,hL,hbl⟩:=bw0 (hr (bp0 g).1.2) (frm_sm hg (bp0 g).1.2)
  simp only[e8_,a4_]
  rw[hL,a0_]
  cases bl with
  | true=>simp only[a0_,a5_,hw]
  | false =>
  have hm0:=hbl rfl
  simp only[a0_,a4_]
  refine of_ex (al7 (I:=λs=>∃ (i:Nat) (p:ai_),s=alS g i p∧i≤2∧VP g p∧pf_ (alw (ai2 g p.2))≤200) (μ:=λs=>2 - s.1.toNat) ⟨0,(bp0 g).1,rfl,by omega,hv,hm0⟩ ?_)
  rintro s ⟨i,p,rfl,hi,hv,hm⟩
  by_cases hi2:i<2
  ·simp only[b4_ (show (i:Int)<2 by omega),a5_]
   rw[show (((p.1.1,(p.1.2.1,p.1.2.2)),p.2):ai_)=p from rfl,bt5 hg h0 hv,a0_]
   simp only[e8_,a4_,a0_]
   have hpl:(pmv g p).length≤480:=by
    have:=bf4 (dp_ ok.room) p.1
    have:=i3_ (λm=>(stepP g p m).isSome) (lmv g.1 p.1)
    unfold pmv
    omega
   cases hl:((pmv g p).length:Int)==0 with
   | true =>
    simp only[a5_,hw,a0_]
    exact⟨_,rfl,.inr ⟨_,_,rfl,rfl,rfl⟩⟩
   | false =>
    have hl1:1≤(pmv g p).length:=by
     have:=m1_.1 hl
     omega
    simp only[a4_]
    rw[ao8 (show ((pmv g p).length:Int)≠0 by omega),a0_,ao8 (show ((pmv g p).length:Int)≠0 by omega),a0_]
    obtain⟨j,hj,ej⟩:=pick_ok (x:=w64 (a+(w64 ((i:Int) * b)))) hl1 (by omega)
    rw[ej]
    obtain⟨m,hmj⟩:=bi_ hj
    have hmm:=cl_ hmj
    unfold pmv at hmm
    rw[e5_,Option.isSome_iff_exists] at hmm
    obtain⟨_,q,hq⟩:=hmm
    have hvq:=bq9 hg h0 hv hq
    have hsub:∀ (i:Nat),p.2[i]?=some true→q.2[i]?=some true:=step_rd hv hq
    have hlen:(alw (ai2 g q.2)).length=(alw (ai2 g p.2)).length:=by rw[mc_ (hr _),mc_ (hr _)]
    have hmq:pf_ (alw (ai2 g q.2))≤200:=by
     have:=be0 hlen (λi x y hx hy=>(bn6 hsub hx hy).1) (alw (ai2 g q.2)).length
     rw[d4_,hlen,d4_] at this
     omega
    rw[ag_ hmj,a0_,bc5 hg h0 hv,hq,a0_]
    simp only[Option.elim_some,e8_,a4_]
    rw[wy_ hg,a0_,cd1 h0 hvq hn]
    simp only[e8_,a4_]
    rw[ar8 (hr q.2),a0_,a0_]
    simp only[e8_,a4_]
    rw[ce4 (hr p.2) (cd9 hm),a0_,ce4 (hr q.2) (cd9 hmq),a0_]
    simp only[e3_,a4_,hlen,e8_,a0_]
    refine⟨inl (alS g (i+1) q),?_,.inl ⟨_,rfl,⟨i+1,q,rfl,by omega,hvq,hmq⟩,?_⟩⟩
    ·have hal:=mc_ (hr p.2)
     have hal:(alw (ai2 g p.2)).length≤8:=by rw[hal];exact n8
     refine jm_ (r:=inl ()) (alw (ai2 g p.2)).length (λk=>((k:Int),())) rfl (λk hk => ?_) (by simp only[dnl,a4_]) ?_
     ·obtain⟨y,hy⟩:=bi_ hk
      obtain⟨x,hx⟩:=bi_ (l:=alw (ai2 g q.2)) (i:=k) (by omega)
      obtain⟨s1,s2⟩:=bn6 hsub hx hy
      obtain⟨p1,p2⟩:=vq_ (hr p.2) hy
      obtain⟨l,_,_,_,hlk,_,_,_,_,_,rfl⟩:=bn7 (hr p.2) hy
      simp only[dlt hk,a5_]
      refine jm_ (r:=inl ()) x.length (λn=>((n:Int),())) rfl (λn hn' => ?_) (by simp only[ag_ hx,a0_,dnl,a4_]) ?_
      ·obtain⟨c,hc⟩:=bi_ hn'
       simp only[ag_ hx,ag_ hy,a0_,dlt hn',a5_,ag_ hc,bh0 (show (rdg l _).length≤20000 by omega) (bs5 hlk) (s2 c (cl_ hc)),e3_,a4_,br_ (show Sm n from sm (by omega))]
      ·simp only[hs_,br_ (show Sm k from sm (by omega))]
     ·simp only[hs_,br_ (show Sm i from sm (by omega))]
    ·show 2 - (((i+1:Nat):Int)).toNat<2 - ((i:Int)).toNat
     omega
  ·obtain rfl:i=2:=by omega
   simp only[show decide (((2:Nat):Int)<2)=false from rfl,a4_]
   refine⟨_,rfl,.inr ⟨_,(true,()),rfl,?_,rfl⟩⟩
   simp only[hs_,hw,a0_]
 ·have hz:g.2.1.length=0:=by omega
  have:frm g (bp0 g).1=(eR,(70,())):=by
   unfold frm
   rw[VP_pk h0 hv,hz]
   rfl
  rw[this]
  simp only[show ((70:Int) != 0)=true from rfl,a5_,a0_,hw]
end
end Go.Proofs.YtlbfbdbagohinaaGreatDoor.Rx
namespace Go.Proofs.YtlbfbdbagohinaaGreatDoor.Pad
open Go
section
def Le {α:Type} (x y:Option α):Prop:=∀ r,x=some r→y=some r
namespace Le
theorem refl {α:Type} (x:Option α):Le x x:=λ_ h=>h
theorem bind {α β:Type} {x y:Option α} {f g:α→Option β} (h:Le x y) (k:∀ a,Le (f a) (g a)):Le (x.bind f) (y.bind g):=by
 intro r hr
 cases x with
 | none=>cases hr
 | some a=>rw[h a rfl];exact k a r hr
theorem while_ {σ ρ:Type} {f g:σ→Option (σ⊕ρ)} (h:∀ s,Le (f s) (g s)) (k:Nat) (s:σ):Le (eu_ f k s) (ae_ g s):=by
 intro r hr
 refine gh_.2 ⟨k,?_⟩
 induction k generalizing s with
 | zero=>simp[eu_] at hr
 | succ k ih =>
  unfold eu_ at hr ⊢
  cases hf:f s with
  | none=>rw[hf] at hr;cases hr
  | some o =>
   rw[hf] at hr;rw[h s o hf]
   cases o with
   | inl s'=>exact ih s' hr
   | inr r'=>exact hr
end Le
end
end Go.Proofs.YtlbfbdbagohinaaGreatDoor.Pad
namespace Go.Proofs.YtlbfbdbagohinaaGreatDoor.Rx
open Go Pad Rex Sum
section
set_option maxRecDepth 100000
theorem Le.cnd {α:Type} {c:Bool} {x y x' y':Option α} (h:Le x x') (k:Le y y'):Le (cond c x y) (cond c x' y'):=by cases c<;>assumption
theorem Le.sm {σ τ ρ:Type} {o:σ⊕τ} {f f':σ→Option ρ} {g g':τ→Option ρ} (h:∀ s,Le (f s) (f' s)) (k:∀ s,Le (g s) (g' s)):Le (cc_ o f g) (cc_ o f' g'):=by
 cases o with
 | inl s=>exact h s
 | inr s=>exact k s
def itC {σ ρ:Type} (body:σ→Option (σ⊕ρ)) (s:σ):Option ρ:=eu_ body 60 s
theorem Le.itC {σ ρ:Type} {f g:σ→Option (σ⊕ρ)} (h:∀ s,Le (f s) (g s)) (s:σ):Le (itC f s) (ae_ g s):=Le.while_ h _ s
theorem Le.atD {α R:Type} {b:Bool} {l:List α} {i:Int} {K K':α→Option R} (h:∀ x,Le (K x) (K' x)):Le (atD b l i K) (atD b l i K'):=by
 unfold Go.Proofs.YtlbfbdbagohinaaGreatDoor.Rx.atD
 exact Le.cnd (Le.bind (Le.refl _) λ_=>Le.bind (Le.refl _) h) (Le.bind (Le.refl _) h)
noncomputable def c_wlE {β Y:Type} (b:Bool) (ts:List bq_) (al:List (List (List Int))) (y:List Int→β→Option (β×Unit)) (ret:β→List Int→Y) (f:β) (w:List Int):Option Y :=
 ((itC (ρ:=(Unit⊕Y)) (λ(v8:(Int×Unit)) =>
 (cond (decide (v8.1<(ts.length:Int)))
 ((at? ts v8.1).bind λv9 =>
 (atD b al v9.1 λv10 =>
 ((at? w v9.1).bind λv11 =>
 ((at? w v9.1).bind λv12 =>
 ((at? v10 v12).bind λv13 =>
 ((at? v13 v9.2.1).bind λv14 =>
 (atD b al v9.2.2.1 λv15 =>
 ((at? w v9.2.2.1).bind λv16 =>
 ((at? w v9.2.2.1).bind λv17 =>
 ((at? v15 v17).bind λv18 =>
 ((at? v18 v9.2.2.2).bind λv19 =>
 (cond (v14 != v19)
 (some (inr (inr (ret f w))))
 (some (inl ((w64 (v8.1+1)),())))))))))))))))
 (some (inr (inl ()))))) (0,())).bind λv20 =>
 (cc_ v20 (λv21=>((y w f).bind λv30=>(some (ret v30.1 w)))) (λv22=>(some v22))))
theorem bz1 {β Y:Type} {b:Bool} {ts:List bq_} {al:List (List (List Int))} {y y':List Int→β→Option (β×Unit)} (hy:∀ w f,Le (y w f) (y' w f)) (ret:β→List Int→Y) (f:β) (w:List Int):Le (c_wlE b ts al y ret f w) (wlE b ts al y' ret f w):=by
 have ih:=True.intro
 unfold c_wlE wlE
 repeat' first | with_reducible exact Le.refl _ | (with_reducible apply Le.bind) | (with_reducible apply Le.cnd) | (with_reducible apply Le.sm) | (with_reducible apply Le.itC) | (with_reducible apply Le.atD) | (with_reducible apply hy) | (with_reducible apply ih) | (intro _)
noncomputable def aw1 {β A:Type} (b:Bool) (pk:β→List Int→A) (u1:A→β) (u2:A→List Int) (ts:List bq_) (al:List (List (List Int))) (y:List Int→β→Option (β×Unit)):Nat→(Y:Type)→(β→List Int→Y)→Int→β→List Int→Option Y
 | 0,Y,ret,i,f,w =>
  (cond (i==(w.length:Int))
  ((itC (ρ:=(Unit⊕Y)) (λ(v8:(Int×Unit)) =>
  (cond (decide (v8.1<(ts.length:Int)))
  ((at? ts v8.1).bind λv9=>none)
  (some (inr (inl ()))))) (0,())).bind λv20 =>
  (cc_ v20 (λv21=>none) (λv22=>(some v22))))
  (atD b al i λv31 =>
  ((itC (ρ:=(A⊕Y)) (λ(v32:(Int×A)) =>
  (cond (decide (v32.1<(v31.length:Int)))
  ((((at? (u2 v32.2) i).bind λv33 =>
  ((at? (u2 v32.2) i).bind λv34=>(none:Option (A⊕((Int×A)⊕(A⊕Y)))))).bind λv308 =>
  (cc_ v308 (λv309=>(some (inl ((w64 (v32.1+1)),pk (u1 v309) (u2 v309)))))
  (λv310=>(some v310)))))
  (some (inr (inl (pk (u1 v32.2) (u2 v32.2))))))) (0,pk f w)).bind λv317 =>
  (cc_ v317 (λv318=>(some (ret (u1 v318) (u2 v318)))) (λv319=>(some v319))))))
 | n+1,Y,ret,i,f,w =>
  (cond (i==(w.length:Int))
  (c_wlE b ts al y ret f w)
  (atD b al i λv31 =>
  ((itC (ρ:=(A⊕Y)) (λ(v32:(Int×A)) =>
  (cond (decide (v32.1<(v31.length:Int)))
  ((((at? (u2 v32.2) i).bind λv33 =>
  ((at? (u2 v32.2) i).bind λv34=>(aw1 b pk u1 u2 ts al y n (A⊕((Int×A)⊕(A⊕Y))) (λf w=>inl (pk f w)) (w64 (i+1)) (u1 v32.2) ((u2 v32.2).set i.toNat v32.1)))).bind λv308 =>
  (cc_ v308 (λv309=>(some (inl ((w64 (v32.1+1)),pk (u1 v309) (u2 v309)))))
  (λv310=>(some v310)))))
  (some (inr (inl (pk (u1 v32.2) (u2 v32.2))))))) (0,pk f w)).bind λv317 =>
  (cc_ v317 (λv318=>(some (ret (u1 v318) (u2 v318)))) (λv319=>(some v319))))))
theorem bv_ {β A:Type} {b:Bool} {pk:β→List Int→A} {u1:A→β} {u2:A→List Int} {ts:List bq_} {al:List (List (List Int))} {y y':List Int→β→Option (β×Unit)} (hy:∀ w f,Le (y w f) (y' w f)):∀ (n:Nat) (Y:Type) (ret:β→List Int→Y) (i:Int) (f:β) (w:List Int),Le (aw1 b pk u1 u2 ts al y n Y ret i f w) (wlP b pk u1 u2 ts al y' n Y ret i f w):=by
 intro n
 induction n with
 | zero =>
  intro Y ret i f w
  have ih:=True.intro
  unfold aw1 wlP
  repeat' first | with_reducible exact Le.refl _ | (with_reducible apply Le.bind) | (with_reducible apply Le.cnd) | (with_reducible apply Le.sm) | (with_reducible apply Le.itC) | (with_reducible apply Le.atD) | (with_reducible apply hy) | (with_reducible apply ih) | (intro _)
 | succ n ih =>
  intro Y ret i f w
  unfold aw1 wlP
  repeat' first | with_reducible exact Le.refl _ | (with_reducible apply Le.bind) | (with_reducible apply Le.cnd) | (with_reducible apply Le.sm) | (with_reducible apply Le.itC) | (with_reducible apply Le.atD) | (with_reducible apply hy) | (with_reducible apply ih) | (with_reducible apply bz1) | (intro _)
noncomputable def bl6 (w:List Int) (f:List (List Bool)):Option (List (List Bool)×Unit) :=
 (itC (ρ:=((List (List Bool))×Unit)) (λ(v23:(Int×((List (List Bool))×Unit))) =>
 (cond (decide (v23.1<(w.length:Int)))
 ((at? w v23.1).bind λv24 =>
 ((at? w v23.1).bind λv25 =>
 ((at? v23.2.1 v23.1).bind λv26 =>
 ((at? v23.2.1 v23.1).bind λv27 =>
 ((at? v27 v25).bind λv28 =>
 ((at? v27 v25).bind λv29 =>
 (some (inl ((w64 (v23.1+1)),((v23.2.1.set v23.1.toNat (v27.set v25.toNat true)),()))))))))))
 (some (inr (v23.2.1,()))))) (0,(f,())))
theorem bl5 (w:List Int) (f:List (List Bool)):Le (bl6 w f) (cd3 w f):=by
 have ih:=True.intro
 have hy:=True.intro
 unfold bl6 cd3
 repeat' first | with_reducible exact Le.refl _ | (with_reducible apply Le.bind) | (with_reducible apply Le.cnd) | (with_reducible apply Le.sm) | (with_reducible apply Le.itC) | (with_reducible apply Le.atD) | (with_reducible apply hy) | (with_reducible apply ih) | (intro _)
noncomputable def bl4 {R:Type} (b:Bool) (m:Int) (ts:List bq_) (al:List (List (List Int))) (K:List (List Bool)×(List (List (List Int))×Unit)→Option R):Option R :=
 ((mk? (α:=(List Bool)) m []).bind λv0 =>
 ((itC (ρ:=((List (List Bool))×Unit)) (λ(v1:(Int×((List (List Bool))×Unit))) =>
 (cond (decide (v1.1<(al.length:Int)))
 (atD b al v1.1 λv2 =>
 ((mk? (α:=Bool) (v2.length:Int) false).bind λv3 =>
 ((at? v1.2.1 v1.1).bind λv4 =>
 ((at? v1.2.1 v1.1).bind λv5 =>
 (some (inl ((w64 (v1.1+1)),((v1.2.1.set v1.1.toNat v3),()))))))))
 (some (inr (v1.2.1,()))))) (0,(v0,()))).bind λv6 =>
 (((mk? (α:=Int) m 0).bind λv7 =>
 (aw1 b (λf w=>(f,((),(w,())))) (λa=>a.1) (λa=>a.2.2.1) ts al bl6 9 (List (List Bool)×Unit) (λf w=>(f,())) 0 v6.1 v7)).bind λv320 =>
 ((mk? (α:=(List (List Int))) m []).bind λv321 =>
 ((itC (ρ:=((List (List Bool))×((List (List (List Int)))×Unit))) (λ(v322:(Int×((List (List Bool))×((List (List (List Int)))×Unit)))) =>
 (cond (decide (v322.1<(al.length:Int)))
 (atD b al v322.1 λv323 =>
 ((itC (ρ:=((List (List Bool))×((List (List (List Int)))×Unit))) (λ(v324:(Int×((List (List Bool))×((List (List (List Int)))×Unit)))) =>
 (cond (decide (v324.1<(v323.length:Int)))
 ((((at? v323 v324.1).bind λv325 =>
 ((at? v324.2.1 v322.1).bind λv326 =>
 ((at? v324.2.1 v322.1).bind λv327 =>
 ((at? v327 v324.1).bind λv328 =>
 ((at? v327 v324.1).bind λv329 =>
 (cond v329
 ((at? v324.2.2.1 v322.1).bind λv330 =>
 ((at? v324.2.2.1 v322.1).bind λv331 =>
 ((push? (α:=(List Int)) v331 ([v325]:List (List Int))).bind λv332 =>
 ((at? v324.2.2.1 v322.1).bind λv333 =>
 (cond ((v322.1==v322.1)&&true)
 ((at? v324.2.2.1 v322.1).bind λv334 =>
 (some ((v324.2.1.set v322.1.toNat v327),((v324.2.2.1.set v322.1.toNat v332),()))))
 none)))))
 (some ((v324.2.1.set v322.1.toNat v327),(v324.2.2.1,())))))))))).bind λv335 =>
 (some (inl ((w64 (v324.1+1)),(v335.1,(v335.2.1,()))))))
 (some (inr (v324.2.1,(v324.2.2.1,())))))) (0,(v322.2.1,(v322.2.2.1,())))).bind λv336 =>
 (some (inl ((w64 (v322.1+1)),(v336.1,(v336.2.1,())))))))
 (some (inr (v322.2.1,(v322.2.2.1,())))))) (0,(v320.1,(v321,())))).bind K)))))
theorem bn_ {R:Type} {b:Bool} {m:Int} {ts:List bq_} {al:List (List (List Int))} {K K':List (List Bool)×(List (List (List Int))×Unit)→Option R} (hy:∀ x,Le (K x) (K' x)):Le (bl4 b m ts al K) (psbX b m ts al K'):=by
 have ih:=True.intro
 unfold bl4 psbX
 repeat' first | with_reducible exact Le.refl _ | (with_reducible apply Le.bind) | (with_reducible apply Le.cnd) | (with_reducible apply Le.sm) | (with_reducible apply Le.itC) | (with_reducible apply Le.atD) | (with_reducible apply hy) | (with_reducible apply ih) | (with_reducible apply bv_) | (with_reducible apply bl5) | (intro _)
noncomputable def bz2 (ft:List Int→Option (Int×(Bool×(Int×Unit)))) (S:Int):Nat→Int→List Int→List (List Int)→Option ((List Int)×(((List (List Int))×Unit)×Unit))
 | 0,_,_,_=>none
 | n+1,i,c,o =>
  (cond (i==(c.length:Int))
  ((ft c).bind λv8 =>
  (cond v8.2.1
  ((push? (α:=Int) [] c).bind λv9 =>
  ((push? (α:=(List Int)) o ([v9]:List (List Int))).bind λv10 =>
  (some (c,((v10,()),())))))
  (some (c,((o,()),())))))
  ((at? c i).bind λv3 =>
  ((at? c i).bind λv4 =>
  ((itC (ρ:=((List Int)×(((List (List Int))×Unit)×Unit))) (λ(v5:((List Int)×(((List (List Int))×Unit)×Unit))) =>
  ((at? v5.1 i).bind λv6 =>
  ((at? v5.1 i).bind λv7 =>
  (cond (decide (v7<S))
  ((bz2 ft S n (w64 (i+1)) v5.1 v5.2.1.1).bind λv67 =>
  ((at? v67.1 i).bind λv68 =>
  ((at? v67.1 i).bind λv69 =>
  ((at? v67.1 i).bind λv70 =>
  ((at? v67.1 i).bind λv71 =>
  (some (inl ((v67.1.set i.toNat (w64 (v69+1))),((v67.2.1.1,()),())))))))))
  (some (inr (v5.1,((v5.2.1.1,()),())))))))) ((c.set i.toNat 0),((o,()),()))).bind λv72 =>
  ((at? v72.1 i).bind λv73 =>
  ((at? v72.1 i).bind λv74 =>
  (some ((v72.1.set i.toNat 0),((v72.2.1.1,()),())))))))))
theorem cb_ {ft ft':List Int→Option (Int×(Bool×(Int×Unit)))} (hy:∀ c,Le (ft c) (ft' c)) (S:Int):∀ (n:Nat) (i:Int) (c:List Int) (o:List (List Int)),Le (bz2 ft S n i c o) (rdL ft' S n i c o):=by
 intro n
 induction n with
 | zero=>intro i c o;exact Le.refl _
 | succ n ih =>
  intro i c o
  unfold bz2 rdL
  repeat' first | with_reducible exact Le.refl _ | (with_reducible apply Le.bind) | (with_reducible apply Le.cnd) | (with_reducible apply Le.sm) | (with_reducible apply Le.itC) | (with_reducible apply Le.atD) | (with_reducible apply hy) | (with_reducible apply ih) | (intro _)
end
section
set_option maxRecDepth 100000
noncomputable def ku_ (a0:(List Int)) (a1:(List Int)):Option (Int×Int×Unit) :=
  ((itC (ρ:=(Int×((List Int)×((List Int)×Unit)))) (λ(v0:(Int×(Int×((List Int)×((List Int)×Unit))))) =>
 (cond (decide (v0.2.1<(a0.length:Int)))
 ((at? a0 v0.2.1).bind λv1 =>
 ((((at? a1 v0.2.1).bind λv2 =>
 (cond (v1==v2)
 (some ((w64 (v0.1+1)),()))
 (some (v0.1,()))))).bind λv3 =>
 (cond (decide (v1<(10:Int)))
 ((at? v0.2.2.1 v1).bind λv4 =>
 ((at? v0.2.2.1 v1).bind λv5 =>
 (cond (decide (v1<(10:Int)))
 ((at? v0.2.2.1 v1).bind λv6 =>
 ((at? v0.2.2.1 v1).bind λv7 =>
 ((at? a1 v0.2.1).bind λv8 =>
 (cond (decide (v8<(10:Int)))
 ((at? v0.2.2.2.1 v8).bind λv9 =>
 ((at? v0.2.2.2.1 v8).bind λv10 =>
 (cond (decide (v8<(10:Int)))
 ((at? v0.2.2.2.1 v8).bind λv11 =>
 ((at? v0.2.2.2.1 v8).bind λv12 =>
 (some (inl (v3.1,((w64 (v0.2.1+1)),((v0.2.2.1.set v1.toNat (w64 (v5+1))),((v0.2.2.2.1.set v8.toNat (w64 (v10+1))),()))))))))
 none)))
 none))))
 none)))
 none)))
 (some (inr (v0.1,(v0.2.2.1,(v0.2.2.2.1,()))))))) (0,(0,([0,0,0,0,0,0,0,0,0,0],([0,0,0,0,0,0,0,0,0,0],()))))).bind λv13 =>
 ((itC (ρ:=(Int×Unit)) (λ(v14:(Int×(Int×Unit))) =>
 (cond (decide (v14.2.1<10))
 (cond (decide (v14.2.1<(10:Int)))
 ((at? v13.2.1 v14.2.1).bind λv15 =>
 ((at? v13.2.1 v14.2.1).bind λv16 =>
 (cond (decide (v14.2.1<(10:Int)))
 ((at? v13.2.2.1 v14.2.1).bind λv17 =>
 ((at? v13.2.2.1 v14.2.1).bind λv18 =>
 (some (inl ((w64 (v14.1+(aw6 v16 v18))),((w64 (v14.2.1+1)),()))))))
 none)))
 none)
 (some (inr (v14.1,()))))) (0,(0,()))).bind λv19 =>
 (some (v13.1,((w64 (v19.1 - v13.1)),())))))
theorem rq_ (a0:(List Int)) (a1:(List Int)):Le (ku_ a0 a1) (ek_ a0 a1):=by
 unfold ku_ ek_
 repeat' first | with_reducible exact Le.refl _ | (with_reducible apply Le.bind) | (with_reducible apply Le.cnd) | (with_reducible apply Le.sm) | (with_reducible apply Le.itC) | (with_reducible apply Le.atD) | (with_reducible apply bn_) | (with_reducible apply bv_) | (with_reducible apply cb_) | intro
noncomputable def ed_ (a0:dq_):Option (List Int) :=
   (bl4 false (a0.1.1.length:Int) a0.1.2.2.2 a0.2 λv337 =>
 ((itC (ρ:=((List Int)×Unit)) (λ(v338:((List Int)×(Int×Unit))) =>
 (cond (decide (v338.2.1<(v337.2.1.length:Int)))
 ((at? v337.2.1 v338.2.1).bind λv339 =>
 ((push? (α:=Int) v338.1 [(v339.length:Int)]).bind λv340 =>
 (some (inl (v340,((w64 (v338.2.1+1)),()))))))
 (some (inr (v338.1,()))))) ([],(0,()))).bind λv341 =>
 (some v341.1)))
theorem mk_ (a0:dq_):Le (ed_ a0) (df_ a0):=by
 unfold ed_ df_
 repeat' first | with_reducible exact Le.refl _ | (with_reducible apply Le.bind) | (with_reducible apply Le.cnd) | (with_reducible apply Le.sm) | (with_reducible apply Le.itC) | (with_reducible apply Le.atD) | (with_reducible apply bn_) | (with_reducible apply bv_) | (with_reducible apply cb_) | intro
noncomputable def iy_ (a0:(List Int)) (a1:(List Int)):Option (Bool×Unit) :=
  (cond ((a0.length:Int) != (a1.length:Int))
 (some (false,()))
 ((itC (ρ:=(Unit⊕(Bool×Unit))) (λ(v0:(Int×Unit)) =>
 (cond (decide (v0.1<(a0.length:Int)))
 ((at? a0 v0.1).bind λv1 =>
 ((at? a1 v0.1).bind λv2 =>
 (cond (v1 != v2)
 (some (inr (inr (false,()))))
 (some (inl ((w64 (v0.1+1)),()))))))
 (some (inr (inl ()))))) (0,())).bind λv3 =>
 (cc_ v3 (λv4=>(some (true,())))
 (λv5=>(some v5)))))
theorem pp_ (a0:(List Int)) (a1:(List Int)):Le (iy_ a0 a1) (cj_ a0 a1):=by
 unfold iy_ cj_
 repeat' first | with_reducible exact Le.refl _ | (with_reducible apply Le.bind) | (with_reducible apply Le.cnd) | (with_reducible apply Le.sm) | (with_reducible apply Le.itC) | (with_reducible apply Le.atD) | (with_reducible apply bn_) | (with_reducible apply bv_) | (with_reducible apply cb_) | intro
noncomputable def ma_ (a0:ab_) (a1:(List Int)):Option (Bool×Unit) :=
  (cond (a0.1==1)
 ((at? a1 a0.2.1).bind λv0 =>
 (some ((v0==a0.2.2.2.1),())))
 (cond (a0.1==2)
 ((sub? a1 a0.2.1 (w64 (a0.2.2.1+1))).bind λv1 =>
 ((itC (ρ:=(Int×Unit)) (λ(v2:(Int×(Int×Unit))) =>
 (cond (decide (v2.2.1<(v1.length:Int)))
 ((at? v1 v2.2.1).bind λv3 =>
 (some (inl ((w64 (v2.1+v3)),((w64 (v2.2.1+1)),())))))
 (some (inr (v2.1,()))))) (0,(0,()))).bind λv4 =>
 (some ((v4.1==a0.2.2.2.1),()))))
 (cond (a0.1==3)
 ((at? a1 a0.2.1).bind λv5 =>
 ((at? a1 a0.2.2.1).bind λv6 =>
 (some ((decide (v5<v6)),()))))
 (cond (a0.1==4)
 ((at? a1 a0.2.1).bind λv7 =>
 ((at? a1 a0.2.2.1).bind λv8 =>
 (some ((v7==v8),()))))
 (cond (a0.1==5)
 ((itC (ρ:=(Int×Unit)) (λ(v9:(Int×(Int×Unit))) =>
 (cond (decide (v9.2.1<(a1.length:Int)))
 ((((at? a1 v9.2.1).bind λv10 =>
 (cond (v10==a0.2.2.2.1)
 (some ((w64 (v9.1+1)),()))
 (some (v9.1,()))))).bind λv11 =>
 (some (inl (v11.1,((w64 (v9.2.1+1)),())))))
 (some (inr (v9.1,()))))) (0,(0,()))).bind λv12 =>
 (some ((v12.1==a0.2.2.2.2.1),())))
 (cond (a0.1==6)
 ((ku_ a1 a0.2.2.2.2.2.1).bind λv13 =>
 (cond (v13.1==a0.2.2.2.1)
 (some ((v13.2.1==a0.2.2.2.2.1),()))
 (some (false,()))))
 ((at? a1 a0.2.1).bind λv14 =>
 ((md v14 a0.2.2.2.1).bind λv15 =>
 (some ((v15==a0.2.2.2.2.1),()))))))))))
theorem st_ (a0:ab_) (a1:(List Int)):Le (ma_ a0 a1) (gz_ a0 a1):=by
 unfold ma_ gz_
 repeat' first | with_reducible exact Le.refl _ | (with_reducible apply Le.bind) | (with_reducible apply Le.cnd) | (with_reducible apply Le.sm) | (with_reducible apply Le.itC) | (with_reducible apply Le.atD) | (with_reducible apply bn_) | (with_reducible apply bv_) | (with_reducible apply cb_) | (with_reducible apply rq_) | intro
noncomputable def il_ (a0:al_) (a1:hj_):Option (al_×Unit) :=
  ((push? (α:=aa_) [] a0.1).bind λv0 =>
 ((push? (α:=bq_) [] a0.2.2.2).bind λv1 =>
 ((itC (ρ:=(((List (List Int))×((List (List ab_))×Unit))×Unit)) (λ(v2:(Int×(((List (List Int))×((List (List ab_))×Unit))×Unit))) =>
 (cond (decide (v2.1<(a0.1.length:Int)))
 ((at? a0.2.1 v2.1).bind λv3 =>
 ((push? (α:=Int) [] v3).bind λv4 =>
 ((push? (α:=(List Int)) v2.2.1.1 ([v4]:List (List Int))).bind λv5 =>
 ((at? a0.2.2.1 v2.1).bind λv6 =>
 ((itC (ρ:=((List ab_)×Unit)) (λ(v7:((List ab_)×(Int×Unit))) =>
 (cond (decide (v7.2.1<(v6.length:Int)))
 ((at? v6 v7.2.1).bind λv8 =>
 ((ce_ v8).bind λv9 =>
 ((push? (α:=ab_) v7.1 [v9.1]).bind λv10 =>
 (some (inl (v10,((w64 (v7.2.1+1)),())))))))
 (some (inr (v7.1,()))))) ([],(0,()))).bind λv11 =>
 ((push? (α:=(List ab_)) v2.2.1.2.1 ([v11.1]:List (List ab_))).bind λv12 =>
 (some (inl ((w64 (v2.1+1)),((v5,(v12,())),()))))))))))
 (some (inr ((v2.2.1.1,(v2.2.1.2.1,())),()))))) (0,(([],([],())),()))).bind λv13 =>
 ((at? v13.1.2.1 a1.1).bind λv14 =>
 ((at? v13.1.2.1 a1.1).bind λv15 =>
 ((ce_ a1.2).bind λv16 =>
 ((push? (α:=ab_) v15 [v16.1]).bind λv17 =>
 ((at? v13.1.2.1 a1.1).bind λv18 =>
 (cond ((a1.1==a1.1)&&true)
 ((at? v13.1.2.1 a1.1).bind λv19 =>
 (some ((v0,(v13.1.1,((v13.1.2.1.set a1.1.toNat v17),v1))),())))
 none)))))))))
theorem vk_ (a0:al_) (a1:hj_):Le (il_ a0 a1) (go_ a0 a1):=by
 unfold il_ go_
 repeat' first | with_reducible exact Le.refl _ | (with_reducible apply Le.bind) | (with_reducible apply Le.cnd) | (with_reducible apply Le.sm) | (with_reducible apply Le.itC) | (with_reducible apply Le.atD) | (with_reducible apply bn_) | (with_reducible apply bv_) | (with_reducible apply cb_) | intro
noncomputable def hd_ (a0:dq_) (a1:dq_):Option (List Int) :=
  ((ed_ a1).bind λv0 =>
 ((ed_ a0).bind λv1 =>
 ((itC (ρ:=((List Int)×Unit)) (λ(v2:((List Int)×(Int×Unit))) =>
 (cond (decide (v2.2.1<(v1.length:Int)))
 ((((at? v1 v2.2.1).bind λv3 =>
 ((at? v1 v2.2.1).bind λv4 =>
 ((at? v0 v2.2.1).bind λv5 =>
 ((at? v0 v2.2.1).bind λv6 =>
 (cond (decide (v6<v4))
 ((push? (α:=Int) v2.1 [v2.2.1]).bind λv7 =>
 (some (v7,())))
 (some (v2.1,())))))))).bind λv8 =>
 (some (inl (v8.1,((w64 (v2.2.1+1)),())))))
 (some (inr (v2.1,()))))) ([],(0,()))).bind λv9 =>
 (some v9.1))))
theorem ni_ (a0:dq_) (a1:dq_):Le (hd_ a0 a1) (es_ a0 a1):=by
 unfold hd_ es_
 repeat' first | with_reducible exact Le.refl _ | (with_reducible apply Le.bind) | (with_reducible apply Le.cnd) | (with_reducible apply Le.sm) | (with_reducible apply Le.itC) | (with_reducible apply Le.atD) | (with_reducible apply bn_) | (with_reducible apply bv_) | (with_reducible apply cb_) | (with_reducible apply mk_) | intro
noncomputable def fn_ (a0:aa_) (a1:(List Int)):Option (Bool×Unit) :=
  (cond ((a1.length:Int)==a0.1)
 ((((itC (ρ:=(Unit⊕(Bool×Unit))) (λ(v0:(Int×Unit)) =>
 (cond (decide (v0.1<(a1.length:Int)))
 ((at? a1 v0.1).bind λv1 =>
 ((bm_ a0 v1).bind λv2 =>
 (cond (!v2.1)
 (some (inr (inr ((decide (0≤v0.1)),()))))
 (some (inl ((w64 (v0.1+1)),()))))))
 (some (inr (inl ()))))) (0,())).bind λv3 =>
 (cc_ v3 (λv4=>(some ((decide (0≤(-1))),())))
 (λv5=>(some v5))))).bind λv6 =>
 (some ((!v6.1),())))
 (some (false,())))
theorem ja_ (a0:aa_) (a1:(List Int)):Le (fn_ a0 a1) (cf_ a0 a1):=by
 unfold fn_ cf_
 repeat' first | with_reducible exact Le.refl _ | (with_reducible apply Le.bind) | (with_reducible apply Le.cnd) | (with_reducible apply Le.sm) | (with_reducible apply Le.itC) | (with_reducible apply Le.atD) | (with_reducible apply bn_) | (with_reducible apply bv_) | (with_reducible apply cb_) | intro
noncomputable def jk_ (a0:ab_) (a1:(List Int)):Option (Bool×Unit) :=
  ((ma_ a0 a1).bind λv0 =>
 (some ((v0.1 != a0.2.2.2.2.2.2),())))
theorem mf_ (a0:ab_) (a1:(List Int)):Le (jk_ a0 a1) (dm_ a0 a1):=by
 unfold jk_ dm_
 repeat' first | with_reducible exact Le.refl _ | (with_reducible apply Le.bind) | (with_reducible apply Le.cnd) | (with_reducible apply Le.sm) | (with_reducible apply Le.itC) | (with_reducible apply Le.atD) | (with_reducible apply bn_) | (with_reducible apply bv_) | (with_reducible apply cb_) | (with_reducible apply st_) | intro
noncomputable def hf_ (a0:aa_) (a1:(List (List Int))):Option (Int×Unit) :=
  ((cq_ a0).bind λv0 =>
 (cond (v0.1 != 0)
 (some (v0.1,()))
 ((((itC (ρ:=(Unit⊕(Bool×Unit))) (λ(v1:(Int×Unit)) =>
 (cond (decide (v1.1<(a1.length:Int)))
 ((at? a1 v1.1).bind λv2 =>
 ((fn_ a0 v2).bind λv3 =>
 (cond (!v3.1)
 (some (inr (inr ((decide (0≤v1.1)),()))))
 (some (inl ((w64 (v1.1+1)),()))))))
 (some (inr (inl ()))))) (0,())).bind λv4 =>
 (cc_ v4 (λv5=>(some ((decide (0≤(-1))),())))
 (λv6=>(some v6))))).bind λv7 =>
 (cond v7.1
 (some (12,()))
 (some (0,()))))))
theorem nl_ (a0:aa_) (a1:(List (List Int))):Le (hf_ a0 a1) (dn_ a0 a1):=by
 unfold hf_ dn_
 repeat' first | with_reducible exact Le.refl _ | (with_reducible apply Le.bind) | (with_reducible apply Le.cnd) | (with_reducible apply Le.sm) | (with_reducible apply Le.itC) | (with_reducible apply Le.atD) | (with_reducible apply bn_) | (with_reducible apply bv_) | (with_reducible apply cb_) | (with_reducible apply ja_) | intro
noncomputable def fo_ (a0:aa_) (a1:ab_):Option (Bool×Unit) :=
  (((cond (a1.1==1)
 ((ap_ a0 a1.2.1).bind λv0 =>
 (cond v0.1
 ((bm_ a0 a1.2.2.2.1).bind λv1 =>
 (some (v1.1,((a1.2.1,(0,(a1.2.2.2.1,(0,([],()))))),()))))
 (some (false,((a1.2.1,(0,(a1.2.2.2.1,(0,([],()))))),())))))
 (cond (a1.1==2)
 ((ap_ a0 a1.2.1).bind λv2 =>
 (cond v2.1
 ((ap_ a0 a1.2.2.1).bind λv3 =>
 (cond v3.1
 (cond (decide (a1.2.1≤a1.2.2.1))
 ((ax_ a1.2.2.2.1 0 100).bind λv4 =>
 (some (v4.1,((a1.2.1,(a1.2.2.1,(a1.2.2.2.1,(0,([],()))))),()))))
 (some (false,((a1.2.1,(a1.2.2.1,(a1.2.2.2.1,(0,([],()))))),()))))
 (some (false,((a1.2.1,(a1.2.2.1,(a1.2.2.2.1,(0,([],()))))),())))))
 (some (false,((a1.2.1,(a1.2.2.1,(a1.2.2.2.1,(0,([],()))))),())))))
 (((cond (a1.1==3)
 (some ((a1.1==3),()))
 (some ((a1.1==4),())))).bind λv5 =>
 (cond v5.1
 ((ap_ a0 a1.2.1).bind λv6 =>
 (cond v6.1
 ((ap_ a0 a1.2.2.1).bind λv7 =>
 (cond v7.1
 (some ((a1.2.1 != a1.2.2.1),((a1.2.1,(a1.2.2.1,(0,(0,([],()))))),())))
 (some (false,((a1.2.1,(a1.2.2.1,(0,(0,([],()))))),())))))
 (some (false,((a1.2.1,(a1.2.2.1,(0,(0,([],()))))),())))))
 (cond (a1.1==5)
 ((bm_ a0 a1.2.2.2.1).bind λv8 =>
 (cond v8.1
 ((ax_ a1.2.2.2.2.1 0 a0.1).bind λv9 =>
 (some (v9.1,((0,(0,(a1.2.2.2.1,(a1.2.2.2.2.1,([],()))))),()))))
 (some (false,((0,(0,(a1.2.2.2.1,(a1.2.2.2.2.1,([],()))))),())))))
 (cond (a1.1==6)
 ((ax_ a1.2.2.2.1 0 a0.1).bind λv10 =>
 (cond v10.1
 ((ax_ a1.2.2.2.2.1 0 a0.1).bind λv11 =>
 (cond v11.1
 ((fn_ a0 a1.2.2.2.2.2.1).bind λv12 =>
 (some (v12.1,((0,(0,(a1.2.2.2.1,(a1.2.2.2.2.1,(a1.2.2.2.2.2.1,()))))),()))))
 (some (false,((0,(0,(a1.2.2.2.1,(a1.2.2.2.2.1,(a1.2.2.2.2.2.1,()))))),())))))
 (some (false,((0,(0,(a1.2.2.2.1,(a1.2.2.2.2.1,(a1.2.2.2.2.2.1,()))))),())))))
 (cond (a1.1==7)
 ((ap_ a0 a1.2.1).bind λv13 =>
 (cond v13.1
 ((ax_ a1.2.2.2.1 2 10).bind λv14 =>
 (cond v14.1
 ((ax_ a1.2.2.2.2.1 0 (w64 (a1.2.2.2.1 - 1))).bind λv15 =>
 (some (v15.1,((a1.2.1,(0,(a1.2.2.2.1,(a1.2.2.2.2.1,([],()))))),()))))
 (some (false,((a1.2.1,(0,(a1.2.2.2.1,(a1.2.2.2.2.1,([],()))))),())))))
 (some (false,((a1.2.1,(0,(a1.2.2.2.1,(a1.2.2.2.2.1,([],()))))),())))))
 (some (false,((0,(0,(0,(0,([],()))))),()))))))))))).bind λv16 =>
 (cond v16.1
 (cond (a1.2.1==v16.2.1.1)
 (cond (a1.2.2.1==v16.2.1.2.1)
 (cond (a1.2.2.2.1==v16.2.1.2.2.1)
 (cond (a1.2.2.2.2.1==v16.2.1.2.2.2.1)
 (some (((a1.2.2.2.2.2.1.length:Int)==(v16.2.1.2.2.2.2.1.length:Int)),()))
 (some (false,())))
 (some (false,())))
 (some (false,())))
 (some (false,())))
 (some (false,()))))
theorem jb_ (a0:aa_) (a1:ab_):Le (fo_ a0 a1) (cg_ a0 a1):=by
 unfold fo_ cg_
 repeat' first | with_reducible exact Le.refl _ | (with_reducible apply Le.bind) | (with_reducible apply Le.cnd) | (with_reducible apply Le.sm) | (with_reducible apply Le.itC) | (with_reducible apply Le.atD) | (with_reducible apply bn_) | (with_reducible apply bv_) | (with_reducible apply cb_) | (with_reducible apply ja_) | intro
noncomputable def jl_ (a0:(List ab_)) (a1:(List Int)):Option (Int×Unit) :=
  ((itC (ρ:=(Unit⊕(Int×Unit))) (λ(v0:(Int×Unit)) =>
 (cond (decide (v0.1<(a0.length:Int)))
 ((at? a0 v0.1).bind λv1 =>
 ((jk_ v1 a1).bind λv2 =>
 (cond (!v2.1)
 (some (inr (inr (v0.1,()))))
 (some (inl ((w64 (v0.1+1)),()))))))
 (some (inr (inl ()))))) (0,())).bind λv3 =>
 (cc_ v3 (λv4=>(some ((-1),())))
 (λv5=>(some v5))))
theorem mg_ (a0:(List ab_)) (a1:(List Int)):Le (jl_ a0 a1) (cy_ a0 a1):=by
 unfold jl_ cy_
 repeat' first | with_reducible exact Le.refl _ | (with_reducible apply Le.bind) | (with_reducible apply Le.cnd) | (with_reducible apply Le.sm) | (with_reducible apply Le.itC) | (with_reducible apply Le.atD) | (with_reducible apply bn_) | (with_reducible apply bv_) | (with_reducible apply cb_) | (with_reducible apply mf_) | intro
noncomputable def du_ (a0:aa_) (a1:(List Int)):Option (Int×Unit) :=
  ((hf_ a0 ([a1]:List (List Int))).bind λv0 =>
 (some (v0.1,())))
theorem fs_ (a0:aa_) (a1:(List Int)):Le (du_ a0 a1) (bu_ a0 a1):=by
 unfold du_ bu_
 repeat' first | with_reducible exact Le.refl _ | (with_reducible apply Le.bind) | (with_reducible apply Le.cnd) | (with_reducible apply Le.sm) | (with_reducible apply Le.itC) | (with_reducible apply Le.atD) | (with_reducible apply bn_) | (with_reducible apply bv_) | (with_reducible apply cb_) | (with_reducible apply nl_) | intro
noncomputable def hq_ (a0:aa_) (a1:ab_):Option (Int×Unit) :=
  ((cq_ a0).bind λv0 =>
 (cond (v0.1 != 0)
 (some (v0.1,()))
 ((fo_ a0 a1).bind λv1 =>
 (cond (!v1.1)
 (some (11,()))
 (some (0,()))))))
theorem oq_ (a0:aa_) (a1:ab_):Le (hq_ a0 a1) (dc_ a0 a1):=by
 unfold hq_ dc_
 repeat' first | with_reducible exact Le.refl _ | (with_reducible apply Le.bind) | (with_reducible apply Le.cnd) | (with_reducible apply Le.sm) | (with_reducible apply Le.itC) | (with_reducible apply Le.atD) | (with_reducible apply bn_) | (with_reducible apply bv_) | (with_reducible apply cb_) | (with_reducible apply jb_) | intro
noncomputable def et_ (a0:aa_) (a1:(List ab_)):Option (Int×Unit) :=
  ((cq_ a0).bind λv0 =>
 (cond (v0.1 != 0)
 (some (v0.1,()))
 (cond (decide (20<(a1.length:Int)))
 (some (2,()))
 ((((itC (ρ:=(Unit⊕(Bool×Unit))) (λ(v1:(Int×Unit)) =>
 (cond (decide (v1.1<(a1.length:Int)))
 ((at? a1 v1.1).bind λv2 =>
 ((fo_ a0 v2).bind λv3 =>
 (cond (!v3.1)
 (some (inr (inr ((decide (0≤v1.1)),()))))
 (some (inl ((w64 (v1.1+1)),()))))))
 (some (inr (inl ()))))) (0,())).bind λv4 =>
 (cc_ v4 (λv5=>(some ((decide (0≤(-1))),())))
 (λv6=>(some v6))))).bind λv7 =>
 (cond v7.1
 (some (11,()))
 (some (0,())))))))
theorem im_ (a0:aa_) (a1:(List ab_)):Le (et_ a0 a1) (ci_ a0 a1):=by
 unfold et_ ci_
 repeat' first | with_reducible exact Le.refl _ | (with_reducible apply Le.bind) | (with_reducible apply Le.cnd) | (with_reducible apply Le.sm) | (with_reducible apply Le.itC) | (with_reducible apply Le.atD) | (with_reducible apply bn_) | (with_reducible apply bv_) | (with_reducible apply cb_) | (with_reducible apply jb_) | intro
noncomputable def he_ (a0:aa_) (a1:(List ab_)):Option (Int×Unit) :=
  ((mk? (α:=Int) a0.1 0).bind λv0 =>
 ((itC (ρ:=((Unit×(Unit×((List Int)×((Int×Unit)×Unit))))⊕(Int×Unit))) (λ(v1:(Unit×(Unit×((List Int)×((Int×Unit)×Unit))))) =>
 ((jl_ a1 v1.2.2.1).bind λv2 =>
 (cond (decide (v2.1<0))
 ((itC (ρ:=(Int×((List Int)×Unit))) (λ(v3:(Int×((List Int)×Unit))) =>
 (((cond (decide (0≤v3.1))
 ((at? v3.2.1 v3.1).bind λv4 =>
 ((at? v3.2.1 v3.1).bind λv5 =>
 (some ((v5==(w64 (a0.2 - 1))),()))))
 (some (false,())))).bind λv6 =>
 (cond v6.1
 ((at? v3.2.1 v3.1).bind λv7 =>
 ((at? v3.2.1 v3.1).bind λv8 =>
 (some (inl ((w64 (v3.1 - 1)),((v3.2.1.set v3.1.toNat 0),()))))))
 (some (inr (v3.1,(v3.2.1,()))))))) ((w64 (a0.1 - 1)),(v1.2.2.1,()))).bind λv9 =>
 (cond (decide (v9.1<0))
 (some (inr (inr ((w64 (v1.2.2.2.1.1+1)),()))))
 ((at? v9.2.1 v9.1).bind λv10 =>
 ((at? v9.2.1 v9.1).bind λv11 =>
 ((at? v9.2.1 v9.1).bind λv12 =>
 ((at? v9.2.1 v9.1).bind λv13 =>
 (some (inl ((),((),((v9.2.1.set v9.1.toNat (w64 (v11+1))),(((w64 (v1.2.2.2.1.1+1)),()),()))))))))))))
 ((itC (ρ:=(Int×((List Int)×Unit))) (λ(v14:(Int×((List Int)×Unit))) =>
 (((cond (decide (0≤v14.1))
 ((at? v14.2.1 v14.1).bind λv15 =>
 ((at? v14.2.1 v14.1).bind λv16 =>
 (some ((v16==(w64 (a0.2 - 1))),()))))
 (some (false,())))).bind λv17 =>
 (cond v17.1
 ((at? v14.2.1 v14.1).bind λv18 =>
 ((at? v14.2.1 v14.1).bind λv19 =>
 (some (inl ((w64 (v14.1 - 1)),((v14.2.1.set v14.1.toNat 0),()))))))
 (some (inr (v14.1,(v14.2.1,()))))))) ((w64 (a0.1 - 1)),(v1.2.2.1,()))).bind λv20 =>
 (cond (decide (v20.1<0))
 (some (inr (inr (v1.2.2.2.1.1,()))))
 ((at? v20.2.1 v20.1).bind λv21 =>
 ((at? v20.2.1 v20.1).bind λv22 =>
 ((at? v20.2.1 v20.1).bind λv23 =>
 ((at? v20.2.1 v20.1).bind λv24 =>
 (some (inl ((),((),((v20.2.1.set v20.1.toNat (w64 (v22+1))),((v1.2.2.2.1.1,()),()))))))))))))))) ((),((),(v0,((0,()),()))))).bind λv25 =>
 (cc_ v25 (λv26=>(some (v26.2.2.2.1.1,())))
 (λv27=>(some v27)))))
theorem nk_ (a0:aa_) (a1:(List ab_)):Le (he_ a0 a1) (cw_ a0 a1):=by
 unfold he_ cw_
 repeat' first | with_reducible exact Le.refl _ | (with_reducible apply Le.bind) | (with_reducible apply Le.cnd) | (with_reducible apply Le.sm) | (with_reducible apply Le.itC) | (with_reducible apply Le.atD) | (with_reducible apply bn_) | (with_reducible apply bv_) | (with_reducible apply cb_) | (with_reducible apply mg_) | intro
noncomputable def mb_ (a0:aa_) (a1:ab_) (a2:(List Int)):Option (Bool×Int×Unit) :=
  ((hq_ a0 a1).bind λv0 =>
 (cond (v0.1 != 0)
 (some (false,(v0.1,())))
 ((du_ a0 a2).bind λv1 =>
 (cond (v1.1 != 0)
 (some (false,(v1.1,())))
 ((jk_ a1 a2).bind λv2 =>
 (some (v2.1,(0,()))))))))
theorem su_ (a0:aa_) (a1:ab_) (a2:(List Int)):Le (mb_ a0 a1 a2) (ec_ a0 a1 a2):=by
 unfold mb_ ec_
 repeat' first | with_reducible exact Le.refl _ | (with_reducible apply Le.bind) | (with_reducible apply Le.cnd) | (with_reducible apply Le.sm) | (with_reducible apply Le.itC) | (with_reducible apply Le.atD) | (with_reducible apply bn_) | (with_reducible apply bv_) | (with_reducible apply cb_) | (with_reducible apply mf_) | (with_reducible apply fs_) | (with_reducible apply oq_) | intro
noncomputable def ef_ (a0:aa_) (a1:(List ab_)):Option (Int×Int×Unit) :=
  ((et_ a0 a1).bind λv0 =>
 (cond (v0.1 != 0)
 (some (0,(v0.1,())))
 ((he_ a0 a1).bind λv1 =>
 (some (v1.1,(0,()))))))
theorem mh_ (a0:aa_) (a1:(List ab_)):Le (ef_ a0 a1) (az_ a0 a1):=by
 unfold ef_ az_
 repeat' first | with_reducible exact Le.refl _ | (with_reducible apply Le.bind) | (with_reducible apply Le.cnd) | (with_reducible apply Le.sm) | (with_reducible apply Le.itC) | (with_reducible apply Le.atD) | (with_reducible apply bn_) | (with_reducible apply bv_) | (with_reducible apply cb_) | (with_reducible apply im_) | (with_reducible apply nk_) | intro
noncomputable def nm_ (a0:aa_) (a1:(List ab_)) (a2:(List Int)):Option (Int×Bool×Int×Unit) :=
  ((et_ a0 a1).bind λv0 =>
 (cond (v0.1 != 0)
 (some (0,(false,(v0.1,()))))
 ((du_ a0 a2).bind λv1 =>
 (cond (v1.1 != 0)
 (some (0,(false,(v1.1,()))))
 ((jl_ a1 a2).bind λv2 =>
 (some (v2.1,((decide (v2.1<0)),(0,())))))))))
theorem vl_ (a0:aa_) (a1:(List ab_)) (a2:(List Int)):Le (nm_ a0 a1 a2) (fe_ a0 a1 a2):=by
 unfold nm_ fe_
 repeat' first | with_reducible exact Le.refl _ | (with_reducible apply Le.bind) | (with_reducible apply Le.cnd) | (with_reducible apply Le.sm) | (with_reducible apply Le.itC) | (with_reducible apply Le.atD) | (with_reducible apply bn_) | (with_reducible apply bv_) | (with_reducible apply cb_) | (with_reducible apply mg_) | (with_reducible apply fs_) | (with_reducible apply im_) | intro
noncomputable def kk_ (a0:al_) (a1:Int) (a2:ab_):Option (Bool×Unit) :=
  ((at? a0.1 a1).bind λv0 =>
 ((at? a0.2.1 a1).bind λv1 =>
 ((mb_ v0 a2 v1).bind λv2 =>
 (cond (v2.2.1==0)
 (some (v2.1,()))
 (some (false,()))))))
theorem nj_ (a0:al_) (a1:Int) (a2:ab_):Le (kk_ a0 a1 a2) (dx_ a0 a1 a2):=by
 unfold kk_ dx_
 repeat' first | with_reducible exact Le.refl _ | (with_reducible apply Le.bind) | (with_reducible apply Le.cnd) | (with_reducible apply Le.sm) | (with_reducible apply Le.itC) | (with_reducible apply Le.atD) | (with_reducible apply bn_) | (with_reducible apply bv_) | (with_reducible apply cb_) | (with_reducible apply su_) | intro
noncomputable def cx_ (a0:aa_) (a1:(List ab_)):Option ((List (List Int))×Unit) :=
  ((mk? (α:=Int) a0.1 0).bind λv0 =>
 ((bz2 (nm_ a0 a1) a0.2 5 0 v0 []).bind λv75 =>
 (some (v75.2.1.1,()))))
theorem jz_ (a0:aa_) (a1:(List ab_)):Le (cx_ a0 a1) (bk_ a0 a1):=by
 unfold cx_ bk_
 repeat' first | with_reducible exact Le.refl _ | (with_reducible apply Le.bind) | (with_reducible apply Le.cnd) | (with_reducible apply Le.sm) | (with_reducible apply Le.itC) | (with_reducible apply Le.atD) | (with_reducible apply bn_) | (with_reducible apply bv_) | (with_reducible apply cb_) | (with_reducible apply vl_) | intro
noncomputable def ee_ (a0:al_):Option (Int×Unit) :=
  ((((bo_ (a0.1.length:Int) 1 8).bind λv0 =>
 (cond (!v0.1)
 (some (true,()))
 (cond ((a0.2.1.length:Int) != (a0.1.length:Int))
 (some (true,()))
 (cond ((a0.2.2.1.length:Int) != (a0.1.length:Int))
 (some (true,()))
 (some ((decide (10<(a0.2.2.2.length:Int))),()))))))).bind λv1 =>
 (cond v1.1
 (some (70,()))
 ((itC (ρ:=(Unit⊕(Int×Unit))) (λ(v2:(Int×Unit)) =>
 (cond (decide (v2.1<(a0.1.length:Int)))
 ((at? a0.1 v2.1).bind λv3 =>
 ((((at? a0.2.1 v2.1).bind λv4 =>
 ((du_ v3 v4).bind λv5 =>
 (cond (v5.1 != 0)
 (some (true,()))
 ((at? a0.2.2.1 v2.1).bind λv6 =>
 (some ((decide (20<(v6.length:Int))),()))))))).bind λv7 =>
 (cond v7.1
 (some (inr (inr (70,()))))
 ((at? a0.2.2.1 v2.1).bind λv8 =>
 ((((itC (ρ:=(Unit⊕(Bool×Unit))) (λ(v9:(Int×Unit)) =>
 (cond (decide (v9.1<(v8.length:Int)))
 ((at? v8 v9.1).bind λv10 =>
 ((kk_ a0 v2.1 v10).bind λv11 =>
 (cond (!v11.1)
 (some (inr (inr ((decide (0≤v9.1)),()))))
 (some (inl ((w64 (v9.1+1)),()))))))
 (some (inr (inl ()))))) (0,())).bind λv12 =>
 (cc_ v12 (λv13=>(some ((decide (0≤(-1))),())))
 (λv14=>(some v14))))).bind λv15 =>
 (cond v15.1
 (some (inr (inr (70,()))))
 (some (inl ((w64 (v2.1+1)),())))))))))
 (some (inr (inl ()))))) (0,())).bind λv16 =>
 (cc_ v16 (λv17=>((((itC (ρ:=(Unit⊕(Bool×Unit))) (λ(v19:(Int×Unit)) =>
 (cond (decide (v19.1<(a0.2.2.2.length:Int)))
 ((at? a0.2.2.2 v19.1).bind λv20 =>
 ((kg_ a0 v20).bind λv21 =>
 (cond (!v21.1)
 (some (inr (inr ((decide (0≤v19.1)),()))))
 (some (inl ((w64 (v19.1+1)),()))))))
 (some (inr (inl ()))))) (0,())).bind λv22 =>
 (cc_ v22 (λv23=>(some ((decide (0≤(-1))),())))
 (λv24=>(some v24))))).bind λv25 =>
 (cond v25.1
 (some (70,()))
 (some (0,())))))
 (λv18=>(some v18))))))
theorem me_ (a0:al_):Le (ee_ a0) (ca_ a0):=by
 unfold ee_ ca_
 repeat' first | with_reducible exact Le.refl _ | (with_reducible apply Le.bind) | (with_reducible apply Le.cnd) | (with_reducible apply Le.sm) | (with_reducible apply Le.itC) | (with_reducible apply Le.atD) | (with_reducible apply bn_) | (with_reducible apply bv_) | (with_reducible apply cb_) | (with_reducible apply fs_) | (with_reducible apply nj_) | intro
noncomputable def hc_ (a0:al_) (a1:hj_):Option (Bool×Unit) :=
  ((bo_ a1.1 0 (w64 ((a0.1.length:Int) - 1))).bind λv0 =>
 (cond v0.1
 ((kk_ a0 a1.1 a1.2).bind λv1 =>
 (some (v1.1,())))
 (some (false,()))))
theorem ss_ (a0:al_) (a1:hj_):Le (hc_ a0 a1) (fm_ a0 a1):=by
 unfold hc_ fm_
 repeat' first | with_reducible exact Le.refl _ | (with_reducible apply Le.bind) | (with_reducible apply Le.cnd) | (with_reducible apply Le.sm) | (with_reducible apply Le.itC) | (with_reducible apply Le.atD) | (with_reducible apply bn_) | (with_reducible apply bv_) | (with_reducible apply cb_) | (with_reducible apply nj_) | intro
noncomputable def ks_ (a0:al_):Option (Int×Int×Unit) :=
  ((ee_ a0).bind λv0 =>
 (cond (v0.1 != 0)
 (cond (v0.1 != 0)
 (some (0,(v0.1,())))
 none)
 ((itC (ρ:=(Unit⊕(Int×(Int×Unit)))) (λ(v1:(Int×(Int×Unit))) =>
 (cond (decide (v1.2.1<(a0.1.length:Int)))
 ((at? a0.1 v1.2.1).bind λv2 =>
 ((at? a0.2.2.1 v1.2.1).bind λv3 =>
 ((ef_ v2 v3).bind λv4 =>
 (cond (v4.2.1 != 0)
 (((cond (v4.2.1 != 0)
 (some (0,(v4.2.1,())))
 none)).bind λv5 =>
 (some (inr (inr v5))))
 (cond (decide (20000<(w64 (v1.1 * v4.1))))
 (some (inr (inr (0,(2,())))))
 (some (inl ((w64 (v1.1 * v4.1)),((w64 (v1.2.1+1)),())))))))))
 (some (inr (inl ()))))) (1,(0,()))).bind λv6 =>
 (cc_ v6 (λv7=>((itC (ρ:=(((List (List (List Int)))×Unit)×Unit)) (λ(v9:(Int×(((List (List (List Int)))×Unit)×Unit))) =>
 (cond (decide (v9.1<(a0.1.length:Int)))
 ((at? a0.1 v9.1).bind λv10 =>
 ((at? a0.2.2.1 v9.1).bind λv11 =>
 ((cx_ v10 v11).bind λv12 =>
 ((push? (α:=(List (List Int))) v9.2.1.1 ([v12.1]:List (List (List Int)))).bind λv13 =>
 (some (inl ((w64 (v9.1+1)),((v13,()),()))))))))
 (some (inr ((v9.2.1.1,()),()))))) (0,(([],()),()))).bind λv14 =>
 (((mk? (α:=Int) (a0.1.length:Int) 0).bind λv15 =>
 (aw1 true (λn w=>((),(w,((n,()),())))) (λa=>a.2.2.1.1) (λa=>a.2.1) a0.2.2.2 v14.1.1 (λw n=>some (w64 (n+1),())) 3 ((Int×Unit)×Unit) (λn w=>((n,()),())) 0 0 v15)).bind λv116 =>
 (some (v116.1.1,(0,()))))))
 (λv8=>(some v8))))))
theorem ro_ (a0:al_):Le (ks_ a0) (hy_ a0):=by
 unfold ks_ hy_
 repeat' first | with_reducible exact Le.refl _ | (with_reducible apply Le.bind) | (with_reducible apply Le.cnd) | (with_reducible apply Le.sm) | (with_reducible apply Le.itC) | (with_reducible apply Le.atD) | (with_reducible apply bn_) | (with_reducible apply bv_) | (with_reducible apply cb_) | (with_reducible apply mh_) | (with_reducible apply jz_) | (with_reducible apply me_) | intro
noncomputable def kt_ (a0:al_) (a1:hj_):Option ((List Int)×Int×Unit) :=
  ((ee_ a0).bind λv0 =>
 (cond (v0.1 != 0)
 (cond (v0.1 != 0)
 (cond (v0.1 != 0)
 (some ([],(v0.1,())))
 none)
 ((hc_ a0 a1).bind λv1 =>
 (cond (!v1.1)
 (some ([],(70,())))
 ((fd_ a0 a1.1).bind λv2 =>
 (cond v2.1
 (some ([],(2,())))
 ((il_ a0 a1).bind λv3 =>
 ((ee_ v3.1).bind λv4 =>
 (cond (v4.1 != 0)
 (cond (v4.1 != 0)
 (some ([],(v4.1,())))
 none)
 ((itC (ρ:=(Unit⊕((List Int)×(Int×Unit)))) (λ(v5:(Int×(Int×Unit))) =>
 (cond (decide (v5.2.1<(v3.1.1.length:Int)))
 ((at? v3.1.1 v5.2.1).bind λv6 =>
 ((at? v3.1.2.2.1 v5.2.1).bind λv7 =>
 ((ef_ v6 v7).bind λv8 =>
 (cond (v8.2.1 != 0)
 (((cond (v8.2.1 != 0)
 (some ([],(v8.2.1,())))
 none)).bind λv9 =>
 (some (inr (inr v9))))
 (cond (decide (20000<(w64 (v5.1 * v8.1))))
 (some (inr (inr ([],(2,())))))
 (some (inl ((w64 (v5.1 * v8.1)),((w64 (v5.2.1+1)),())))))))))
 (some (inr (inl ()))))) (1,(0,()))).bind λv10 =>
 (cc_ v10 (λv11=>((itC (ρ:=(((List (List (List Int)))×Unit)×Unit)) (λ(v13:(Int×(((List (List (List Int)))×Unit)×Unit))) =>
 (cond (decide (v13.1<(v3.1.1.length:Int)))
 ((at? v3.1.1 v13.1).bind λv14 =>
 ((at? v3.1.2.2.1 v13.1).bind λv15 =>
 ((cx_ v14 v15).bind λv16 =>
 ((push? (α:=(List (List Int))) v13.2.1.1 ([v16.1]:List (List (List Int)))).bind λv17 =>
 (some (inl ((w64 (v13.1+1)),((v17,()),()))))))))
 (some (inr ((v13.2.1.1,()),()))))) (0,(([],()),()))).bind λv18 =>
 none))
 (λv12=>(some v12))))))))))))
 ((itC (ρ:=(Unit⊕((List Int)×(Int×Unit)))) (λ(v19:(Int×(Int×Unit))) =>
 (cond (decide (v19.2.1<(a0.1.length:Int)))
 ((at? a0.1 v19.2.1).bind λv20 =>
 ((at? a0.2.2.1 v19.2.1).bind λv21 =>
 ((ef_ v20 v21).bind λv22 =>
 (cond (v22.2.1 != 0)
 (((cond (v22.2.1 != 0)
 (cond (v22.2.1 != 0)
 (some ([],(v22.2.1,())))
 none)
 ((hc_ a0 a1).bind λv23 =>
 (cond (!v23.1)
 (some ([],(70,())))
 ((fd_ a0 a1.1).bind λv24 =>
 (cond v24.1
 (some ([],(2,())))
 ((il_ a0 a1).bind λv25 =>
 ((ee_ v25.1).bind λv26 =>
 (cond (v26.1 != 0)
 (cond (v26.1 != 0)
 (some ([],(v26.1,())))
 none)
 ((itC (ρ:=(Unit⊕((List Int)×(Int×Unit)))) (λ(v27:(Int×(Int×Unit))) =>
 (cond (decide (v27.2.1<(v25.1.1.length:Int)))
 ((at? v25.1.1 v27.2.1).bind λv28 =>
 ((at? v25.1.2.2.1 v27.2.1).bind λv29 =>
 ((ef_ v28 v29).bind λv30 =>
 (cond (v30.2.1 != 0)
 (((cond (v30.2.1 != 0)
 (some ([],(v30.2.1,())))
 none)).bind λv31 =>
 (some (inr (inr v31))))
 (cond (decide (20000<(w64 (v27.1 * v30.1))))
 (some (inr (inr ([],(2,())))))
 (some (inl ((w64 (v27.1 * v30.1)),((w64 (v27.2.1+1)),())))))))))
 (some (inr (inl ()))))) (1,(0,()))).bind λv32 =>
 (cc_ v32 (λv33=>((itC (ρ:=(((List (List (List Int)))×Unit)×Unit)) (λ(v35:(Int×(((List (List (List Int)))×Unit)×Unit))) =>
 (cond (decide (v35.1<(v25.1.1.length:Int)))
 ((at? v25.1.1 v35.1).bind λv36 =>
 ((at? v25.1.2.2.1 v35.1).bind λv37 =>
 ((cx_ v36 v37).bind λv38 =>
 ((push? (α:=(List (List Int))) v35.2.1.1 ([v38.1]:List (List (List Int)))).bind λv39 =>
 (some (inl ((w64 (v35.1+1)),((v39,()),()))))))))
 (some (inr ((v35.2.1.1,()),()))))) (0,(([],()),()))).bind λv40 =>
 none))
 (λv34=>(some v34))))))))))))).bind λv41 =>
 (some (inr (inr v41))))
 (cond (decide (20000<(w64 (v19.1 * v22.1))))
 (some (inr (inr ([],(2,())))))
 (some (inl ((w64 (v19.1 * v22.1)),((w64 (v19.2.1+1)),())))))))))
 (some (inr (inl ()))))) (1,(0,()))).bind λv42 =>
 (cc_ v42 (λv43=>((itC (ρ:=(((List (List (List Int)))×Unit)×Unit)) (λ(v45:(Int×(((List (List (List Int)))×Unit)×Unit))) =>
 (cond (decide (v45.1<(a0.1.length:Int)))
 ((at? a0.1 v45.1).bind λv46 =>
 ((at? a0.2.2.1 v45.1).bind λv47 =>
 ((cx_ v46 v47).bind λv48 =>
 ((push? (α:=(List (List Int))) v45.2.1.1 ([v48.1]:List (List (List Int)))).bind λv49 =>
 (some (inl ((w64 (v45.1+1)),((v49,()),()))))))))
 (some (inr ((v45.2.1.1,()),()))))) (0,(([],()),()))).bind λv50 =>
 ((hc_ a0 a1).bind λv51 =>
 (cond (!v51.1)
 (some ([],(70,())))
 ((fd_ a0 a1.1).bind λv52 =>
 (cond v52.1
 (some ([],(2,())))
 ((il_ a0 a1).bind λv53 =>
 ((ee_ v53.1).bind λv54 =>
 (cond (v54.1 != 0)
 (cond (v54.1 != 0)
 (some ([],(v54.1,())))
 none)
 ((itC (ρ:=(Unit⊕((List Int)×(Int×Unit)))) (λ(v55:(Int×(Int×Unit))) =>
 (cond (decide (v55.2.1<(v53.1.1.length:Int)))
 ((at? v53.1.1 v55.2.1).bind λv56 =>
 ((at? v53.1.2.2.1 v55.2.1).bind λv57 =>
 ((ef_ v56 v57).bind λv58 =>
 (cond (v58.2.1 != 0)
 (((cond (v58.2.1 != 0)
 (some ([],(v58.2.1,())))
 none)).bind λv59 =>
 (some (inr (inr v59))))
 (cond (decide (20000<(w64 (v55.1 * v58.1))))
 (some (inr (inr ([],(2,())))))
 (some (inl ((w64 (v55.1 * v58.1)),((w64 (v55.2.1+1)),())))))))))
 (some (inr (inl ()))))) (1,(0,()))).bind λv60 =>
 (cc_ v60 (λv61=>((itC (ρ:=(((List (List (List Int)))×Unit)×Unit)) (λ(v63:(Int×(((List (List (List Int)))×Unit)×Unit))) =>
 (cond (decide (v63.1<(v53.1.1.length:Int)))
 ((at? v53.1.1 v63.1).bind λv64 =>
 ((at? v53.1.2.2.1 v63.1).bind λv65 =>
 ((cx_ v64 v65).bind λv66 =>
 ((push? (α:=(List (List Int))) v63.2.1.1 ([v66.1]:List (List (List Int)))).bind λv67 =>
 (some (inl ((w64 (v63.1+1)),((v67,()),()))))))))
 (some (inr ((v63.2.1.1,()),()))))) (0,(([],()),()))).bind λv68 =>
 ((hd_ (a0,v50.1.1) (v53.1,v68.1.1)).bind λv69 =>
 ((((itC (ρ:=(Unit⊕(Int×Unit))) (λ(v70:(Int×Unit)) =>
 (cond (decide (v70.1<(v69.length:Int)))
 ((at? v69 v70.1).bind λv71 =>
 ((at? v69 v70.1).bind λv72 =>
 (cond (v72==a1.1)
 (some (inr (inr (v70.1,()))))
 (some (inl ((w64 (v70.1+1)),()))))))
 (some (inr (inl ()))))) (0,())).bind λv73 =>
 (cc_ v73 (λv74=>(some ((-1),())))
 (λv75=>(some v75))))).bind λv76 =>
 (cond (v76.1==(-1))
 (some (v69,(0,())))
 ((itC (ρ:=(Int×((List Int)×Unit))) (λ(v77:(Int×(Int×((List Int)×Unit)))) =>
 (cond (decide (v77.2.1<(v77.2.2.1.length:Int)))
 ((((at? v77.2.2.1 v77.2.1).bind λv78 =>
 ((at? v77.2.2.1 v77.2.1).bind λv79 =>
 (cond (!(v79==a1.1))
 ((at? v77.2.2.1 v77.1).bind λv80 =>
 ((at? v77.2.2.1 v77.1).bind λv81 =>
 (some ((w64 (v77.1+1)),((v77.2.2.1.set v77.1.toNat v79),())))))
 (some (v77.1,(v77.2.2.1,()))))))).bind λv82 =>
 (some (inl (v82.1,((w64 (v77.2.1+1)),(v82.2.1,()))))))
 (some (inr (v77.1,(v77.2.2.1,())))))) (v76.1,((w64 (v76.1+1)),(v69,())))).bind λv83 =>
 ((sub? v83.2.1 v83.1 (v83.2.1.length:Int)).bind λv84 =>
 ((sub? ((List.take v83.1.toNat v83.2.1)++(List.replicate (v83.2.1.length - v83.1.toNat) 0)) 0 v83.1).bind λv85 =>
 (some (v85,(0,())))))))))))
 (λv62=>(some v62)))))))))))))
 (λv44=>(some v44))))))
theorem rp_ (a0:al_) (a1:hj_):Le (kt_ a0 a1) (hz_ a0 a1):=by
 unfold kt_ hz_
 repeat' first | with_reducible exact Le.refl _ | (with_reducible apply Le.bind) | (with_reducible apply Le.cnd) | (with_reducible apply Le.sm) | (with_reducible apply Le.itC) | (with_reducible apply Le.atD) | (with_reducible apply bn_) | (with_reducible apply bv_) | (with_reducible apply cb_) | (with_reducible apply vk_) | (with_reducible apply ni_) | (with_reducible apply mh_) | (with_reducible apply jz_) | (with_reducible apply me_) | (with_reducible apply ss_) | intro
noncomputable def qo_:Option (Bool×Unit) :=
  ((ks_ ([(2,4),(1,4)],(([[3,1],[1]]:List (List Int)),(([[(2,(0,(1,(4,(0,([],false))))))],[]]:List (List ab_)),[(0,(1,(1,0)))])))).bind λv0 =>
 ((kt_ ([(2,4),(1,4)],(([[3,1],[1]]:List (List Int)),(([[(2,(0,(1,(4,(0,([],false))))))],[]]:List (List ab_)),[(0,(1,(1,0)))]))) (0,(1,(0,(0,(3,(0,([],false)))))))).bind λv1 =>
 (cond (v0.2.1==0)
 (cond (v1.2.1==0)
 (cond (v0.1==3)
 ((iy_ v1.1 [1]).bind λv2 =>
 (some (v2.1,())))
 (some (false,())))
 (some (false,())))
 (some (false,())))))
theorem sr_:Le (qo_) (cp_):=by
 unfold qo_ cp_
 repeat' first | with_reducible exact Le.refl _ | (with_reducible apply Le.bind) | (with_reducible apply Le.cnd) | (with_reducible apply Le.sm) | (with_reducible apply Le.itC) | (with_reducible apply Le.atD) | (with_reducible apply bn_) | (with_reducible apply bv_) | (with_reducible apply cb_) | (with_reducible apply pp_) | (with_reducible apply ro_) | (with_reducible apply rp_) | intro
theorem ak9:cp_=some (true,()):=sr_ _ (by kernel_rfl)
end
end Go.Proofs.YtlbfbdbagohinaaGreatDoor.Rx
namespace Go.Proofs.YtlbfbdbagohinaaGreatDoor.Rx
section
theorem law07_HintsAlong (g:ac_) (a b:Int):er_ g a b=some (true,()):=zt_ ak9 g a b
end
end Go.Proofs.YtlbfbdbagohinaaGreatDoor.Rx
