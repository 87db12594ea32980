/- A part of the proof: what the functions of the program compute, shown over the model. -/
import Derived.KernelRfl
import Derived.Test.YtfcgcpjnpdkjmaaGreatDoorPart3
set_option linter.unusedSectionVars false
set_option linter.unusedSimpArgs false
set_option linter.unusedVariables false
section
set_option maxHeartbeats 4000000
set_option maxRecDepth 100000
namespace Go.Proofs.YtfcgcpjnpdkjmaaGreatDoor.Pad
open Go Go.Proofs
theorem dg_ {w:World} {S:PH} {Fr:List HP} {a0:CodeLock} {v0:Value} {a1:Int} {r:Bool} (hI:Inv w S (Fr)) (h0_:RV S v0 a0) (h:cg_ a0 a1=some r) :
    Calls Tryz.prog 199 [v0,(Value.int .i64 (a1))].toArray w (fh_ S Fr (Value.bool (r))):=by
 unfold cg_ at h
 have e1:=CodeLock.inv h0_
 subst e1
 refine av_ (n:=10) Tryz.func199 rfl rfl rfl (ab_ (aa_ (wo_ (dv_ (v:=(.agg #[(vi a0.Wheels),(vi a0.Symbols)])) rfl hI rfl (fun g1 w1 I1 => ?_)))))
 obtain ⟨S1,le1,I2,p1⟩:=Inv.boxFreeze (x:=a0) I1 (CodeLock.rv (s:=a0))
 refine wa_ (v:=(vb false)) rfl rfl (ad_ (ab_ (aa_ (wm_ (v:=(vi a1)) rfl rfl (wo_ (fa_ rz_ (p1.at_ I2) rfl (wo_ (li_ sh3 ((p1.at_ I2).fld CodeLock.fld0) rfl (wo_ (mo_ rfl rfl rfl ?_))))))))))
 obtain ⟨x1,hx1,h⟩:=bnd h
 refine wo_ (cv_ zq_ rfl I2 (fun Fr_ hF_=>co_ hF_  hx1) (mh_ rfl rfl rfl) (fun w2 I3=>(wa_ (v:=(vb x1)) rfl rfl (ad_ (ap_ ?_)))))
 obtain rfl:=sj h
 exact ⟨rfl,(vb x1),(eb_ rfl rfl),_,[],le1,I3,rfl,rfl⟩
theorem mx_ {w:World} {S:PH} {Fr:List HP} {a0:CodeLock} {v0:Value} {a1:Clue} {v1:Value} {r:Bool} (hI:Inv w S (Fr)) (h0_:RV S v0 a0) (h1_:RV S v1 a1) (h:fp_ a0 a1=some r) :
    Calls Tryz.prog 135 [v0,v1].toArray w (fh_ S Fr (Value.bool (r))):=by
 unfold fp_ at h
 have e1:=CodeLock.inv h0_
 subst e1
 obtain ⟨c1,e2,r1⟩:=Clue.inv h1_
 subst e2
 obtain ⟨z1,m1,k1,rfl⟩:=bb_ r1
 refine av_ (n:=205) Tryz.func135 rfl rfl rfl (ab_ (aa_ (wo_ (dv_ (v:=(.agg #[(vi a0.Wheels),(vi a0.Symbols)])) rfl hI rfl (fun g1 w1 I1 => ?_)))))
 obtain ⟨S1,le1,I2,p1⟩:=Inv.boxFreeze (x:=a0) I1 (CodeLock.rv (s:=a0))
 refine wo_ (dv_ (v:=(.agg #[(vi a1.Kind),(vi a1.A),(vi a1.B),(vi a1.N),(vi a1.M),(.slice z1 m1 k1),(vb a1.Not)])) rfl I2 rfl (fun g2 w2 I3 => ?_))
 obtain ⟨S2,le2,I4,p2⟩:=Inv.boxFreeze (x:=a1) I3 (Clue.rv (s:=a1) (r1.mono le1))
 refine wa_ (v:=(vb false)) rfl rfl (ad_ (ab_ (aa_ (wo_ (fa_ vh_ (p2.at_ I4) rfl (wo_ (li_ sh3 ((p2.at_ I4).fld Clue.fld0) rfl (wo_ (fa_ mp_ (p2.at_ I4) rfl (wo_ (lb_ sh4 ((p2.at_ I4).fld Clue.fld6) rfl (wo_ (op_build (qs:=[(0,#[(vi a1.Kind)]),(6,#[(vb a1.Not)])]) (c := #[(vi a1.Kind),(vi 0),(vi 0),(vi 0),(vi 0),sn,(vb a1.Not)]) rfl st98 ⟨rfl,rfl,⟨rfl,rfl,trivial⟩⟩ rfl (wo_ (tb_ (z:=(.agg #[(vi 0),(vi 0),(vi 0),(vi 0),(vi 0),sn,(vb false)])) rfl I4 zo98 (fun g3 w3 (I5:Inv w3 S2 (bh_ g3 98 #[(vi 0),(vi 0),(vi 0),(vi 0),(vi 0),sn,(vb false)]::Fr))=>(wo_ (bt_ (v:=(.agg #[(vi a1.Kind),(vi 0),(vi 0),(vi 0),(vi 0),sn,(vb a1.Not)])) (cs := #[(vi 0),(vi 0),(vi 0),(vi 0),(vi 0),sn,(vb false)]) xe_ I5 rfl rfl rfl nb rfl (fun w4 (I6:Inv w4 S2 (bh_ g3 98 #[(vi a1.Kind),(vi 0),(vi 0),(vi 0),(vi 0),sn,(vb a1.Not)]::Fr))=>(ad_ (ab_ (aa_ (wa_ (v:=(vb false)) rfl rfl (ad_ ?_))))))))))))))))))))))))
 obtain ⟨v2,h5,h⟩:=bnd h
 refine pf_ (fun f w=>∃ (S_:PH) (z6:Option Addr) (m6 k6:Nat),S2.Le S_∧Inv w S_ (bh_ g3 98 #[(vi a1.Kind),(vi v2.1),(vi v2.2.1),(vi v2.2.2.1),(vi v2.2.2.2.1),(.slice z6 m6 k6),(vb a1.Not)]::Fr)∧f 3=(pt_ g2)∧f 5=(pt_ g3)∧f 6=(vb v2.2.2.2.2.2)∧RV S_ (.slice z6 m6 k6) v2.2.2.2.2.1∧f.ds=[]) ?_ ?_
 ·
  refine ab_ (aa_ (wo_ (fa_ vh_ (p2.at_ I6) rfl (wo_ (li_ sh3 ((p2.at_ I6).fld Clue.fld0) rfl (ad_ (bd_ (ab_ (aa_ (wo_ (bv_ rfl rfl rfl (wa_ (v:=(vb (a1.Kind==1))) rfl rfl (ad_ ?_)))))))))))))
  rcases ifs h5 with ⟨hc20,h5⟩ | ⟨hc20,h5⟩
  ·
   refine an_ rfl hc20 (ab_ ?_)
   refine ek_ (sps:=[spV 16 [] 0 (aq_ (pt_ g2) 1),spV 17 [0] 1 (vi a1.A),spV 18 [] 2 (aq_ (pt_ g2) 3),spV 19 [2] 3 (vi a1.N),spV 20 [0,1] 4 (.pointer (some ⟨g3,1,none⟩)),⟨none,[0,1,4],[],fun vs_ T_=>True,[],[0],[1],fun _ h_=>h_⟩,spV 21 (lrg 6) 6 (.pointer (some ⟨g3,3,none⟩)),⟨none,(lrg 7),[],fun vs_ T_=>True,[],[1],[2],fun _ h_=>h_⟩]) (tks:=[⟨none,some 5,[],fun vs_=>bh_ g3 98 #[(vi a1.Kind),(vi 0),(vi 0),(vi 0),(vi 0),sn,(vb a1.Not)]⟩,⟨some 5,some 7,[],fun vs_=>bh_ g3 98 #[(vi a1.Kind),(vi a1.A),(vi 0),(vi 0),(vi 0),sn,(vb a1.Not)]⟩,⟨some 7,none,[],fun vs_=>bh_ g3 98 #[(vi a1.Kind),(vi a1.A),(vi 0),(vi a1.N),(vi 0),sn,(vb a1.Not)]⟩]) (O:=Fr) rfl (by kernel_rfl) I6 ⟨ob_ rfl fun l A K I=>(ac_ rfl da_ (K 3 (au_ rfl)) ((p2.mono l).at_ I) (fo I)),ob_ rfl fun l A K I=>(aj_ rfl sh3 (A.v 0 rfl) (((p2.mono l).at_ I).fld Clue.fld1) (fo I)),ob_ rfl fun l A K I=>(ac_ rfl ci_ (K 3 (au_ rfl)) ((p2.mono l).at_ I) (fo I)),ob_ rfl fun l A K I=>(aj_ rfl sh3 (A.v 0 rfl) (((p2.mono l).at_ I).fld Clue.fld3) (fo I)),ob_ rfl fun l A K I=>(aw_ (v:=(pt_ g3)) rfl da_ (K 5 (au_ rfl)) rfl (fo I)),?_,ob_ rfl fun l A K I=>(aw_ (v:=(pt_ g3)) rfl ci_ (K 5 (au_ rfl)) rfl (fo I)),?_,trivial⟩ ?_
   ·
    intro vs f w_ U X le A K I
    have I127:Inv w_ U (bh_ g3 98 #[(vi a1.Kind),(vi 0),(vi 0),(vi 0),(vi 0),sn,(vb a1.Not)]::X):=I
    have q49:=A.v 1 rfl
    have q50:=A.v 2 rfl
    refine pl_ rfl (bt_ (v:=(vi a1.A)) (cs := #[(vi a1.Kind),(vi 0),(vi 0),(vi 0),(vi 0),sn,(vb a1.Not)]) sh3 I127 q50 q49 rfl nb rfl (fun w125 (I128:Inv w125 U (bh_ g3 98 #[(vi a1.Kind),(vi a1.A),(vi 0),(vi 0),(vi 0),sn,(vb a1.Not)]::X))=>(⟨undef,_,rfl,lr,?_,?_⟩)))
    · exact trivial
    exact I128
   ·
    intro vs f w_ U X le A K I
    have I130:Inv w_ U (bh_ g3 98 #[(vi a1.Kind),(vi a1.A),(vi 0),(vi 0),(vi 0),sn,(vb a1.Not)]::X):=I
    have q51:=A.v 3 rfl
    have q52:=A.v 6 rfl
    refine pl_ rfl (bt_ (v:=(vi a1.N)) (cs := #[(vi a1.Kind),(vi a1.A),(vi 0),(vi 0),(vi 0),sn,(vb a1.Not)]) sh3 I130 q52 q51 rfl nb rfl (fun w128 (I131:Inv w128 U (bh_ g3 98 #[(vi a1.Kind),(vi a1.A),(vi 0),(vi a1.N),(vi 0),sn,(vb a1.Not)]::X))=>(⟨undef,_,rfl,lr,?_,?_⟩)))
    · exact trivial
    exact I131
   intro vs75 f w129 S77 ed8 le77 hF7 hK75 hI75
   have e41:f 2=(pt_ g1):=(hK75 2 (bf_ rfl)).trans rfl
   have e42:f 3=(pt_ g2):=(hK75 3 (bf_ rfl)).trans rfl
   have e43:f 5=(pt_ g3):=(hK75 5 (bf_ rfl)).trans rfl
   have I132:Inv w129 S77 (bh_ g3 98 #[(vi a1.Kind),(vi a1.A),(vi 0),(vi a1.N),(vi 0),sn,(vb a1.Not)]::Fr):=hI75
   refine aa_ (wo_ (ff_ rfl vp_ e41 ((p1.mono (le2.trans le77)).at_ I132) (fun u15 hu15 => ?_)))
   have e44:=CodeLock.inv hu15
   subst e44
   refine wo_ (ac_ rfl da_ e42 ((p2.mono le77).at_ I132) (wo_ (li_ sh3 (((p2.mono le77).at_ I132).fld Clue.fld1) rfl ?_)))
   obtain ⟨x16,hx16,h5⟩:=bnd h5
   refine wo_ (cv_ ca199 rfl I132 (fun Fr_ hF_=>dg_ hF_ (CodeLock.rv (s:=a0)) hx16) (ep_ rfl rfl) (fun w130 I133=>(wm_ (v:=(vb x16)) rfl rfl ?_)))
   rcases ifs h5 with ⟨hc21,h5⟩ | ⟨hc21,h5⟩
   ·
    refine wk_ rfl rfl hc21 (ff_ rfl vp_ e41 ((p1.mono (le2.trans le77)).at_ I133) (fun u16 hu16 => ?_))
    have e45:=CodeLock.inv hu16
    subst e45
    refine wk_ rfl rfl hc21 (ac_ rfl ci_ e42 ((p2.mono le77).at_ I133) (wk_ rfl rfl hc21 (li_ sh3 (((p2.mono le77).at_ I133).fld Clue.fld3) rfl ?_)))
    obtain ⟨x17,hx17,h5⟩:=bnd h5
    refine wk_ rfl rfl hc21 (cv_ ca200 rfl I133 (fun Fr_ hF_=>hn_ hF_ (CodeLock.rv (s:=a0)) hx17) (ep_ rfl rfl) (fun w131 I134=>(wo_ (ba_ (a:=(vb x17)) rfl rfl hc21 rfl (wa_ (v:=(vb x17)) rfl rfl (ad_ ?_))))))
    obtain rfl:=sj h5
    exact ⟨_,_,_,_,le77,I134,e42,e43,rfl,rv_nil,(ed8.trans rfl)⟩
   refine ws_ rfl rfl hc21 (ws_ rfl rfl hc21 (ws_ rfl rfl hc21 (ws_ rfl rfl hc21 (wo_ (ah_ (b:=(vb false)) rfl rfl hc21 rfl (wa_ (v:=(vb false)) rfl rfl (ad_ ?_)))))))
   obtain rfl:=sj h5
   exact ⟨_,_,_,_,le77,I133,e42,e43,rfl,rv_nil,(ed8.trans rfl)⟩
  refine ao_ rfl hc20 (ab_ (aa_ (wo_ (bv_ rfl rfl rfl (wa_ (v:=(vb (a1.Kind==2))) rfl rfl (ad_ ?_))))))
  rcases ifs h5 with ⟨hc22,h5⟩ | ⟨hc22,h5⟩
  ·
   refine an_ rfl hc22 (ab_ ?_)
   refine ek_ (sps:=[spV 34 [] 0 (aq_ (pt_ g2) 1),spV 35 [0] 1 (vi a1.A),spV 36 [] 2 (aq_ (pt_ g2) 2),spV 37 [2] 3 (vi a1.B),spV 38 [] 4 (aq_ (pt_ g2) 3),spV 39 [4] 5 (vi a1.N),spV 40 [0,1] 6 (.pointer (some ⟨g3,1,none⟩)),⟨none,[0,1,6],[],fun vs_ T_=>True,[],[0],[1],fun _ h_=>h_⟩,spV 41 [0,1,2,3,6,7] 8 (.pointer (some ⟨g3,2,none⟩)),⟨none,[0,1,2,3,6,7,8],[],fun vs_ T_=>True,[],[1],[2],fun _ h_=>h_⟩,spV 42 (lrg 10) 10 (.pointer (some ⟨g3,3,none⟩)),⟨none,(lrg 11),[],fun vs_ T_=>True,[],[2],[3],fun _ h_=>h_⟩]) (tks:=[⟨none,some 7,[],fun vs_=>bh_ g3 98 #[(vi a1.Kind),(vi 0),(vi 0),(vi 0),(vi 0),sn,(vb a1.Not)]⟩,⟨some 7,some 9,[],fun vs_=>bh_ g3 98 #[(vi a1.Kind),(vi a1.A),(vi 0),(vi 0),(vi 0),sn,(vb a1.Not)]⟩,⟨some 9,some 11,[],fun vs_=>bh_ g3 98 #[(vi a1.Kind),(vi a1.A),(vi a1.B),(vi 0),(vi 0),sn,(vb a1.Not)]⟩,⟨some 11,none,[],fun vs_=>bh_ g3 98 #[(vi a1.Kind),(vi a1.A),(vi a1.B),(vi a1.N),(vi 0),sn,(vb a1.Not)]⟩]) (O:=Fr) rfl (by kernel_rfl) I6 ⟨ob_ rfl fun l A K I=>(ac_ rfl da_ (K 3 (au_ rfl)) ((p2.mono l).at_ I) (fo I)),ob_ rfl fun l A K I=>(aj_ rfl sh3 (A.v 0 rfl) (((p2.mono l).at_ I).fld Clue.fld1) (fo I)),ob_ rfl fun l A K I=>(ac_ rfl fv_ (K 3 (au_ rfl)) ((p2.mono l).at_ I) (fo I)),ob_ rfl fun l A K I=>(aj_ rfl sh3 (A.v 0 rfl) (((p2.mono l).at_ I).fld Clue.fld2) (fo I)),ob_ rfl fun l A K I=>(ac_ rfl ci_ (K 3 (au_ rfl)) ((p2.mono l).at_ I) (fo I)),ob_ rfl fun l A K I=>(aj_ rfl sh3 (A.v 0 rfl) (((p2.mono l).at_ I).fld Clue.fld3) (fo I)),ob_ rfl fun l A K I=>(aw_ (v:=(pt_ g3)) rfl da_ (K 5 (au_ rfl)) rfl (fo I)),?_,ob_ rfl fun l A K I=>(aw_ (v:=(pt_ g3)) rfl fv_ (K 5 (au_ rfl)) rfl (fo I)),?_,ob_ rfl fun l A K I=>(aw_ (v:=(pt_ g3)) rfl ci_ (K 5 (au_ rfl)) rfl (fo I)),?_,trivial⟩ ?_
   ·
    intro vs f w_ U X le A K I
    have I145:Inv w_ U (bh_ g3 98 #[(vi a1.Kind),(vi 0),(vi 0),(vi 0),(vi 0),sn,(vb a1.Not)]::X):=I
    have q56:=A.v 1 rfl
    have q57:=A.v 2 rfl
    refine pl_ rfl (bt_ (v:=(vi a1.A)) (cs := #[(vi a1.Kind),(vi 0),(vi 0),(vi 0),(vi 0),sn,(vb a1.Not)]) sh3 I145 q57 q56 rfl nb rfl (fun w143 (I146:Inv w143 U (bh_ g3 98 #[(vi a1.Kind),(vi a1.A),(vi 0),(vi 0),(vi 0),sn,(vb a1.Not)]::X))=>(⟨undef,_,rfl,lr,?_,?_⟩)))
    · exact trivial
    exact I146
   ·
    intro vs f w_ U X le A K I
    have I148:Inv w_ U (bh_ g3 98 #[(vi a1.Kind),(vi a1.A),(vi 0),(vi 0),(vi 0),sn,(vb a1.Not)]::X):=I
    have q58:=A.v 3 rfl
    have q59:=A.v 6 rfl
    refine pl_ rfl (bt_ (v:=(vi a1.B)) (cs := #[(vi a1.Kind),(vi a1.A),(vi 0),(vi 0),(vi 0),sn,(vb a1.Not)]) sh3 I148 q59 q58 rfl nb rfl (fun w146 (I149:Inv w146 U (bh_ g3 98 #[(vi a1.Kind),(vi a1.A),(vi a1.B),(vi 0),(vi 0),sn,(vb a1.Not)]::X))=>(⟨undef,_,rfl,lr,?_,?_⟩)))
    · exact trivial
    exact I149
   ·
    intro vs f w_ U X le A K I
    have I151:Inv w_ U (bh_ g3 98 #[(vi a1.Kind),(vi a1.A),(vi a1.B),(vi 0),(vi 0),sn,(vb a1.Not)]::X):=I
    have q60:=A.v 5 rfl
    have q61:=A.v 10 rfl
    refine pl_ rfl (bt_ (v:=(vi a1.N)) (cs := #[(vi a1.Kind),(vi a1.A),(vi a1.B),(vi 0),(vi 0),sn,(vb a1.Not)]) sh3 I151 q61 q60 rfl nb rfl (fun w149 (I152:Inv w149 U (bh_ g3 98 #[(vi a1.Kind),(vi a1.A),(vi a1.B),(vi a1.N),(vi 0),sn,(vb a1.Not)]::X))=>(⟨undef,_,rfl,lr,?_,?_⟩)))
    · exact trivial
    exact I152
   intro vs88 f w150 S90 ed9 le90 hF8 hK88 hI88
   have e46:f 2=(pt_ g1):=(hK88 2 (bf_ rfl)).trans rfl
   have e47:f 3=(pt_ g2):=(hK88 3 (bf_ rfl)).trans rfl
   have e48:f 5=(pt_ g3):=(hK88 5 (bf_ rfl)).trans rfl
   have I153:Inv w150 S90 (bh_ g3 98 #[(vi a1.Kind),(vi a1.A),(vi a1.B),(vi a1.N),(vi 0),sn,(vb a1.Not)]::Fr):=hI88
   refine aa_ (wo_ (ff_ rfl vp_ e46 ((p1.mono (le2.trans le90)).at_ I153) (fun u17 hu17 => ?_)))
   have e49:=CodeLock.inv hu17
   subst e49
   refine wo_ (ac_ rfl da_ e47 ((p2.mono le90).at_ I153) (wo_ (li_ sh3 (((p2.mono le90).at_ I153).fld Clue.fld1) rfl ?_)))
   obtain ⟨x18,hx18,h5⟩:=bnd h5
   refine wo_ (cv_ ca199 rfl I153 (fun Fr_ hF_=>dg_ hF_ (CodeLock.rv (s:=a0)) hx18) (ep_ rfl rfl) (fun w151 I154=>(wm_ (v:=(vb x18)) rfl rfl ?_)))
   rcases ifs h5 with ⟨hc23,h5⟩ | ⟨hc23,h5⟩
   ·
    refine wk_ rfl rfl hc23 (ff_ rfl vp_ e46 ((p1.mono (le2.trans le90)).at_ I154) (fun u18 hu18 => ?_))
    have e50:=CodeLock.inv hu18
    subst e50
    refine wk_ rfl rfl hc23 (ac_ rfl fv_ e47 ((p2.mono le90).at_ I154) (wk_ rfl rfl hc23 (li_ sh3 (((p2.mono le90).at_ I154).fld Clue.fld2) rfl ?_)))
    obtain ⟨x19,hx19,h5⟩:=bnd h5
    refine wk_ rfl rfl hc23 (cv_ ca199 rfl I154 (fun Fr_ hF_=>dg_ hF_ (CodeLock.rv (s:=a0)) hx19) (ep_ rfl rfl) (fun w152 I155=>(wo_ (ba_ (a:=(vb x19)) rfl rfl hc23 rfl (wm_ (v:=(vb x19)) rfl rfl ?_)))))
    rcases ifs h5 with ⟨hc24,h5⟩ | ⟨hc24,h5⟩
    ·
     refine wk_ rfl rfl hc24 (ac_ rfl da_ e47 ((p2.mono le90).at_ I155) (wk_ rfl rfl hc24 (li_ sh3 (((p2.mono le90).at_ I155).fld Clue.fld1) rfl (wk_ rfl rfl hc24 (ac_ rfl fv_ e47 ((p2.mono le90).at_ I155) (wk_ rfl rfl hc24 (li_ sh3 (((p2.mono le90).at_ I155).fld Clue.fld2) rfl (wk_ rfl rfl hc24 (op_leq rfl rfl rfl (wo_ (ba_ (a:=(vb (decide (a1.A≤a1.B)))) rfl rfl hc24 rfl (wm_ (v:=(vb (decide (a1.A≤a1.B)))) rfl rfl ?_))))))))))))
     rcases ifs h5 with ⟨hc25,h5⟩ | ⟨hc25,h5⟩
     ·
      refine wk_ rfl rfl hc25 (ac_ rfl ci_ e47 ((p2.mono le90).at_ I155) (wk_ rfl rfl hc25 (li_ sh3 (((p2.mono le90).at_ I155).fld Clue.fld3) rfl ?_)))
      obtain ⟨x20,hx20,h5⟩:=bnd h5
      refine wk_ rfl rfl hc25 (cv_ zq_ rfl I155 (fun Fr_ hF_=>co_ hF_  hx20) (mh_ rfl rfl rfl) (fun w153 I156=>(wo_ (ba_ (a:=(vb x20)) rfl rfl hc25 rfl (wa_ (v:=(vb x20)) rfl rfl (ad_ ?_))))))
      obtain rfl:=sj h5
      exact ⟨_,_,_,_,le90,I156,e47,e48,rfl,rv_nil,(ed9.trans rfl)⟩
     refine ws_ rfl rfl hc25 (ws_ rfl rfl hc25 (ws_ rfl rfl hc25 (wo_ (ah_ (b:=(vb false)) rfl rfl hc25 rfl (wa_ (v:=(vb false)) rfl rfl (ad_ ?_))))))
     obtain rfl:=sj h5
     exact ⟨_,_,_,_,le90,I155,e47,e48,rfl,rv_nil,(ed9.trans rfl)⟩
    refine ws_ rfl rfl hc24 (ws_ rfl rfl hc24 (ws_ rfl rfl hc24 (ws_ rfl rfl hc24 (ws_ rfl rfl hc24 (wo_ (ah_ (b:=(vb false)) rfl rfl hc24 rfl (wm_ (v:=(vb false)) rfl rfl (ws_ rfl rfl rfl (ws_ rfl rfl rfl (ws_ rfl rfl rfl (wo_ (ah_ (b:=(vb false)) rfl rfl rfl rfl (wa_ (v:=(vb false)) rfl rfl (ad_ ?_))))))))))))))
    obtain rfl:=sj h5
    exact ⟨_,_,_,_,le90,I155,e47,e48,rfl,rv_nil,(ed9.trans rfl)⟩
   refine ws_ rfl rfl hc23 (ws_ rfl rfl hc23 (ws_ rfl rfl hc23 (ws_ rfl rfl hc23 (wo_ (ah_ (b:=(vb false)) rfl rfl hc23 rfl (wm_ (v:=(vb false)) rfl rfl (ws_ rfl rfl rfl (ws_ rfl rfl rfl (ws_ rfl rfl rfl (ws_ rfl rfl rfl (ws_ rfl rfl rfl (wo_ (ah_ (b:=(vb false)) rfl rfl rfl rfl (wm_ (v:=(vb false)) rfl rfl (ws_ rfl rfl rfl (ws_ rfl rfl rfl (ws_ rfl rfl rfl (wo_ (ah_ (b:=(vb false)) rfl rfl rfl rfl (wa_ (v:=(vb false)) rfl rfl (ad_ ?_)))))))))))))))))))))
   obtain rfl:=sj h5
   exact ⟨_,_,_,_,le90,I154,e47,e48,rfl,rv_nil,(ed9.trans rfl)⟩
  refine ao_ rfl hc22 ?_
  obtain ⟨v3,h8,h5⟩:=bnd h5
  refine pf_ (fun f w=>Inv w S2 (bh_ g3 98 #[(vi a1.Kind),(vi 0),(vi 0),(vi 0),(vi 0),sn,(vb a1.Not)]::Fr)∧f 2=(pt_ g1)∧f 3=(pt_ g2)∧f 5=(pt_ g3)∧f 6=(vb false)∧f 13=(vi a1.Kind)∧f 65=(vb v3)∧f.ds=[]) ?_ ?_
  ·
   refine ab_ (aa_ (wo_ (bv_ rfl rfl rfl (wa_ (v:=(vb (a1.Kind==3))) rfl rfl (ad_ ?_)))))
   rcases ifs h8 with ⟨hc27,h8⟩ | ⟨hc27,h8⟩
   ·
    refine an_ rfl hc27 (bc_ ?_)
    obtain rfl:=sj h8
    exact ⟨I6,rfl,rfl,rfl,rfl,rfl,rfl,rfl⟩
   refine ao_ rfl hc27 (aa_ (wo_ (bv_ rfl rfl rfl (wa_ (v:=(vb (a1.Kind==4))) rfl rfl (ad_ ?_)))))
   obtain rfl:=sj h8
   exact ⟨I6,rfl,rfl,rfl,rfl,rfl,rfl,rfl⟩
  rintro f w ⟨I157,e51,e52,e53,e54,e55,e56,ed10⟩
  rcases ifs h5 with ⟨hc28,h5⟩ | ⟨hc28,h5⟩
  ·
   refine an_ e56 hc28 (ab_ ?_)
   refine ek_ (sps:=[spV 68 [] 0 (aq_ (pt_ g2) 1),spV 69 [0] 1 (vi a1.A),spV 70 [] 2 (aq_ (pt_ g2) 2),spV 71 [2] 3 (vi a1.B),spV 72 [0,1] 4 (.pointer (some ⟨g3,1,none⟩)),⟨none,[0,1,4],[],fun vs_ T_=>True,[],[0],[1],fun _ h_=>h_⟩,spV 73 (lrg 6) 6 (.pointer (some ⟨g3,2,none⟩)),⟨none,(lrg 7),[],fun vs_ T_=>True,[],[1],[2],fun _ h_=>h_⟩]) (tks:=[⟨none,some 5,[],fun vs_=>bh_ g3 98 #[(vi a1.Kind),(vi 0),(vi 0),(vi 0),(vi 0),sn,(vb a1.Not)]⟩,⟨some 5,some 7,[],fun vs_=>bh_ g3 98 #[(vi a1.Kind),(vi a1.A),(vi 0),(vi 0),(vi 0),sn,(vb a1.Not)]⟩,⟨some 7,none,[],fun vs_=>bh_ g3 98 #[(vi a1.Kind),(vi a1.A),(vi a1.B),(vi 0),(vi 0),sn,(vb a1.Not)]⟩]) (O:=Fr) rfl (by kernel_rfl) I157 ⟨ob_ rfl fun l A K I=>(ac_ rfl da_ ((K 3 (au_ rfl)).trans e52) ((p2.mono l).at_ I) (fo I)),ob_ rfl fun l A K I=>(aj_ rfl sh3 (A.v 0 rfl) (((p2.mono l).at_ I).fld Clue.fld1) (fo I)),ob_ rfl fun l A K I=>(ac_ rfl fv_ ((K 3 (au_ rfl)).trans e52) ((p2.mono l).at_ I) (fo I)),ob_ rfl fun l A K I=>(aj_ rfl sh3 (A.v 0 rfl) (((p2.mono l).at_ I).fld Clue.fld2) (fo I)),ob_ rfl fun l A K I=>(aw_ (v:=(pt_ g3)) rfl da_ ((K 5 (au_ rfl)).trans e53) rfl (fo I)),?_,ob_ rfl fun l A K I=>(aw_ (v:=(pt_ g3)) rfl fv_ ((K 5 (au_ rfl)).trans e53) rfl (fo I)),?_,trivial⟩ ?_
   ·
    intro vs f w_ U X le A K I
    have I165:Inv w_ U (bh_ g3 98 #[(vi a1.Kind),(vi 0),(vi 0),(vi 0),(vi 0),sn,(vb a1.Not)]::X):=I
    have q64:=A.v 1 rfl
    have q65:=A.v 2 rfl
    refine pl_ rfl (bt_ (v:=(vi a1.A)) (cs := #[(vi a1.Kind),(vi 0),(vi 0),(vi 0),(vi 0),sn,(vb a1.Not)]) sh3 I165 q65 q64 rfl nb rfl (fun w162 (I166:Inv w162 U (bh_ g3 98 #[(vi a1.Kind),(vi a1.A),(vi 0),(vi 0),(vi 0),sn,(vb a1.Not)]::X))=>(⟨undef,_,rfl,lr,?_,?_⟩)))
    · exact trivial
    exact I166
   ·
    intro vs f w_ U X le A K I
    have I168:Inv w_ U (bh_ g3 98 #[(vi a1.Kind),(vi a1.A),(vi 0),(vi 0),(vi 0),sn,(vb a1.Not)]::X):=I
    have q66:=A.v 3 rfl
    have q67:=A.v 6 rfl
    refine pl_ rfl (bt_ (v:=(vi a1.B)) (cs := #[(vi a1.Kind),(vi a1.A),(vi 0),(vi 0),(vi 0),sn,(vb a1.Not)]) sh3 I168 q67 q66 rfl nb rfl (fun w165 (I169:Inv w165 U (bh_ g3 98 #[(vi a1.Kind),(vi a1.A),(vi a1.B),(vi 0),(vi 0),sn,(vb a1.Not)]::X))=>(⟨undef,_,rfl,lr,?_,?_⟩)))
    · exact trivial
    exact I169
   intro vs97 f w166 S99 ed11 le99 hF9 hK97 hI97
   have e57:f 2=(pt_ g1):=(hK97 2 (bf_ rfl)).trans e51
   have e58:f 3=(pt_ g2):=(hK97 3 (bf_ rfl)).trans e52
   have e59:f 5=(pt_ g3):=(hK97 5 (bf_ rfl)).trans e53
   have I170:Inv w166 S99 (bh_ g3 98 #[(vi a1.Kind),(vi a1.A),(vi a1.B),(vi 0),(vi 0),sn,(vb a1.Not)]::Fr):=hI97
   refine aa_ (wo_ (ff_ rfl vp_ e57 ((p1.mono (le2.trans le99)).at_ I170) (fun u19 hu19 => ?_)))
   have e60:=CodeLock.inv hu19
   subst e60
   refine wo_ (ac_ rfl da_ e58 ((p2.mono le99).at_ I170) (wo_ (li_ sh3 (((p2.mono le99).at_ I170).fld Clue.fld1) rfl ?_)))
   obtain ⟨x21,hx21,h5⟩:=bnd h5
   refine wo_ (cv_ ca199 rfl I170 (fun Fr_ hF_=>dg_ hF_ (CodeLock.rv (s:=a0)) hx21) (ep_ rfl rfl) (fun w167 I171=>(wm_ (v:=(vb x21)) rfl rfl ?_)))
   rcases ifs h5 with ⟨hc29,h5⟩ | ⟨hc29,h5⟩
   ·
    refine wk_ rfl rfl hc29 (ff_ rfl vp_ e57 ((p1.mono (le2.trans le99)).at_ I171) (fun u20 hu20 => ?_))
    have e61:=CodeLock.inv hu20
    subst e61
    refine wk_ rfl rfl hc29 (ac_ rfl fv_ e58 ((p2.mono le99).at_ I171) (wk_ rfl rfl hc29 (li_ sh3 (((p2.mono le99).at_ I171).fld Clue.fld2) rfl ?_)))
    obtain ⟨x22,hx22,h5⟩:=bnd h5
    refine wk_ rfl rfl hc29 (cv_ ca199 rfl I171 (fun Fr_ hF_=>dg_ hF_ (CodeLock.rv (s:=a0)) hx22) (ep_ rfl rfl) (fun w168 I172=>(wo_ (ba_ (a:=(vb x22)) rfl rfl hc29 rfl (wm_ (v:=(vb x22)) rfl rfl ?_)))))
    rcases ifs h5 with ⟨hc30,h5⟩ | ⟨hc30,h5⟩
    ·
     refine wk_ rfl rfl hc30 (ac_ rfl da_ e58 ((p2.mono le99).at_ I172) (wk_ rfl rfl hc30 (li_ sh3 (((p2.mono le99).at_ I172).fld Clue.fld1) rfl (wk_ rfl rfl hc30 (ac_ rfl fv_ e58 ((p2.mono le99).at_ I172) (wk_ rfl rfl hc30 (li_ sh3 (((p2.mono le99).at_ I172).fld Clue.fld2) rfl (wk_ rfl rfl hc30 (nt_ rfl rfl rfl (wo_ (ba_ (a:=(vb (a1.A != a1.B))) rfl rfl hc30 rfl (wa_ (v:=(vb (a1.A != a1.B))) rfl rfl (ad_ ?_)))))))))))))
     obtain rfl:=sj h5
     exact ⟨_,_,_,_,le99,I172,e58,e59,rfl,rv_nil,(ed11.trans ed10)⟩
    refine ws_ rfl rfl hc30 (ws_ rfl rfl hc30 (ws_ rfl rfl hc30 (ws_ rfl rfl hc30 (ws_ rfl rfl hc30 (wo_ (ah_ (b:=(vb false)) rfl rfl hc30 rfl (wa_ (v:=(vb false)) rfl rfl (ad_ ?_))))))))
    obtain rfl:=sj h5
    exact ⟨_,_,_,_,le99,I172,e58,e59,rfl,rv_nil,(ed11.trans ed10)⟩
   refine ws_ rfl rfl hc29 (ws_ rfl rfl hc29 (ws_ rfl rfl hc29 (ws_ rfl rfl hc29 (wo_ (ah_ (b:=(vb false)) rfl rfl hc29 rfl (wm_ (v:=(vb false)) rfl rfl (ws_ rfl rfl rfl (ws_ rfl rfl rfl (ws_ rfl rfl rfl (ws_ rfl rfl rfl (ws_ rfl rfl rfl (wo_ (ah_ (b:=(vb false)) rfl rfl rfl rfl (wa_ (v:=(vb false)) rfl rfl (ad_ ?_)))))))))))))))
   obtain rfl:=sj h5
   exact ⟨_,_,_,_,le99,I171,e58,e59,rfl,rv_nil,(ed11.trans ed10)⟩
  refine ao_ e56 hc28 (ab_ (aa_ (wo_ (bv_ rfl e55 rfl (wa_ (v:=(vb (a1.Kind==5))) rfl rfl (ad_ ?_))))))
  rcases ifs h5 with ⟨hc31,h5⟩ | ⟨hc31,h5⟩
  ·
   refine an_ rfl hc31 (ab_ ?_)
   refine ek_ (sps:=[spV 93 [] 0 (aq_ (pt_ g2) 3),spV 94 [0] 1 (vi a1.N),spV 95 [] 2 (aq_ (pt_ g2) 4),spV 96 [2] 3 (vi a1.M),spV 97 [0,1] 4 (.pointer (some ⟨g3,3,none⟩)),⟨none,[0,1,4],[],fun vs_ T_=>True,[],[0],[1],fun _ h_=>h_⟩,spV 98 (lrg 6) 6 (.pointer (some ⟨g3,4,none⟩)),⟨none,(lrg 7),[],fun vs_ T_=>True,[],[1],[2],fun _ h_=>h_⟩]) (tks:=[⟨none,some 5,[],fun vs_=>bh_ g3 98 #[(vi a1.Kind),(vi 0),(vi 0),(vi 0),(vi 0),sn,(vb a1.Not)]⟩,⟨some 5,some 7,[],fun vs_=>bh_ g3 98 #[(vi a1.Kind),(vi 0),(vi 0),(vi a1.N),(vi 0),sn,(vb a1.Not)]⟩,⟨some 7,none,[],fun vs_=>bh_ g3 98 #[(vi a1.Kind),(vi 0),(vi 0),(vi a1.N),(vi a1.M),sn,(vb a1.Not)]⟩]) (O:=Fr) rfl (by kernel_rfl) I157 ⟨ob_ rfl fun l A K I=>(ac_ rfl ci_ ((K 3 (au_ rfl)).trans e52) ((p2.mono l).at_ I) (fo I)),ob_ rfl fun l A K I=>(aj_ rfl sh3 (A.v 0 rfl) (((p2.mono l).at_ I).fld Clue.fld3) (fo I)),ob_ rfl fun l A K I=>(ac_ rfl fk_ ((K 3 (au_ rfl)).trans e52) ((p2.mono l).at_ I) (fo I)),ob_ rfl fun l A K I=>(aj_ rfl sh3 (A.v 0 rfl) (((p2.mono l).at_ I).fld Clue.fld4) (fo I)),ob_ rfl fun l A K I=>(aw_ (v:=(pt_ g3)) rfl ci_ ((K 5 (au_ rfl)).trans e53) rfl (fo I)),?_,ob_ rfl fun l A K I=>(aw_ (v:=(pt_ g3)) rfl fk_ ((K 5 (au_ rfl)).trans e53) rfl (fo I)),?_,trivial⟩ ?_
   ·
    intro vs f w_ U X le A K I
    have I180:Inv w_ U (bh_ g3 98 #[(vi a1.Kind),(vi 0),(vi 0),(vi 0),(vi 0),sn,(vb a1.Not)]::X):=I
    have q70:=A.v 1 rfl
    have q71:=A.v 2 rfl
    refine pl_ rfl (bt_ (v:=(vi a1.N)) (cs := #[(vi a1.Kind),(vi 0),(vi 0),(vi 0),(vi 0),sn,(vb a1.Not)]) sh3 I180 q71 q70 rfl nb rfl (fun w177 (I181:Inv w177 U (bh_ g3 98 #[(vi a1.Kind),(vi 0),(vi 0),(vi a1.N),(vi 0),sn,(vb a1.Not)]::X))=>(⟨undef,_,rfl,lr,?_,?_⟩)))
    · exact trivial
    exact I181
   ·
    intro vs f w_ U X le A K I
    have I183:Inv w_ U (bh_ g3 98 #[(vi a1.Kind),(vi 0),(vi 0),(vi a1.N),(vi 0),sn,(vb a1.Not)]::X):=I
    have q72:=A.v 3 rfl
    have q73:=A.v 6 rfl
    refine pl_ rfl (bt_ (v:=(vi a1.M)) (cs := #[(vi a1.Kind),(vi 0),(vi 0),(vi a1.N),(vi 0),sn,(vb a1.Not)]) sh3 I183 q73 q72 rfl nb rfl (fun w180 (I184:Inv w180 U (bh_ g3 98 #[(vi a1.Kind),(vi 0),(vi 0),(vi a1.N),(vi a1.M),sn,(vb a1.Not)]::X))=>(⟨undef,_,rfl,lr,?_,?_⟩)))
    · exact trivial
    exact I184
   intro vs106 f w181 S108 ed12 le108 hF10 hK106 hI106
   have e62:f 2=(pt_ g1):=(hK106 2 (bf_ rfl)).trans e51
   have e63:f 3=(pt_ g2):=(hK106 3 (bf_ rfl)).trans e52
   have e64:f 5=(pt_ g3):=(hK106 5 (bf_ rfl)).trans e53
   have I185:Inv w181 S108 (bh_ g3 98 #[(vi a1.Kind),(vi 0),(vi 0),(vi a1.N),(vi a1.M),sn,(vb a1.Not)]::Fr):=hI106
   refine aa_ (wo_ (ff_ rfl vp_ e62 ((p1.mono (le2.trans le108)).at_ I185) (fun u21 hu21 => ?_)))
   have e65:=CodeLock.inv hu21
   subst e65
   refine wo_ (ac_ rfl ci_ e63 ((p2.mono le108).at_ I185) (wo_ (li_ sh3 (((p2.mono le108).at_ I185).fld Clue.fld3) rfl ?_)))
   obtain ⟨x23,hx23,h5⟩:=bnd h5
   refine wo_ (cv_ ca200 rfl I185 (fun Fr_ hF_=>hn_ hF_ (CodeLock.rv (s:=a0)) hx23) (ep_ rfl rfl) (fun w182 I186=>(wm_ (v:=(vb x23)) rfl rfl ?_)))
   rcases ifs h5 with ⟨hc32,h5⟩ | ⟨hc32,h5⟩
   ·
    refine wk_ rfl rfl hc32 (ac_ rfl fk_ e63 ((p2.mono le108).at_ I186) (wk_ rfl rfl hc32 (li_ sh3 (((p2.mono le108).at_ I186).fld Clue.fld4) rfl (wk_ rfl rfl hc32 (ac_ rfl rz_ e62 ((p1.mono (le2.trans le108)).at_ I186) (wk_ rfl rfl hc32 (li_ sh3 (((p1.mono (le2.trans le108)).at_ I186).fld CodeLock.fld0) rfl ?_)))))))
    obtain ⟨x24,hx24,h5⟩:=bnd h5
    refine wk_ rfl rfl hc32 (cv_ zq_ rfl I186 (fun Fr_ hF_=>co_ hF_  hx24) (mh_ rfl rfl rfl) (fun w183 I187=>(wo_ (ba_ (a:=(vb x24)) rfl rfl hc32 rfl (wa_ (v:=(vb x24)) rfl rfl (ad_ ?_))))))
    obtain rfl:=sj h5
    exact ⟨_,_,_,_,le108,I187,e63,e64,rfl,rv_nil,(ed12.trans ed10)⟩
   refine ws_ rfl rfl hc32 (ws_ rfl rfl hc32 (ws_ rfl rfl hc32 (ws_ rfl rfl hc32 (ws_ rfl rfl hc32 (wo_ (ah_ (b:=(vb false)) rfl rfl hc32 rfl (wa_ (v:=(vb false)) rfl rfl (ad_ ?_))))))))
   obtain rfl:=sj h5
   exact ⟨_,_,_,_,le108,I186,e63,e64,rfl,rv_nil,(ed12.trans ed10)⟩
  refine ao_ rfl hc31 (ab_ (aa_ (wo_ (bv_ rfl e55 rfl (wa_ (v:=(vb (a1.Kind==6))) rfl rfl (ad_ ?_))))))
  rcases ifs h5 with ⟨hc33,h5⟩ | ⟨hc33,h5⟩
  ·
   refine an_ rfl hc33 (ab_ ?_)
   refine ek_ (sps:=[spV 112 [] 0 (aq_ (pt_ g2) 3),spV 113 [0] 1 (vi a1.N),spV 114 [] 2 (aq_ (pt_ g2) 4),spV 115 [2] 3 (vi a1.M),spV 116 [] 4 (aq_ (pt_ g2) 5),spR 117 [4] 5 (a1.Guess),spV 118 [0,1] 6 (.pointer (some ⟨g3,3,none⟩)),⟨none,[0,1,6],[],fun vs_ T_=>True,[],[0],[1],fun _ h_=>h_⟩,spV 119 [0,1,2,3,6,7] 8 (.pointer (some ⟨g3,4,none⟩)),⟨none,[0,1,2,3,6,7,8],[],fun vs_ T_=>True,[],[1],[2],fun _ h_=>h_⟩,spV 120 (lrg 10) 10 (.pointer (some ⟨g3,5,none⟩)),⟨none,(lrg 11),[],fun vs_ T_=>True,[],[2],[3],fun _ h_=>h_⟩]) (tks:=[⟨none,some 7,[],fun vs_=>bh_ g3 98 #[(vi a1.Kind),(vi 0),(vi 0),(vi 0),(vi 0),sn,(vb a1.Not)]⟩,⟨some 7,some 9,[],fun vs_=>bh_ g3 98 #[(vi a1.Kind),(vi 0),(vi 0),(vi a1.N),(vi 0),sn,(vb a1.Not)]⟩,⟨some 9,some 11,[],fun vs_=>bh_ g3 98 #[(vi a1.Kind),(vi 0),(vi 0),(vi a1.N),(vi a1.M),sn,(vb a1.Not)]⟩,⟨some 11,none,[5],fun vs_=>bh_ g3 98 #[(vi a1.Kind),(vi 0),(vi 0),(vi a1.N),(vi a1.M),(fr0 vs_ 0),(vb a1.Not)]⟩]) (O:=Fr) rfl (by kernel_rfl) I157 ⟨ob_ rfl fun l A K I=>(ac_ rfl ci_ ((K 3 (au_ rfl)).trans e52) ((p2.mono l).at_ I) (fo I)),ob_ rfl fun l A K I=>(aj_ rfl sh3 (A.v 0 rfl) (((p2.mono l).at_ I).fld Clue.fld3) (fo I)),ob_ rfl fun l A K I=>(ac_ rfl fk_ ((K 3 (au_ rfl)).trans e52) ((p2.mono l).at_ I) (fo I)),ob_ rfl fun l A K I=>(aj_ rfl sh3 (A.v 0 rfl) (((p2.mono l).at_ I).fld Clue.fld4) (fo I)),ob_ rfl fun l A K I=>(ac_ rfl pa_ ((K 3 (au_ rfl)).trans e52) ((p2.mono l).at_ I) (fo I)),?_,ob_ rfl fun l A K I=>(aw_ (v:=(pt_ g3)) rfl ci_ ((K 5 (au_ rfl)).trans e53) rfl (fo I)),?_,ob_ rfl fun l A K I=>(aw_ (v:=(pt_ g3)) rfl fk_ ((K 5 (au_ rfl)).trans e53) rfl (fo I)),?_,ob_ rfl fun l A K I=>(aw_ (v:=(pt_ g3)) rfl pa_ ((K 5 (au_ rfl)).trans e53) rfl (fo I)),?_,trivial⟩ ?_
   ·
    intro vs f w_ U X le A K I
    have q76:=A.v 0 rfl
    refine pl_ rfl (ff_ rfl sh45 q76 (((p2.mono le).at_ I).fld Clue.fld5) (fun u23 hu23 => ?_))
    obtain ⟨z7,m7,k7,rfl⟩:=bb_ hu23
    refine ⟨_,_,rfl,lr,?_,?_⟩
    · exact hu23
    exact I
   ·
    intro vs f w_ U X le A K I
    have I198:Inv w_ U (bh_ g3 98 #[(vi a1.Kind),(vi 0),(vi 0),(vi 0),(vi 0),sn,(vb a1.Not)]::X):=I
    have q77:=A.v 1 rfl
    have q78:=A.v 2 rfl
    refine pl_ rfl (bt_ (v:=(vi a1.N)) (cs := #[(vi a1.Kind),(vi 0),(vi 0),(vi 0),(vi 0),sn,(vb a1.Not)]) sh3 I198 q78 q77 rfl nb rfl (fun w195 (I199:Inv w195 U (bh_ g3 98 #[(vi a1.Kind),(vi 0),(vi 0),(vi a1.N),(vi 0),sn,(vb a1.Not)]::X))=>(⟨undef,_,rfl,lr,?_,?_⟩)))
    · exact trivial
    exact I199
   ·
    intro vs f w_ U X le A K I
    have I201:Inv w_ U (bh_ g3 98 #[(vi a1.Kind),(vi 0),(vi 0),(vi a1.N),(vi 0),sn,(vb a1.Not)]::X):=I
    have q79:=A.v 3 rfl
    have q80:=A.v 6 rfl
    refine pl_ rfl (bt_ (v:=(vi a1.M)) (cs := #[(vi a1.Kind),(vi 0),(vi 0),(vi a1.N),(vi 0),sn,(vb a1.Not)]) sh3 I201 q80 q79 rfl nb rfl (fun w198 (I202:Inv w198 U (bh_ g3 98 #[(vi a1.Kind),(vi 0),(vi 0),(vi a1.N),(vi a1.M),sn,(vb a1.Not)]::X))=>(⟨undef,_,rfl,lr,?_,?_⟩)))
    · exact trivial
    exact I202
   ·
    intro vs f w_ U X le A K I
    have I204:Inv w_ U (bh_ g3 98 #[(vi a1.Kind),(vi 0),(vi 0),(vi a1.N),(vi a1.M),sn,(vb a1.Not)]::X):=I
    obtain ⟨z8,m8,k8,hu24,q81,r5⟩:=A.sl (a:=5) 5 rfl rfl rfl
    have q82:=A.v 10 rfl
    refine pl_ rfl (bt_ (v:=(.slice z8 m8 k8)) (cs := #[(vi a1.Kind),(vi 0),(vi 0),(vi a1.N),(vi a1.M),sn,(vb a1.Not)]) sh45 I204 q82 q81 rfl nb rfl (fun w201 (I205:Inv w201 U (bh_ g3 98 #[(vi a1.Kind),(vi 0),(vi 0),(vi a1.N),(vi a1.M),(.slice z8 m8 k8),(vb a1.Not)]::X))=>(⟨undef,_,rfl,lr,?_,?_⟩)))
    · exact trivial
    show Inv _ _ (bh_ g3 98 #[(Value.int .i64 (a1.Kind)),(Value.int .i64 (0)),(Value.int .i64 (0)),(Value.int .i64 (a1.N)),(Value.int .i64 (a1.M)),(vs 5),(Value.bool (a1.Not))]::X)
    simp only [hu24]
    exact I205
   intro vs119 f w202 S121 ed13 le121 hF11 hK119 hI119
   have e68:f 2=(pt_ g1):=(hK119 2 (bf_ rfl)).trans e51
   have e69:f 3=(pt_ g2):=(hK119 3 (bf_ rfl)).trans e52
   have e70:f 5=(pt_ g3):=(hK119 5 (bf_ rfl)).trans e53
   have I206:Inv w202 S121 (bh_ g3 98 #[(vi a1.Kind),(vi 0),(vi 0),(vi a1.N),(vi a1.M),(vs119 5),(vb a1.Not)]::Fr):=hI119
   have q83:f 117=vs119 5:=(hF11.at_ 5 rfl _ rfl).1 _ rfl
   have r6:RV S121 (vs119 5) a1.Guess:=(hF11.at_ 5 rfl _ rfl).2
   obtain ⟨u25,hu25⟩:∃ u,vs119 5=u:=⟨_,rfl⟩
   rw [hu25] at q83 r6
   have I207:=I206
   rw [hu25] at I207
   obtain ⟨z9,m9,k9,rfl⟩:=bb_ r6
   refine aa_ (wo_ (ac_ rfl ci_ e69 ((p2.mono le121).at_ I207) (wo_ (li_ sh3 (((p2.mono le121).at_ I207).fld Clue.fld3) rfl (wo_ (ac_ rfl rz_ e68 ((p1.mono (le2.trans le121)).at_ I207) (wo_ (li_ sh3 (((p1.mono (le2.trans le121)).at_ I207).fld CodeLock.fld0) rfl ?_))))))))
   obtain ⟨x25,hx25,h5⟩:=bnd h5
   refine wo_ (cv_ zq_ rfl I207 (fun Fr_ hF_=>co_ hF_  hx25) (mh_ rfl rfl rfl) (fun w203 I208=>(wm_ (v:=(vb x25)) rfl rfl ?_)))
   rcases ifs h5 with ⟨hc34,h5⟩ | ⟨hc34,h5⟩
   ·
    refine wk_ rfl rfl hc34 (ac_ rfl fk_ e69 ((p2.mono le121).at_ I208) (wk_ rfl rfl hc34 (li_ sh3 (((p2.mono le121).at_ I208).fld Clue.fld4) rfl (wk_ rfl rfl hc34 (ac_ rfl rz_ e68 ((p1.mono (le2.trans le121)).at_ I208) (wk_ rfl rfl hc34 (li_ sh3 (((p1.mono (le2.trans le121)).at_ I208).fld CodeLock.fld0) rfl ?_)))))))
    obtain ⟨x26,hx26,h5⟩:=bnd h5
    refine wk_ rfl rfl hc34 (cv_ zq_ rfl I208 (fun Fr_ hF_=>co_ hF_  hx26) (mh_ rfl rfl rfl) (fun w204 I209=>(wo_ (ba_ (a:=(vb x26)) rfl rfl hc34 rfl (wm_ (v:=(vb x26)) rfl rfl ?_)))))
    rcases ifs h5 with ⟨hc35,h5⟩ | ⟨hc35,h5⟩
    ·
     refine wk_ rfl rfl hc35 (ff_ rfl vp_ e68 ((p1.mono (le2.trans le121)).at_ I209) (fun u26 hu26 => ?_))
     have e72:=CodeLock.inv hu26
     subst e72
     refine wk_ rfl rfl hc35 (ac_ rfl pa_ e69 ((p2.mono le121).at_ I209) (wk_ rfl rfl hc35 (ld_ sh45 (((p2.mono le121).at_ I209).fld Clue.fld5) rfl (fun u27 hu27 => ?_))))
     obtain ⟨z10,m10,k10,rfl⟩:=bb_ hu27
     obtain ⟨x27,hx27,h5⟩:=bnd h5
     refine wk_ rfl rfl hc35 (cv_ ca201 rfl I209 (fun Fr_ hF_=>mv_ hF_ (CodeLock.rv (s:=a0)) hu27 hx27) (ep_ rfl rfl) (fun w205 I210=>(wo_ (ba_ (a:=(vb x27)) rfl rfl hc35 rfl (wa_ (v:=(vb x27)) rfl rfl (ad_ ?_))))))
     obtain rfl:=sj h5
     exact ⟨_,_,_,_,le121,I210,e69,e70,rfl,r6,(ed13.trans ed10)⟩
    refine ws_ rfl rfl hc35 (ws_ rfl rfl hc35 (ws_ rfl rfl hc35 (ws_ rfl rfl hc35 (wo_ (ah_ (b:=(vb false)) rfl rfl hc35 rfl (wa_ (v:=(vb false)) rfl rfl (ad_ ?_)))))))
    obtain rfl:=sj h5
    exact ⟨_,_,_,_,le121,I209,e69,e70,rfl,r6,(ed13.trans ed10)⟩
   refine ws_ rfl rfl hc34 (ws_ rfl rfl hc34 (ws_ rfl rfl hc34 (ws_ rfl rfl hc34 (ws_ rfl rfl hc34 (wo_ (ah_ (b:=(vb false)) rfl rfl hc34 rfl (wm_ (v:=(vb false)) rfl rfl (ws_ rfl rfl rfl (ws_ rfl rfl rfl (ws_ rfl rfl rfl (ws_ rfl rfl rfl (wo_ (ah_ (b:=(vb false)) rfl rfl rfl rfl (wa_ (v:=(vb false)) rfl rfl (ad_ ?_)))))))))))))))
   obtain rfl:=sj h5
   exact ⟨_,_,_,_,le121,I208,e69,e70,rfl,r6,(ed13.trans ed10)⟩
  refine ao_ rfl hc33 (ab_ (aa_ (wo_ (bv_ rfl e55 rfl (wa_ (v:=(vb (a1.Kind==7))) rfl rfl (ad_ ?_))))))
  rcases ifs h5 with ⟨hc36,h5⟩ | ⟨hc36,h5⟩
  ·
   refine an_ rfl hc36 (ab_ ?_)
   refine ek_ (sps:=[spV 141 [] 0 (aq_ (pt_ g2) 1),spV 142 [0] 1 (vi a1.A),spV 143 [] 2 (aq_ (pt_ g2) 3),spV 144 [2] 3 (vi a1.N),spV 145 [] 4 (aq_ (pt_ g2) 4),spV 146 [4] 5 (vi a1.M),spV 147 [0,1] 6 (.pointer (some ⟨g3,1,none⟩)),⟨none,[0,1,6],[],fun vs_ T_=>True,[],[0],[1],fun _ h_=>h_⟩,spV 148 [0,1,2,3,6,7] 8 (.pointer (some ⟨g3,3,none⟩)),⟨none,[0,1,2,3,6,7,8],[],fun vs_ T_=>True,[],[1],[2],fun _ h_=>h_⟩,spV 149 (lrg 10) 10 (.pointer (some ⟨g3,4,none⟩)),⟨none,(lrg 11),[],fun vs_ T_=>True,[],[2],[3],fun _ h_=>h_⟩]) (tks:=[⟨none,some 7,[],fun vs_=>bh_ g3 98 #[(vi a1.Kind),(vi 0),(vi 0),(vi 0),(vi 0),sn,(vb a1.Not)]⟩,⟨some 7,some 9,[],fun vs_=>bh_ g3 98 #[(vi a1.Kind),(vi a1.A),(vi 0),(vi 0),(vi 0),sn,(vb a1.Not)]⟩,⟨some 9,some 11,[],fun vs_=>bh_ g3 98 #[(vi a1.Kind),(vi a1.A),(vi 0),(vi a1.N),(vi 0),sn,(vb a1.Not)]⟩,⟨some 11,none,[],fun vs_=>bh_ g3 98 #[(vi a1.Kind),(vi a1.A),(vi 0),(vi a1.N),(vi a1.M),sn,(vb a1.Not)]⟩]) (O:=Fr) rfl (by kernel_rfl) I157 ⟨ob_ rfl fun l A K I=>(ac_ rfl da_ ((K 3 (au_ rfl)).trans e52) ((p2.mono l).at_ I) (fo I)),ob_ rfl fun l A K I=>(aj_ rfl sh3 (A.v 0 rfl) (((p2.mono l).at_ I).fld Clue.fld1) (fo I)),ob_ rfl fun l A K I=>(ac_ rfl ci_ ((K 3 (au_ rfl)).trans e52) ((p2.mono l).at_ I) (fo I)),ob_ rfl fun l A K I=>(aj_ rfl sh3 (A.v 0 rfl) (((p2.mono l).at_ I).fld Clue.fld3) (fo I)),ob_ rfl fun l A K I=>(ac_ rfl fk_ ((K 3 (au_ rfl)).trans e52) ((p2.mono l).at_ I) (fo I)),ob_ rfl fun l A K I=>(aj_ rfl sh3 (A.v 0 rfl) (((p2.mono l).at_ I).fld Clue.fld4) (fo I)),ob_ rfl fun l A K I=>(aw_ (v:=(pt_ g3)) rfl da_ ((K 5 (au_ rfl)).trans e53) rfl (fo I)),?_,ob_ rfl fun l A K I=>(aw_ (v:=(pt_ g3)) rfl ci_ ((K 5 (au_ rfl)).trans e53) rfl (fo I)),?_,ob_ rfl fun l A K I=>(aw_ (v:=(pt_ g3)) rfl fk_ ((K 5 (au_ rfl)).trans e53) rfl (fo I)),?_,trivial⟩ ?_
   ·
    intro vs f w_ U X le A K I
    have I221:Inv w_ U (bh_ g3 98 #[(vi a1.Kind),(vi 0),(vi 0),(vi 0),(vi 0),sn,(vb a1.Not)]::X):=I
    have q87:=A.v 1 rfl
    have q88:=A.v 2 rfl
    refine pl_ rfl (bt_ (v:=(vi a1.A)) (cs := #[(vi a1.Kind),(vi 0),(vi 0),(vi 0),(vi 0),sn,(vb a1.Not)]) sh3 I221 q88 q87 rfl nb rfl (fun w217 (I222:Inv w217 U (bh_ g3 98 #[(vi a1.Kind),(vi a1.A),(vi 0),(vi 0),(vi 0),sn,(vb a1.Not)]::X))=>(⟨undef,_,rfl,lr,?_,?_⟩)))
    · exact trivial
    exact I222
   ·
    intro vs f w_ U X le A K I
    have I224:Inv w_ U (bh_ g3 98 #[(vi a1.Kind),(vi a1.A),(vi 0),(vi 0),(vi 0),sn,(vb a1.Not)]::X):=I
    have q89:=A.v 3 rfl
    have q90:=A.v 6 rfl
    refine pl_ rfl (bt_ (v:=(vi a1.N)) (cs := #[(vi a1.Kind),(vi a1.A),(vi 0),(vi 0),(vi 0),sn,(vb a1.Not)]) sh3 I224 q90 q89 rfl nb rfl (fun w220 (I225:Inv w220 U (bh_ g3 98 #[(vi a1.Kind),(vi a1.A),(vi 0),(vi a1.N),(vi 0),sn,(vb a1.Not)]::X))=>(⟨undef,_,rfl,lr,?_,?_⟩)))
    · exact trivial
    exact I225
   ·
    intro vs f w_ U X le A K I
    have I227:Inv w_ U (bh_ g3 98 #[(vi a1.Kind),(vi a1.A),(vi 0),(vi a1.N),(vi 0),sn,(vb a1.Not)]::X):=I
    have q91:=A.v 5 rfl
    have q92:=A.v 10 rfl
    refine pl_ rfl (bt_ (v:=(vi a1.M)) (cs := #[(vi a1.Kind),(vi a1.A),(vi 0),(vi a1.N),(vi 0),sn,(vb a1.Not)]) sh3 I227 q92 q91 rfl nb rfl (fun w223 (I228:Inv w223 U (bh_ g3 98 #[(vi a1.Kind),(vi a1.A),(vi 0),(vi a1.N),(vi a1.M),sn,(vb a1.Not)]::X))=>(⟨undef,_,rfl,lr,?_,?_⟩)))
    · exact trivial
    exact I228
   intro vs132 f w224 S134 ed14 le134 hF12 hK132 hI132
   have e74:f 2=(pt_ g1):=(hK132 2 (bf_ rfl)).trans e51
   have e75:f 3=(pt_ g2):=(hK132 3 (bf_ rfl)).trans e52
   have e76:f 5=(pt_ g3):=(hK132 5 (bf_ rfl)).trans e53
   have I229:Inv w224 S134 (bh_ g3 98 #[(vi a1.Kind),(vi a1.A),(vi 0),(vi a1.N),(vi a1.M),sn,(vb a1.Not)]::Fr):=hI132
   refine aa_ (wo_ (ff_ rfl vp_ e74 ((p1.mono (le2.trans le134)).at_ I229) (fun u28 hu28 => ?_)))
   have e77:=CodeLock.inv hu28
   subst e77
   refine wo_ (ac_ rfl da_ e75 ((p2.mono le134).at_ I229) (wo_ (li_ sh3 (((p2.mono le134).at_ I229).fld Clue.fld1) rfl ?_)))
   obtain ⟨x28,hx28,h5⟩:=bnd h5
   refine wo_ (cv_ ca199 rfl I229 (fun Fr_ hF_=>dg_ hF_ (CodeLock.rv (s:=a0)) hx28) (ep_ rfl rfl) (fun w225 I230=>(wm_ (v:=(vb x28)) rfl rfl ?_)))
   rcases ifs h5 with ⟨hc37,h5⟩ | ⟨hc37,h5⟩
   ·
    refine wk_ rfl rfl hc37 (ac_ rfl ci_ e75 ((p2.mono le134).at_ I230) (wk_ rfl rfl hc37 (li_ sh3 (((p2.mono le134).at_ I230).fld Clue.fld3) rfl ?_)))
    obtain ⟨x29,hx29,h5⟩:=bnd h5
    refine wk_ rfl rfl hc37 (cv_ zq_ rfl I230 (fun Fr_ hF_=>co_ hF_  hx29) (mh_ rfl rfl rfl) (fun w226 I231=>(wo_ (ba_ (a:=(vb x29)) rfl rfl hc37 rfl (wm_ (v:=(vb x29)) rfl rfl ?_)))))
    rcases ifs h5 with ⟨hc38,h5⟩ | ⟨hc38,h5⟩
    ·
     refine wk_ rfl rfl hc38 (ac_ rfl fk_ e75 ((p2.mono le134).at_ I231) (wk_ rfl rfl hc38 (li_ sh3 (((p2.mono le134).at_ I231).fld Clue.fld4) rfl (wk_ rfl rfl hc38 (ac_ rfl ci_ e75 ((p2.mono le134).at_ I231) (wk_ rfl rfl hc38 (li_ sh3 (((p2.mono le134).at_ I231).fld Clue.fld3) rfl (wk_ rfl rfl hc38 (mo_ rfl rfl rfl ?_)))))))))
     obtain ⟨x30,hx30,h5⟩:=bnd h5
     refine wk_ rfl rfl hc38 (cv_ zq_ rfl I231 (fun Fr_ hF_=>co_ hF_  hx30) (mh_ rfl rfl rfl) (fun w227 I232=>(wo_ (ba_ (a:=(vb x30)) rfl rfl hc38 rfl (wa_ (v:=(vb x30)) rfl rfl (ad_ ?_))))))
     obtain rfl:=sj h5
     exact ⟨_,_,_,_,le134,I232,e75,e76,rfl,rv_nil,(ed14.trans ed10)⟩
    refine ws_ rfl rfl hc38 (ws_ rfl rfl hc38 (ws_ rfl rfl hc38 (ws_ rfl rfl hc38 (ws_ rfl rfl hc38 (ws_ rfl rfl hc38 (wo_ (ah_ (b:=(vb false)) rfl rfl hc38 rfl (wa_ (v:=(vb false)) rfl rfl (ad_ ?_)))))))))
    obtain rfl:=sj h5
    exact ⟨_,_,_,_,le134,I231,e75,e76,rfl,rv_nil,(ed14.trans ed10)⟩
   refine ws_ rfl rfl hc37 (ws_ rfl rfl hc37 (ws_ rfl rfl hc37 (wo_ (ah_ (b:=(vb false)) rfl rfl hc37 rfl (wm_ (v:=(vb false)) rfl rfl (ws_ rfl rfl rfl (ws_ rfl rfl rfl (ws_ rfl rfl rfl (ws_ rfl rfl rfl (ws_ rfl rfl rfl (ws_ rfl rfl rfl (wo_ (ah_ (b:=(vb false)) rfl rfl rfl rfl (wa_ (v:=(vb false)) rfl rfl (ad_ ?_)))))))))))))))
   obtain rfl:=sj h5
   exact ⟨_,_,_,_,le134,I230,e75,e76,rfl,rv_nil,(ed14.trans ed10)⟩
  refine ao_ rfl hc36 (bc_ ?_)
  obtain rfl:=sj h5
  exact ⟨_,_,_,_,lr,I157,e52,e53,e54,rv_nil,ed10⟩
 rintro f w ⟨S135,z6,m6,k6,le135,I233,e78,e79,e80,r4,ed15⟩
 refine ab_ (aa_ (wm_ rfl e80 (wm_ (v:=(vb v2.2.2.2.2.2)) rfl rfl ?_)))
 rcases ifs h with ⟨hc39,h⟩ | ⟨hc39,h⟩
 ·
  refine wk_ rfl rfl hc39 (ac_ rfl da_ e78 ((p2.mono le135).at_ I233) (wk_ rfl rfl hc39 (li_ sh3 (((p2.mono le135).at_ I233).fld Clue.fld1) rfl (wk_ rfl rfl hc39 (aw_ (v:=(pt_ g3)) rfl da_ e79 rfl (wk_ rfl rfl hc39 (oj_ (c:=(vi v2.1)) rfl sh3 (I233.nth 0 rfl) rfl rfl (wk_ rfl rfl hc39 (bv_ rfl rfl rfl (wo_ (ba_ (a:=(vb (a1.A==v2.1))) rfl rfl hc39 rfl (wm_ (v:=(vb (a1.A==v2.1))) rfl rfl ?_))))))))))))
  rcases ifs h with ⟨hc40,h⟩ | ⟨hc40,h⟩
  ·
   refine wk_ rfl rfl hc40 (ac_ rfl fv_ e78 ((p2.mono le135).at_ I233) (wk_ rfl rfl hc40 (li_ sh3 (((p2.mono le135).at_ I233).fld Clue.fld2) rfl (wk_ rfl rfl hc40 (aw_ (v:=(pt_ g3)) rfl fv_ e79 rfl (wk_ rfl rfl hc40 (oj_ (c:=(vi v2.2.1)) rfl sh3 (I233.nth 0 rfl) rfl rfl (wk_ rfl rfl hc40 (bv_ rfl rfl rfl (wo_ (ba_ (a:=(vb (a1.B==v2.2.1))) rfl rfl hc40 rfl (wm_ (v:=(vb (a1.B==v2.2.1))) rfl rfl ?_))))))))))))
   rcases ifs h with ⟨hc41,h⟩ | ⟨hc41,h⟩
   ·
    refine wk_ rfl rfl hc41 (ac_ rfl ci_ e78 ((p2.mono le135).at_ I233) (wk_ rfl rfl hc41 (li_ sh3 (((p2.mono le135).at_ I233).fld Clue.fld3) rfl (wk_ rfl rfl hc41 (aw_ (v:=(pt_ g3)) rfl ci_ e79 rfl (wk_ rfl rfl hc41 (oj_ (c:=(vi v2.2.2.1)) rfl sh3 (I233.nth 0 rfl) rfl rfl (wk_ rfl rfl hc41 (bv_ rfl rfl rfl (wo_ (ba_ (a:=(vb (a1.N==v2.2.2.1))) rfl rfl hc41 rfl (wm_ (v:=(vb (a1.N==v2.2.2.1))) rfl rfl ?_))))))))))))
    rcases ifs h with ⟨hc42,h⟩ | ⟨hc42,h⟩
    ·
     refine wk_ rfl rfl hc42 (ac_ rfl fk_ e78 ((p2.mono le135).at_ I233) (wk_ rfl rfl hc42 (li_ sh3 (((p2.mono le135).at_ I233).fld Clue.fld4) rfl (wk_ rfl rfl hc42 (aw_ (v:=(pt_ g3)) rfl fk_ e79 rfl (wk_ rfl rfl hc42 (oj_ (c:=(vi v2.2.2.2.1)) rfl sh3 (I233.nth 0 rfl) rfl rfl (wk_ rfl rfl hc42 (bv_ rfl rfl rfl (wo_ (ba_ (a:=(vb (a1.M==v2.2.2.2.1))) rfl rfl hc42 rfl (wm_ (v:=(vb (a1.M==v2.2.2.2.1))) rfl rfl ?_))))))))))))
     rcases ifs h with ⟨hc43,h⟩ | ⟨hc43,h⟩
     ·
      refine wk_ rfl rfl hc43 (ac_ rfl pa_ e78 ((p2.mono le135).at_ I233) (wk_ rfl rfl hc43 (ld_ sh45 (((p2.mono le135).at_ I233).fld Clue.fld5) rfl (fun u29 hu29 => ?_))))
      obtain ⟨z11,m11,k11,rfl⟩:=bb_ hu29
      refine wk_ rfl rfl hc43 (cn_ rfl Tryz.underlying45 rfl hu29 (wk_ rfl rfl hc43 (aw_ (v:=(pt_ g3)) rfl pa_ e79 rfl (wk_ rfl rfl hc43 (oj_ (c:=(.slice z6 m6 k6)) rfl sh45 (I233.nth 0 rfl) rfl rfl (wk_ rfl rfl hc43 (cn_ rfl Tryz.underlying45 rfl r4 (wk_ rfl rfl hc43 (bv_ rfl rfl rfl (wo_ (ba_ (a:=(vb ((a1.Guess.length:Int)==(v2.2.2.2.2.1.length:Int)))) rfl rfl hc43 rfl (wa_ (v:=(vb ((a1.Guess.length:Int)==(v2.2.2.2.2.1.length:Int)))) rfl rfl (ad_ (ap_ ?_))))))))))))))
      obtain rfl:=sj h
      exact ⟨ed15,(vb ((a1.Guess.length:Int)==(v2.2.2.2.2.1.length:Int))),(eb_ rfl rfl),_,[],((le1.trans le2).trans le135),(I233).drop,rfl,rfl⟩
     refine ws_ rfl rfl hc43 (ws_ rfl rfl hc43 (ws_ rfl rfl hc43 (ws_ rfl rfl hc43 (ws_ rfl rfl hc43 (ws_ rfl rfl hc43 (ws_ rfl rfl hc43 (wo_ (ah_ (b:=(vb false)) rfl rfl hc43 rfl (wa_ (v:=(vb false)) rfl rfl (ad_ (ap_ ?_)))))))))))
     obtain rfl:=sj h
     exact ⟨ed15,(vb false),(eb_ rfl rfl),_,[],((le1.trans le2).trans le135),(I233).drop,rfl,rfl⟩
    refine ws_ rfl rfl hc42 (ws_ rfl rfl hc42 (ws_ rfl rfl hc42 (ws_ rfl rfl hc42 (ws_ rfl rfl hc42 (wo_ (ah_ (b:=(vb false)) rfl rfl hc42 rfl (wm_ (v:=(vb false)) rfl rfl (ws_ rfl rfl rfl (ws_ rfl rfl rfl (ws_ rfl rfl rfl (ws_ rfl rfl rfl (ws_ rfl rfl rfl (ws_ rfl rfl rfl (ws_ rfl rfl rfl (wo_ (ah_ (b:=(vb false)) rfl rfl rfl rfl (wa_ (v:=(vb false)) rfl rfl (ad_ (ap_ ?_)))))))))))))))))))
    obtain rfl:=sj h
    exact ⟨ed15,(vb false),(eb_ rfl rfl),_,[],((le1.trans le2).trans le135),(I233).drop,rfl,rfl⟩
   refine ws_ rfl rfl hc41 (ws_ rfl rfl hc41 (ws_ rfl rfl hc41 (ws_ rfl rfl hc41 (ws_ rfl rfl hc41 (wo_ (ah_ (b:=(vb false)) rfl rfl hc41 rfl (wm_ (v:=(vb false)) rfl rfl (ws_ rfl rfl rfl (ws_ rfl rfl rfl (ws_ rfl rfl rfl (ws_ rfl rfl rfl (ws_ rfl rfl rfl (wo_ (ah_ (b:=(vb false)) rfl rfl rfl rfl (wm_ (v:=(vb false)) rfl rfl (ws_ rfl rfl rfl (ws_ rfl rfl rfl (ws_ rfl rfl rfl (ws_ rfl rfl rfl (ws_ rfl rfl rfl (ws_ rfl rfl rfl (ws_ rfl rfl rfl (wo_ (ah_ (b:=(vb false)) rfl rfl rfl rfl (wa_ (v:=(vb false)) rfl rfl (ad_ (ap_ ?_)))))))))))))))))))))))))))
   obtain rfl:=sj h
   exact ⟨ed15,(vb false),(eb_ rfl rfl),_,[],((le1.trans le2).trans le135),(I233).drop,rfl,rfl⟩
  refine ws_ rfl rfl hc40 (ws_ rfl rfl hc40 (ws_ rfl rfl hc40 (ws_ rfl rfl hc40 (ws_ rfl rfl hc40 (wo_ (ah_ (b:=(vb false)) rfl rfl hc40 rfl (wm_ (v:=(vb false)) rfl rfl (ws_ rfl rfl rfl (ws_ rfl rfl rfl (ws_ rfl rfl rfl (ws_ rfl rfl rfl (ws_ rfl rfl rfl (wo_ (ah_ (b:=(vb false)) rfl rfl rfl rfl (wm_ (v:=(vb false)) rfl rfl (ws_ rfl rfl rfl (ws_ rfl rfl rfl (ws_ rfl rfl rfl (ws_ rfl rfl rfl (ws_ rfl rfl rfl (wo_ (ah_ (b:=(vb false)) rfl rfl rfl rfl (wm_ (v:=(vb false)) rfl rfl (ws_ rfl rfl rfl (ws_ rfl rfl rfl (ws_ rfl rfl rfl (ws_ rfl rfl rfl ?_)))))))))))))))))))))))))))
  refine ws_ rfl rfl rfl (ws_ rfl rfl rfl (ws_ rfl rfl rfl (wo_ (ah_ (b:=(vb false)) rfl rfl rfl rfl (wa_ (v:=(vb false)) rfl rfl (ad_ (ap_ ?_)))))))
  obtain rfl:=sj h
  exact ⟨ed15,(vb false),(eb_ rfl rfl),_,[],((le1.trans le2).trans le135),(I233).drop,rfl,rfl⟩
 refine ws_ rfl rfl hc39 (ws_ rfl rfl hc39 (ws_ rfl rfl hc39 (ws_ rfl rfl hc39 (ws_ rfl rfl hc39 (wo_ (ah_ (b:=(vb false)) rfl rfl hc39 rfl (wm_ (v:=(vb false)) rfl rfl (ws_ rfl rfl rfl (ws_ rfl rfl rfl (ws_ rfl rfl rfl (ws_ rfl rfl rfl (ws_ rfl rfl rfl (wo_ (ah_ (b:=(vb false)) rfl rfl rfl rfl (wm_ (v:=(vb false)) rfl rfl (ws_ rfl rfl rfl (ws_ rfl rfl rfl (ws_ rfl rfl rfl (ws_ rfl rfl rfl (ws_ rfl rfl rfl (wo_ (ah_ (b:=(vb false)) rfl rfl rfl rfl (wm_ (v:=(vb false)) rfl rfl (ws_ rfl rfl rfl (ws_ rfl rfl rfl (ws_ rfl rfl rfl (ws_ rfl rfl rfl ?_)))))))))))))))))))))))))))
 refine ws_ rfl rfl rfl (wo_ (ah_ (b:=(vb false)) rfl rfl rfl rfl (wm_ (v:=(vb false)) rfl rfl (ws_ rfl rfl rfl (ws_ rfl rfl rfl (ws_ rfl rfl rfl (ws_ rfl rfl rfl (ws_ rfl rfl rfl (ws_ rfl rfl rfl (ws_ rfl rfl rfl (wo_ (ah_ (b:=(vb false)) rfl rfl rfl rfl (wa_ (v:=(vb false)) rfl rfl (ad_ (ap_ ?_)))))))))))))))
 obtain rfl:=sj h
 exact ⟨ed15,(vb false),(eb_ rfl rfl),_,[],((le1.trans le2).trans le135),(I233).drop,rfl,rfl⟩
theorem yu_ {w:World} {S:PH} {Fr:List HP} {a0:(List Int)} {v0:Value} {a1:(List Int)} {v1:Value} {r:Int×Int} (hI:Inv w S (Fr)) (h0_:RV S v0 a0) (h1_:RV S v1 a1) (h:ks_ a0 a1=some r) :
    Calls Tryz.prog 289 [v0,v1].toArray w (fh_ S Fr (Value.tuple #[(Value.int .i64 (r.1)),(Value.int .i64 (r.2))])):=by
 unfold ks_ at h
 obtain ⟨z1,m1,k1,rfl⟩:=bb_ h0_
 obtain ⟨z2,m2,k2,rfl⟩:=bb_ h1_
 refine av_ (n:=57) Tryz.func289 rfl rfl rfl (ab_ (aa_ (wa_ (v:=(vi 0)) rfl rfl (wa_ (v:=(vi 0)) rfl rfl (ad_ (ab_ (aa_ (wo_ (tb_ (z:=(.agg (List.replicate 10 ((vi 0))).toArray)) rfl hI zoa373 (fun g1 w1 I1 => ?_))))))))))
 have I2:=Inv.arrNew (k:=10) (zc:=[(vi 0)]) (zd:=(0:Int)) I1 (by rfl) (fun _=>rfl)
 have hl1:(List.replicate 10 (0:Int)).length=10:=List.length_replicate
 refine wo_ (tb_ (z:=(.agg (List.replicate 10 ((vi 0))).toArray)) rfl I2 zoa373 (fun g2 w2 I3 => ?_))
 have I4:=Inv.arrNew (k:=10) (zc:=[(vi 0)]) (zd:=(0:Int)) I3 (by rfl) (fun _=>rfl)
 have hl2:(List.replicate 10 (0:Int)).length=10:=List.length_replicate
 refine ad_ (ab_ (ab_ (aa_ (wm_ (v:=(.slice z1 m1 k1)) rfl rfl (wo_ (cn_ rfl Tryz.underlying45 rfl h0_ (wm_ (v:=(vi 0)) rfl rfl (ad_ ?_))))))))
 have hk1:a0.length≤9223372036854775807:=(rm_ h0_)
 obtain ⟨eo_,hrun1,h⟩:=bnd h
 refine jc_ (fun f w=>Inv w S (zb_ (α:=Int) 373 g1 (eo_.2.1)::zb_ (α:=Int) 373 g2 (eo_.2.2)::Fr)∧f 1=(.slice z2 m2 k2)∧f 4=(vi eo_.1)∧f 5=(vi 0)∧f 6=(pt_ g1)∧f 7=(pt_ g2)∧f 11=(.slice z1 m1 k1)∧f 12=(vi ((a0.length:Int)))∧f.ds=[]∧(eo_.2.1).length=10∧(eo_.2.2).length=10) ?_ ?_
 ·
  refine bd_ ?_
  refine rt_ (I:=fun (i1:Nat) (s1:(Int×List Int×List Int)) (f:Frm) (w:World)=>Inv w S (zb_ (α:=Int) 373 g1 (s1.2.1)::zb_ (α:=Int) 373 g2 (s1.2.2)::Fr)∧f 1=(.slice z2 m2 k2)∧f 4=(vi s1.1)∧f 5=(vi 0)∧f 6=(pt_ g1)∧f 7=(pt_ g2)∧f 11=(.slice z1 m1 k1)∧f 12=(vi ((a0.length:Int)))∧f 13=(vi (i1:Int))∧f.ds=[]∧(s1.2.1).length=10∧(s1.2.2).length=10) hrun1 ⟨(I4.pull 1),rfl,rfl,rfl,rfl,rfl,rfl,rfl,rfl,rfl,hl1,hl2⟩ ?_ ?_
  ·
   rintro i1 s1 f w o1 hlt1 hI1 h10
   obtain ⟨I17,e57,e58,e59,e60,e61,e62,e63,e64,ed7,hl13,hl14⟩:=hI1
   refine ab_ (aa_ (wo_ (fi_ rfl e64 e63 (ad_ (ab_ (an_ rfl (zh_ hlt1) (bc_ (ab_ (bd_ (ab_ (aa_ (wm_ rfl e64 ?_))))))))))))
   obtain ⟨x25,hx25,h10⟩:=bnd h10
   refine wo_ (ix_ Tryz.underlying45 sh3 h0_ hx25 e62 e64 (wo_ (li_ sh3 (h0_.elem I17.in_ hx25) rfl (wa_ (v:=(vi (i1:Int))) rfl rfl (wa_ (v:=(vi x25)) rfl rfl (ad_ ?_))))))
   obtain ⟨v4,h13,h10⟩:=bnd h10
   refine pf_ (fun f w=>Inv w S (zb_ (α:=Int) 373 g1 (s1.2.1)::zb_ (α:=Int) 373 g2 (s1.2.2)::Fr)∧f 1=(.slice z2 m2 k2)∧f 4=(vi v4)∧f 5=(vi 0)∧f 6=(pt_ g1)∧f 7=(pt_ g2)∧f 8=(vi (i1:Int))∧f 9=(vi x25)∧f 11=(.slice z1 m1 k1)∧f 12=(vi ((a0.length:Int)))∧f 13=(vi (i1:Int))∧f.ds=[]) ?_ ?_
   ·
    refine ab_ (aa_ (wm_ (v:=(vi x25)) rfl rfl (wm_ rfl e57 (wm_ (v:=(vi (i1:Int))) rfl rfl ?_))))
    obtain ⟨x27,hx27,h13⟩:=bnd h13
    refine wo_ (ix_ Tryz.underlying45 sh3 h1_ hx27 rfl rfl (wo_ (li_ sh3 (h1_.elem I17.in_ hx27) rfl (wo_ (bv_ rfl rfl rfl (ad_ ?_))))))
    rcases ifs h13 with ⟨hc8,h13⟩ | ⟨hc8,h13⟩
    ·
     refine an_ rfl hc8 (aa_ (wm_ rfl e58 (wo_ (et_ rfl rfl rfl (wa_ (v:=(vi (w64 (s1.1+1)))) rfl rfl (ad_ ?_))))))
     obtain rfl:=sj h13
     exact ⟨((I17.pull 1).pull 1),e57,rfl,e59,e60,e61,rfl,rfl,e62,e63,e64,ed7⟩
    refine ao_ rfl hc8 (bc_ ?_)
    obtain rfl:=sj h13
    exact ⟨((I17.pull 1).pull 1),e57,e58,e59,e60,e61,rfl,rfl,e62,e63,e64,ed7⟩
   rintro f w ⟨I18,e65,e66,e67,e68,e69,e70,e71,e72,e73,e74,ed8⟩
   refine ab_ (aa_ (wm_ rfl e71 ?_))
   obtain ⟨x28,hx28,h10⟩:=bnd h10
   refine wo_ (jy_ (α:=Int) (l:=s1.2.1) (i:=x25) (e:=x28) rfl Tryz.underlying373 sh3 (uw_ hl13) e68 rfl hx28 (wo_ (li_ sh3 ((I18.nth 0 rfl).arrElem hx28) rfl (wo_ (et_ rfl rfl rfl ?_)))))
   obtain ⟨x29,hx29,h10⟩:=bnd h10
   refine wo_ (jy_ (α:=Int) (l:=s1.2.1) (i:=x25) (e:=x29) rfl Tryz.underlying373 sh3 (uw_ hl13) e68 rfl hx29 (wo_ (xw_ (u:=(vi (w64 (x28+1)))) (e':=w64 (x28+1)) sh3 I18 rfl rfl hx29 (rv_ _) (fun w9 I19=>(ad_ (aa_ (wm_ rfl e65 (wm_ rfl e70 ?_))))))))
   obtain ⟨x30,hx30,h10⟩:=bnd h10
   refine wo_ (ix_ Tryz.underlying45 sh3 h1_ hx30 rfl rfl (wo_ (li_ sh3 (h1_.elem I19.in_ hx30) rfl ?_)))
   obtain ⟨x31,hx31,h10⟩:=bnd h10
   refine wo_ (jy_ (α:=Int) (l:=s1.2.2) (i:=x30) (e:=x31) rfl Tryz.underlying373 sh3 (uw_ hl14) e69 rfl hx31 (wo_ (li_ sh3 ((I19.nth 1 rfl).arrElem hx31) rfl (wo_ (et_ rfl rfl rfl ?_)))))
   obtain ⟨x32,hx32,h10⟩:=bnd h10
   refine wo_ (jy_ (α:=Int) (l:=s1.2.2) (i:=x30) (e:=x32) rfl Tryz.underlying373 sh3 (uw_ hl14) e69 rfl hx32 (wo_ (xw_ (u:=(vi (w64 (x31+1)))) (e':=w64 (x31+1)) sh3 (I19.pull 1) rfl rfl hx32 (rv_ _) (fun w10 I20=>(ad_ (aa_ (wo_ (et_ rfl e74 rfl (wm_ (v:=(vi (w64 ((i1:Int)+1)))) rfl rfl (ad_ ?_))))))))))
   obtain rfl:=sj h10
   exact ⟨(I20.pull 1),e65,e66,e67,e68,e69,e72,e73,(ft_ hlt1 hk1),ed8,(set_len hl13),(set_len hl14)⟩
  rintro f w hI2
  obtain ⟨I21,e75,e76,e77,e78,e79,e80,e81,e82,ed9,hl19,hl20⟩:=hI2
  refine ab_ (aa_ (wo_ (fi_ rfl e82 e81 (ad_ (ab_ (ao_ rfl (zi_ _) (fl_ ?_)))))))
  exact ⟨((I21.pull 1).pull 1),e75,e76,e77,e78,e79,e80,e81,ed9,hl19,hl20⟩
 rintro f w ⟨I22,e83,e84,e85,e86,e87,e88,e89,ed10,hl15,hl16⟩
 refine ab_ (ab_ (aa_ (wm_ (v:=(vi 0)) rfl rfl (ad_ ?_))))
 obtain ⟨x39,hx39,h⟩:=bnd h
 obtain ⟨zf_,hrun2,h⟩:=bnd h
 refine jc_ (fun f w=>∃ (S_:PH),S.Le S_∧Inv w S_ (zb_ (α:=Int) 373 g1 (eo_.2.1)::zb_ (α:=Int) 373 g2 (eo_.2.2)::Fr)∧f 4=(vi eo_.1)∧f 5=(vi zf_)∧f 6=(pt_ g1)∧f 7=(pt_ g2)∧f.ds=[]) ?_ ?_
 ·
  refine bd_ ?_
  refine rt_ (I:=fun (i2:Nat) (s2:(Int)) (f:Frm) (w:World)=>∃ (S_:PH),S.Le S_∧Inv w S_ (zb_ (α:=Int) 373 g1 (eo_.2.1)::zb_ (α:=Int) 373 g2 (eo_.2.2)::Fr)∧f 4=(vi eo_.1)∧f 5=(vi s2)∧f 6=(pt_ g1)∧f 7=(pt_ g2)∧f 40=(vi (i2:Int))∧f.ds=[]) hrun2 ⟨_,lr,((I22.pull 1).pull 1),e84,e85,e86,e87,rfl,ed10⟩ ?_ ?_
  ·
   rintro i2 s2 f w o2 hlt2 hI36 h15
   obtain ⟨S36,le36,I59,e117,e118,e119,e120,e121,ed17⟩:=hI36
   refine ab_ (aa_ (wo_ (fi_ rfl e121 rfl (ad_ (ab_ (an_ rfl (cnt_t hx39 hlt2) (bc_ (ab_ (bd_ (ab_ (aa_ (wm_ rfl e121 (wa_ (v:=(vi (i2:Int))) rfl rfl (ad_ ?_))))))))))))))
   obtain ⟨x40,hx40,h15⟩:=bnd h15
   obtain ⟨x41,hx41,h15⟩:=bnd h15
   refine ek_ (sps:=[spV 43 [] 0 (vi s2),spV 44 [] 1 (vi (i2:Int)),⟨some 45,[1],[2],fun vs_ T_=>fr0 vs_ 0=(.pointer (some ⟨g1,((i2:Int)).toNat * (Enc.sz Int),none⟩)),[0],[],[],fun _ h_=>h_⟩,⟨some 46,[1,2],[3],fun vs_ T_=>fr0 vs_ 0=(vi x40),[0],[],[],fun _ h_=>h_⟩,spV 47 [] 4 (vi (i2:Int)),⟨some 48,[4],[5],fun vs_ T_=>fr0 vs_ 0=(.pointer (some ⟨g2,((i2:Int)).toNat * (Enc.sz Int),none⟩)),[1],[],[],fun _ h_=>h_⟩,⟨some 49,[4,5],[6],fun vs_ T_=>fr0 vs_ 0=(vi x41),[1],[],[],fun _ h_=>h_⟩,spV 50 [1,2,3,4,5,6] 7 (vi (minI x40 x41)),spV 51 (lrg 8) 8 (vi (w64 (s2+(minI x40 x41)))),spV 5 (lrg 9) 9 (vi (w64 (s2+(minI x40 x41))))]) (tks:=[⟨none,none,[],fun vs_=>zb_ (α:=Int) 373 g1 (eo_.2.1)⟩,⟨none,none,[],fun vs_=>zb_ (α:=Int) 373 g2 (eo_.2.2)⟩]) (O:=Fr) rfl (by kernel_rfl) ((I59.pull 1).pull 1) ⟨ob_ rfl fun l A K I=>(br_ rfl ((K 5 (au_ rfl)).trans e118) (fo I)),ob_ rfl fun l A K I=>(br_ rfl (K 10 (au_ rfl)) (fo I)),?_,?_,ob_ rfl fun l A K I=>(br_ rfl (K 10 (au_ rfl)) (fo I)),?_,?_,ob_ rfl fun l A K I=>(op_min (a:=x40) (b:=x41) rfl (A.v 2 rfl) (A.v 5 rfl) (fo I)),ob_ rfl fun l A K I=>(et_ rfl (A.v 0 rfl) (A.v 7 rfl) (fo I)),?_,trivial⟩ ?_
   ·
    intro vs f w_ U X le A K I
    have I62:Inv w_ U (zb_ (α:=Int) 373 g1 (eo_.2.1)::X):=I
    refine pl_ rfl (jy_ (α:=Int) (l:=eo_.2.1) (i:=(i2:Int)) (e:=x40) rfl Tryz.underlying373 sh3 (uw_ hl15) ((K 6 (au_ rfl)).trans e119) (A.v 0 rfl) hx40 (fo I62))
   ·
    intro vs f w_ U X le A K I
    have I63:Inv w_ U (zb_ (α:=Int) 373 g1 (eo_.2.1)::X):=I
    refine pl_ rfl (aj_ rfl sh3 (A.v 1 rfl) ((I63.nth 0 rfl).arrElem hx40) (fo I63))
   ·
    intro vs f w_ U X le A K I
    have I65:Inv w_ U (zb_ (α:=Int) 373 g2 (eo_.2.2)::X):=I
    refine pl_ rfl (jy_ (α:=Int) (l:=eo_.2.2) (i:=(i2:Int)) (e:=x41) rfl Tryz.underlying373 sh3 (uw_ hl16) ((K 7 (au_ rfl)).trans e120) (A.v 0 rfl) hx41 (fo I65))
   ·
    intro vs f w_ U X le A K I
    have I66:Inv w_ U (zb_ (α:=Int) 373 g2 (eo_.2.2)::X):=I
    refine pl_ rfl (aj_ rfl sh3 (A.v 1 rfl) ((I66.nth 0 rfl).arrElem hx41) (fo I66))
   ·
    intro vs f w_ U X le A K I
    refine pl_ rfl (dm_ (v:=(vi (w64 (s2+(minI x40 x41))))) rfl (A.v 8 rfl) (fo I))
   intro vs44 f w54 S47 ed18 le47 hF4 hK44 hI47
   have e122:f 4=(vi eo_.1):=(hK44 4 (bf_ rfl)).trans e117
   have e123:f 6=(pt_ g1):=(hK44 6 (bf_ rfl)).trans e119
   have e124:f 7=(pt_ g2):=(hK44 7 (bf_ rfl)).trans e120
   have e125:f 40=(vi ((i2:Int))):=(hK44 40 (bf_ rfl)).trans e121
   have I70:Inv w54 S47 (zb_ (α:=Int) 373 g1 (eo_.2.1)::zb_ (α:=Int) 373 g2 (eo_.2.2)::Fr):=hI47
   have q40:=hF4.v 9 rfl
   refine aa_ (wo_ (et_ rfl e125 rfl (wm_ (v:=(vi (w64 ((i2:Int)+1)))) rfl rfl (ad_ ?_))))
   obtain rfl:=sj h15
   exact ⟨_,(le36.trans le47),((I70.pull 1).pull 1),e122,q40,e123,e124,(ft_ hlt2 (cnt_le hx39)),(ed18.trans ed17)⟩
  rintro f w hI48
  obtain ⟨S48,le48,I71,e126,e127,e128,e129,e130,ed19⟩:=hI48
  refine ab_ (aa_ (wo_ (fi_ rfl e130 rfl (ad_ (ab_ (ao_ rfl (cnt_f hx39) (fl_ ?_)))))))
  exact ⟨_,le48,((I71.pull 1).pull 1),e126,e127,e128,e129,ed19⟩
 rintro f w ⟨S49,le49,I72,e131,e132,e133,e134,ed20⟩
 refine ab_ (aa_ (wm_ rfl e131 (wm_ rfl e132 (wm_ rfl e131 (wo_ (mo_ rfl rfl rfl (wa_ (v:=(vi eo_.1)) rfl rfl (wa_ (v:=(vi (w64 (zf_ - eo_.1)))) rfl rfl (ad_ (ap_ ?_))))))))))
 obtain rfl:=sj h
 exact ⟨ed20,(Value.tuple #[(vi eo_.1),(vi (w64 (zf_ - eo_.1)))]),(res2 rfl rfl rfl),_,[],le49,((I72).drop).drop,rfl,rfl⟩
end Go.Proofs.YtfcgcpjnpdkjmaaGreatDoor.Pad
end
section
set_option maxHeartbeats 4000000
set_option maxRecDepth 100000
namespace Go.Proofs.YtfcgcpjnpdkjmaaGreatDoor.Pad
open Go Go.Proofs
theorem zm_ {w:World} {S:PH} {Fr:List HP} {a0:Clue} {v0:Value} {a1:(List Int)} {v1:Value} {r:Bool} (hI:Inv w S (Fr)) (h0_:RV S v0 a0) (h1_:RV S v1 a1) (h:ov_ a0 a1=some r) :
    Calls Tryz.prog 268 [v0,v1].toArray w (fh_ S Fr (Value.bool (r))):=by
 unfold ov_ at h
 obtain ⟨c1,e1,r1⟩:=Clue.inv h0_
 subst e1
 obtain ⟨z1,m1,k1,rfl⟩:=bb_ r1
 obtain ⟨z2,m2,k2,rfl⟩:=bb_ h1_
 refine av_ (n:=122) Tryz.func268 rfl rfl rfl (ab_ (aa_ (wo_ (dv_ (v:=(.agg #[(vi a0.Kind),(vi a0.A),(vi a0.B),(vi a0.N),(vi a0.M),(.slice z1 m1 k1),(vb a0.Not)])) rfl hI rfl (fun g1 w1 I1 => ?_)))))
 obtain ⟨S1,le1,I2,p1⟩:=Inv.boxFreeze (x:=a0) I1 (Clue.rv (s:=a0) r1)
 refine wa_ (v:=(vb false)) rfl rfl (ad_ (ab_ (ab_ (aa_ (wo_ (fa_ vh_ (p1.at_ I2) rfl (wo_ (li_ sh3 ((p1.at_ I2).fld Clue.fld0) rfl (ad_ (bd_ (ab_ (aa_ (wo_ (bv_ rfl rfl rfl (wa_ (v:=(vb (a0.Kind==1))) rfl rfl (ad_ ?_))))))))))))))))
 rcases ifs h with ⟨hc1,h⟩ | ⟨hc1,h⟩
 ·
  refine an_ rfl hc1 (ab_ ?_)
  obtain ⟨x1,hx1,h⟩:=bnd h
  refine ek_ (sps:=[spV 17 [] 0 (.slice z2 m2 k2),spV 18 [] 1 (aq_ (pt_ g1) 1),spV 19 [1] 2 (vi a0.A),spV 20 [0,1,2] 3 (bx_ (.slice z2 m2 k2) (a0.A) (Enc.sz Int)),spV 21 [0,1,2,3] 4 (vi x1),spV 22 [] 5 (aq_ (pt_ g1) 3),spV 23 [5] 6 (vi a0.N),spV 24 (lrg 7) 7 (vb (x1==a0.N)),spV 4 (lrg 8) 8 (vb (x1==a0.N))]) (tks:=[]) (O:=Fr) rfl (by kernel_rfl) I2 ⟨ob_ rfl fun l A K I=>(br_ rfl (K 1 (au_ rfl)) (fo I)),ob_ rfl fun l A K I=>(ac_ rfl da_ (K 2 (au_ rfl)) ((p1.mono l).at_ I) (fo I)),ob_ rfl fun l A K I=>(aj_ rfl sh3 (A.v 0 rfl) (((p1.mono l).at_ I).fld Clue.fld1) (fo I)),ob_ rfl fun l A K I=>(ix_ Tryz.underlying45 sh3 (h1_.mono (le1.trans l)) hx1 (A.v 0 rfl) (A.v 2 rfl) (fo I)),ob_ rfl fun l A K I=>(aj_ rfl sh3 (A.v 3 rfl) ((h1_.mono (le1.trans l)).elem I.in_ hx1) (fo I)),ob_ rfl fun l A K I=>(ac_ rfl ci_ (K 2 (au_ rfl)) ((p1.mono l).at_ I) (fo I)),ob_ rfl fun l A K I=>(aj_ rfl sh3 (A.v 0 rfl) (((p1.mono l).at_ I).fld Clue.fld3) (fo I)),ob_ rfl fun l A K I=>(bv_ rfl (A.v 4 rfl) (A.v 6 rfl) (fo I)),?_,trivial⟩ ?_
  ·
   intro vs f w_ U X le A K I
   refine pl_ rfl (dm_ (v:=(vb (x1==a0.N))) rfl (A.v 7 rfl) (fo I))
  intro vs10 f w11 S11 ed1 le11 hF1 hK10 hI10
  have I12:Inv w11 S11 (Fr):=hI10
  have q9:=hF1.v 8 rfl
  refine ap_ ?_
  obtain rfl:=sj h
  exact ⟨(ed1.trans rfl),(vb (x1==a0.N)),(eb_ rfl q9),_,[],(le1.trans le11),I12,rfl,rfl⟩
 refine ao_ rfl hc1 (ab_ (aa_ (wo_ (bv_ rfl rfl rfl (wa_ (v:=(vb (a0.Kind==2))) rfl rfl (ad_ ?_))))))
 rcases ifs h with ⟨hc2,h⟩ | ⟨hc2,h⟩
 ·
  refine an_ rfl hc2 (ab_ (aa_ (wa_ (v:=(vi 0)) rfl rfl (ad_ (ab_ (ab_ (aa_ (wm_ (v:=(.slice z2 m2 k2)) rfl rfl (wo_ (fa_ da_ (p1.at_ I2) rfl (wo_ (li_ sh3 ((p1.at_ I2).fld Clue.fld1) rfl (wo_ (fa_ fv_ (p1.at_ I2) rfl (wo_ (li_ sh3 ((p1.at_ I2).fld Clue.fld2) rfl (wo_ (et_ rfl rfl rfl ?_))))))))))))))))))
  obtain ⟨x2,hx2,h⟩:=bnd h
  refine wo_ (op_sliceLH (v:=(.slice z2 m2 k2)) (lo:=a0.A) (hi:=w64 (a0.B+1)) rfl Tryz.underlying45 sh3 rfl (h1_.mono le1) rfl rfl hx2 (fun u1 hu1 => ?_))
  obtain ⟨z3,m3,k3,rfl⟩:=bb_ hu1
  refine wo_ (cn_ rfl Tryz.underlying45 rfl hu1 (wm_ (v:=(vi 0)) rfl rfl (ad_ ?_)))
  have hk1:x2.length≤9223372036854775807:=(rm_ hu1)
  obtain ⟨eo_,hrun1,h⟩:=bnd h
  refine jc_ (fun f w=>Inv w S1 (Fr)∧f 2=(pt_ g1)∧f 5=(vi eo_)∧f 33=(.slice z3 m3 k3)∧f 34=(vi ((x2.length:Int)))∧f.ds=[]) ?_ ?_
  ·
   refine bd_ ?_
   refine rt_ (I:=fun (i1:Nat) (s1:(Int)) (f:Frm) (w:World)=>Inv w S1 (Fr)∧f 2=(pt_ g1)∧f 5=(vi s1)∧f 33=(.slice z3 m3 k3)∧f 34=(vi ((x2.length:Int)))∧f 35=(vi (i1:Int))∧f.ds=[]) hrun1 ⟨I2,rfl,rfl,rfl,rfl,rfl,rfl⟩ ?_ ?_
   ·
    rintro i1 s1 f w o1 hlt1 hI11 h1
    obtain ⟨I16,e20,e21,e22,e23,e24,ed5⟩:=hI11
    refine ab_ (aa_ (wo_ (fi_ rfl e24 e23 (ad_ (ab_ (an_ rfl (zh_ hlt1) (bc_ (ab_ (bd_ (ab_ (aa_ ?_)))))))))))
    obtain ⟨x6,hx6,h1⟩:=bnd h1
    refine wo_ (ix_ Tryz.underlying45 sh3 hu1 hx6 e22 e24 (wo_ (li_ sh3 (hu1.elem I16.in_ hx6) rfl (wa_ (v:=(vi x6)) rfl rfl (ad_ (aa_ (wm_ rfl e21 (wm_ (v:=(vi x6)) rfl rfl (wo_ (et_ rfl rfl rfl (wa_ (v:=(vi (w64 (s1+x6)))) rfl rfl (ad_ (aa_ (wo_ (et_ rfl e24 rfl (wm_ (v:=(vi (w64 ((i1:Int)+1)))) rfl rfl (ad_ ?_)))))))))))))))))
    obtain rfl:=sj h1
    exact ⟨I16,e20,rfl,e22,e23,(ft_ hlt1 hk1),ed5⟩
   rintro f w hI12
   obtain ⟨I17,e25,e26,e27,e28,e29,ed6⟩:=hI12
   refine ab_ (aa_ (wo_ (fi_ rfl e29 e28 (ad_ (ab_ (ao_ rfl (zi_ _) (fl_ ?_)))))))
   exact ⟨I17,e25,e26,e27,e28,ed6⟩
  rintro f w ⟨I18,e30,e31,e32,e33,ed7⟩
  refine ab_ (aa_ (wm_ rfl e31 (wo_ (ac_ rfl ci_ e30 (p1.at_ I18) (wo_ (li_ sh3 ((p1.at_ I18).fld Clue.fld3) rfl (wo_ (bv_ rfl rfl rfl (wa_ (v:=(vb (eo_==a0.N))) rfl rfl (ad_ (ap_ ?_)))))))))))
  obtain rfl:=sj h
  exact ⟨ed7,(vb (eo_==a0.N)),(eb_ rfl rfl),_,[],le1,I18,rfl,rfl⟩
 refine ao_ rfl hc2 (ab_ (aa_ (wo_ (bv_ rfl rfl rfl (wa_ (v:=(vb (a0.Kind==3))) rfl rfl (ad_ ?_))))))
 rcases ifs h with ⟨hc3,h⟩ | ⟨hc3,h⟩
 ·
  refine an_ rfl hc3 (ab_ ?_)
  obtain ⟨x7,hx7,h⟩:=bnd h
  obtain ⟨x8,hx8,h⟩:=bnd h
  refine ek_ (sps:=[spV 49 [] 0 (.slice z2 m2 k2),spV 50 [] 1 (aq_ (pt_ g1) 1),spV 51 [1] 2 (vi a0.A),spV 52 [0,1,2] 3 (bx_ (.slice z2 m2 k2) (a0.A) (Enc.sz Int)),spV 53 [0,1,2,3] 4 (vi x7),spV 54 [] 5 (.slice z2 m2 k2),spV 55 [] 6 (aq_ (pt_ g1) 2),spV 56 [6] 7 (vi a0.B),spV 57 [5,6,7] 8 (bx_ (.slice z2 m2 k2) (a0.B) (Enc.sz Int)),spV 58 [5,6,7,8] 9 (vi x8),spV 59 (lrg 10) 10 (vb (decide (x7<x8))),spV 4 (lrg 11) 11 (vb (decide (x7<x8)))]) (tks:=[]) (O:=Fr) rfl (by kernel_rfl) I2 ⟨ob_ rfl fun l A K I=>(br_ rfl (K 1 (au_ rfl)) (fo I)),ob_ rfl fun l A K I=>(ac_ rfl da_ (K 2 (au_ rfl)) ((p1.mono l).at_ I) (fo I)),ob_ rfl fun l A K I=>(aj_ rfl sh3 (A.v 0 rfl) (((p1.mono l).at_ I).fld Clue.fld1) (fo I)),ob_ rfl fun l A K I=>(ix_ Tryz.underlying45 sh3 (h1_.mono (le1.trans l)) hx7 (A.v 0 rfl) (A.v 2 rfl) (fo I)),ob_ rfl fun l A K I=>(aj_ rfl sh3 (A.v 3 rfl) ((h1_.mono (le1.trans l)).elem I.in_ hx7) (fo I)),ob_ rfl fun l A K I=>(br_ rfl (K 1 (au_ rfl)) (fo I)),ob_ rfl fun l A K I=>(ac_ rfl fv_ (K 2 (au_ rfl)) ((p1.mono l).at_ I) (fo I)),ob_ rfl fun l A K I=>(aj_ rfl sh3 (A.v 0 rfl) (((p1.mono l).at_ I).fld Clue.fld2) (fo I)),ob_ rfl fun l A K I=>(ix_ Tryz.underlying45 sh3 (h1_.mono (le1.trans l)) hx8 (A.v 0 rfl) (A.v 2 rfl) (fo I)),ob_ rfl fun l A K I=>(aj_ rfl sh3 (A.v 3 rfl) ((h1_.mono (le1.trans l)).elem I.in_ hx8) (fo I)),ob_ rfl fun l A K I=>(fi_ rfl (A.v 4 rfl) (A.v 9 rfl) (fo I)),?_,trivial⟩ ?_
  ·
   intro vs f w_ U X le A K I
   refine pl_ rfl (dm_ (v:=(vb (decide (x7<x8)))) rfl (A.v 10 rfl) (fo I))
  intro vs23 f w24 S24 ed8 le24 hF2 hK23 hI25
  have I31:Inv w24 S24 (Fr):=hI25
  have q21:=hF2.v 11 rfl
  refine ap_ ?_
  obtain rfl:=sj h
  exact ⟨(ed8.trans rfl),(vb (decide (x7<x8))),(eb_ rfl q21),_,[],(le1.trans le24),I31,rfl,rfl⟩
 refine ao_ rfl hc3 (ab_ (aa_ (wo_ (bv_ rfl rfl rfl (wa_ (v:=(vb (a0.Kind==4))) rfl rfl (ad_ ?_))))))
 rcases ifs h with ⟨hc4,h⟩ | ⟨hc4,h⟩
 ·
  refine an_ rfl hc4 (ab_ ?_)
  obtain ⟨x9,hx9,h⟩:=bnd h
  obtain ⟨x10,hx10,h⟩:=bnd h
  refine ek_ (sps:=[spV 62 [] 0 (.slice z2 m2 k2),spV 63 [] 1 (aq_ (pt_ g1) 1),spV 64 [1] 2 (vi a0.A),spV 65 [0,1,2] 3 (bx_ (.slice z2 m2 k2) (a0.A) (Enc.sz Int)),spV 66 [0,1,2,3] 4 (vi x9),spV 67 [] 5 (.slice z2 m2 k2),spV 68 [] 6 (aq_ (pt_ g1) 2),spV 69 [6] 7 (vi a0.B),spV 70 [5,6,7] 8 (bx_ (.slice z2 m2 k2) (a0.B) (Enc.sz Int)),spV 71 [5,6,7,8] 9 (vi x10),spV 72 (lrg 10) 10 (vb (x9==x10)),spV 4 (lrg 11) 11 (vb (x9==x10))]) (tks:=[]) (O:=Fr) rfl (by kernel_rfl) I2 ⟨ob_ rfl fun l A K I=>(br_ rfl (K 1 (au_ rfl)) (fo I)),ob_ rfl fun l A K I=>(ac_ rfl da_ (K 2 (au_ rfl)) ((p1.mono l).at_ I) (fo I)),ob_ rfl fun l A K I=>(aj_ rfl sh3 (A.v 0 rfl) (((p1.mono l).at_ I).fld Clue.fld1) (fo I)),ob_ rfl fun l A K I=>(ix_ Tryz.underlying45 sh3 (h1_.mono (le1.trans l)) hx9 (A.v 0 rfl) (A.v 2 rfl) (fo I)),ob_ rfl fun l A K I=>(aj_ rfl sh3 (A.v 3 rfl) ((h1_.mono (le1.trans l)).elem I.in_ hx9) (fo I)),ob_ rfl fun l A K I=>(br_ rfl (K 1 (au_ rfl)) (fo I)),ob_ rfl fun l A K I=>(ac_ rfl fv_ (K 2 (au_ rfl)) ((p1.mono l).at_ I) (fo I)),ob_ rfl fun l A K I=>(aj_ rfl sh3 (A.v 0 rfl) (((p1.mono l).at_ I).fld Clue.fld2) (fo I)),ob_ rfl fun l A K I=>(ix_ Tryz.underlying45 sh3 (h1_.mono (le1.trans l)) hx10 (A.v 0 rfl) (A.v 2 rfl) (fo I)),ob_ rfl fun l A K I=>(aj_ rfl sh3 (A.v 3 rfl) ((h1_.mono (le1.trans l)).elem I.in_ hx10) (fo I)),ob_ rfl fun l A K I=>(bv_ rfl (A.v 4 rfl) (A.v 9 rfl) (fo I)),?_,trivial⟩ ?_
  ·
   intro vs f w_ U X le A K I
   refine pl_ rfl (dm_ (v:=(vb (x9==x10))) rfl (A.v 10 rfl) (fo I))
  intro vs36 f w37 S37 ed9 le37 hF3 hK36 hI38
  have I44:Inv w37 S37 (Fr):=hI38
  have q33:=hF3.v 11 rfl
  refine ap_ ?_
  obtain rfl:=sj h
  exact ⟨(ed9.trans rfl),(vb (x9==x10)),(eb_ rfl q33),_,[],(le1.trans le37),I44,rfl,rfl⟩
 refine ao_ rfl hc4 (ab_ (aa_ (wo_ (bv_ rfl rfl rfl (wa_ (v:=(vb (a0.Kind==5))) rfl rfl (ad_ ?_))))))
 rcases ifs h with ⟨hc5,h⟩ | ⟨hc5,h⟩
 ·
  refine an_ rfl hc5 (ab_ (aa_ (wa_ (v:=(vi 0)) rfl rfl (ad_ (ab_ (ab_ (aa_ (wm_ (v:=(.slice z2 m2 k2)) rfl rfl (wo_ (cn_ rfl Tryz.underlying45 rfl (h1_.mono le1) (wm_ (v:=(vi 0)) rfl rfl (ad_ ?_))))))))))))
  have hk2:a1.length≤9223372036854775807:=(rm_ h1_)
  obtain ⟨zf_,hrun2,h⟩:=bnd h
  refine jc_ (fun f w=>Inv w S1 (Fr)∧f 2=(pt_ g1)∧f 8=(vi zf_)∧f 75=(.slice z2 m2 k2)∧f 76=(vi ((a1.length:Int)))∧f.ds=[]) ?_ ?_
  ·
   refine bd_ ?_
   refine rt_ (I:=fun (i2:Nat) (s2:(Int)) (f:Frm) (w:World)=>Inv w S1 (Fr)∧f 2=(pt_ g1)∧f 8=(vi s2)∧f 75=(.slice z2 m2 k2)∧f 76=(vi ((a1.length:Int)))∧f 77=(vi (i2:Int))∧f.ds=[]) hrun2 ⟨I2,rfl,rfl,rfl,rfl,rfl,rfl⟩ ?_ ?_
   ·
    rintro i2 s2 f w o2 hlt2 hI39 h3
    obtain ⟨I48,e49,e50,e51,e52,e53,ed13⟩:=hI39
    refine ab_ (aa_ (wo_ (fi_ rfl e53 e52 (ad_ (ab_ (an_ rfl (zh_ hlt2) (bc_ (ab_ (bd_ (ab_ (aa_ ?_)))))))))))
    obtain ⟨x14,hx14,h3⟩:=bnd h3
    refine wo_ (ix_ Tryz.underlying45 sh3 (h1_.mono le1) hx14 e51 e53 (wo_ (li_ sh3 ((h1_.mono le1).elem I48.in_ hx14) rfl (wa_ (v:=(vi x14)) rfl rfl (ad_ (ab_ (aa_ (wm_ (v:=(vi x14)) rfl rfl (wo_ (ac_ rfl ci_ e49 (p1.at_ I48) (wo_ (li_ sh3 ((p1.at_ I48).fld Clue.fld3) rfl (wo_ (bv_ rfl rfl rfl (ad_ ?_)))))))))))))))
    rcases ifs h3 with ⟨hc9,h3⟩ | ⟨hc9,h3⟩
    ·
     refine an_ rfl hc9 (aa_ (wm_ rfl e50 (wo_ (et_ rfl rfl rfl (wa_ (v:=(vi (w64 (s2+1)))) rfl rfl (ad_ (aa_ (wo_ (et_ rfl e53 rfl (wm_ (v:=(vi (w64 ((i2:Int)+1)))) rfl rfl (ad_ ?_)))))))))))
     obtain rfl:=sj h3
     exact ⟨I48,e49,rfl,e51,e52,(ft_ hlt2 hk2),ed13⟩
    refine ao_ rfl hc9 (bc_ (aa_ (wo_ (et_ rfl e53 rfl (wm_ (v:=(vi (w64 ((i2:Int)+1)))) rfl rfl (ad_ ?_))))))
    obtain rfl:=sj h3
    exact ⟨I48,e49,e50,e51,e52,(ft_ hlt2 hk2),ed13⟩
   rintro f w hI40
   obtain ⟨I49,e54,e55,e56,e57,e58,ed14⟩:=hI40
   refine ab_ (aa_ (wo_ (fi_ rfl e58 e57 (ad_ (ab_ (ao_ rfl (zi_ _) (fl_ ?_)))))))
   exact ⟨I49,e54,e55,e56,e57,ed14⟩
  rintro f w ⟨I50,e59,e60,e61,e62,ed15⟩
  refine ab_ (aa_ (wm_ rfl e60 (wo_ (ac_ rfl fk_ e59 (p1.at_ I50) (wo_ (li_ sh3 ((p1.at_ I50).fld Clue.fld4) rfl (wo_ (bv_ rfl rfl rfl (wa_ (v:=(vb (zf_==a0.M))) rfl rfl (ad_ (ap_ ?_)))))))))))
  obtain rfl:=sj h
  exact ⟨ed15,(vb (zf_==a0.M)),(eb_ rfl rfl),_,[],le1,I50,rfl,rfl⟩
 refine ao_ rfl hc5 (ab_ (aa_ (wo_ (bv_ rfl rfl rfl (wa_ (v:=(vb (a0.Kind==6))) rfl rfl (ad_ ?_))))))
 rcases ifs h with ⟨hc10,h⟩ | ⟨hc10,h⟩
 ·
  refine an_ rfl hc10 (ab_ (aa_ (wm_ (v:=(.slice z2 m2 k2)) rfl rfl (wo_ (fa_ pa_ (p1.at_ I2) rfl (wo_ (ld_ sh45 ((p1.at_ I2).fld Clue.fld5) rfl (fun u2 hu2 => ?_))))))))
  obtain ⟨z4,m4,k4,rfl⟩:=bb_ hu2
  obtain ⟨x15,hx15,h⟩:=bnd h
  refine wo_ (cv_ ca289 rfl I2 (fun Fr_ hF_=>yu_ hF_ (h1_.mono le1) hu2 hx15) (ep_ rfl rfl) (fun w38 I51=>(wm_ (v:=(Value.tuple #[(vi x15.1),(vi x15.2)])) rfl rfl (wo_ (qy_ (v:=(vi x15.1)) rfl rfl rfl (wo_ (qy_ (v:=(vi x15.2)) rfl rfl rfl (wa_ (v:=(vi x15.1)) rfl rfl (wa_ (v:=(vi x15.2)) rfl rfl (ad_ (ab_ (aa_ (wm_ (v:=(vi x15.1)) rfl rfl (wo_ (fa_ ci_ (p1.at_ I51) rfl (wo_ (li_ sh3 ((p1.at_ I51).fld Clue.fld3) rfl (wo_ (bv_ rfl rfl rfl (wm_ (v:=(vb (x15.1==a0.N))) rfl rfl ?_))))))))))))))))))))
  rcases ifs h with ⟨hc11,h⟩ | ⟨hc11,h⟩
  ·
   refine wk_ rfl rfl hc11 (br_ (v:=(vi x15.2)) rfl rfl (wk_ rfl rfl hc11 (fa_ fk_ (p1.at_ I51) rfl (wk_ rfl rfl hc11 (li_ sh3 ((p1.at_ I51).fld Clue.fld4) rfl (wk_ rfl rfl hc11 (bv_ rfl rfl rfl (wo_ (ba_ (a:=(vb (x15.2==a0.M))) rfl rfl hc11 rfl (wa_ (v:=(vb (x15.2==a0.M))) rfl rfl (ad_ (ap_ ?_))))))))))))
   obtain rfl:=sj h
   exact ⟨rfl,(vb (x15.2==a0.M)),(eb_ rfl rfl),_,[],le1,I51,rfl,rfl⟩
  refine ws_ rfl rfl hc11 (ws_ rfl rfl hc11 (ws_ rfl rfl hc11 (ws_ rfl rfl hc11 (wo_ (ah_ (b:=(vb false)) rfl rfl hc11 rfl (wa_ (v:=(vb false)) rfl rfl (ad_ (ap_ ?_))))))))
  obtain rfl:=sj h
  exact ⟨rfl,(vb false),(eb_ rfl rfl),_,[],le1,I51,rfl,rfl⟩
 refine ao_ rfl hc10 (bc_ (ab_ ?_))
 obtain ⟨x16,hx16,h⟩:=bnd h
 obtain ⟨x17,hx17,h⟩:=bnd h
 refine ek_ (sps:=[spV 111 [] 0 (.slice z2 m2 k2),spV 112 [] 1 (aq_ (pt_ g1) 1),spV 113 [1] 2 (vi a0.A),spV 114 [0,1,2] 3 (bx_ (.slice z2 m2 k2) (a0.A) (Enc.sz Int)),spV 115 [0,1,2,3] 4 (vi x16),spV 116 [] 5 (aq_ (pt_ g1) 3),spV 117 [5] 6 (vi a0.N),spV 118 (lrg 7) 7 (vi x17),spV 119 [] 8 (aq_ (pt_ g1) 4),spV 120 [8] 9 (vi a0.M),spV 121 (lrg 10) 10 (vb (x17==a0.M)),spV 4 (lrg 11) 11 (vb (x17==a0.M))]) (tks:=[]) (O:=Fr) rfl (by kernel_rfl) I2 ⟨ob_ rfl fun l A K I=>(br_ rfl (K 1 (au_ rfl)) (fo I)),ob_ rfl fun l A K I=>(ac_ rfl da_ (K 2 (au_ rfl)) ((p1.mono l).at_ I) (fo I)),ob_ rfl fun l A K I=>(aj_ rfl sh3 (A.v 0 rfl) (((p1.mono l).at_ I).fld Clue.fld1) (fo I)),ob_ rfl fun l A K I=>(ix_ Tryz.underlying45 sh3 (h1_.mono (le1.trans l)) hx16 (A.v 0 rfl) (A.v 2 rfl) (fo I)),ob_ rfl fun l A K I=>(aj_ rfl sh3 (A.v 3 rfl) ((h1_.mono (le1.trans l)).elem I.in_ hx16) (fo I)),ob_ rfl fun l A K I=>(ac_ rfl ci_ (K 2 (au_ rfl)) ((p1.mono l).at_ I) (fo I)),ob_ rfl fun l A K I=>(aj_ rfl sh3 (A.v 0 rfl) (((p1.mono l).at_ I).fld Clue.fld3) (fo I)),ob_ rfl fun l A K I=>(op_rem (a:=x16) (b:=a0.N) rfl (A.v 4 rfl) (A.v 6 rfl) hx17 (fo I)),ob_ rfl fun l A K I=>(ac_ rfl fk_ (K 2 (au_ rfl)) ((p1.mono l).at_ I) (fo I)),ob_ rfl fun l A K I=>(aj_ rfl sh3 (A.v 0 rfl) (((p1.mono l).at_ I).fld Clue.fld4) (fo I)),ob_ rfl fun l A K I=>(bv_ rfl (A.v 7 rfl) (A.v 9 rfl) (fo I)),?_,trivial⟩ ?_
 ·
  intro vs f w_ U X le A K I
  refine pl_ rfl (dm_ (v:=(vb (x17==a0.M))) rfl (A.v 10 rfl) (fo I))
 intro vs49 f w51 S50 ed16 le50 hF4 hK49 hI53
 have I64:Inv w51 S50 (Fr):=hI53
 have q45:=hF4.v 11 rfl
 refine ap_ ?_
 obtain rfl:=sj h
 exact ⟨(ed16.trans rfl),(vb (x17==a0.M)),(eb_ rfl q45),_,[],(le1.trans le50),I64,rfl,rfl⟩
theorem rq_ {w:World} {S:PH} {Fr:List HP} {a0:Clue} {v0:Value} {a1:(List Int)} {v1:Value} {r:Bool} (hI:Inv w S (Fr)) (h0_:RV S v0 a0) (h1_:RV S v1 a1) (h:gx_ a0 a1=some r) :
    Calls Tryz.prog 223 [v0,v1].toArray w (fh_ S Fr (Value.bool (r))):=by
 unfold gx_ at h
 obtain ⟨c1,e1,r1⟩:=Clue.inv h0_
 subst e1
 obtain ⟨z1,m1,k1,rfl⟩:=bb_ r1
 obtain ⟨z2,m2,k2,rfl⟩:=bb_ h1_
 refine av_ (n:=11) Tryz.func223 rfl rfl rfl (ab_ (aa_ (wo_ (dv_ (v:=(.agg #[(vi a0.Kind),(vi a0.A),(vi a0.B),(vi a0.N),(vi a0.M),(.slice z1 m1 k1),(vb a0.Not)])) rfl hI rfl (fun g1 w1 I1 => ?_)))))
 obtain ⟨S1,le1,I2,p1⟩:=Inv.boxFreeze (x:=a0) I1 (Clue.rv (s:=a0) r1)
 refine wa_ (v:=(vb false)) rfl rfl (ad_ (ab_ ?_))
 obtain ⟨x1,hx1,h⟩:=bnd h
 refine ek_ (sps:=[spR 5 [] 0 a0,spV 6 [] 1 (.slice z2 m2 k2),spV 7 [0,1] 2 (vb x1),spV 8 [] 3 (aq_ (pt_ g1) 6),spV 9 [3] 4 (vb a0.Not),spV 10 [0,1,2,3,4] 5 (vb (x1 != a0.Not)),spV 4 (lrg 6) 6 (vb (x1 != a0.Not))]) (tks:=[]) (O:=Fr) rfl (by kernel_rfl) I2 ⟨?_,ob_ rfl fun l A K I=>(br_ rfl (K 1 (au_ rfl)) (fo I)),?_,ob_ rfl fun l A K I=>(ac_ rfl mp_ (K 2 (au_ rfl)) ((p1.mono l).at_ I) (fo I)),ob_ rfl fun l A K I=>(va_ rfl sh4 (A.v 0 rfl) (((p1.mono l).at_ I).fld Clue.fld6) (fo I)),ob_ rfl fun l A K I=>(nj_ (a:=x1) (b:=a0.Not) rfl Tryz.underlying4 (A.v 2 rfl) (A.v 4 rfl) (fo I)),?_,trivial⟩ ?_
 ·
  intro vs f w_ U X le A K I
  refine pl_ rfl (ff_ rfl xe_ (K 2 (au_ rfl)) ((p1.mono le).at_ I) (fun u2 hu2 => ?_))
  obtain ⟨c2,e4,r2⟩:=Clue.inv hu2
  subst e4
  obtain ⟨z3,m3,k3,rfl⟩:=bb_ r2
  refine ⟨_,_,rfl,lr,?_,?_⟩
  · exact (Clue.rv (s:=a0) r2)
  exact I
 ·
  intro vs f w_ U X le A K I
  have q1:f 5=vs 0:=(A.at_ 0 rfl _ rfl).1 _ rfl
  have r3:RV U (vs 0) a0:=(A.at_ 0 rfl _ rfl).2
  obtain ⟨u3,hu3⟩:∃ u,vs 0=u:=⟨_,rfl⟩
  rw [hu3] at q1 r3
  obtain ⟨c3,e6,r4⟩:=Clue.inv r3
  subst e6
  obtain ⟨z4,m4,k4,rfl⟩:=bb_ r4
  refine pl_ rfl (cv_ ca268 rfl I (fun Fr_ hF_=>zm_ hF_ (Clue.rv (s:=a0) r4) (h1_.mono (le1.trans le)) hx1) (ep_ q1 (A.v 1 rfl)) (fun w6 I7=>(fo I7)))
 ·
  intro vs f w_ U X le A K I
  refine pl_ rfl (dm_ (v:=(vb (x1 != a0.Not))) rfl (A.v 5 rfl) (fo I))
 intro vs8 f w11 S9 ed1 le9 hF1 hK8 hI8
 have I12:Inv w11 S9 (Fr):=hI8
 have q7:=hF1.v 6 rfl
 refine ap_ ?_
 obtain rfl:=sj h
 exact ⟨(ed1.trans rfl),(vb (x1 != a0.Not)),(eb_ rfl q7),_,[],(le1.trans le9),I12,rfl,rfl⟩
end Go.Proofs.YtfcgcpjnpdkjmaaGreatDoor.Pad
end
section
set_option maxHeartbeats 4000000
set_option maxRecDepth 100000
namespace Go.Proofs.YtfcgcpjnpdkjmaaGreatDoor.Pad
open Go Go.Proofs
theorem qb_ {w:World} {S:PH} {Fr:List HP} {a0:Clue} {v0:Value} {a1:CodeLock} {v1:Value} {r:Bool} (hI:Inv w S (Fr)) (h0_:RV S v0 a0) (h1_:PtS S v1 a1) (h:gh_ a0 a1=some r) :
    Calls Tryz.prog 134 [v0,v1].toArray w (fh_ S Fr (Value.bool (r))):=by
 unfold gh_ at h
 obtain ⟨c1,e1,r1⟩:=Clue.inv h0_
 subst e1
 obtain ⟨z1,m1,k1,rfl⟩:=bb_ r1
 refine av_ (n:=8) Tryz.func134 rfl rfl rfl (ab_ (aa_ (wo_ (dv_ (v:=(.agg #[(vi a0.Kind),(vi a0.A),(vi a0.B),(vi a0.N),(vi a0.M),(.slice z1 m1 k1),(vb a0.Not)])) rfl hI rfl (fun g1 w1 I1 => ?_)))))
 obtain ⟨S1,le1,I2,p1⟩:=Inv.boxFreeze (x:=a0) I1 (Clue.rv (s:=a0) r1)
 refine wa_ (v:=(vb false)) rfl rfl (ad_ (ab_ (aa_ (wo_ (ld_ sh96 ((h1_.mono le1).at_ I2) rfl (fun u1 hu1 => ?_))))))
 have e3:=CodeLock.inv hu1
 subst e3
 refine wo_ (ld_ xe_ (p1.at_ I2) rfl (fun u2 hu2 => ?_))
 obtain ⟨c2,e4,r2⟩:=Clue.inv hu2
 subst e4
 obtain ⟨z2,m2,k2,rfl⟩:=bb_ r2
 obtain ⟨x1,hx1,h⟩:=bnd h
 refine wo_ (cv_ ca135 rfl I2 (fun Fr_ hF_=>mx_ hF_ (CodeLock.rv (s:=a1)) (Clue.rv (s:=a0) r2) hx1) (ep_ rfl rfl) (fun w2 I3=>(wo_ (ly_ rfl rfl (wa_ (v:=(vb (!x1))) rfl rfl (ad_ (ap_ ?_)))))))
 obtain rfl:=sj h
 exact ⟨rfl,(vb (!x1)),(eb_ rfl rfl),_,[],le1,I3,rfl,rfl⟩
theorem ip_ {w:World} {S:PH} {Fr:List HP} {a0:(List Clue)} {v0:Value} {a1:Clue→Option Bool} {v1:Value} {r:Int} (hI:Inv w S (Fr)) (h0_:RV S v0 a0) (h1_:FnV Tryz.prog S v1 a1) (h:dl_ a0 a1=some r) :
    Calls Tryz.prog 198 [v0,v1].toArray w (fh_ S Fr (Value.int .i64 (r))):=by
 unfold dl_ at h
 obtain ⟨z1,m1,k1,rfl⟩:=bb_ h0_
 refine av_ (n:=19) Tryz.func198 rfl rfl rfl (ab_ (aa_ (wa_ (v:=(vi 0)) rfl rfl (ad_ (ab_ (ab_ (aa_ (wm_ (v:=(.slice z1 m1 k1)) rfl rfl (wo_ (cn_ rfl Tryz.underlying103 rfl h0_ (wm_ (v:=(vi 0)) rfl rfl (ad_ ?_))))))))))))
 have hk1:a0.length≤9223372036854775807:=(rm_ h0_)
 obtain ⟨o2,hrun1,h⟩:=bnd h
 refine jc_ (fun f w=>∃ eo_,o2=Sum.inl eo_∧Inv w S (Fr)∧f 0=(.slice z1 m1 k1)∧f 1=v1∧f 7=(vi ((a0.length:Int)))∧f.ds=[]) ?_ ?_
 ·
  refine bd_ ?_
  refine tw_ (I:=fun (i1:Nat) (s1:Unit) (f:Frm) (w:World)=>Inv w S (Fr)∧f 0=(.slice z1 m1 k1)∧f 1=v1∧f 7=(vi ((a0.length:Int)))∧f 8=(vi (i1:Int))∧f.ds=[]) hrun1 ⟨hI,rfl,rfl,rfl,rfl,rfl⟩ ?_ ?_
  ·
   rintro i1 s1 f w o1 hlt1 hI1 h1 hout1
   obtain ⟨I5,e14,e15,e16,e17,ed3⟩:=hI1
   refine ab_ (aa_ (wo_ (fi_ rfl e17 e16 (ad_ (ab_ (an_ rfl (zh_ hlt1) (bc_ (ab_ (bd_ (ab_ (aa_ (wm_ rfl e17 (wa_ (v:=(vi (i1:Int))) rfl rfl (ad_ (ab_ (aa_ (wm_ rfl e15 (wm_ rfl e14 (wm_ (v:=(vi (i1:Int))) rfl rfl ?_)))))))))))))))))))
   obtain ⟨x5,hx5,h1⟩:=bnd h1
   refine wo_ (ix_ Tryz.underlying103 xe_ h0_ hx5 rfl rfl (wo_ (ld_ xe_ (h0_.elem I5.in_ hx5) rfl (fun u3 hu3 => ?_))))
   obtain ⟨c3,e18,r3⟩:=Clue.inv hu3
   subst e18
   obtain ⟨z4,m4,k4,rfl⟩:=bb_ r3
   obtain ⟨x6,hx6,h1⟩:=bnd h1
   refine wo_ (ug_ (v:=v1) (u:=(.agg #[(vi x5.Kind),(vi x5.A),(vi x5.B),(vi x5.N),(vi x5.M),(.slice z4 m4 k4),(vb x5.Not)])) (r:=x6) rfl rfl h1_ rfl (Clue.rv (s:=x5) r3) hx6 I5 (fun w3 I6=>(ad_ ?_)))
   rcases ifs h1 with ⟨hc3,h1⟩ | ⟨hc3,h1⟩
   ·
    refine an_ rfl hc3 (ab_ (aa_ (wm_ (v:=(vi (i1:Int))) rfl rfl (wa_ (v:=(vi (i1:Int))) rfl rfl (ad_ (ap_ ?_))))))
    obtain rfl:=sj h1
    obtain rfl:=(hout1 _ rfl)
    have h2:=h
    obtain rfl:=sj h2
    exact ⟨ed3,(vi (i1:Int)),(eb_ rfl rfl),_,[],lr,I6,rfl,rfl⟩
   refine ao_ rfl hc3 (bc_ (aa_ (wo_ (et_ rfl e17 rfl (wm_ (v:=(vi (w64 ((i1:Int)+1)))) rfl rfl (ad_ ?_))))))
   obtain rfl:=sj h1
   exact ⟨_,rfl,I6,e14,e15,e16,(ft_ hlt1 hk1),ed3⟩
  rintro s2 f w hs1 hI2
  obtain ⟨I7,e20,e21,e22,e23,ed4⟩:=hI2
  refine ab_ (aa_ (wo_ (fi_ rfl e23 e22 (ad_ (ab_ (ao_ rfl (zi_ _) (fl_ ?_)))))))
  exact ⟨s2,hs1,I7,e20,e21,e22,ed4⟩
 rintro f w ⟨eo_,rfl,I8,e24,e25,e26,ed5⟩
 have h:=ui_ h
 refine ab_ (aa_ (wa_ (v:=(vi ((-1)))) rfl rfl (ad_ (ap_ ?_))))
 obtain rfl:=sj h
 exact ⟨ed5,(vi ((-1))),(eb_ rfl rfl),_,[],lr,I8,rfl,rfl⟩
theorem lu_ {w:World} {S:PH} {Fr:List HP} {a0:(List Clue)} {v0:Value} {a1:Clue→Option Bool} {v1:Value} {r:Bool} (hI:Inv w S (Fr)) (h0_:RV S v0 a0) (h1_:FnV Tryz.prog S v1 a1) (h:dt_ a0 a1=some r) :
    Calls Tryz.prog 133 [v0,v1].toArray w (fh_ S Fr (Value.bool (r))):=by
 unfold dt_ at h
 obtain ⟨z1,m1,k1,rfl⟩:=bb_ h0_
 refine av_ (n:=9) Tryz.func133 rfl rfl rfl (ab_ (aa_ (wa_ (v:=(vb false)) rfl rfl (ad_ (ab_ (aa_ (wm_ (v:=(.slice z1 m1 k1)) rfl rfl (wm_ (v:=v1) rfl rfl ?_))))))))
 obtain ⟨x1,hx1,h⟩:=bnd h
 refine wo_ (cv_ ca198 rfl hI (fun Fr_ hF_=>ip_ hF_ h0_ h1_ hx1) (ep_ rfl rfl) (fun w1 I1=>(wo_ (xy_ rfl rfl rfl (wa_ (v:=(vb (decide (0≤x1)))) rfl rfl (ad_ (ap_ ?_)))))))
 obtain rfl:=sj h
 exact ⟨rfl,(vb (decide (0≤x1))),(eb_ rfl rfl),_,[],lr,I1,rfl,rfl⟩
theorem sg_ {w:World} {S:PH} {Fr:List HP} {a0:CodeLock} {v0:Value} {a1:(List Clue)} {v1:Value} {r:Int} (hI:Inv w S (Fr)) (h0_:RV S v0 a0) (h1_:RV S v1 a1) (h:fx_ a0 a1=some r) :
    Calls Tryz.prog 68 [v0,v1].toArray w (fh_ S Fr (Value.int .i64 (r))):=by
 unfold fx_ at h
 have e1:=CodeLock.inv h0_
 subst e1
 obtain ⟨z1,m1,k1,rfl⟩:=bb_ h1_
 refine av_ (n:=17) Tryz.func68 rfl rfl rfl (ab_ (aa_ (wo_ (dv_ (v:=(.agg #[(vi a0.Wheels),(vi a0.Symbols)])) rfl hI rfl (fun g1 w1 I1 => ?_)))))
 obtain ⟨S1,le1,I2,p1⟩:=Inv.boxFreeze (x:=a0) I1 (CodeLock.rv (s:=a0))
 refine wa_ (v:=(vi 0)) rfl rfl (ad_ (ab_ (ab_ (aa_ (wo_ (ld_ sh96 (p1.at_ I2) rfl (fun u1 hu1 => ?_)))))))
 have e3:=CodeLock.inv hu1
 subst e3
 obtain ⟨x1,hx1,h⟩:=bnd h
 refine wo_ (cv_ ca75 rfl I2 (fun Fr_ hF_=>ki_ hF_ (CodeLock.rv (s:=a0)) hx1) (args1 rfl) (fun w2 I3=>(wa_ (v:=(vi x1)) rfl rfl (ad_ (ab_ (aa_ (wm_ (v:=(vi x1)) rfl rfl (wo_ (nt_ rfl rfl rfl (ad_ ?_))))))))))
 rcases ifs h with ⟨hc1,h⟩ | ⟨hc1,h⟩
 ·
  refine an_ rfl hc1 (ab_ (aa_ (wm_ (v:=(vi x1)) rfl rfl (wa_ (v:=(vi x1)) rfl rfl (ad_ (ap_ ?_))))))
  obtain rfl:=sj h
  exact ⟨rfl,(vi x1),(eb_ rfl rfl),_,[],le1,I3,rfl,rfl⟩
 refine ao_ rfl hc1 (bc_ (ab_ (ab_ (aa_ (wm_ (v:=(.slice z1 m1 k1)) rfl rfl (wo_ (cn_ rfl Tryz.underlying103 rfl (h1_.mono le1) (wo_ (op_gtr rfl rfl rfl (ad_ ?_))))))))))
 rcases ifs h with ⟨hc2,h⟩ | ⟨hc2,h⟩
 ·
  refine an_ rfl hc2 (ab_ (aa_ (wa_ (v:=(vi 2)) rfl rfl (ad_ (ap_ ?_)))))
  obtain rfl:=sj h
  exact ⟨rfl,(vi 2),(eb_ rfl rfl),_,[],le1,I3,rfl,rfl⟩
 refine ao_ rfl hc2 (bc_ (ab_ (ab_ (aa_ (wm_ (v:=(.slice z1 m1 k1)) rfl rfl (wo_ (jx_ (fv := #[]) (cv := #[(pt_ g1)]) rfl arr0 (arr1 rfl) ?_)))))))
 obtain ⟨x2,hx2,h⟩:=bnd h
 refine wo_ (cv_ ca133 rfl I3 (fun Fr_ hF_=>lu_ hF_ (h1_.mono le1) ⟨134,[(pt_ g1)],rfl,ca134,fun T_ w_ Fr_ u_ x_ r_ hle_ hI_ hu_ hr_=>qb_ hI_ hu_ (p1.mono hle_) hr_⟩ hx2) (ep_ rfl rfl) (fun w3 I4=>(ad_ ?_)))
 rcases ifs h with ⟨hc3,h⟩ | ⟨hc3,h⟩
 ·
  refine an_ rfl hc3 (ab_ (aa_ (wa_ (v:=(vi 11)) rfl rfl (ad_ (ap_ ?_)))))
  obtain rfl:=sj h
  exact ⟨rfl,(vi 11),(eb_ rfl rfl),_,[],le1,I4,rfl,rfl⟩
 refine ao_ rfl hc3 (bc_ (ab_ (aa_ (wa_ (v:=(vi 0)) rfl rfl (ad_ (ap_ ?_))))))
 obtain rfl:=sj h
 exact ⟨rfl,(vi 0),(eb_ rfl rfl),_,[],le1,I4,rfl,rfl⟩
theorem py_ {w:World} {S:PH} {Fr:List HP} {σ_:Type} {τ_:Type} {R_:σ_→HP} {Rx_:τ_→HP} {a0:(List Int)→σ_→Option (σ_⊕τ_)} {v0:Value} {a1:CodeLock} {v1:Value} {s_:σ_} {r:(σ_⊕τ_)} (hI:Inv w S (R_ (s_)::Fr)) (o0_:v0.oneCell'=true) (h0_:Yields (argRow Int 3) Tryz.prog S v0 R_ Rx_ a0) (h1_:PtS S v1 a1) (h:dy_ a0 a1 s_=some r) :
    Calls Tryz.prog 255 [v0,v1].toArray w (Done S Fr (fun T_ v_ O_=>v_=(Value.tuple #[])∧O_=[Sum.elim R_ Rx_ (r)])):=by
 unfold dy_ at h
 refine av_ (n:=40) Tryz.func255 rfl rfl rfl (ab_ (aa_ (wo_ (fa_ rz_ (h1_.at_ hI) rfl (wo_ (li_ sh3 ((h1_.at_ hI).fld CodeLock.fld0) rfl ?_))))))
 obtain ⟨x1,hx1,h⟩:=bnd h
 refine wo_ (pm_ (c:=a1.Wheels) rfl Tryz.underlying45 el3 (by decide) rfl rfl hI hx1 (fun u1 w1 I1 => ?_))
 obtain ⟨z1,m1,k1,e1⟩:=row_form I1
 subst e1
 refine wa_ (v:=(.slice z1 m1 k1)) rfl rfl (ad_ ?_)
 obtain ⟨o8,hrun7,h⟩:=bnd h
 refine jc_ (fun f w=>∃ out7,o8=Sum.inl out7∧∃ (S_:PH),S.Le S_∧Inv w S_ (R_ (out7.1)::Row (α:=Int) 3 (.slice z1 m1 k1) (out7.2)::Fr)∧f 0=v0∧f 1=v1∧f 3=(.slice z1 m1 k1)∧f.ds=[]) ?_ ?_
 ·
  refine bd_ ?_
  refine pe_ (I:=fun (s13:(σ_×List Int)) (f:Frm) (w:World)=>∃ (S_:PH),S.Le S_∧Inv w S_ (R_ (s13.1)::Row (α:=Int) 3 (.slice z1 m1 k1) (s13.2)::Fr)∧f 0=v0∧f 1=v1∧f 3=(.slice z1 m1 k1)∧f.ds=[]) hrun7 ⟨_,lr,(I1.pull 1),rfl,rfl,rfl,rfl⟩ ?_
  rintro s13 f w o7 hI1099 h13 hout7
  obtain ⟨S1139,le1139,I1208,e548,e549,e550,ed139⟩:=hI1099
  refine bd_ (ab_ (ab_ (aa_ (wm_ rfl e548 (wm_ rfl e550 ?_)))))
  obtain ⟨x104,hx104,h13⟩:=bnd h13
  refine wo_ (op_callV (vs:=[(.slice z1 m1 k1)]) rfl rfl (args1 rfl) (h0_ _ _ _ _ s13.2 _ _ le1139 ⟨_,_,_,rfl⟩ (I1208.pull 1) hx104) (fun v7 w1149 S1140 O7 le1140 I1209 hv7 => ?_))
  obtain ⟨rfl,rfl⟩:=hv7
  have I1210:Inv w1149 S1140 (Row (α:=Int) 3 (Value.slice z1 m1 k1) (s13.2)::Sum.elim R_ Rx_ (x104)::Fr):=I1209
  refine wo_ (ly_ rfl rfl (ad_ ?_))
  rcases x104 with s14 | q1687
  ·
   have h13:=sm_inl h13
   refine ao_ rfl rfl (bc_ (ab_ (aa_ (wo_ (ac_ rfl rz_ e549 ((h1_.mono (le1139.trans le1140)).at_ I1210) (wo_ (li_ sh3 (((h1_.mono (le1139.trans le1140)).at_ I1210).fld CodeLock.fld0) rfl (wo_ (mo_ rfl rfl rfl (wa_ (v:=(vi (w64 (a1.Wheels - 1)))) rfl rfl (ad_ ?_)))))))))))
   obtain ⟨out8,hrun8,h13⟩:=bnd h13
   refine pf_ (fun f w=>∃ (S_:PH),S1140.Le S_∧Inv w S_ (R_ (s14)::Row (α:=Int) 3 (.slice z1 m1 k1) (out8.1)::Fr)∧f 0=v0∧f 1=v1∧f 3=(.slice z1 m1 k1)∧f 4=(vi out8.2)∧f.ds=[]) ?_ ?_
   ·
    refine bd_ ?_
    refine pe_ (I:=fun (s15:(List Int×Int)) (f:Frm) (w:World)=>∃ (S_:PH),S1140.Le S_∧Inv w S_ (R_ (s14)::Row (α:=Int) 3 (.slice z1 m1 k1) (s15.1)::Fr)∧f 0=v0∧f 1=v1∧f 3=(.slice z1 m1 k1)∧f 4=(vi s15.2)∧f.ds=[]) hrun8 ⟨_,lr,(I1210.pull 1),e548,e549,e550,rfl,ed139⟩ ?_
    rintro s15 f w o9 hI1256 h15 hout8
    obtain ⟨S1301,le1301,I1379,e623,e624,e625,e626,ed158⟩:=hI1256
    refine ab_ (ab_ ?_)
    rcases ifs h15 with ⟨hc103,h15⟩ | ⟨hc103,h15⟩
    ·
     obtain ⟨x117,hx117,h15⟩:=bnd h15
     refine ek_ (sps:=[spV 15 [] 0 (vi s15.2),spV 16 [0] 1 (vb (decide (0≤s15.2))),spV 17 [0,1] 2 (vb (decide (0≤s15.2))),spV 18 [0,1,2] 3 (.slice z1 m1 k1),spV 19 [0,1,2] 4 (vi s15.2),⟨some 20,[0,1,2,3,4],[5],fun vs_ T_=>fr0 vs_ 0=(bx_ (.slice z1 m1 k1) (s15.2) (Enc.sz Int)),[0],[],[],fun _ h_=>h_⟩,⟨some 21,(lrg 6),[6],fun vs_ T_=>fr0 vs_ 0=(vi x117),[0],[],[],fun _ h_=>h_⟩,spV 22 [0,1,2] 7 (aq_ v1 1),spV 23 [0,1,2,7] 8 (vi a1.Symbols),spV 24 [0,1,2,7,8] 9 (vi (w64 (a1.Symbols - 1))),spV 25 (lrg 10) 10 (vb (x117==(w64 (a1.Symbols - 1)))),spV 26 (lrg 11) 11 (vb (x117==(w64 (a1.Symbols - 1))))]) (tks:=[⟨none,none,[],fun vs_=>Row (α:=Int) 3 (.slice z1 m1 k1) (s15.1)⟩]) (O:=R_ (s14)::Fr) rfl (by kernel_rfl) (I1379.pull 1) ⟨ob_ rfl fun l A K I=>(br_ rfl ((K 4 (au_ rfl)).trans e626) (fo I)),ob_ rfl fun l A K I=>(xy_ rfl (A.v 0 rfl) rfl (fo I)),ob_ rfl fun l A K I=>(br_ rfl (A.v 1 rfl) (fo I)),oc_ fun l A K I=>tk_ rfl (A.v 2 rfl) hc103 (br_ rfl ((K 3 (au_ rfl)).trans e625) (fo I)),oc_ fun l A K I=>tk_ rfl (A.v 2 rfl) hc103 (br_ rfl ((K 4 (au_ rfl)).trans e626) (fo I)),?_,?_,oc_ fun l A K I=>tk_ rfl (A.v 2 rfl) hc103 (ac_ rfl fa180_1 ((K 1 (au_ rfl)).trans e624) ((h1_.mono (((le1139.trans le1140).trans le1301).trans l)).at_ I) (fo I)),oc_ fun l A K I=>tk_ rfl (A.v 2 rfl) hc103 (aj_ rfl sh3 (A.v 3 rfl) (((h1_.mono (((le1139.trans le1140).trans le1301).trans l)).at_ I).fld CodeLock.fld1) (fo I)),oc_ fun l A K I=>tk_ rfl (A.v 2 rfl) hc103 (mo_ rfl (A.v 4 rfl) rfl (fo I)),oc_ fun l A K I=>tk_ rfl (A.v 2 rfl) hc103 (bv_ rfl (A.v 6 rfl) (A.v 9 rfl) (fo I)),?_,trivial⟩ ?_
     ·
      intro vs f w_ U X le A K I
      have I1385:Inv w_ U (Row (α:=Int) 3 (Value.slice z1 m1 k1) (s15.1)::X):=I
      refine tk_ rfl (A.v 2 rfl) hc103 (ic_ (v:=(.slice z1 m1 k1)) (i:=s15.2) (e:=x117) rfl Tryz.underlying45 sh3 (A.v 3 rfl) (Inv.rowSrc (I1385.nth 0 rfl)) (A.v 4 rfl) hx117 (fo I1385))
     ·
      intro vs f w_ U X le A K I
      have I1386:Inv w_ U (Row (α:=Int) 3 (Value.slice z1 m1 k1) (s15.1)::X):=I
      refine tk_ rfl (A.v 2 rfl) hc103 (aj_ rfl sh3 (A.v 5 rfl) ((I1386.nth 0 rfl).rowElem hx117) (fo I1386))
     ·
      intro vs f w_ U X le A K I
      refine pl_ rfl (ba_ (a:=(vb (x117==(w64 (a1.Symbols - 1))))) rfl (A.v 2 rfl) hc103 (A.v 10 rfl) (fo I))
     intro vs1261 f w1324 S1314 ed159 le1314 hF97 hK1261 hI1269
     have e627:f 0=v0:=(hK1261 0 (bf_ rfl)).trans e623
     have e628:f 1=v1:=(hK1261 1 (bf_ rfl)).trans e624
     have e629:f 3=(Value.slice z1 m1 k1):=(hK1261 3 (bf_ rfl)).trans e625
     have e630:f 4=(vi s15.2):=(hK1261 4 (bf_ rfl)).trans e626
     have I1392:Inv w1324 S1314 (Row (α:=Int) 3 (Value.slice z1 m1 k1) (s15.1)::R_ (s14)::Fr):=hI1269
     have q1947:=hF97.v 11 rfl
     rcases ifs h15 with ⟨hc104,h15⟩ | ⟨hc104,h15⟩
     ·
      refine an_ q1947 hc104 (bc_ (bd_ (ab_ (aa_ (wm_ rfl e629 (wm_ rfl e630 ?_))))))
      obtain ⟨x118,hx118,h15⟩:=bnd h15
      refine wo_ (ic_ (v:=(.slice z1 m1 k1)) (i:=s15.2) (e:=x118) rfl Tryz.underlying45 sh3 rfl (Inv.rowSrc (I1392.nth 0 rfl)) rfl hx118 (wo_ (xv_ (u:=(vi 0)) (e':=0) sh3 I1392 rfl rfl hx118 (rv_ _) (fun w1325 I1393=>(ad_ (aa_ (wm_ rfl e630 (wo_ (mo_ rfl rfl rfl (wa_ (v:=(vi (w64 (s15.2 - 1)))) rfl rfl (ad_ ?_)))))))))))
      obtain rfl:=sj h15
      exact ⟨_,rfl,_,(le1301.trans le1314),(I1393.pull 1),e627,e628,e629,rfl,(ed159.trans ed158)⟩
     refine ao_ q1947 hc104 (fl_ ?_)
     obtain rfl:=sj h15
     obtain rfl:=(hout8 _ rfl)
     exact ⟨_,(le1301.trans le1314),(I1392.pull 1),e627,e628,e629,e630,(ed159.trans ed158)⟩
    refine ek_ (sps:=[spV 15 [] 0 (vi s15.2),spV 16 [0] 1 (vb (decide (0≤s15.2))),spV 17 [0,1] 2 (vb (decide (0≤s15.2))),spV 18 [0,1,2] 3 undef,spV 19 [0,1,2] 4 undef,spV 20 [0,1,2,3,4] 5 undef,spV 21 (lrg 6) 6 undef,spV 22 [0,1,2] 7 undef,spV 23 [0,1,2,7] 8 undef,spV 24 [0,1,2,7,8] 9 undef,spV 25 (lrg 10) 10 undef,spV 26 (lrg 11) 11 (vb false)]) (tks:=[]) (O:=R_ (s14)::Row (α:=Int) 3 (.slice z1 m1 k1) (s15.1)::Fr) rfl (by kernel_rfl) I1379 ⟨ob_ rfl fun l A K I=>(br_ rfl ((K 4 (au_ rfl)).trans e626) (fo I)),ob_ rfl fun l A K I=>(xy_ rfl (A.v 0 rfl) rfl (fo I)),ob_ rfl fun l A K I=>(br_ rfl (A.v 1 rfl) (fo I)),oc_ fun l A K I=>sk_ rfl (A.v 2 rfl) hc103 (fo I),oc_ fun l A K I=>sk_ rfl (A.v 2 rfl) hc103 (fo I),oc_ fun l A K I=>sk_ rfl (A.v 2 rfl) hc103 (fo I),oc_ fun l A K I=>sk_ rfl (A.v 2 rfl) hc103 (fo I),oc_ fun l A K I=>sk_ rfl (A.v 2 rfl) hc103 (fo I),oc_ fun l A K I=>sk_ rfl (A.v 2 rfl) hc103 (fo I),oc_ fun l A K I=>sk_ rfl (A.v 2 rfl) hc103 (fo I),oc_ fun l A K I=>sk_ rfl (A.v 2 rfl) hc103 (fo I),?_,trivial⟩ ?_
    ·
     intro vs f w_ U X le A K I
     refine pl_ rfl (ah_ (b:=(vb false)) rfl (A.v 2 rfl) hc103 rfl (fo I))
    intro vs1274 f w1338 S1327 ed160 le1327 hF98 hK1274 hI1282
    have e631:f 0=v0:=(hK1274 0 (bf_ rfl)).trans e623
    have e632:f 1=v1:=(hK1274 1 (bf_ rfl)).trans e624
    have e633:f 3=(Value.slice z1 m1 k1):=(hK1274 3 (bf_ rfl)).trans e625
    have e634:f 4=(vi s15.2):=(hK1274 4 (bf_ rfl)).trans e626
    have I1406:Inv w1338 S1327 (R_ (s14)::Row (α:=Int) 3 (Value.slice z1 m1 k1) (s15.1)::Fr):=hI1282
    have q1967:=hF98.v 11 rfl
    refine ao_ q1967 rfl (fl_ ?_)
    obtain rfl:=sj h15
    obtain rfl:=(hout8 _ rfl)
    exact ⟨_,(le1301.trans le1327),((I1406.pull 1).pull 1),e631,e632,e633,e634,(ed160.trans ed158)⟩
   rintro f w ⟨S1328,le1328,I1407,e635,e636,e637,e638,ed161⟩
   refine ab_ (ab_ (aa_ (wm_ rfl e638 (wo_ (fi_ rfl rfl rfl (ad_ ?_))))))
   rcases ifs h13 with ⟨hc105,h13⟩ | ⟨hc105,h13⟩
   ·
    refine an_ rfl hc105 (ap_ ?_)
    obtain rfl:=sj h13
    obtain rfl:=(hout7 _ rfl)
    have h14:=h
    obtain rfl:=sj h14
    exact ⟨ed161,(Value.tuple #[]),(res0 rfl),_,[R_ (s14)],((le1139.trans le1140).trans le1328),(I1407.pull 1).drop,rfl,rfl⟩
   refine ao_ rfl hc105 (bc_ (aa_ (wm_ rfl e637 (wm_ rfl e638 ?_))))
   obtain ⟨x119,hx119,h13⟩:=bnd h13
   refine wo_ (ic_ (v:=(.slice z1 m1 k1)) (i:=out8.2) (e:=x119) rfl Tryz.underlying45 sh3 rfl (Inv.rowSrc (I1407.nth 1 rfl)) rfl hx119 (wo_ (li_ sh3 ((I1407.nth 1 rfl).rowElem hx119) rfl (wo_ (et_ rfl rfl rfl ?_)))))
   obtain ⟨x120,hx120,h13⟩:=bnd h13
   refine wo_ (ic_ (v:=(.slice z1 m1 k1)) (i:=out8.2) (e:=x120) rfl Tryz.underlying45 sh3 rfl (Inv.rowSrc (I1407.nth 1 rfl)) rfl hx120 (wo_ (xv_ (u:=(vi (w64 (x119+1)))) (e':=w64 (x119+1)) sh3 (I1407.pull 1) rfl rfl hx120 (rv_ _) (fun w1339 I1408=>(ad_ ?_)))))
   obtain rfl:=sj h13
   exact ⟨_,rfl,_,((le1139.trans le1140).trans le1328),(I1408.pull 1),e635,e636,e637,ed161⟩
  have h13:=sm_inr h13
  refine an_ rfl rfl (ap_ ?_)
  obtain rfl:=sj h13
  obtain rfl:=(hout7 _ rfl)
  have h14:=h
  obtain rfl:=sj h14
  exact ⟨ed139,(Value.tuple #[]),(res0 rfl),_,[Rx_ (q1687)],(le1139.trans le1140),(I1210).drop,rfl,rfl⟩
 rintro f w ⟨out7,rfl,S1329,le1329,I1409,e639,e640,e641,ed162⟩
 have h:=ui_ h
 obtain rfl:=sj h
 exact ⟨ed162,(Value.tuple #[]),(res0 rfl),_,[R_ (out7.1)],le1329,(I1409.pull 1).drop,rfl,rfl⟩
theorem se_ {w:World} {S:PH} {Fr:List HP} {a0:CodeLock} {v0:Value} {r:(CodeLock)} (hI:Inv w S (Fr)) (h0_:RV S v0 a0) (h:ih_ a0=some r) :
    Calls Tryz.prog 203 [v0].toArray w (Done S Fr (fun T_ v_ O_=>∃ (p0_0:Value),v_=(Value.func (.func 255) #[] #[p0_0])∧O_=[]∧PtS T_ p0_0 r)):=by
 unfold ih_ at h
 have e1:=CodeLock.inv h0_
 subst e1
 refine av_ (n:=4) Tryz.func203 rfl rfl rfl (ab_ (aa_ (wo_ (dv_ (v:=(.agg #[(vi a0.Wheels),(vi a0.Symbols)])) rfl hI rfl (fun g1 w1 I1 => ?_)))))
 obtain ⟨S1,le1,I2,p1⟩:=Inv.boxFreeze (x:=a0) I1 (CodeLock.rv (s:=a0))
 refine wa_ (v:=(Value.nilFunc)) rfl rfl (ad_ (ab_ (aa_ (wo_ (jx_ (fv := #[]) (cv := #[(pt_ g1)]) rfl arr0 (arr1 rfl) (wa_ (v:=(.func (.func 255) #[] #[(pt_ g1)])) rfl rfl (ad_ (ap_ ?_))))))))
 obtain rfl:=sj h
 exact ⟨rfl,(.func (.func 255) #[] #[(pt_ g1)]),(eb_ rfl rfl),_,[],le1,I2,_,rfl,rfl,p1⟩
theorem vy_ {w:World} {S:PH} {Fr:List HP} {a0:Clue} {v0:Value} {a1:(List Int)} {v1:Value} {r:Bool} (hI:Inv w S (Fr)) (h0_:RV S v0 a0) (h1_:PtS S v1 a1) (h:hj_ a0 a1=some r) :
    Calls Tryz.prog 256 [v0,v1].toArray w (fh_ S Fr (Value.bool (r))):=by
 unfold hj_ at h
 obtain ⟨c1,e1,r1⟩:=Clue.inv h0_
 subst e1
 obtain ⟨z1,m1,k1,rfl⟩:=bb_ r1
 refine av_ (n:=8) Tryz.func256 rfl rfl rfl (ab_ (aa_ (wo_ (dv_ (v:=(.agg #[(vi a0.Kind),(vi a0.A),(vi a0.B),(vi a0.N),(vi a0.M),(.slice z1 m1 k1),(vb a0.Not)])) rfl hI rfl (fun g1 w1 I1 => ?_)))))
 obtain ⟨S1,le1,I2,p1⟩:=Inv.boxFreeze (x:=a0) I1 (Clue.rv (s:=a0) r1)
 refine wa_ (v:=(vb false)) rfl rfl (ad_ (ab_ (aa_ (wo_ (ld_ xe_ (p1.at_ I2) rfl (fun u1 hu1 => ?_))))))
 obtain ⟨c2,e3,r2⟩:=Clue.inv hu1
 subst e3
 obtain ⟨z2,m2,k2,rfl⟩:=bb_ r2
 refine wo_ (ld_ sh45 ((h1_.mono le1).at_ I2) rfl (fun u2 hu2 => ?_))
 obtain ⟨z3,m3,k3,rfl⟩:=bb_ hu2
 obtain ⟨x1,hx1,h⟩:=bnd h
 refine wo_ (cv_ ca223 rfl I2 (fun Fr_ hF_=>rq_ hF_ (Clue.rv (s:=a0) r2) hu2 hx1) (ep_ rfl rfl) (fun w2 I3=>(wo_ (ly_ rfl rfl (wa_ (v:=(vb (!x1))) rfl rfl (ad_ (ap_ ?_)))))))
 obtain rfl:=sj h
 exact ⟨rfl,(vb (!x1)),(eb_ rfl rfl),_,[],le1,I3,rfl,rfl⟩
theorem zn_ {w:World} {S:PH} {Fr:List HP} {a0:(List Clue)} {v0:Value} {a1:(List Int)} {v1:Value} {r:Int} (hI:Inv w S (Fr)) (h0_:RV S v0 a0) (h1_:RV S v1 a1) (h:mg_ a0 a1=some r) :
    Calls Tryz.prog 204 [v0,v1].toArray w (fh_ S Fr (Value.int .i64 (r))):=by
 unfold mg_ at h
 obtain ⟨z1,m1,k1,rfl⟩:=bb_ h0_
 obtain ⟨z2,m2,k2,rfl⟩:=bb_ h1_
 refine av_ (n:=8) Tryz.func204 rfl rfl rfl (ab_ (aa_ (wo_ (dv_ (v:=(.slice z2 m2 k2)) rfl hI rfl (fun g1 w1 I1 => ?_)))))
 obtain ⟨S1,le1,I2,p1⟩:=Inv.boxFreeze (x:=a1) I1 h1_
 refine wa_ (v:=(vi 0)) rfl rfl (ad_ (ab_ (aa_ (wm_ (v:=(.slice z1 m1 k1)) rfl rfl (wo_ (jx_ (fv := #[]) (cv := #[(pt_ g1)]) rfl arr0 (arr1 rfl) ?_))))))
 obtain ⟨x1,hx1,h⟩:=bnd h
 refine wo_ (cv_ ca198 rfl I2 (fun Fr_ hF_=>ip_ hF_ (h0_.mono le1) ⟨256,[(pt_ g1)],rfl,ca256,fun T_ w_ Fr_ u_ x_ r_ hle_ hI_ hu_ hr_=>vy_ hI_ hu_ (p1.mono hle_) hr_⟩ hx1) (ep_ rfl rfl) (fun w2 I3=>(wa_ (v:=(vi x1)) rfl rfl (ad_ (ap_ ?_)))))
 obtain rfl:=sj h
 exact ⟨rfl,(vi x1),(eb_ rfl rfl),_,[],le1,I3,rfl,rfl⟩
theorem nz_ {w:World} {S:PH} {Fr:List HP} {σ_:Type} {τ_:Type} {R_:σ_→HP} {Rx_:τ_→HP} {a0:(List Int)→σ_→Option (σ_⊕τ_)} {v0:Value} {a1:CodeLock} {v1:Value} {a2:(List Clue)} {v2:Value} {s_:σ_} {r:(σ_⊕τ_)} (hI:Inv w S (R_ (s_)::Fr)) (o0_:v0.oneCell'=true) (h0_:Yields (argRow Int 3) Tryz.prog S v0 R_ Rx_ a0) (h1_:PtS S v1 a1) (h2_:PtS S v2 a2) (h:cw_ a0 a1 a2 s_=some r) :
    Calls Tryz.prog 202 [v0,v1,v2].toArray w (Done S Fr (fun T_ v_ O_=>v_=(Value.tuple #[])∧O_=[Sum.elim R_ Rx_ (r)])):=by
 unfold cw_ at h
 refine vj_ (n:=18) (vs:=[v0,v1,v2]) Tryz.func202 rfl rfl rfl ?_
 have I1:=Inv.noD hI
 refine ab_ (aa_ (wo_ (dv_ (v:=v0) rfl I1 rfl (fun g1 w1 I2 => ?_))))
 obtain ⟨S1,le1,I3,p1⟩:=Inv.boxFreeze (x:=(⟨v0⟩:Raw)) I2 (rv_raw' o0_)
 refine ad_ (ab_ (aa_ (wo_ (ld_ vp_ ((h1_.mono le1).at_ I3) rfl (fun u1 hu1 => ?_)))))
 have e1:=CodeLock.inv hu1
 subst e1
 obtain ⟨x1,hx1,h⟩:=bnd h
 refine wo_ (cl_ ca203 rfl (se_ I3 (CodeLock.rv (s:=a1)) hx1) (args1 rfl) (fun cv1 w2 S2 O1 le2 I4 hv1 => ?_))
 obtain ⟨p2,rfl,rfl,r1⟩:=hv1
 refine ad_ (bd_ ?_)
 obtain ⟨o2,hrun1,h⟩:=bnd h
 refine wp_range (M:=(argRow Int 3)) (F:=(fun g_ s_=>dy_ g_ x1 s_)) (fun (s4:(σ_))=>HPof fun S_ L_=>L_=[R_ (s4)]) (fun (q4:((σ_⊕τ_)))=>HPof fun S_ L_=>L_=[Sum.elim R_ Rx_ (q4)]) (fun _=>Code.ret) rfl rfl argRow_len ⟨255,[],[p2],rfl,ca255,fun R_ Rx_ g_ T_ w_ Fr_ v_ s_ o_ hle_ ho_ hy_ hI_ h_=>Calls.doneMono (py_ hI_ ho_ hy_ (r1.mono hle_) h_) fun _ _ _ hp_=>hp_.2⟩ (Inv.ofShut (L:=[R_ (s_)]) rfl (I4.pull 1)) hrun1 ?_ ?_
 ·
  intro l1 rc1 S14 w9 us1 x9 s5 o3 G1 le14 hr1 hn1 hI1 h1
  obtain ⟨z4,m4,k4,rfl⟩:=hr1
  obtain ⟨S15,L1,le15,rfl,I23⟩:=Inv.ofOpen (hI1.pull 2)
  have I24:Inv w9 S14 (R_ (s5)::ky_ l1 rc1::Row (α:=Int) 3 (Value.slice z4 m4 k4) (x9)::G1):=I23
  refine aa_ (wa_ (v:=(.slice z4 m4 k4)) rfl rfl (ad_ (⟨_,_,lr,(I24.pull 1),fun w10 I25 => ?_⟩)))
  refine bd_ (ab_ (aa_ (wo_ (ld_ sh103 ((h2_.mono ((le1.trans le2).trans le14)).at_ I25) rfl (fun u8 hu8 => ?_)))))
  obtain ⟨z5,m5,k5,rfl⟩:=bb_ hu8
  refine wm_ (v:=(.slice z4 m4 k4)) rfl rfl ?_
  obtain ⟨x10,hx8,h1⟩:=bnd h1
  obtain ⟨S16,Fr4,le16,I26,r5,bk4⟩:=Inv.lend1 (I25.pull 2)
  refine wo_ (cl_ ca204 rfl (zn_ I26 (hu8.mono le16) r5 hx8) (ep_ rfl rfl) (fun cv5 w11 S17 O8 le17 I28 hv8 => ?_))
  obtain ⟨rfl,rfl⟩:=hv8
  have I27:=bk4 [] trivial I28 le17
  refine wo_ (fi_ rfl rfl rfl (wm_ (v:=(vb (decide (x10<0)))) rfl rfl ?_))
  rcases ifs h1 with ⟨hc4,h1⟩ | ⟨hc4,h1⟩
  ·
   refine wk_ rfl rfl hc4 (ld_ sh279 ((p1.mono (le2.trans le14)).at_ I27) rfl (fun u9 hu9 => ?_))
   have q_hu9:=rv_raw hu9
   subst u9
   refine wk_ rfl rfl hc4 (br_ (v:=(.slice z4 m4 k4)) rfl rfl ?_)
   obtain ⟨x11,hx9,h1⟩:=bnd h1
   refine wk_ rfl rfl hc4 (op_callV (vs:=[(.slice z4 m4 k4)]) rfl rfl (args1 rfl) (h0_ _ _ _ _ x9 _ _ ((le1.trans le2).trans le14) ⟨_,_,_,rfl⟩ ((I27.pull 2).pull 1) hx9) (fun v4 w12 S18 O9 le18 I29 hv9 => ?_))
   obtain ⟨rfl,rfl⟩:=hv9
   have I30:Inv w12 S18 (Row (α:=Int) 3 (Value.slice z4 m4 k4) (x9)::Sum.elim R_ Rx_ (x11)::ky_ l1 { rc1 with state:=.busy }::G1):=I29
   refine wk_ rfl rfl hc4 (ly_ rfl rfl (wo_ (ba_ (a:=(vb (!x11.isLeft))) rfl rfl hc4 rfl (ad_ ?_))))
   rcases x11 with s6 | q5
   ·
    have h1:=sm_inl h1
    refine ao_ rfl rfl (bc_ ?_)
    obtain rfl:=sj h1
    exact ⟨_,_,le18,rfl,(Inv.rot2 (Inv.ofShut (L:=[R_ (s6)]) rfl ((I30.pull 2).pull 2)))⟩
   have h1:=sm_inr h1
   refine an_ rfl rfl (ap_ ?_)
   obtain rfl:=sj h1
   exact ⟨_,_,le18,rfl,rfl,(Inv.rot2 (Inv.ofShut (L:=[Rx_ (q5)]) rfl ((I30.pull 2).pull 2)))⟩
  refine ws_ rfl rfl hc4 (ws_ rfl rfl hc4 (ws_ rfl rfl hc4 (ws_ rfl rfl hc4 (wo_ (ah_ (b:=(vb false)) rfl rfl hc4 rfl (ad_ (ao_ rfl rfl (bc_ ?_))))))))
  obtain rfl:=sj h1
  exact ⟨_,_,lr,rfl,(Inv.rot2 (Inv.ofShut (L:=[R_ (s5)]) rfl ((I27.pull 1).pull 2)))⟩
 intro D1 w13 S19 le19 I31
 rcases o2 with s7 | q6
 ·
  obtain ⟨S20,L2,le20,rfl,I32⟩:=Inv.ofOpen I31
  have I33:Inv w13 S19 (R_ (s7)::Dfr D1::AllD ([])::Fr):=I32
  have I34:=Inv.consD ((I33.pull 2).pull 2)
  have h:=sm_inl h
  refine jumps_inl (ret_m (mark_ds rfl) I34 (fun w14 I35 => ?_))
  obtain rfl:=sj h
  exact ⟨(Value.tuple #[]),(res0 rfl),_,[R_ (s7)],((le1.trans le2).trans le19),I35,rfl,rfl⟩
 obtain ⟨S21,L3,le21,rfl,I36⟩:=Inv.ofOpen I31
 have I37:Inv w13 S19 (Sum.elim R_ Rx_ (q6)::Dfr D1::AllD ([])::Fr):=I36
 have I38:=Inv.consD ((I37.pull 2).pull 2)
 have h:=sm_inr h
 refine jumps_ret (ret_m (mark_ds rfl) I38 (fun w15 I39 => ?_))
 obtain rfl:=sj h
 exact ⟨(Value.tuple #[]),(res0 rfl),_,[Sum.elim R_ Rx_ (q6)],((le1.trans le2).trans le19),I39,rfl,rfl⟩
theorem pd_ {w:World} {S:PH} {Fr:List HP} {a0:CodeLock} {v0:Value} {a1:(List Clue)} {v1:Value} {r:(CodeLock×(List Clue))} (hI:Inv w S (Fr)) (h0_:RV S v0 a0) (h1_:RV S v1 a1) (h:fu_ a0 a1=some r) :
    Calls Tryz.prog 136 [v0,v1].toArray w (Done S Fr (fun T_ v_ O_=>∃ (p0_0:Value) (p0_1:Value),v_=(Value.func (.func 202) #[] #[p0_0,p0_1])∧O_=[]∧PtS T_ p0_0 r.1∧PtS T_ p0_1 r.2)):=by
 unfold fu_ at h
 have e1:=CodeLock.inv h0_
 subst e1
 obtain ⟨z1,m1,k1,rfl⟩:=bb_ h1_
 refine av_ (n:=6) Tryz.func136 rfl rfl rfl (ab_ (aa_ (wo_ (dv_ (v:=(.agg #[(vi a0.Wheels),(vi a0.Symbols)])) rfl hI rfl (fun g1 w1 I1 => ?_)))))
 obtain ⟨S1,le1,I2,p1⟩:=Inv.boxFreeze (x:=a0) I1 (CodeLock.rv (s:=a0))
 refine wo_ (dv_ (v:=(.slice z1 m1 k1)) rfl I2 rfl (fun g2 w2 I3 => ?_))
 obtain ⟨S2,le2,I4,p2⟩:=Inv.boxFreeze (x:=a1) I3 (h1_.mono le1)
 refine wa_ (v:=(Value.nilFunc)) rfl rfl (ad_ (ab_ (aa_ (wo_ (jx_ (fv := #[]) (cv := #[(pt_ g1),(pt_ g2)]) rfl arr0 (arr2 rfl rfl) (wa_ (v:=(.func (.func 202) #[] #[(pt_ g1),(pt_ g2)])) rfl rfl (ad_ (ap_ ?_))))))))
 obtain rfl:=sj h
 exact ⟨rfl,(.func (.func 202) #[] #[(pt_ g1),(pt_ g2)]),(eb_ rfl rfl),_,[],(le1.trans le2),I4,_,_,rfl,rfl,(p1.mono le2),p2⟩
theorem sd_ {w:World} {S:PH} {Fr:List HP} {a0:CodeLock} {v0:Value} {a1:(List Clue)} {v1:Value} {r:Int} (hI:Inv w S (Fr)) (h0_:RV S v0 a0) (h1_:RV S v1 a1) (h:ig_ a0 a1=some r) :
    Calls Tryz.prog 69 [v0,v1].toArray w (fh_ S Fr (Value.int .i64 (r))):=by
 unfold ig_ at h
 have e1:=CodeLock.inv h0_
 subst e1
 obtain ⟨z1,m1,k1,rfl⟩:=bb_ h1_
 refine vj_ (n:=12) (vs:=[(.agg #[(vi a0.Wheels),(vi a0.Symbols)]),(.slice z1 m1 k1)]) Tryz.func69 rfl rfl rfl ?_
 have I1:=Inv.noD hI
 refine ab_ (aa_ (wo_ (dv_ (v:=(.agg #[(vi a0.Wheels),(vi a0.Symbols)])) rfl I1 rfl (fun g1 w1 I2 => ?_))))
 obtain ⟨S1,le1,I3,p1⟩:=Inv.boxFreeze (x:=a0) I2 (CodeLock.rv (s:=a0))
 refine wo_ (tb_ (z:=(vi 0)) rfl I3 zo3 (fun g2 w2 (I4:Inv w2 S1 (bh_ g2 3 #[(vi 0)]::AllD ([])::Fr))=>(ad_ (ab_ (ab_ (aa_ (wo_ (ld_ vp_ (p1.at_ I4) rfl (fun u1 hu1 => ?_)))))))))
 have e3:=CodeLock.inv hu1
 subst e3
 refine wm_ (v:=(.slice z1 m1 k1)) rfl rfl ?_
 obtain ⟨x1,hx1,h⟩:=bnd h
 refine wo_ (cl_ ca136 rfl (pd_ I4 (CodeLock.rv (s:=a0)) (h1_.mono le1) hx1) (ep_ rfl rfl) (fun cv1 w3 S2 O1 le2 I5 hv1 => ?_))
 obtain ⟨p2,p3,rfl,rfl,r1,r2⟩:=hv1
 refine ad_ (bd_ ?_)
 obtain ⟨o2,hrun1,h⟩:=bnd h
 refine wp_range (M:=(argRow Int 3)) (F:=(fun g_ s_=>cw_ g_ x1.1 x1.2 s_)) (fun (s1:(Int))=>HPof fun S_ L_=>L_=[bh_ g2 3 #[(vi s1)]]) (fun e=>by cases e) (fun _=>Code.ret) rfl rfl argRow_len ⟨202,[],[p2,p3],rfl,ca202,fun R_ Rx_ g_ T_ w_ Fr_ v_ s_ o_ hle_ ho_ hy_ hI_ h_=>Calls.doneMono (nz_ hI_ ho_ hy_ (r1.mono hle_) (r2.mono hle_) h_) fun _ _ _ hp_=>hp_.2⟩ (Inv.ofShut (L:=[bh_ g2 3 #[(vi 0)]]) rfl I5) hrun1 ?_ ?_
 ·
  intro l1 rc1 S3 w7 us1 x3 s2 o3 G1 le3 hr1 hn1 hI1 h1
  obtain ⟨z2,m2,k2,rfl⟩:=hr1
  obtain ⟨S4,L1,le4,rfl,I12⟩:=Inv.ofOpen (hI1.pull 2)
  have I13:Inv w7 S3 (bh_ g2 3 #[(vi s2)]::ky_ l1 rc1::Row (α:=Int) 3 (Value.slice z2 m2 k2) (x3)::G1):=I12
  refine bc_ (⟨_,_,lr,(I13.pull 1),fun w8 I14 => ?_⟩)
  refine bd_ (aa_ (wo_ (oj_ (c:=(vi s2)) rfl sh3 (I14.nth 1 rfl) rfl rfl (wo_ (et_ rfl rfl rfl (wo_ (bt_ (v:=(vi (w64 (s2+1)))) (cs := #[(vi s2)]) sh3 (I14.pull 1) rfl rfl rfl nb rfl (fun w9 (I15:Inv w9 S3 (bh_ g2 3 #[(vi (w64 (s2+1)))]::ky_ l1 { rc1 with state:=.busy }::Row (α:=Int) 3 (.slice z2 m2 k2) (x3)::G1))=>(ad_ ?_)))))))))
  obtain rfl:=sj h1
  exact ⟨_,_,lr,rfl,(Inv.rot2 (Inv.ofShut (L:=[bh_ g2 3 #[(vi (w64 (s2+1)))]]) rfl (((I15.pull 2).pull 2).pull 2)))⟩
 intro D1 w10 S5 le5 I16
 rcases o2 with s3 | q2
 ·
  obtain ⟨S6,L2,le6,rfl,I17⟩:=Inv.ofOpen I16
  have I18:Inv w10 S5 (bh_ g2 3 #[(vi s3)]::Dfr D1::AllD ([])::Fr):=I17
  have I19:=Inv.consD ((I18.pull 2).pull 2)
  have h:=onE_inl h
  refine jumps_inl (ab_ (aa_ (wo_ (oj_ (c:=(vi s3)) rfl sh3 (I19.nth 1 rfl) rfl rfl (wo_ (bt_ (v:=(vi s3)) (cs := #[(vi s3)]) sh3 (I19.pull 1) rfl rfl rfl nb rfl (fun w11 (I20:Inv w11 S5 (bh_ g2 3 #[(vi s3)]::AllD (D1::[])::Fr))=>(ad_ (ap_ (ret_m (mark_ds rfl) (I20.pull 1) (fun w12 I21 => ?_)))))))))))
  obtain rfl:=sj h
  exact ⟨(vi s3),(resC1 (c:=(vi s3)) rfl rfl sh3 I21),_,[],((le1.trans le2).trans le5),(I21).drop,rfl,rfl⟩
 cases q2
theorem zp_ {w:World} {S:PH} {Fr:List HP} {a0:CodeLock} {v0:Value} {a1:(List Clue)} {v1:Value} {r:Int×Int} (hI:Inv w S (Fr)) (h0_:RV S v0 a0) (h1_:RV S v1 a1) (h:kc_ a0 a1=some r) :
    Calls Tryz.prog 29 [v0,v1].toArray w (fh_ S Fr (Value.tuple #[(Value.int .i64 (r.1)),(Value.int .i64 (r.2))])):=by
 unfold kc_ at h
 have e1:=CodeLock.inv h0_
 subst e1
 obtain ⟨z1,m1,k1,rfl⟩:=bb_ h1_
 refine av_ (n:=16) Tryz.func29 rfl rfl rfl (ab_ (aa_ (wo_ (dv_ (v:=(.agg #[(vi a0.Wheels),(vi a0.Symbols)])) rfl hI rfl (fun g1 w1 I1 => ?_)))))
 obtain ⟨S1,le1,I2,p1⟩:=Inv.boxFreeze (x:=a0) I1 (CodeLock.rv (s:=a0))
 refine wa_ (v:=(vi 0)) rfl rfl (wa_ (v:=(vi 0)) rfl rfl (ad_ (ab_ (ab_ (aa_ (wo_ (ld_ sh96 (p1.at_ I2) rfl (fun u1 hu1 => ?_))))))))
 have e3:=CodeLock.inv hu1
 subst e3
 refine wm_ (v:=(.slice z1 m1 k1)) rfl rfl ?_
 obtain ⟨x1,hx1,h⟩:=bnd h
 refine wo_ (cv_ ca68 rfl I2 (fun Fr_ hF_=>sg_ hF_ (CodeLock.rv (s:=a0)) (h1_.mono le1) hx1) (ep_ rfl rfl) (fun w2 I3=>(wa_ (v:=(vi x1)) rfl rfl (ad_ (ab_ (aa_ (wm_ (v:=(vi x1)) rfl rfl (wo_ (nt_ rfl rfl rfl (ad_ ?_))))))))))
 rcases ifs h with ⟨hc1,h⟩ | ⟨hc1,h⟩
 ·
  refine an_ rfl hc1 (ab_ (aa_ (wm_ (v:=(vi x1)) rfl rfl (wa_ (v:=(vi 0)) rfl rfl (wa_ (v:=(vi x1)) rfl rfl (ad_ (ap_ ?_)))))))
  obtain rfl:=sj h
  exact ⟨rfl,(Value.tuple #[(vi 0),(vi x1)]),(res2 rfl rfl rfl),_,[],le1,I3,rfl,rfl⟩
 refine ao_ rfl hc1 (bc_ (ab_ (aa_ (wo_ (ld_ sh96 (p1.at_ I3) rfl (fun u2 hu2 => ?_))))))
 have e4:=CodeLock.inv hu2
 subst e4
 refine wm_ (v:=(.slice z1 m1 k1)) rfl rfl ?_
 obtain ⟨x2,hx2,h⟩:=bnd h
 refine wo_ (cv_ ca69 rfl I3 (fun Fr_ hF_=>sd_ hF_ (CodeLock.rv (s:=a0)) (h1_.mono le1) hx2) (ep_ rfl rfl) (fun w3 I4=>(wa_ (v:=(vi x2)) rfl rfl (wa_ (v:=(vi 0)) rfl rfl (ad_ (ap_ ?_))))))
 obtain rfl:=sj h
 exact ⟨rfl,(Value.tuple #[(vi x2),(vi 0)]),(res2 rfl rfl rfl),_,[],le1,I4,rfl,rfl⟩
end Go.Proofs.YtfcgcpjnpdkjmaaGreatDoor.Pad
end
section
set_option maxHeartbeats 4000000
set_option maxRecDepth 100000
namespace Go.Proofs.YtfcgcpjnpdkjmaaGreatDoor.Pad
open Go Go.Proofs
theorem qa_ {w:World} {S:PH} {Fr:List HP} {a0:(List Int)} {v0:Value} {a1:CodeLock} {v1:Value} {r:Bool} (hI:Inv w S (Fr)) (h0_:RV S v0 a0) (h1_:PtS S v1 a1) (h:gg_ a0 a1=some r) :
    Calls Tryz.prog 220 [v0,v1].toArray w (fh_ S Fr (Value.bool (r))):=by
 unfold gg_ at h
 obtain ⟨z1,m1,k1,rfl⟩:=bb_ h0_
 refine av_ (n:=8) Tryz.func220 rfl rfl rfl (ab_ (aa_ (wa_ (v:=(vb false)) rfl rfl (ad_ (ab_ (aa_ (wo_ (ld_ sh96 (h1_.at_ hI) rfl (fun u1 hu1 => ?_)))))))))
 have e2:=CodeLock.inv hu1
 subst e2
 refine wm_ (v:=(.slice z1 m1 k1)) rfl rfl ?_
 obtain ⟨x1,hx1,h⟩:=bnd h
 refine wo_ (cv_ ca201 rfl hI (fun Fr_ hF_=>mv_ hF_ (CodeLock.rv (s:=a1)) h0_ hx1) (ep_ rfl rfl) (fun w1 I1=>(wo_ (ly_ rfl rfl (wa_ (v:=(vb (!x1))) rfl rfl (ad_ (ap_ ?_)))))))
 obtain rfl:=sj h
 exact ⟨rfl,(vb (!x1)),(eb_ rfl rfl),_,[],lr,I1,rfl,rfl⟩
theorem nq_ {w:World} {S:PH} {Fr:List HP} {a0:(List (List Int))} {v0:Value} {a1:(List Int)→Option Bool} {v1:Value} {r:Int} (hI:Inv w S (Fr)) (h0_:RV S v0 a0) (h1_:FnV Tryz.prog S v1 a1) (h:gm_ a0 a1=some r) :
    Calls Tryz.prog 267 [v0,v1].toArray w (fh_ S Fr (Value.int .i64 (r))):=by
 unfold gm_ at h
 obtain ⟨z1,m1,k1,rfl⟩:=bb_ h0_
 refine av_ (n:=19) Tryz.func267 rfl rfl rfl (ab_ (aa_ (wa_ (v:=(vi 0)) rfl rfl (ad_ (ab_ (ab_ (aa_ (wm_ (v:=(.slice z1 m1 k1)) rfl rfl (wo_ (cn_ rfl Tryz.underlying33 rfl h0_ (wm_ (v:=(vi 0)) rfl rfl (ad_ ?_))))))))))))
 have hk1:a0.length≤9223372036854775807:=(rm_ h0_)
 obtain ⟨o2,hrun1,h⟩:=bnd h
 refine jc_ (fun f w=>∃ eo_,o2=Sum.inl eo_∧Inv w S (Fr)∧f 0=(.slice z1 m1 k1)∧f 1=v1∧f 7=(vi ((a0.length:Int)))∧f.ds=[]) ?_ ?_
 ·
  refine bd_ ?_
  refine tw_ (I:=fun (i1:Nat) (s1:Unit) (f:Frm) (w:World)=>Inv w S (Fr)∧f 0=(.slice z1 m1 k1)∧f 1=v1∧f 7=(vi ((a0.length:Int)))∧f 8=(vi (i1:Int))∧f.ds=[]) hrun1 ⟨hI,rfl,rfl,rfl,rfl,rfl⟩ ?_ ?_
  ·
   rintro i1 s1 f w o1 hlt1 hI1 h1 hout1
   obtain ⟨I5,e12,e13,e14,e15,ed3⟩:=hI1
   refine ab_ (aa_ (wo_ (fi_ rfl e15 e14 (ad_ (ab_ (an_ rfl (zh_ hlt1) (bc_ (ab_ (bd_ (ab_ (aa_ (wm_ rfl e15 (wa_ (v:=(vi (i1:Int))) rfl rfl (ad_ (ab_ (aa_ (wm_ rfl e13 (wm_ rfl e12 (wm_ (v:=(vi (i1:Int))) rfl rfl ?_)))))))))))))))))))
   obtain ⟨x5,hx5,h1⟩:=bnd h1
   refine wo_ (ix_ Tryz.underlying33 sh45 h0_ hx5 rfl rfl (wo_ (ld_ sh45 (h0_.elem I5.in_ hx5) rfl (fun u3 hu3 => ?_))))
   obtain ⟨z4,m4,k4,rfl⟩:=bb_ hu3
   obtain ⟨x6,hx6,h1⟩:=bnd h1
   refine wo_ (ug_ (v:=v1) (u:=(.slice z4 m4 k4)) (r:=x6) rfl rfl h1_ rfl hu3 hx6 I5 (fun w3 I6=>(ad_ ?_)))
   rcases ifs h1 with ⟨hc3,h1⟩ | ⟨hc3,h1⟩
   ·
    refine an_ rfl hc3 (ab_ (aa_ (wm_ (v:=(vi (i1:Int))) rfl rfl (wa_ (v:=(vi (i1:Int))) rfl rfl (ad_ (ap_ ?_))))))
    obtain rfl:=sj h1
    obtain rfl:=(hout1 _ rfl)
    have h2:=h
    obtain rfl:=sj h2
    exact ⟨ed3,(vi (i1:Int)),(eb_ rfl rfl),_,[],lr,I6,rfl,rfl⟩
   refine ao_ rfl hc3 (bc_ (aa_ (wo_ (et_ rfl e15 rfl (wm_ (v:=(vi (w64 ((i1:Int)+1)))) rfl rfl (ad_ ?_))))))
   obtain rfl:=sj h1
   exact ⟨_,rfl,I6,e12,e13,e14,(ft_ hlt1 hk1),ed3⟩
  rintro s2 f w hs1 hI2
  obtain ⟨I7,e17,e18,e19,e20,ed4⟩:=hI2
  refine ab_ (aa_ (wo_ (fi_ rfl e20 e19 (ad_ (ab_ (ao_ rfl (zi_ _) (fl_ ?_)))))))
  exact ⟨s2,hs1,I7,e17,e18,e19,ed4⟩
 rintro f w ⟨eo_,rfl,I8,e21,e22,e23,ed5⟩
 have h:=ui_ h
 refine ab_ (aa_ (wa_ (v:=(vi ((-1)))) rfl rfl (ad_ (ap_ ?_))))
 obtain rfl:=sj h
 exact ⟨ed5,(vi ((-1))),(eb_ rfl rfl),_,[],lr,I8,rfl,rfl⟩
theorem lt_ {w:World} {S:PH} {Fr:List HP} {a0:(List (List Int))} {v0:Value} {a1:(List Int)→Option Bool} {v1:Value} {r:Bool} (hI:Inv w S (Fr)) (h0_:RV S v0 a0) (h1_:FnV Tryz.prog S v1 a1) (h:ds_ a0 a1=some r) :
    Calls Tryz.prog 219 [v0,v1].toArray w (fh_ S Fr (Value.bool (r))):=by
 unfold ds_ at h
 obtain ⟨z1,m1,k1,rfl⟩:=bb_ h0_
 refine av_ (n:=9) Tryz.func219 rfl rfl rfl (ab_ (aa_ (wa_ (v:=(vb false)) rfl rfl (ad_ (ab_ (aa_ (wm_ (v:=(.slice z1 m1 k1)) rfl rfl (wm_ (v:=v1) rfl rfl ?_))))))))
 obtain ⟨x1,hx1,h⟩:=bnd h
 refine wo_ (cv_ ca267 rfl hI (fun Fr_ hF_=>nq_ hF_ h0_ h1_ hx1) (ep_ rfl rfl) (fun w1 I1=>(wo_ (xy_ rfl rfl rfl (wa_ (v:=(vb (decide (0≤x1)))) rfl rfl (ad_ (ap_ ?_)))))))
 obtain rfl:=sj h
 exact ⟨rfl,(vb (decide (0≤x1))),(eb_ rfl rfl),_,[],lr,I1,rfl,rfl⟩
theorem sf_ {w:World} {S:PH} {Fr:List HP} {a0:CodeLock} {v0:Value} {a1:(List (List Int))} {v1:Value} {r:Int} (hI:Inv w S (Fr)) (h0_:RV S v0 a0) (h1_:RV S v1 a1) (h:ii_ a0 a1=some r) :
    Calls Tryz.prog 151 [v0,v1].toArray w (fh_ S Fr (Value.int .i64 (r))):=by
 unfold ii_ at h
 have e1:=CodeLock.inv h0_
 subst e1
 obtain ⟨z1,m1,k1,rfl⟩:=bb_ h1_
 refine av_ (n:=14) Tryz.func151 rfl rfl rfl (ab_ (aa_ (wo_ (dv_ (v:=(.agg #[(vi a0.Wheels),(vi a0.Symbols)])) rfl hI rfl (fun g1 w1 I1 => ?_)))))
 obtain ⟨S1,le1,I2,p1⟩:=Inv.boxFreeze (x:=a0) I1 (CodeLock.rv (s:=a0))
 refine wa_ (v:=(vi 0)) rfl rfl (ad_ (ab_ (ab_ (aa_ (wo_ (ld_ sh96 (p1.at_ I2) rfl (fun u1 hu1 => ?_)))))))
 have e3:=CodeLock.inv hu1
 subst e3
 obtain ⟨x1,hx1,h⟩:=bnd h
 refine wo_ (cv_ ca75 rfl I2 (fun Fr_ hF_=>ki_ hF_ (CodeLock.rv (s:=a0)) hx1) (args1 rfl) (fun w2 I3=>(wa_ (v:=(vi x1)) rfl rfl (ad_ (ab_ (aa_ (wm_ (v:=(vi x1)) rfl rfl (wo_ (nt_ rfl rfl rfl (ad_ ?_))))))))))
 rcases ifs h with ⟨hc1,h⟩ | ⟨hc1,h⟩
 ·
  refine an_ rfl hc1 (ab_ (aa_ (wm_ (v:=(vi x1)) rfl rfl (wa_ (v:=(vi x1)) rfl rfl (ad_ (ap_ ?_))))))
  obtain rfl:=sj h
  exact ⟨rfl,(vi x1),(eb_ rfl rfl),_,[],le1,I3,rfl,rfl⟩
 refine ao_ rfl hc1 (bc_ (ab_ (ab_ (aa_ (wm_ (v:=(.slice z1 m1 k1)) rfl rfl (wo_ (jx_ (fv := #[]) (cv := #[(pt_ g1)]) rfl arr0 (arr1 rfl) ?_)))))))
 obtain ⟨x2,hx2,h⟩:=bnd h
 refine wo_ (cv_ ca219 rfl I3 (fun Fr_ hF_=>lt_ hF_ (h1_.mono le1) ⟨220,[(pt_ g1)],rfl,ca220,fun T_ w_ Fr_ u_ x_ r_ hle_ hI_ hu_ hr_=>qa_ hI_ hu_ (p1.mono hle_) hr_⟩ hx2) (ep_ rfl rfl) (fun w3 I4=>(ad_ ?_)))
 rcases ifs h with ⟨hc2,h⟩ | ⟨hc2,h⟩
 ·
  refine an_ rfl hc2 (ab_ (aa_ (wa_ (v:=(vi 12)) rfl rfl (ad_ (ap_ ?_)))))
  obtain rfl:=sj h
  exact ⟨rfl,(vi 12),(eb_ rfl rfl),_,[],le1,I4,rfl,rfl⟩
 refine ao_ rfl hc2 (bc_ (ab_ (aa_ (wa_ (v:=(vi 0)) rfl rfl (ad_ (ap_ ?_))))))
 obtain rfl:=sj h
 exact ⟨rfl,(vi 0),(eb_ rfl rfl),_,[],le1,I4,rfl,rfl⟩
theorem mz_ {w:World} {S:PH} {Fr:List HP} {a0:CodeLock} {v0:Value} {a1:(List Int)} {v1:Value} {r:Int} (hI:Inv w S (Fr)) (h0_:RV S v0 a0) (h1_:RV S v1 a1) (h:fq_ a0 a1=some r) :
    Calls Tryz.prog 76 [v0,v1].toArray w (fh_ S Fr (Value.int .i64 (r))):=by
 unfold fq_ at h
 have e1:=CodeLock.inv h0_
 subst e1
 obtain ⟨z1,m1,k1,rfl⟩:=bb_ h1_
 refine av_ (n:=9) Tryz.func76 rfl rfl rfl (ab_ (aa_ (wo_ (dv_ (v:=(.agg #[(vi a0.Wheels),(vi a0.Symbols)])) rfl hI rfl (fun g1 w1 I1 => ?_)))))
 obtain ⟨S1,le1,I2,p1⟩:=Inv.boxFreeze (x:=a0) I1 (CodeLock.rv (s:=a0))
 refine wa_ (v:=(vi 0)) rfl rfl (ad_ (ab_ (aa_ (wo_ (ld_ sh96 (p1.at_ I2) rfl (fun u1 hu1 => ?_))))))
 have e3:=CodeLock.inv hu1
 subst e3
 refine wm_ (v:=(.slice z1 m1 k1)) rfl rfl (wo_ (lj_ (vs:=[(.slice z1 m1 k1)]) (r:=([a1]:List (List Int))) rfl Tryz.underlying33 el45 (parts1 rfl) rfl (by decide) (by decide) ⟨(h1_.mono le1),trivial⟩ I2 (fun u2 w2 I3 => ?_)))
 obtain ⟨z2,m2,k2,e4⟩:=row_form I3
 subst e4
 obtain ⟨x1,hx1,h⟩:=bnd h
 obtain ⟨S2,Fr1,le2,I4,r1,bk1⟩:=Inv.lend1 I3
 refine wo_ (cl_ ca151 rfl (sf_ I4 (CodeLock.rv (s:=a0)) r1 hx1) (ep_ rfl rfl) (fun cv1 w3 S3 O1 le3 I6 hv1 => ?_))
 obtain ⟨rfl,rfl⟩:=hv1
 have I5:=bk1 [] trivial I6 le3
 refine wa_ (v:=(vi x1)) rfl rfl (ad_ (ap_ ?_))
 obtain rfl:=sj h
 exact ⟨rfl,(vi x1),(eb_ rfl rfl),_,[],le1,(I5).drop,rfl,rfl⟩
end Go.Proofs.YtfcgcpjnpdkjmaaGreatDoor.Pad
end
section
set_option maxHeartbeats 4000000
set_option maxRecDepth 100000
namespace Go.Proofs.YtfcgcpjnpdkjmaaGreatDoor.Pad
open Go Go.Proofs
theorem tn_ {w:World} {S:PH} {Fr:List HP} {a0:CodeLock} {v0:Value} {a1:Clue} {v1:Value} {r:Int} (hI:Inv w S (Fr)) (h0_:RV S v0 a0) (h1_:RV S v1 a1) (h:jp_ a0 a1=some r) :
    Calls Tryz.prog 222 [v0,v1].toArray w (fh_ S Fr (Value.int .i64 (r))):=by
 unfold jp_ at h
 have e1:=CodeLock.inv h0_
 subst e1
 obtain ⟨c1,e2,r1⟩:=Clue.inv h1_
 subst e2
 obtain ⟨z1,m1,k1,rfl⟩:=bb_ r1
 refine av_ (n:=15) Tryz.func222 rfl rfl rfl (ab_ (aa_ (wo_ (dv_ (v:=(.agg #[(vi a0.Wheels),(vi a0.Symbols)])) rfl hI rfl (fun g1 w1 I1 => ?_)))))
 obtain ⟨S1,le1,I2,p1⟩:=Inv.boxFreeze (x:=a0) I1 (CodeLock.rv (s:=a0))
 refine wo_ (dv_ (v:=(.agg #[(vi a1.Kind),(vi a1.A),(vi a1.B),(vi a1.N),(vi a1.M),(.slice z1 m1 k1),(vb a1.Not)])) rfl I2 rfl (fun g2 w2 I3 => ?_))
 obtain ⟨S2,le2,I4,p2⟩:=Inv.boxFreeze (x:=a1) I3 (Clue.rv (s:=a1) (r1.mono le1))
 refine wa_ (v:=(vi 0)) rfl rfl (ad_ (ab_ (ab_ (aa_ (wo_ (ld_ sh96 ((p1.mono le2).at_ I4) rfl (fun u1 hu1 => ?_)))))))
 have e4:=CodeLock.inv hu1
 subst e4
 obtain ⟨x1,hx1,h⟩:=bnd h
 refine wo_ (cv_ ca75 rfl I4 (fun Fr_ hF_=>ki_ hF_ (CodeLock.rv (s:=a0)) hx1) (args1 rfl) (fun w3 I5=>(wa_ (v:=(vi x1)) rfl rfl (ad_ (ab_ (aa_ (wm_ (v:=(vi x1)) rfl rfl (wo_ (nt_ rfl rfl rfl (ad_ ?_))))))))))
 rcases ifs h with ⟨hc1,h⟩ | ⟨hc1,h⟩
 ·
  refine an_ rfl hc1 (ab_ (aa_ (wm_ (v:=(vi x1)) rfl rfl (wa_ (v:=(vi x1)) rfl rfl (ad_ (ap_ ?_))))))
  obtain rfl:=sj h
  exact ⟨rfl,(vi x1),(eb_ rfl rfl),_,[],(le1.trans le2),I5,rfl,rfl⟩
 refine ao_ rfl hc1 (bc_ (ab_ (ab_ (aa_ (wo_ (ld_ sh96 ((p1.mono le2).at_ I5) rfl (fun u2 hu2 => ?_)))))))
 have e5:=CodeLock.inv hu2
 subst e5
 refine wo_ (ld_ xe_ (p2.at_ I5) rfl (fun u3 hu3 => ?_))
 obtain ⟨c2,e6,r2⟩:=Clue.inv hu3
 subst e6
 obtain ⟨z2,m2,k2,rfl⟩:=bb_ r2
 obtain ⟨x2,hx2,h⟩:=bnd h
 refine wo_ (cv_ ca135 rfl I5 (fun Fr_ hF_=>mx_ hF_ (CodeLock.rv (s:=a0)) (Clue.rv (s:=a1) r2) hx2) (ep_ rfl rfl) (fun w4 I6=>(wo_ (ly_ rfl rfl (ad_ ?_)))))
 rcases ifs h with ⟨hc2,h⟩ | ⟨hc2,h⟩
 ·
  refine an_ rfl hc2 (ab_ (aa_ (wa_ (v:=(vi 11)) rfl rfl (ad_ (ap_ ?_)))))
  obtain rfl:=sj h
  exact ⟨rfl,(vi 11),(eb_ rfl rfl),_,[],(le1.trans le2),I6,rfl,rfl⟩
 refine ao_ rfl hc2 (bc_ (ab_ (aa_ (wa_ (v:=(vi 0)) rfl rfl (ad_ (ap_ ?_))))))
 obtain rfl:=sj h
 exact ⟨rfl,(vi 0),(eb_ rfl rfl),_,[],(le1.trans le2),I6,rfl,rfl⟩
theorem zo_ {w:World} {S:PH} {Fr:List HP} {a0:CodeLock} {v0:Value} {a1:Clue} {v1:Value} {a2:(List Int)} {v2:Value} {r:Bool×Int} (hI:Inv w S (Fr)) (h0_:RV S v0 a0) (h1_:RV S v1 a1) (h2_:RV S v2 a2) (h:ow_ a0 a1 a2=some r) :
    Calls Tryz.prog 156 [v0,v1,v2].toArray w (fh_ S Fr (Value.tuple #[(Value.bool (r.1)),(Value.int .i64 (r.2))])):=by
 unfold ow_ at h
 have e1:=CodeLock.inv h0_
 subst e1
 obtain ⟨c1,e2,r1⟩:=Clue.inv h1_
 subst e2
 obtain ⟨z1,m1,k1,rfl⟩:=bb_ r1
 obtain ⟨z2,m2,k2,rfl⟩:=bb_ h2_
 refine av_ (n:=25) Tryz.func156 rfl rfl rfl (ab_ (aa_ (wo_ (dv_ (v:=(.agg #[(vi a0.Wheels),(vi a0.Symbols)])) rfl hI rfl (fun g1 w1 I1 => ?_)))))
 obtain ⟨S1,le1,I2,p1⟩:=Inv.boxFreeze (x:=a0) I1 (CodeLock.rv (s:=a0))
 refine wo_ (dv_ (v:=(.agg #[(vi a1.Kind),(vi a1.A),(vi a1.B),(vi a1.N),(vi a1.M),(.slice z1 m1 k1),(vb a1.Not)])) rfl I2 rfl (fun g2 w2 I3 => ?_))
 obtain ⟨S2,le2,I4,p2⟩:=Inv.boxFreeze (x:=a1) I3 (Clue.rv (s:=a1) (r1.mono le1))
 refine wa_ (v:=(vb false)) rfl rfl (wa_ (v:=(vi 0)) rfl rfl (ad_ (ab_ (ab_ (aa_ (wo_ (ld_ sh96 ((p1.mono le2).at_ I4) rfl (fun u1 hu1 => ?_))))))))
 have e5:=CodeLock.inv hu1
 subst e5
 refine wo_ (ld_ xe_ (p2.at_ I4) rfl (fun u2 hu2 => ?_))
 obtain ⟨c2,e6,r2⟩:=Clue.inv hu2
 subst e6
 obtain ⟨z3,m3,k3,rfl⟩:=bb_ r2
 obtain ⟨x1,hx1,h⟩:=bnd h
 refine wo_ (cv_ ca222 rfl I4 (fun Fr_ hF_=>tn_ hF_ (CodeLock.rv (s:=a0)) (Clue.rv (s:=a1) r2) hx1) (ep_ rfl rfl) (fun w3 I5=>(wa_ (v:=(vi x1)) rfl rfl (ad_ (ab_ (aa_ (wm_ (v:=(vi x1)) rfl rfl (wo_ (nt_ rfl rfl rfl (ad_ ?_))))))))))
 rcases ifs h with ⟨hc1,h⟩ | ⟨hc1,h⟩
 ·
  refine an_ rfl hc1 (ab_ (aa_ (wm_ (v:=(vi x1)) rfl rfl (wa_ (v:=(vb false)) rfl rfl (wa_ (v:=(vi x1)) rfl rfl (ad_ (ap_ ?_)))))))
  obtain rfl:=sj h
  exact ⟨rfl,(Value.tuple #[(vb false),(vi x1)]),(res2 rfl rfl rfl),_,[],(le1.trans le2),I5,rfl,rfl⟩
 refine ao_ rfl hc1 (bc_ (ab_ (ab_ (aa_ (wo_ (ld_ sh96 ((p1.mono le2).at_ I5) rfl (fun u3 hu3 => ?_)))))))
 have e8:=CodeLock.inv hu3
 subst e8
 refine wm_ (v:=(.slice z2 m2 k2)) rfl rfl ?_
 obtain ⟨x2,hx2,h⟩:=bnd h
 refine wo_ (cv_ ca76 rfl I5 (fun Fr_ hF_=>mz_ hF_ (CodeLock.rv (s:=a0)) (h2_.mono (le1.trans le2)) hx2) (ep_ rfl rfl) (fun w4 I6=>(wa_ (v:=(vi x2)) rfl rfl (ad_ (ab_ (aa_ (wm_ (v:=(vi x2)) rfl rfl (wo_ (nt_ rfl rfl rfl (ad_ ?_))))))))))
 rcases ifs h with ⟨hc2,h⟩ | ⟨hc2,h⟩
 ·
  refine an_ rfl hc2 (ab_ (aa_ (wm_ (v:=(vi x2)) rfl rfl (wa_ (v:=(vb false)) rfl rfl (wa_ (v:=(vi x2)) rfl rfl (ad_ (ap_ ?_)))))))
  obtain rfl:=sj h
  exact ⟨rfl,(Value.tuple #[(vb false),(vi x2)]),(res2 rfl rfl rfl),_,[],(le1.trans le2),I6,rfl,rfl⟩
 refine ao_ rfl hc2 (bc_ (ab_ (aa_ (wo_ (ld_ xe_ (p2.at_ I6) rfl (fun u4 hu4 => ?_))))))
 obtain ⟨c3,e9,r3⟩:=Clue.inv hu4
 subst e9
 obtain ⟨z4,m4,k4,rfl⟩:=bb_ r3
 refine wm_ (v:=(.slice z2 m2 k2)) rfl rfl ?_
 obtain ⟨x3,hx3,h⟩:=bnd h
 refine wo_ (cv_ ca223 rfl I6 (fun Fr_ hF_=>rq_ hF_ (Clue.rv (s:=a1) r3) (h2_.mono (le1.trans le2)) hx3) (ep_ rfl rfl) (fun w5 I7=>(wa_ (v:=(vb x3)) rfl rfl (wa_ (v:=(vi 0)) rfl rfl (ad_ (ap_ ?_))))))
 obtain rfl:=sj h
 exact ⟨rfl,(Value.tuple #[(vb x3),(vi 0)]),(res2 rfl rfl rfl),_,[],(le1.trans le2),I7,rfl,rfl⟩
end Go.Proofs.YtfcgcpjnpdkjmaaGreatDoor.Pad
end
section
set_option maxHeartbeats 4000000
set_option maxRecDepth 100000
namespace Go.Proofs.YtfcgcpjnpdkjmaaGreatDoor.Pad
open Go Go.Proofs
theorem bw_ {w:World} {S:PH} {Fr:List HP} {a0:Int} {a1:Int} {a2:Int} {r:Bool} (hI:Inv w S (Fr))  (h:ca_ a0 a1 a2=some r) :
    Calls Tryz.prog 166 [(Value.int .i64 (a0)),(Value.int .i64 (a1)),(Value.int .i64 (a2))].toArray w (fh_ S Fr (Value.bool (r))):=by
 unfold ca_ at h
 refine av_ (n:=15) Tryz.func166 rfl rfl rfl (ab_ (aa_ (wa_ (v:=(vb false)) rfl rfl (ad_ (ab_ (aa_ (wm_ (v:=(vi a0)) rfl rfl (wm_ (v:=(vi a1)) rfl rfl (wo_ (xy_ rfl rfl rfl (wm_ (v:=(vb (decide (a1≤a0)))) rfl rfl ?_)))))))))))
 rcases ifs h with ⟨hc1,h⟩ | ⟨hc1,h⟩
 ·
  refine wk_ rfl rfl hc1 (br_ (v:=(vi a0)) rfl rfl (wk_ rfl rfl hc1 (br_ (v:=(vi a2)) rfl rfl (wk_ rfl rfl hc1 (op_leq rfl rfl rfl (wo_ (ba_ (a:=(vb (decide (a0≤a2)))) rfl rfl hc1 rfl (wa_ (v:=(vb (decide (a0≤a2)))) rfl rfl (ad_ (ap_ ?_))))))))))
  obtain rfl:=sj h
  exact ⟨rfl,(vb (decide (a0≤a2))),(eb_ rfl rfl),_,[],lr,hI,rfl,rfl⟩
 refine ws_ rfl rfl hc1 (ws_ rfl rfl hc1 (ws_ rfl rfl hc1 (wo_ (ah_ (b:=(vb false)) rfl rfl hc1 rfl (wa_ (v:=(vb false)) rfl rfl (ad_ (ap_ ?_)))))))
 obtain rfl:=sj h
 exact ⟨rfl,(vb false),(eb_ rfl rfl),_,[],lr,hI,rfl,rfl⟩
theorem ng_ {w:World} {S:PH} {Fr:List HP} {a0:CodeLock} {v0:Value} {r:Int} (hI:Inv w S (Fr)) (h0_:RV S v0 a0) (h:ik_ a0=some r) :
    Calls Tryz.prog 86 [v0].toArray w (fh_ S Fr (Value.int .i64 (r))):=by
 unfold ik_ at h
 have e1:=CodeLock.inv h0_
 subst e1
 refine av_ (n:=13) Tryz.func86 rfl rfl rfl (ab_ (aa_ (wo_ (dv_ (v:=(.agg #[(vi a0.Wheels),(vi a0.Symbols)])) rfl hI rfl (fun g1 w1 I1 => ?_)))))
 obtain ⟨S1,le1,I2,p1⟩:=Inv.boxFreeze (x:=a0) I1 (CodeLock.rv (s:=a0))
 refine wa_ (v:=(vi 0)) rfl rfl (ad_ (ab_ (ab_ (aa_ (wo_ (fa_ vi_ (p1.at_ I2) rfl (wo_ (li_ sh3 ((p1.at_ I2).fld CodeLock.fld0) rfl ?_))))))))
 obtain ⟨x1,hx1,h⟩:=bnd h
 refine wo_ (cv_ ut_ rfl I2 (fun Fr_ hF_=>bw_ hF_  hx1) (mh_ rfl rfl rfl) (fun w2 I3=>(wo_ (ly_ rfl rfl (wm_ (v:=(vb (!x1))) rfl rfl ?_)))))
 rcases ifs h with ⟨hc1,h⟩ | ⟨hc1,h⟩
 ·
  refine ws_ rfl rfl hc1 (ws_ rfl rfl hc1 (ws_ rfl rfl hc1 (ws_ rfl rfl hc1 (wo_ (ba_ (a:=(vb true)) rfl rfl hc1 rfl (ad_ (an_ rfl rfl (ab_ (aa_ (wa_ (v:=(vi 10)) rfl rfl (ad_ (ap_ ?_))))))))))))
  obtain rfl:=sj h
  exact ⟨rfl,(vi 10),(eb_ rfl rfl),_,[],le1,I3,rfl,rfl⟩
 refine wk_ rfl rfl hc1 (fa_ fa96_1 (p1.at_ I3) rfl (wk_ rfl rfl hc1 (li_ sh3 ((p1.at_ I3).fld CodeLock.fld1) rfl ?_)))
 obtain ⟨x2,hx2,h⟩:=bnd h
 refine wk_ rfl rfl hc1 (cv_ ut_ rfl I3 (fun Fr_ hF_=>bw_ hF_  hx2) (mh_ rfl rfl rfl) (fun w3 I4=>(wk_ rfl rfl hc1 (ly_ rfl rfl (wo_ (ah_ (b:=(vb (!x2))) rfl rfl hc1 rfl (ad_ ?_)))))))
 rcases ifs h with ⟨hc2,h⟩ | ⟨hc2,h⟩
 ·
  refine an_ rfl hc2 (ab_ (aa_ (wa_ (v:=(vi 10)) rfl rfl (ad_ (ap_ ?_)))))
  obtain rfl:=sj h
  exact ⟨rfl,(vi 10),(eb_ rfl rfl),_,[],le1,I4,rfl,rfl⟩
 refine ao_ rfl hc2 (bc_ (ab_ (aa_ (wa_ (v:=(vi 0)) rfl rfl (ad_ (ap_ ?_))))))
 obtain rfl:=sj h
 exact ⟨rfl,(vi 0),(eb_ rfl rfl),_,[],le1,I4,rfl,rfl⟩
end Go.Proofs.YtfcgcpjnpdkjmaaGreatDoor.Pad
end
section
set_option maxHeartbeats 4000000
set_option maxRecDepth 100000
namespace Go.Proofs.YtfcgcpjnpdkjmaaGreatDoor.Pad
open Go Go.Proofs
theorem pj_ {w:World} {S:PH} {Fr:List HP} {a0:CodeLock} {v0:Value} {a1:(List Int)} {v1:Value} {r:Bool} (hI:Inv w S (Fr)) (h0_:RV S v0 a0) (h1_:RV S v1 a1) (h:iu_ a0 a1=some r) :
    Calls Tryz.prog 167 [v0,v1].toArray w (fh_ S Fr (Value.bool (r))):=by
 unfold iu_ at h
 have e1:=CodeLock.inv h0_
 subst e1
 obtain ⟨z1,m1,k1,rfl⟩:=bb_ h1_
 refine av_ (n:=26) Tryz.func167 rfl rfl rfl (ab_ (aa_ (wo_ (dv_ (v:=(.agg #[(vi a0.Wheels),(vi a0.Symbols)])) rfl hI rfl (fun g1 w1 I1 => ?_)))))
 obtain ⟨S1,le1,I2,p1⟩:=Inv.boxFreeze (x:=a0) I1 (CodeLock.rv (s:=a0))
 refine wa_ (v:=(vb false)) rfl rfl (ad_ (ab_ (ab_ (aa_ (wm_ (v:=(.slice z1 m1 k1)) rfl rfl (wo_ (cn_ rfl Tryz.underlying45 rfl (h1_.mono le1) (wo_ (fa_ vi_ (p1.at_ I2) rfl (wo_ (li_ sh3 ((p1.at_ I2).fld CodeLock.fld0) rfl (wo_ (nt_ rfl rfl rfl (ad_ ?_))))))))))))))
 rcases ifs h with ⟨hc1,h⟩ | ⟨hc1,h⟩
 ·
  refine an_ rfl hc1 (ab_ (aa_ (wa_ (v:=(vb false)) rfl rfl (ad_ (ap_ ?_)))))
  obtain rfl:=sj h
  exact ⟨rfl,(vb false),(eb_ rfl rfl),_,[],le1,I2,rfl,rfl⟩
 refine ao_ rfl hc1 (bc_ (ab_ (ab_ (aa_ (wa_ (v:=(vi 0)) rfl rfl (ad_ ?_))))))
 have hk1:a1.length≤9223372036854775807:=(rm_ h1_)
 obtain ⟨o2,hrun1,h⟩:=bnd h
 refine jc_ (fun f w=>∃ eo_,o2=Sum.inl eo_∧∃ (S_:PH),S1.Le S_∧Inv w S_ (Fr)∧f 1=(.slice z1 m1 k1)∧f 2=(pt_ g1)∧f.ds=[]) ?_ ?_
 ·
  refine bd_ ?_
  refine tw_ (I:=fun (i1:Nat) (s1:Unit) (f:Frm) (w:World)=>∃ (S_:PH),S1.Le S_∧Inv w S_ (Fr)∧f 1=(.slice z1 m1 k1)∧f 2=(pt_ g1)∧f 5=(vi (i1:Int))∧f.ds=[]) hrun1 ⟨_,lr,I2,rfl,rfl,rfl,rfl⟩ ?_ ?_
  ·
   rintro i1 s1 f w o1 hlt1 hI31 h1 hout1
   obtain ⟨S34,le34,I42,e21,e22,e23,ed7⟩:=hI31
   refine ab_ (ab_ (aa_ (wm_ rfl e23 (wm_ rfl e21 (wo_ (cn_ rfl Tryz.underlying45 rfl (h1_.mono (le1.trans le34)) (wo_ (fi_ rfl rfl rfl (ad_ (an_ rfl (zh_ hlt1) (bc_ (ab_ (bd_ (ab_ ?_))))))))))))))
   obtain ⟨x7,hx7,h1⟩:=bnd h1
   obtain ⟨x8,hx8,h1⟩:=bnd h1
   refine ek_ (sps:=[spV 17 [] 0 (.slice z1 m1 k1),spV 18 [] 1 (vi (i1:Int)),spV 19 [0,1] 2 (bx_ (.slice z1 m1 k1) ((i1:Int)) (Enc.sz Int)),spV 20 [0,1,2] 3 (vi x7),spV 21 [] 4 (aq_ (pt_ g1) 1),spV 22 [4] 5 (vi a0.Symbols),spV 23 [4,5] 6 (vi (w64 (a0.Symbols - 1))),spV 24 (lrg 7) 7 (vb x8),spV 25 (lrg 8) 8 (vb (!x8))]) (tks:=[]) (O:=Fr) rfl (by kernel_rfl) I42 ⟨ob_ rfl fun l A K I=>(br_ rfl ((K 1 (au_ rfl)).trans e21) (fo I)),ob_ rfl fun l A K I=>(br_ rfl ((K 5 (au_ rfl)).trans e23) (fo I)),ob_ rfl fun l A K I=>(ix_ Tryz.underlying45 sh3 (h1_.mono ((le1.trans le34).trans l)) hx7 (A.v 0 rfl) (A.v 1 rfl) (fo I)),ob_ rfl fun l A K I=>(aj_ rfl sh3 (A.v 2 rfl) ((h1_.mono ((le1.trans le34).trans l)).elem I.in_ hx7) (fo I)),ob_ rfl fun l A K I=>(ac_ rfl fa96_1 ((K 2 (au_ rfl)).trans e22) ((p1.mono (le34.trans l)).at_ I) (fo I)),ob_ rfl fun l A K I=>(aj_ rfl sh3 (A.v 0 rfl) (((p1.mono (le34.trans l)).at_ I).fld CodeLock.fld1) (fo I)),ob_ rfl fun l A K I=>(mo_ rfl (A.v 1 rfl) rfl (fo I)),fun vs f w U X l A K I=>pl_ rfl (cv_ ut_ rfl I (fun Fr_ hF_=>bw_ hF_  hx8) (mh_ (A.v 3 rfl) rfl (A.v 6 rfl)) (fun w47 I52=>(fo I52))),?_,trivial⟩ ?_
   ·
    intro vs f w_ U X le A K I
    refine pl_ rfl (ly_ rfl (A.v 7 rfl) (fo I))
   intro vs40 f w49 S44 ed8 le44 hF4 hK40 hI41
   have e24:f 1=(Value.slice z1 m1 k1):=(hK40 1 (bf_ rfl)).trans e21
   have e25:f 2=(pt_ g1):=(hK40 2 (bf_ rfl)).trans e22
   have e26:f 5=(vi ((i1:Int))):=(hK40 5 (bf_ rfl)).trans e23
   have I54:Inv w49 S44 (Fr):=hI41
   have q36:=hF4.v 8 rfl
   rcases ifs h1 with ⟨hc5,h1⟩ | ⟨hc5,h1⟩
   ·
    refine an_ q36 hc5 (ab_ (aa_ (wa_ (v:=(vb false)) rfl rfl (ad_ (ap_ ?_)))))
    obtain rfl:=sj h1
    obtain rfl:=(hout1 _ rfl)
    have h2:=h
    obtain rfl:=sj h2
    exact ⟨(ed8.trans ed7),(vb false),(eb_ rfl rfl),_,[],((le1.trans le34).trans le44),I54,rfl,rfl⟩
   refine ao_ q36 hc5 (bc_ (aa_ (wm_ rfl e26 (wo_ (et_ rfl rfl rfl (wa_ (v:=(vi (w64 ((i1:Int)+1)))) rfl rfl (ad_ ?_)))))))
   obtain rfl:=sj h1
   exact ⟨_,rfl,_,(le34.trans le44),I54,e24,e25,(ft_ hlt1 hk1),(ed8.trans ed7)⟩
  rintro s2 f w hs1 hI42
  obtain ⟨S45,le45,I55,e27,e28,e29,ed9⟩:=hI42
  refine ab_ (ab_ (aa_ (wm_ rfl e29 (wm_ rfl e27 (wo_ (cn_ rfl Tryz.underlying45 rfl (h1_.mono (le1.trans le45)) (wo_ (fi_ rfl rfl rfl (ad_ (ao_ rfl (zi_ _) (fl_ ?_)))))))))))
  exact ⟨s2,hs1,_,le45,I55,e27,e28,ed9⟩
 rintro f w ⟨eo_,rfl,S46,le46,I56,e30,e31,ed10⟩
 have h:=ui_ h
 refine ab_ (aa_ (wa_ (v:=(vb true)) rfl rfl (ad_ (ap_ ?_))))
 obtain rfl:=sj h
 exact ⟨ed10,(vb true),(eb_ rfl rfl),_,[],(le1.trans le46),I56,rfl,rfl⟩
end Go.Proofs.YtfcgcpjnpdkjmaaGreatDoor.Pad
end
section
set_option maxHeartbeats 4000000
set_option maxRecDepth 100000
namespace Go.Proofs.YtfcgcpjnpdkjmaaGreatDoor.Pad
open Go Go.Proofs
theorem sx_ {w:World} {S:PH} {Fr:List HP} {a0:CodeLock} {v0:Value} {a1:(List Int)} {v1:Value} {r:Int} (hI:Inv w S (Fr)) (h0_:RV S v0 a0) (h1_:RV S v1 a1) (h:go_ a0 a1=some r) :
    Calls Tryz.prog 87 [v0,v1].toArray w (fh_ S Fr (Value.int .i64 (r))):=by
 unfold go_ at h
 have e1:=CodeLock.inv h0_
 subst e1
 obtain ⟨z1,m1,k1,rfl⟩:=bb_ h1_
 refine av_ (n:=15) Tryz.func87 rfl rfl rfl (ab_ (aa_ (wo_ (dv_ (v:=(.agg #[(vi a0.Wheels),(vi a0.Symbols)])) rfl hI rfl (fun g1 w1 I1 => ?_)))))
 obtain ⟨S1,le1,I2,p1⟩:=Inv.boxFreeze (x:=a0) I1 (CodeLock.rv (s:=a0))
 refine wa_ (v:=(vi 0)) rfl rfl (ad_ (ab_ (ab_ (aa_ (wo_ (ld_ sh96 (p1.at_ I2) rfl (fun u1 hu1 => ?_)))))))
 have e3:=CodeLock.inv hu1
 subst e3
 obtain ⟨x1,hx1,h⟩:=bnd h
 refine wo_ (cv_ ca86 rfl I2 (fun Fr_ hF_=>ng_ hF_ (CodeLock.rv (s:=a0)) hx1) (args1 rfl) (fun w2 I3=>(wa_ (v:=(vi x1)) rfl rfl (ad_ (ab_ (aa_ (wm_ (v:=(vi x1)) rfl rfl (wo_ (nt_ rfl rfl rfl (ad_ ?_))))))))))
 rcases ifs h with ⟨hc1,h⟩ | ⟨hc1,h⟩
 ·
  refine an_ rfl hc1 (ab_ (aa_ (wm_ (v:=(vi x1)) rfl rfl (wa_ (v:=(vi x1)) rfl rfl (ad_ (ap_ ?_))))))
  obtain rfl:=sj h
  exact ⟨rfl,(vi x1),(eb_ rfl rfl),_,[],le1,I3,rfl,rfl⟩
 refine ao_ rfl hc1 (bc_ (ab_ (ab_ (aa_ (wo_ (ld_ sh96 (p1.at_ I3) rfl (fun u2 hu2 => ?_)))))))
 have e4:=CodeLock.inv hu2
 subst e4
 refine wm_ (v:=(.slice z1 m1 k1)) rfl rfl ?_
 obtain ⟨x2,hx2,h⟩:=bnd h
 refine wo_ (cv_ ca167 rfl I3 (fun Fr_ hF_=>pj_ hF_ (CodeLock.rv (s:=a0)) (h1_.mono le1) hx2) (ep_ rfl rfl) (fun w3 I4=>(wo_ (ly_ rfl rfl (ad_ ?_)))))
 rcases ifs h with ⟨hc2,h⟩ | ⟨hc2,h⟩
 ·
  refine an_ rfl hc2 (ab_ (aa_ (wa_ (v:=(vi 12)) rfl rfl (ad_ (ap_ ?_)))))
  obtain rfl:=sj h
  exact ⟨rfl,(vi 12),(eb_ rfl rfl),_,[],le1,I4,rfl,rfl⟩
 refine ao_ rfl hc2 (bc_ (ab_ (aa_ (wa_ (v:=(vi 0)) rfl rfl (ad_ (ap_ ?_))))))
 obtain rfl:=sj h
 exact ⟨rfl,(vi 0),(eb_ rfl rfl),_,[],le1,I4,rfl,rfl⟩
end Go.Proofs.YtfcgcpjnpdkjmaaGreatDoor.Pad
end
section
set_option maxHeartbeats 4000000
set_option maxRecDepth 100000
namespace Go.Proofs.YtfcgcpjnpdkjmaaGreatDoor.Pad
open Go Go.Proofs
theorem uc_ {w:World} {S:PH} {Fr:List HP} {a0:(List Int)} {v0:Value} {a1:(List Int)} {v1:Value} {r:Bool} (hI:Inv w S (Fr)) (h0_:RV S v0 a0) (h1_:RV S v1 a1) (h:hv_ a0 a1=some r) :
    Calls Tryz.prog 47 [v0,v1].toArray w (fh_ S Fr (Value.bool (r))):=by
 unfold hv_ at h
 obtain ⟨z1,m1,k1,rfl⟩:=bb_ h0_
 obtain ⟨z2,m2,k2,rfl⟩:=bb_ h1_
 refine av_ (n:=26) Tryz.func47 rfl rfl rfl (ab_ (aa_ (wa_ (v:=(vb false)) rfl rfl (ad_ (ab_ (ab_ (aa_ (wm_ (v:=(.slice z1 m1 k1)) rfl rfl (wo_ (cn_ rfl Tryz.underlying45 rfl h0_ (wm_ (v:=(.slice z2 m2 k2)) rfl rfl (wo_ (cn_ rfl Tryz.underlying45 rfl h1_ (wo_ (nt_ rfl rfl rfl (ad_ ?_))))))))))))))))
 rcases ifs h with ⟨hc1,h⟩ | ⟨hc1,h⟩
 ·
  refine an_ rfl hc1 (ab_ (aa_ (wa_ (v:=(vb false)) rfl rfl (ad_ (ap_ ?_)))))
  obtain rfl:=sj h
  exact ⟨rfl,(vb false),(eb_ rfl rfl),_,[],lr,hI,rfl,rfl⟩
 refine ao_ rfl hc1 (bc_ (ab_ (ab_ (aa_ (wa_ (v:=(vi 0)) rfl rfl (ad_ ?_))))))
 have hk1:a0.length≤9223372036854775807:=(rm_ h0_)
 obtain ⟨o2,hrun1,h⟩:=bnd h
 refine jc_ (fun f w=>∃ eo_,o2=Sum.inl eo_∧∃ (S_:PH),S.Le S_∧Inv w S_ (Fr)∧f 0=(.slice z1 m1 k1)∧f 1=(.slice z2 m2 k2)∧f.ds=[]) ?_ ?_
 ·
  refine bd_ ?_
  refine tw_ (I:=fun (i1:Nat) (s1:Unit) (f:Frm) (w:World)=>∃ (S_:PH),S.Le S_∧Inv w S_ (Fr)∧f 0=(.slice z1 m1 k1)∧f 1=(.slice z2 m2 k2)∧f 5=(vi (i1:Int))∧f.ds=[]) hrun1 ⟨_,lr,hI,rfl,rfl,rfl,rfl⟩ ?_ ?_
  ·
   rintro i1 s1 f w o1 hlt1 hI31 h1 hout1
   obtain ⟨S33,le33,I34,e21,e22,e23,ed7⟩:=hI31
   refine ab_ (ab_ (aa_ (wm_ rfl e23 (wm_ rfl e21 (wo_ (cn_ rfl Tryz.underlying45 rfl (h0_.mono le33) (wo_ (fi_ rfl rfl rfl (ad_ (an_ rfl (zh_ hlt1) (bc_ (ab_ (bd_ (ab_ ?_))))))))))))))
   obtain ⟨x7,hx7,h1⟩:=bnd h1
   obtain ⟨x8,hx8,h1⟩:=bnd h1
   refine ek_ (sps:=[spV 17 [] 0 (.slice z1 m1 k1),spV 18 [] 1 (vi (i1:Int)),spV 19 [0,1] 2 (bx_ (.slice z1 m1 k1) ((i1:Int)) (Enc.sz Int)),spV 20 [0,1,2] 3 (vi x7),spV 21 [] 4 (.slice z2 m2 k2),spV 22 [] 5 (vi (i1:Int)),spV 23 [4,5] 6 (bx_ (.slice z2 m2 k2) ((i1:Int)) (Enc.sz Int)),spV 24 [4,5,6] 7 (vi x8),spV 25 (lrg 8) 8 (vb (x7 != x8))]) (tks:=[]) (O:=Fr) rfl (by kernel_rfl) I34 ⟨ob_ rfl fun l A K I=>(br_ rfl ((K 0 (au_ rfl)).trans e21) (fo I)),ob_ rfl fun l A K I=>(br_ rfl ((K 5 (au_ rfl)).trans e23) (fo I)),ob_ rfl fun l A K I=>(ix_ Tryz.underlying45 sh3 (h0_.mono (le33.trans l)) hx7 (A.v 0 rfl) (A.v 1 rfl) (fo I)),ob_ rfl fun l A K I=>(aj_ rfl sh3 (A.v 2 rfl) ((h0_.mono (le33.trans l)).elem I.in_ hx7) (fo I)),ob_ rfl fun l A K I=>(br_ rfl ((K 1 (au_ rfl)).trans e22) (fo I)),ob_ rfl fun l A K I=>(br_ rfl ((K 5 (au_ rfl)).trans e23) (fo I)),ob_ rfl fun l A K I=>(ix_ Tryz.underlying45 sh3 (h1_.mono (le33.trans l)) hx8 (A.v 0 rfl) (A.v 1 rfl) (fo I)),ob_ rfl fun l A K I=>(aj_ rfl sh3 (A.v 2 rfl) ((h1_.mono (le33.trans l)).elem I.in_ hx8) (fo I)),?_,trivial⟩ ?_
   ·
    intro vs f w_ U X le A K I
    refine pl_ rfl (nt_ rfl (A.v 3 rfl) (A.v 7 rfl) (fo I))
   intro vs40 f w40 S43 ed8 le43 hF4 hK40 hI41
   have e24:f 0=(Value.slice z1 m1 k1):=(hK40 0 (bf_ rfl)).trans e21
   have e25:f 1=(Value.slice z2 m2 k2):=(hK40 1 (bf_ rfl)).trans e22
   have e26:f 5=(vi ((i1:Int))):=(hK40 5 (bf_ rfl)).trans e23
   have I44:Inv w40 S43 (Fr):=hI41
   have q36:=hF4.v 8 rfl
   rcases ifs h1 with ⟨hc5,h1⟩ | ⟨hc5,h1⟩
   ·
    refine an_ q36 hc5 (ab_ (aa_ (wa_ (v:=(vb false)) rfl rfl (ad_ (ap_ ?_)))))
    obtain rfl:=sj h1
    obtain rfl:=(hout1 _ rfl)
    have h2:=h
    obtain rfl:=sj h2
    exact ⟨(ed8.trans ed7),(vb false),(eb_ rfl rfl),_,[],(le33.trans le43),I44,rfl,rfl⟩
   refine ao_ q36 hc5 (bc_ (aa_ (wm_ rfl e26 (wo_ (et_ rfl rfl rfl (wa_ (v:=(vi (w64 ((i1:Int)+1)))) rfl rfl (ad_ ?_)))))))
   obtain rfl:=sj h1
   exact ⟨_,rfl,_,(le33.trans le43),I44,e24,e25,(ft_ hlt1 hk1),(ed8.trans ed7)⟩
  rintro s2 f w hs1 hI42
  obtain ⟨S44,le44,I45,e27,e28,e29,ed9⟩:=hI42
  refine ab_ (ab_ (aa_ (wm_ rfl e29 (wm_ rfl e27 (wo_ (cn_ rfl Tryz.underlying45 rfl (h0_.mono le44) (wo_ (fi_ rfl rfl rfl (ad_ (ao_ rfl (zi_ _) (fl_ ?_)))))))))))
  exact ⟨s2,hs1,_,le44,I45,e27,e28,ed9⟩
 rintro f w ⟨eo_,rfl,S45,le45,I46,e30,e31,ed10⟩
 have h:=ui_ h
 refine ab_ (aa_ (wa_ (v:=(vb true)) rfl rfl (ad_ (ap_ ?_))))
 obtain rfl:=sj h
 exact ⟨ed10,(vb true),(eb_ rfl rfl),_,[],le45,I46,rfl,rfl⟩
theorem eh_ {w:World} {S:PH} {Fr:List HP} {a0:Clue} {v0:Value} {a1:Clue} {v1:Value} {r:Bool} (hI:Inv w S (Fr)) (h0_:RV S v0 a0) (h1_:RV S v1 a1) (h:cz_ a0 a1=some r) :
    Calls Tryz.prog 55 [v0,v1].toArray w (fh_ S Fr (Value.bool (r))):=by
 unfold cz_ at h
 obtain ⟨c1,e1,r1⟩:=Clue.inv h0_
 subst e1
 obtain ⟨z1,m1,k1,rfl⟩:=bb_ r1
 obtain ⟨c2,e3,r2⟩:=Clue.inv h1_
 subst e3
 obtain ⟨z2,m2,k2,rfl⟩:=bb_ r2
 refine av_ (n:=52) Tryz.func55 rfl rfl rfl (ab_ (aa_ (wo_ (dv_ (v:=(.agg #[(vi a0.Kind),(vi a0.A),(vi a0.B),(vi a0.N),(vi a0.M),(.slice z1 m1 k1),(vb a0.Not)])) rfl hI rfl (fun g1 w1 I1 => ?_)))))
 obtain ⟨S1,le1,I2,p1⟩:=Inv.boxFreeze (x:=a0) I1 (Clue.rv (s:=a0) r1)
 refine wo_ (dv_ (v:=(.agg #[(vi a1.Kind),(vi a1.A),(vi a1.B),(vi a1.N),(vi a1.M),(.slice z2 m2 k2),(vb a1.Not)])) rfl I2 rfl (fun g2 w2 I3 => ?_))
 obtain ⟨S2,le2,I4,p2⟩:=Inv.boxFreeze (x:=a1) I3 (Clue.rv (s:=a1) (r2.mono le1))
 refine wa_ (v:=(vb false)) rfl rfl (ad_ (ab_ (aa_ (wo_ (fa_ vh_ ((p1.mono le2).at_ I4) rfl (wo_ (li_ sh3 (((p1.mono le2).at_ I4).fld Clue.fld0) rfl (wo_ (fa_ vh_ (p2.at_ I4) rfl (wo_ (li_ sh3 ((p2.at_ I4).fld Clue.fld0) rfl (wo_ (bv_ rfl rfl rfl (wm_ (v:=(vb (a0.Kind==a1.Kind))) rfl rfl ?_))))))))))))))
 rcases ifs h with ⟨hc1,h⟩ | ⟨hc1,h⟩
 ·
  refine wk_ rfl rfl hc1 (fa_ da_ ((p1.mono le2).at_ I4) rfl (wk_ rfl rfl hc1 (li_ sh3 (((p1.mono le2).at_ I4).fld Clue.fld1) rfl (wk_ rfl rfl hc1 (fa_ da_ (p2.at_ I4) rfl (wk_ rfl rfl hc1 (li_ sh3 ((p2.at_ I4).fld Clue.fld1) rfl (wk_ rfl rfl hc1 (bv_ rfl rfl rfl (wo_ (ba_ (a:=(vb (a0.A==a1.A))) rfl rfl hc1 rfl (wm_ (v:=(vb (a0.A==a1.A))) rfl rfl ?_))))))))))))
  rcases ifs h with ⟨hc2,h⟩ | ⟨hc2,h⟩
  ·
   refine wk_ rfl rfl hc2 (fa_ fv_ ((p1.mono le2).at_ I4) rfl (wk_ rfl rfl hc2 (li_ sh3 (((p1.mono le2).at_ I4).fld Clue.fld2) rfl (wk_ rfl rfl hc2 (fa_ fv_ (p2.at_ I4) rfl (wk_ rfl rfl hc2 (li_ sh3 ((p2.at_ I4).fld Clue.fld2) rfl (wk_ rfl rfl hc2 (bv_ rfl rfl rfl (wo_ (ba_ (a:=(vb (a0.B==a1.B))) rfl rfl hc2 rfl (wm_ (v:=(vb (a0.B==a1.B))) rfl rfl ?_))))))))))))
   rcases ifs h with ⟨hc3,h⟩ | ⟨hc3,h⟩
   ·
    refine wk_ rfl rfl hc3 (fa_ ci_ ((p1.mono le2).at_ I4) rfl (wk_ rfl rfl hc3 (li_ sh3 (((p1.mono le2).at_ I4).fld Clue.fld3) rfl (wk_ rfl rfl hc3 (fa_ ci_ (p2.at_ I4) rfl (wk_ rfl rfl hc3 (li_ sh3 ((p2.at_ I4).fld Clue.fld3) rfl (wk_ rfl rfl hc3 (bv_ rfl rfl rfl (wo_ (ba_ (a:=(vb (a0.N==a1.N))) rfl rfl hc3 rfl (wm_ (v:=(vb (a0.N==a1.N))) rfl rfl ?_))))))))))))
    rcases ifs h with ⟨hc4,h⟩ | ⟨hc4,h⟩
    ·
     refine wk_ rfl rfl hc4 (fa_ fk_ ((p1.mono le2).at_ I4) rfl (wk_ rfl rfl hc4 (li_ sh3 (((p1.mono le2).at_ I4).fld Clue.fld4) rfl (wk_ rfl rfl hc4 (fa_ fk_ (p2.at_ I4) rfl (wk_ rfl rfl hc4 (li_ sh3 ((p2.at_ I4).fld Clue.fld4) rfl (wk_ rfl rfl hc4 (bv_ rfl rfl rfl (wo_ (ba_ (a:=(vb (a0.M==a1.M))) rfl rfl hc4 rfl (wm_ (v:=(vb (a0.M==a1.M))) rfl rfl ?_))))))))))))
     rcases ifs h with ⟨hc5,h⟩ | ⟨hc5,h⟩
     ·
      refine wk_ rfl rfl hc5 (fa_ mp_ ((p1.mono le2).at_ I4) rfl (wk_ rfl rfl hc5 (lb_ sh4 (((p1.mono le2).at_ I4).fld Clue.fld6) rfl (wk_ rfl rfl hc5 (fa_ mp_ (p2.at_ I4) rfl (wk_ rfl rfl hc5 (lb_ sh4 ((p2.at_ I4).fld Clue.fld6) rfl (wk_ rfl rfl hc5 (op_beql (a:=a0.Not) (b:=a1.Not) rfl Tryz.underlying4 rfl rfl (wo_ (ba_ (a:=(vb (a0.Not==a1.Not))) rfl rfl hc5 rfl (wm_ (v:=(vb (a0.Not==a1.Not))) rfl rfl ?_))))))))))))
      rcases ifs h with ⟨hc6,h⟩ | ⟨hc6,h⟩
      ·
       refine wk_ rfl rfl hc6 (fa_ pa_ ((p1.mono le2).at_ I4) rfl (wk_ rfl rfl hc6 (ld_ sh45 (((p1.mono le2).at_ I4).fld Clue.fld5) rfl (fun u1 hu1 => ?_))))
       obtain ⟨z3,m3,k3,rfl⟩:=bb_ hu1
       refine wk_ rfl rfl hc6 (fa_ pa_ (p2.at_ I4) rfl (wk_ rfl rfl hc6 (ld_ sh45 ((p2.at_ I4).fld Clue.fld5) rfl (fun u2 hu2 => ?_))))
       obtain ⟨z4,m4,k4,rfl⟩:=bb_ hu2
       obtain ⟨x1,hx1,h⟩:=bnd h
       refine wk_ rfl rfl hc6 (cv_ ca47 rfl I4 (fun Fr_ hF_=>uc_ hF_ hu1 hu2 hx1) (ep_ rfl rfl) (fun w3 I5=>(wo_ (ba_ (a:=(vb x1)) rfl rfl hc6 rfl (wa_ (v:=(vb x1)) rfl rfl (ad_ (ap_ ?_)))))))
       obtain rfl:=sj h
       exact ⟨rfl,(vb x1),(eb_ rfl rfl),_,[],(le1.trans le2),I5,rfl,rfl⟩
      refine ws_ rfl rfl hc6 (ws_ rfl rfl hc6 (ws_ rfl rfl hc6 (ws_ rfl rfl hc6 (ws_ rfl rfl hc6 (wo_ (ah_ (b:=(vb false)) rfl rfl hc6 rfl (wa_ (v:=(vb false)) rfl rfl (ad_ (ap_ ?_)))))))))
      obtain rfl:=sj h
      exact ⟨rfl,(vb false),(eb_ rfl rfl),_,[],(le1.trans le2),I4,rfl,rfl⟩
     refine ws_ rfl rfl hc5 (ws_ rfl rfl hc5 (ws_ rfl rfl hc5 (ws_ rfl rfl hc5 (ws_ rfl rfl hc5 (wo_ (ah_ (b:=(vb false)) rfl rfl hc5 rfl (wm_ (v:=(vb false)) rfl rfl (ws_ rfl rfl rfl (ws_ rfl rfl rfl (ws_ rfl rfl rfl (ws_ rfl rfl rfl (ws_ rfl rfl rfl (wo_ (ah_ (b:=(vb false)) rfl rfl rfl rfl (wa_ (v:=(vb false)) rfl rfl (ad_ (ap_ ?_)))))))))))))))))
     obtain rfl:=sj h
     exact ⟨rfl,(vb false),(eb_ rfl rfl),_,[],(le1.trans le2),I4,rfl,rfl⟩
    refine ws_ rfl rfl hc4 (ws_ rfl rfl hc4 (ws_ rfl rfl hc4 (ws_ rfl rfl hc4 (ws_ rfl rfl hc4 (wo_ (ah_ (b:=(vb false)) rfl rfl hc4 rfl (wm_ (v:=(vb false)) rfl rfl (ws_ rfl rfl rfl (ws_ rfl rfl rfl (ws_ rfl rfl rfl (ws_ rfl rfl rfl (ws_ rfl rfl rfl (wo_ (ah_ (b:=(vb false)) rfl rfl rfl rfl (wm_ (v:=(vb false)) rfl rfl (ws_ rfl rfl rfl (ws_ rfl rfl rfl (ws_ rfl rfl rfl (ws_ rfl rfl rfl (ws_ rfl rfl rfl (wo_ (ah_ (b:=(vb false)) rfl rfl rfl rfl (wa_ (v:=(vb false)) rfl rfl (ad_ (ap_ ?_)))))))))))))))))))))))))
    obtain rfl:=sj h
    exact ⟨rfl,(vb false),(eb_ rfl rfl),_,[],(le1.trans le2),I4,rfl,rfl⟩
   refine ws_ rfl rfl hc3 (ws_ rfl rfl hc3 (ws_ rfl rfl hc3 (ws_ rfl rfl hc3 (ws_ rfl rfl hc3 (wo_ (ah_ (b:=(vb false)) rfl rfl hc3 rfl (wm_ (v:=(vb false)) rfl rfl (ws_ rfl rfl rfl (ws_ rfl rfl rfl (ws_ rfl rfl rfl (ws_ rfl rfl rfl (ws_ rfl rfl rfl (wo_ (ah_ (b:=(vb false)) rfl rfl rfl rfl (wm_ (v:=(vb false)) rfl rfl (ws_ rfl rfl rfl (ws_ rfl rfl rfl (ws_ rfl rfl rfl (ws_ rfl rfl rfl (ws_ rfl rfl rfl (wo_ (ah_ (b:=(vb false)) rfl rfl rfl rfl (wm_ (v:=(vb false)) rfl rfl (ws_ rfl rfl rfl (ws_ rfl rfl rfl (ws_ rfl rfl rfl (ws_ rfl rfl rfl ?_)))))))))))))))))))))))))))
   refine ws_ rfl rfl rfl (wo_ (ah_ (b:=(vb false)) rfl rfl rfl rfl (wa_ (v:=(vb false)) rfl rfl (ad_ (ap_ ?_)))))
   obtain rfl:=sj h
   exact ⟨rfl,(vb false),(eb_ rfl rfl),_,[],(le1.trans le2),I4,rfl,rfl⟩
  refine ws_ rfl rfl hc2 (ws_ rfl rfl hc2 (ws_ rfl rfl hc2 (ws_ rfl rfl hc2 (ws_ rfl rfl hc2 (wo_ (ah_ (b:=(vb false)) rfl rfl hc2 rfl (wm_ (v:=(vb false)) rfl rfl (ws_ rfl rfl rfl (ws_ rfl rfl rfl (ws_ rfl rfl rfl (ws_ rfl rfl rfl (ws_ rfl rfl rfl (wo_ (ah_ (b:=(vb false)) rfl rfl rfl rfl (wm_ (v:=(vb false)) rfl rfl (ws_ rfl rfl rfl (ws_ rfl rfl rfl (ws_ rfl rfl rfl (ws_ rfl rfl rfl (ws_ rfl rfl rfl (wo_ (ah_ (b:=(vb false)) rfl rfl rfl rfl (wm_ (v:=(vb false)) rfl rfl (ws_ rfl rfl rfl (ws_ rfl rfl rfl (ws_ rfl rfl rfl (ws_ rfl rfl rfl ?_)))))))))))))))))))))))))))
  refine ws_ rfl rfl rfl (wo_ (ah_ (b:=(vb false)) rfl rfl rfl rfl (wm_ (v:=(vb false)) rfl rfl (ws_ rfl rfl rfl (ws_ rfl rfl rfl (ws_ rfl rfl rfl (ws_ rfl rfl rfl (ws_ rfl rfl rfl (wo_ (ah_ (b:=(vb false)) rfl rfl rfl rfl (wa_ (v:=(vb false)) rfl rfl (ad_ (ap_ ?_)))))))))))))
  obtain rfl:=sj h
  exact ⟨rfl,(vb false),(eb_ rfl rfl),_,[],(le1.trans le2),I4,rfl,rfl⟩
 refine ws_ rfl rfl hc1 (ws_ rfl rfl hc1 (ws_ rfl rfl hc1 (ws_ rfl rfl hc1 (ws_ rfl rfl hc1 (wo_ (ah_ (b:=(vb false)) rfl rfl hc1 rfl (wm_ (v:=(vb false)) rfl rfl (ws_ rfl rfl rfl (ws_ rfl rfl rfl (ws_ rfl rfl rfl (ws_ rfl rfl rfl (ws_ rfl rfl rfl (wo_ (ah_ (b:=(vb false)) rfl rfl rfl rfl (wm_ (v:=(vb false)) rfl rfl (ws_ rfl rfl rfl (ws_ rfl rfl rfl (ws_ rfl rfl rfl (ws_ rfl rfl rfl (ws_ rfl rfl rfl (wo_ (ah_ (b:=(vb false)) rfl rfl rfl rfl (wm_ (v:=(vb false)) rfl rfl (ws_ rfl rfl rfl (ws_ rfl rfl rfl (ws_ rfl rfl rfl (ws_ rfl rfl rfl ?_)))))))))))))))))))))))))))
 refine ws_ rfl rfl rfl (wo_ (ah_ (b:=(vb false)) rfl rfl rfl rfl (wm_ (v:=(vb false)) rfl rfl (ws_ rfl rfl rfl (ws_ rfl rfl rfl (ws_ rfl rfl rfl (ws_ rfl rfl rfl (ws_ rfl rfl rfl (wo_ (ah_ (b:=(vb false)) rfl rfl rfl rfl (wm_ (v:=(vb false)) rfl rfl (ws_ rfl rfl rfl (ws_ rfl rfl rfl (ws_ rfl rfl rfl (ws_ rfl rfl rfl (ws_ rfl rfl rfl (wo_ (ah_ (b:=(vb false)) rfl rfl rfl rfl (wa_ (v:=(vb false)) rfl rfl (ad_ (ap_ ?_)))))))))))))))))))))
 obtain rfl:=sj h
 exact ⟨rfl,(vb false),(eb_ rfl rfl),_,[],(le1.trans le2),I4,rfl,rfl⟩
theorem xm_ {w:World} {S:PH} {Fr:List HP} {a0:CodeLock} {v0:Value} {a1:Clue} {v1:Value} {r:Bool} (hI:Inv w S (Fr)) (h0_:RV S v0 a0) (h1_:RV S v1 a1) (h:kn_ a0 a1=some r) :
    Calls Tryz.prog 231 [v0,v1].toArray w (fh_ S Fr (Value.bool (r))):=by
 unfold kn_ at h
 have e1:=CodeLock.inv h0_
 subst e1
 obtain ⟨c1,e2,r1⟩:=Clue.inv h1_
 subst e2
 obtain ⟨z1,m1,k1,rfl⟩:=bb_ r1
 refine av_ (n:=173) Tryz.func231 rfl rfl rfl (ab_ (aa_ (wo_ (dv_ (v:=(.agg #[(vi a0.Wheels),(vi a0.Symbols)])) rfl hI rfl (fun g1 w1 I1 => ?_)))))
 obtain ⟨S1,le1,I2,p1⟩:=Inv.boxFreeze (x:=a0) I1 (CodeLock.rv (s:=a0))
 refine wo_ (dv_ (v:=(.agg #[(vi a1.Kind),(vi a1.A),(vi a1.B),(vi a1.N),(vi a1.M),(.slice z1 m1 k1),(vb a1.Not)])) rfl I2 rfl (fun g2 w2 I3 => ?_))
 obtain ⟨S2,le2,I4,p2⟩:=Inv.boxFreeze (x:=a1) I3 (Clue.rv (s:=a1) (r1.mono le1))
 refine wa_ (v:=(vb false)) rfl rfl (ad_ (ab_ ?_))
 obtain ⟨x1,hx1,h⟩:=bnd h
 obtain ⟨x2,hx2,h⟩:=bnd h
 refine ek_ (sps:=[spV 9 [] 0 (aq_ (pt_ g2) 1),spV 10 [0] 1 (vi a1.A),spV 11 [] 2 (aq_ (pt_ g1) 0),spV 12 [2] 3 (vi a0.Wheels),spV 13 [2,3] 4 (vi (w64 (a0.Wheels - 1))),spV 14 [0,1,2,3,4] 5 (vb x1),spV 15 [] 6 (aq_ (pt_ g2) 2),spV 16 [6] 7 (vi a1.B),spV 17 [] 8 (aq_ (pt_ g1) 0),spV 18 [8] 9 (vi a0.Wheels),spV 19 [8,9] 10 (vi (w64 (a0.Wheels - 1))),spV 20 (lrg 11) 11 (vb x2),spV 5 (lrg 12) 12 (vb x1),spV 6 (lrg 13) 13 (vb x2)]) (tks:=[]) (O:=Fr) rfl (by kernel_rfl) I4 ⟨ob_ rfl fun l A K I=>(ac_ rfl da_ (K 3 (au_ rfl)) ((p2.mono l).at_ I) (fo I)),ob_ rfl fun l A K I=>(aj_ rfl sh3 (A.v 0 rfl) (((p2.mono l).at_ I).fld Clue.fld1) (fo I)),ob_ rfl fun l A K I=>(ac_ rfl vi_ (K 2 (au_ rfl)) ((p1.mono (le2.trans l)).at_ I) (fo I)),ob_ rfl fun l A K I=>(aj_ rfl sh3 (A.v 0 rfl) (((p1.mono (le2.trans l)).at_ I).fld CodeLock.fld0) (fo I)),ob_ rfl fun l A K I=>(mo_ rfl (A.v 1 rfl) rfl (fo I)),fun vs f w U X l A K I=>pl_ rfl (cv_ ut_ rfl I (fun Fr_ hF_=>bw_ hF_  hx1) (mh_ (A.v 1 rfl) rfl (A.v 4 rfl)) (fun w11 I13=>(fo I13))),ob_ rfl fun l A K I=>(ac_ rfl fv_ (K 3 (au_ rfl)) ((p2.mono l).at_ I) (fo I)),ob_ rfl fun l A K I=>(aj_ rfl sh3 (A.v 0 rfl) (((p2.mono l).at_ I).fld Clue.fld2) (fo I)),ob_ rfl fun l A K I=>(ac_ rfl vi_ (K 2 (au_ rfl)) ((p1.mono (le2.trans l)).at_ I) (fo I)),ob_ rfl fun l A K I=>(aj_ rfl sh3 (A.v 0 rfl) (((p1.mono (le2.trans l)).at_ I).fld CodeLock.fld0) (fo I)),ob_ rfl fun l A K I=>(mo_ rfl (A.v 1 rfl) rfl (fo I)),fun vs f w U X l A K I=>pl_ rfl (cv_ ut_ rfl I (fun Fr_ hF_=>bw_ hF_  hx2) (mh_ (A.v 7 rfl) rfl (A.v 10 rfl)) (fun w18 I20=>(fo I20))),ob_ rfl fun l A K I=>(dm_ (v:=(vb x1)) rfl (A.v 5 rfl) (fo I)),?_,trivial⟩ ?_
 ·
  intro vs f w_ U X le A K I
  refine pl_ rfl (dm_ (v:=(vb x2)) rfl (A.v 11 rfl) (fo I))
 intro vs15 f w21 S17 ed1 le17 hF1 hK15 hI15
 have e4:f 2=(pt_ g1):=(hK15 2 (bf_ rfl)).trans rfl
 have e5:f 3=(pt_ g2):=(hK15 3 (bf_ rfl)).trans rfl
 have I23:Inv w21 S17 (Fr):=hI15
 have q13:=hF1.v 12 rfl
 have q14:=hF1.v 13 rfl
 refine ab_ (aa_ (wo_ (ac_ rfl vh_ e5 ((p2.mono le17).at_ I23) (wo_ (li_ sh3 (((p2.mono le17).at_ I23).fld Clue.fld0) rfl (wo_ (ac_ rfl mp_ e5 ((p2.mono le17).at_ I23) (wo_ (lb_ sh4 (((p2.mono le17).at_ I23).fld Clue.fld6) rfl (wo_ (op_build (qs:=[(0,#[(vi a1.Kind)]),(6,#[(vb a1.Not)])]) (c := #[(vi a1.Kind),(vi 0),(vi 0),(vi 0),(vi 0),sn,(vb a1.Not)]) rfl st98 ⟨rfl,rfl,⟨rfl,rfl,trivial⟩⟩ rfl (wo_ (tb_ (z:=(.agg #[(vi 0),(vi 0),(vi 0),(vi 0),(vi 0),sn,(vb false)])) rfl I23 zo98 (fun g3 w22 (I24:Inv w22 S17 (bh_ g3 98 #[(vi 0),(vi 0),(vi 0),(vi 0),(vi 0),sn,(vb false)]::Fr))=>(wo_ (bt_ (v:=(.agg #[(vi a1.Kind),(vi 0),(vi 0),(vi 0),(vi 0),sn,(vb a1.Not)])) (cs := #[(vi 0),(vi 0),(vi 0),(vi 0),(vi 0),sn,(vb false)]) xe_ I24 rfl rfl rfl nb rfl (fun w23 (I25:Inv w23 S17 (bh_ g3 98 #[(vi a1.Kind),(vi 0),(vi 0),(vi 0),(vi 0),sn,(vb a1.Not)]::Fr))=>(ad_ (ab_ (aa_ (wa_ (v:=(vb false)) rfl rfl (ad_ (ab_ (ab_ (aa_ (wo_ (ac_ rfl vh_ e5 ((p2.mono le17).at_ I25) (wo_ (li_ sh3 (((p2.mono le17).at_ I25).fld Clue.fld0) rfl (ad_ (bd_ (ab_ (aa_ (wo_ (bv_ rfl rfl rfl (wa_ (v:=(vb (a1.Kind==1))) rfl rfl (ad_ ?_)))))))))))))))))))))))))))))))))))))
 rcases ifs h with ⟨hc1,h⟩ | ⟨hc1,h⟩
 ·
  refine an_ rfl hc1 ?_
  obtain ⟨v1,h2,h⟩:=bnd h
  refine pf_ (fun f w=>Inv w S17 (bh_ g3 98 #[(vi a1.Kind),(vi 0),(vi 0),(vi 0),(vi 0),sn,(vb a1.Not)]::Fr)∧f 3=(pt_ g2)∧f 7=(pt_ g3)∧f 8=(vb v1)∧f.ds=[]) ?_ ?_
  ·
   refine aa_ (wm_ rfl q13 (wm_ (v:=(vb x1)) rfl rfl ?_))
   rcases ifs h2 with ⟨hc3,h2⟩ | ⟨hc3,h2⟩
   ·
    refine wk_ rfl rfl hc3 (ac_ rfl ci_ e5 ((p2.mono le17).at_ I25) (wk_ rfl rfl hc3 (li_ sh3 (((p2.mono le17).at_ I25).fld Clue.fld3) rfl (wk_ rfl rfl hc3 (ac_ rfl fa96_1 e4 ((p1.mono (le2.trans le17)).at_ I25) (wk_ rfl rfl hc3 (li_ sh3 (((p1.mono (le2.trans le17)).at_ I25).fld CodeLock.fld1) rfl (wk_ rfl rfl hc3 (mo_ rfl rfl rfl ?_)))))))))
    obtain ⟨x4,hx4,h2⟩:=bnd h2
    refine wk_ rfl rfl hc3 (cv_ ut_ rfl I25 (fun Fr_ hF_=>bw_ hF_  hx4) (mh_ rfl rfl rfl) (fun w25 I27=>(wo_ (ba_ (a:=(vb x4)) rfl rfl hc3 rfl (wa_ (v:=(vb x4)) rfl rfl (ad_ ?_))))))
    obtain rfl:=sj h2
    exact ⟨I27,e5,rfl,rfl,(ed1.trans rfl)⟩
   refine ws_ rfl rfl hc3 (ws_ rfl rfl hc3 (ws_ rfl rfl hc3 (ws_ rfl rfl hc3 (ws_ rfl rfl hc3 (ws_ rfl rfl hc3 (wo_ (ah_ (b:=(vb false)) rfl rfl hc3 rfl (wa_ (v:=(vb false)) rfl rfl (ad_ ?_)))))))))
   obtain rfl:=sj h2
   exact ⟨I25,e5,rfl,rfl,(ed1.trans rfl)⟩
  rintro f w ⟨I28,e6,e7,e8,ed2⟩
  refine ab_ (aa_ (wo_ (ac_ rfl da_ e6 ((p2.mono le17).at_ I28) (wo_ (li_ sh3 (((p2.mono le17).at_ I28).fld Clue.fld1) rfl (wo_ (aw_ (v:=(pt_ g3)) rfl da_ e7 rfl (wo_ (bt_ (v:=(vi a1.A)) (cs := #[(vi a1.Kind),(vi 0),(vi 0),(vi 0),(vi 0),sn,(vb a1.Not)]) sh3 I28 rfl rfl rfl nb rfl (fun w26 (I29:Inv w26 S17 (bh_ g3 98 #[(vi a1.Kind),(vi a1.A),(vi 0),(vi 0),(vi 0),sn,(vb a1.Not)]::Fr))=>(ad_ (aa_ (wo_ (ac_ rfl ci_ e6 ((p2.mono le17).at_ I29) (wo_ (li_ sh3 (((p2.mono le17).at_ I29).fld Clue.fld3) rfl (wo_ (aw_ (v:=(pt_ g3)) rfl ci_ e7 rfl (wo_ (bt_ (v:=(vi a1.N)) (cs := #[(vi a1.Kind),(vi a1.A),(vi 0),(vi 0),(vi 0),sn,(vb a1.Not)]) sh3 I29 rfl rfl rfl nb rfl (fun w27 (I30:Inv w27 S17 (bh_ g3 98 #[(vi a1.Kind),(vi a1.A),(vi 0),(vi a1.N),(vi 0),sn,(vb a1.Not)]::Fr))=>(ad_ (ab_ (aa_ (wm_ rfl e8 (wm_ (v:=(vb v1)) rfl rfl ?_))))))))))))))))))))))))))
  rcases ifs h with ⟨hc4,h⟩ | ⟨hc4,h⟩
  ·
   refine wk_ rfl rfl hc4 (ff_ rfl xe_ e6 ((p2.mono le17).at_ I30) (fun u1 hu1 => ?_))
   obtain ⟨c2,e9,r2⟩:=Clue.inv hu1
   subst e9
   obtain ⟨z2,m2,k2,rfl⟩:=bb_ r2
   refine wk_ rfl rfl hc4 (qx_ (l:=[(vi a1.Kind),(vi a1.A),(vi 0),(vi a1.N),(vi 0),sn,(vb a1.Not)]) rfl xe_ (I30.nth 0 rfl) e7 rfl rfl ?_)
   obtain ⟨x5,hx5,h⟩:=bnd h
   refine wk_ rfl rfl hc4 (cv_ ca55 rfl I30 (fun Fr_ hF_=>eh_ hF_ (Clue.rv (s:=a1) r2) (Clue.rv (s:=(⟨a1.Kind,a1.A,0,a1.N,0,([]:(List Int)),a1.Not⟩:Clue)) rv_nil) hx5) (ep_ rfl rfl) (fun w28 I31=>(wo_ (ba_ (a:=(vb x5)) rfl rfl hc4 rfl (wa_ (v:=(vb x5)) rfl rfl (ad_ (ap_ ?_)))))))
   obtain rfl:=sj h
   exact ⟨ed2,(vb x5),(eb_ rfl rfl),_,[],((le1.trans le2).trans le17),(I31).drop,rfl,rfl⟩
  refine ws_ rfl rfl hc4 (ws_ rfl rfl hc4 (ws_ rfl rfl hc4 (wo_ (ah_ (b:=(vb false)) rfl rfl hc4 rfl (wa_ (v:=(vb false)) rfl rfl (ad_ (ap_ ?_)))))))
  obtain rfl:=sj h
  exact ⟨ed2,(vb false),(eb_ rfl rfl),_,[],((le1.trans le2).trans le17),(I30).drop,rfl,rfl⟩
 refine ao_ rfl hc1 (ab_ (aa_ (wo_ (bv_ rfl rfl rfl (wa_ (v:=(vb (a1.Kind==2))) rfl rfl (ad_ ?_))))))
 rcases ifs h with ⟨hc5,h⟩ | ⟨hc5,h⟩
 ·
  refine an_ rfl hc5 ?_
  obtain ⟨v2,h5,h⟩:=bnd h
  refine pf_ (fun f w=>Inv w S17 (bh_ g3 98 #[(vi a1.Kind),(vi 0),(vi 0),(vi 0),(vi 0),sn,(vb a1.Not)]::Fr)∧f 3=(pt_ g2)∧f 7=(pt_ g3)∧f 8=(vb v2)∧f.ds=[]) ?_ ?_
  ·
   refine aa_ (wm_ rfl q13 (wm_ (v:=(vb x1)) rfl rfl ?_))
   rcases ifs h5 with ⟨hc9,h5⟩ | ⟨hc9,h5⟩
   ·
    refine wk_ rfl rfl hc9 (br_ rfl q14 (wo_ (ba_ (a:=(vb x2)) rfl rfl hc9 rfl (wm_ (v:=(vb x2)) rfl rfl ?_))))
    rcases ifs h5 with ⟨hc10,h5⟩ | ⟨hc10,h5⟩
    ·
     refine wk_ rfl rfl hc10 (ac_ rfl da_ e5 ((p2.mono le17).at_ I25) (wk_ rfl rfl hc10 (li_ sh3 (((p2.mono le17).at_ I25).fld Clue.fld1) rfl (wk_ rfl rfl hc10 (ac_ rfl fv_ e5 ((p2.mono le17).at_ I25) (wk_ rfl rfl hc10 (li_ sh3 (((p2.mono le17).at_ I25).fld Clue.fld2) rfl (wk_ rfl rfl hc10 (op_leq rfl rfl rfl (wo_ (ba_ (a:=(vb (decide (a1.A≤a1.B)))) rfl rfl hc10 rfl (wm_ (v:=(vb (decide (a1.A≤a1.B)))) rfl rfl ?_))))))))))))
     rcases ifs h5 with ⟨hc11,h5⟩ | ⟨hc11,h5⟩
     ·
      refine wk_ rfl rfl hc11 (ac_ rfl ci_ e5 ((p2.mono le17).at_ I25) (wk_ rfl rfl hc11 (li_ sh3 (((p2.mono le17).at_ I25).fld Clue.fld3) rfl ?_)))
      obtain ⟨x7,hx7,h5⟩:=bnd h5
      refine wk_ rfl rfl hc11 (cv_ ut_ rfl I25 (fun Fr_ hF_=>bw_ hF_  hx7) (mh_ rfl rfl rfl) (fun w30 I33=>(wo_ (ba_ (a:=(vb x7)) rfl rfl hc11 rfl (wa_ (v:=(vb x7)) rfl rfl (ad_ ?_))))))
      obtain rfl:=sj h5
      exact ⟨I33,e5,rfl,rfl,(ed1.trans rfl)⟩
     refine ws_ rfl rfl hc11 (ws_ rfl rfl hc11 (ws_ rfl rfl hc11 (wo_ (ah_ (b:=(vb false)) rfl rfl hc11 rfl (wa_ (v:=(vb false)) rfl rfl (ad_ ?_))))))
     obtain rfl:=sj h5
     exact ⟨I25,e5,rfl,rfl,(ed1.trans rfl)⟩
    refine ws_ rfl rfl hc10 (ws_ rfl rfl hc10 (ws_ rfl rfl hc10 (ws_ rfl rfl hc10 (ws_ rfl rfl hc10 (wo_ (ah_ (b:=(vb false)) rfl rfl hc10 rfl (wm_ (v:=(vb false)) rfl rfl (ws_ rfl rfl rfl (ws_ rfl rfl rfl (ws_ rfl rfl rfl (wo_ (ah_ (b:=(vb false)) rfl rfl rfl rfl (wa_ (v:=(vb false)) rfl rfl (ad_ ?_))))))))))))))
    obtain rfl:=sj h5
    exact ⟨I25,e5,rfl,rfl,(ed1.trans rfl)⟩
   refine ws_ rfl rfl hc9 (wo_ (ah_ (b:=(vb false)) rfl rfl hc9 rfl (wm_ (v:=(vb false)) rfl rfl (ws_ rfl rfl rfl (ws_ rfl rfl rfl (ws_ rfl rfl rfl (ws_ rfl rfl rfl (ws_ rfl rfl rfl (wo_ (ah_ (b:=(vb false)) rfl rfl rfl rfl (wm_ (v:=(vb false)) rfl rfl (ws_ rfl rfl rfl (ws_ rfl rfl rfl (ws_ rfl rfl rfl (wo_ (ah_ (b:=(vb false)) rfl rfl rfl rfl (wa_ (v:=(vb false)) rfl rfl (ad_ ?_))))))))))))))))))
   obtain rfl:=sj h5
   exact ⟨I25,e5,rfl,rfl,(ed1.trans rfl)⟩
  rintro f w ⟨I34,e11,e12,e13,ed3⟩
  refine ab_ (aa_ (wo_ (ac_ rfl da_ e11 ((p2.mono le17).at_ I34) (wo_ (li_ sh3 (((p2.mono le17).at_ I34).fld Clue.fld1) rfl (wo_ (aw_ (v:=(pt_ g3)) rfl da_ e12 rfl (wo_ (bt_ (v:=(vi a1.A)) (cs := #[(vi a1.Kind),(vi 0),(vi 0),(vi 0),(vi 0),sn,(vb a1.Not)]) sh3 I34 rfl rfl rfl nb rfl (fun w31 (I35:Inv w31 S17 (bh_ g3 98 #[(vi a1.Kind),(vi a1.A),(vi 0),(vi 0),(vi 0),sn,(vb a1.Not)]::Fr))=>(ad_ (ab_ (aa_ (wo_ (ac_ rfl fv_ e11 ((p2.mono le17).at_ I35) (wo_ (li_ sh3 (((p2.mono le17).at_ I35).fld Clue.fld2) rfl (wo_ (aw_ (v:=(pt_ g3)) rfl fv_ e12 rfl (wo_ (bt_ (v:=(vi a1.B)) (cs := #[(vi a1.Kind),(vi a1.A),(vi 0),(vi 0),(vi 0),sn,(vb a1.Not)]) sh3 I35 rfl rfl rfl nb rfl (fun w32 (I36:Inv w32 S17 (bh_ g3 98 #[(vi a1.Kind),(vi a1.A),(vi a1.B),(vi 0),(vi 0),sn,(vb a1.Not)]::Fr))=>(ad_ (aa_ (wo_ (ac_ rfl ci_ e11 ((p2.mono le17).at_ I36) (wo_ (li_ sh3 (((p2.mono le17).at_ I36).fld Clue.fld3) rfl (wo_ (aw_ (v:=(pt_ g3)) rfl ci_ e12 rfl (wo_ (bt_ (v:=(vi a1.N)) (cs := #[(vi a1.Kind),(vi a1.A),(vi a1.B),(vi 0),(vi 0),sn,(vb a1.Not)]) sh3 I36 rfl rfl rfl nb rfl (fun w33 (I37:Inv w33 S17 (bh_ g3 98 #[(vi a1.Kind),(vi a1.A),(vi a1.B),(vi a1.N),(vi 0),sn,(vb a1.Not)]::Fr))=>(ad_ (ab_ (aa_ (wm_ rfl e13 (wm_ (v:=(vb v2)) rfl rfl ?_))))))))))))))))))))))))))))))))))))))
  rcases ifs h with ⟨hc12,h⟩ | ⟨hc12,h⟩
  ·
   refine wk_ rfl rfl hc12 (ff_ rfl xe_ e11 ((p2.mono le17).at_ I37) (fun u2 hu2 => ?_))
   obtain ⟨c3,e14,r3⟩:=Clue.inv hu2
   subst e14
   obtain ⟨z3,m3,k3,rfl⟩:=bb_ r3
   refine wk_ rfl rfl hc12 (qx_ (l:=[(vi a1.Kind),(vi a1.A),(vi a1.B),(vi a1.N),(vi 0),sn,(vb a1.Not)]) rfl xe_ (I37.nth 0 rfl) e12 rfl rfl ?_)
   obtain ⟨x8,hx8,h⟩:=bnd h
   refine wk_ rfl rfl hc12 (cv_ ca55 rfl I37 (fun Fr_ hF_=>eh_ hF_ (Clue.rv (s:=a1) r3) (Clue.rv (s:=(⟨a1.Kind,a1.A,a1.B,a1.N,0,([]:(List Int)),a1.Not⟩:Clue)) rv_nil) hx8) (ep_ rfl rfl) (fun w34 I38=>(wo_ (ba_ (a:=(vb x8)) rfl rfl hc12 rfl (wa_ (v:=(vb x8)) rfl rfl (ad_ (ap_ ?_)))))))
   obtain rfl:=sj h
   exact ⟨ed3,(vb x8),(eb_ rfl rfl),_,[],((le1.trans le2).trans le17),(I38).drop,rfl,rfl⟩
  refine ws_ rfl rfl hc12 (ws_ rfl rfl hc12 (ws_ rfl rfl hc12 (wo_ (ah_ (b:=(vb false)) rfl rfl hc12 rfl (wa_ (v:=(vb false)) rfl rfl (ad_ (ap_ ?_)))))))
  obtain rfl:=sj h
  exact ⟨ed3,(vb false),(eb_ rfl rfl),_,[],((le1.trans le2).trans le17),(I37).drop,rfl,rfl⟩
 refine ao_ rfl hc5 ?_
 obtain ⟨v3,h8,h⟩:=bnd h
 refine pf_ (fun f w=>Inv w S17 (bh_ g3 98 #[(vi a1.Kind),(vi 0),(vi 0),(vi 0),(vi 0),sn,(vb a1.Not)]::Fr)∧f 2=(pt_ g1)∧f 3=(pt_ g2)∧f 5=(vb x1)∧f 6=(vb x2)∧f 7=(pt_ g3)∧f 8=(vb false)∧f 27=(vi a1.Kind)∧f 72=(vb v3)∧f.ds=[]) ?_ ?_
 ·
  refine ab_ (aa_ (wo_ (bv_ rfl rfl rfl (wa_ (v:=(vb (a1.Kind==3))) rfl rfl (ad_ ?_)))))
  rcases ifs h8 with ⟨hc14,h8⟩ | ⟨hc14,h8⟩
  ·
   refine an_ rfl hc14 (bc_ ?_)
   obtain rfl:=sj h8
   exact ⟨I25,e4,e5,q13,q14,rfl,rfl,rfl,rfl,(ed1.trans rfl)⟩
  refine ao_ rfl hc14 (aa_ (wo_ (bv_ rfl rfl rfl (wa_ (v:=(vb (a1.Kind==4))) rfl rfl (ad_ ?_)))))
  obtain rfl:=sj h8
  exact ⟨I25,e4,e5,q13,q14,rfl,rfl,rfl,rfl,(ed1.trans rfl)⟩
 rintro f w ⟨I39,e16,e17,e18,e19,e20,e21,e22,e23,ed4⟩
 rcases ifs h with ⟨hc15,h⟩ | ⟨hc15,h⟩
 ·
  refine an_ e23 hc15 ?_
  obtain ⟨v4,h11,h⟩:=bnd h
  refine pf_ (fun f w=>Inv w S17 (bh_ g3 98 #[(vi a1.Kind),(vi 0),(vi 0),(vi 0),(vi 0),sn,(vb a1.Not)]::Fr)∧f 3=(pt_ g2)∧f 7=(pt_ g3)∧f 8=(vb v4)∧f.ds=[]) ?_ ?_
  ·
   refine aa_ (wm_ rfl e18 (wm_ (v:=(vb x1)) rfl rfl ?_))
   rcases ifs h11 with ⟨hc18,h11⟩ | ⟨hc18,h11⟩
   ·
    refine wk_ rfl rfl hc18 (br_ rfl e19 (wo_ (ba_ (a:=(vb x2)) rfl rfl hc18 rfl (wm_ (v:=(vb x2)) rfl rfl ?_))))
    rcases ifs h11 with ⟨hc19,h11⟩ | ⟨hc19,h11⟩
    ·
     refine wk_ rfl rfl hc19 (ac_ rfl da_ e17 ((p2.mono le17).at_ I39) (wk_ rfl rfl hc19 (li_ sh3 (((p2.mono le17).at_ I39).fld Clue.fld1) rfl (wk_ rfl rfl hc19 (ac_ rfl fv_ e17 ((p2.mono le17).at_ I39) (wk_ rfl rfl hc19 (li_ sh3 (((p2.mono le17).at_ I39).fld Clue.fld2) rfl (wk_ rfl rfl hc19 (nt_ rfl rfl rfl (wo_ (ba_ (a:=(vb (a1.A != a1.B))) rfl rfl hc19 rfl (wa_ (v:=(vb (a1.A != a1.B))) rfl rfl (ad_ ?_)))))))))))))
     obtain rfl:=sj h11
     exact ⟨I39,e17,e20,rfl,ed4⟩
    refine ws_ rfl rfl hc19 (ws_ rfl rfl hc19 (ws_ rfl rfl hc19 (ws_ rfl rfl hc19 (ws_ rfl rfl hc19 (wo_ (ah_ (b:=(vb false)) rfl rfl hc19 rfl (wa_ (v:=(vb false)) rfl rfl (ad_ ?_))))))))
    obtain rfl:=sj h11
    exact ⟨I39,e17,e20,rfl,ed4⟩
   refine ws_ rfl rfl hc18 (wo_ (ah_ (b:=(vb false)) rfl rfl hc18 rfl (wm_ (v:=(vb false)) rfl rfl (ws_ rfl rfl rfl (ws_ rfl rfl rfl (ws_ rfl rfl rfl (ws_ rfl rfl rfl (ws_ rfl rfl rfl (wo_ (ah_ (b:=(vb false)) rfl rfl rfl rfl (wa_ (v:=(vb false)) rfl rfl (ad_ ?_))))))))))))
   obtain rfl:=sj h11
   exact ⟨I39,e17,e20,rfl,ed4⟩
  rintro f w ⟨I40,e24,e25,e26,ed5⟩
  refine ab_ (aa_ (wo_ (ac_ rfl da_ e24 ((p2.mono le17).at_ I40) (wo_ (li_ sh3 (((p2.mono le17).at_ I40).fld Clue.fld1) rfl (wo_ (aw_ (v:=(pt_ g3)) rfl da_ e25 rfl (wo_ (bt_ (v:=(vi a1.A)) (cs := #[(vi a1.Kind),(vi 0),(vi 0),(vi 0),(vi 0),sn,(vb a1.Not)]) sh3 I40 rfl rfl rfl nb rfl (fun w35 (I41:Inv w35 S17 (bh_ g3 98 #[(vi a1.Kind),(vi a1.A),(vi 0),(vi 0),(vi 0),sn,(vb a1.Not)]::Fr))=>(ad_ (aa_ (wo_ (ac_ rfl fv_ e24 ((p2.mono le17).at_ I41) (wo_ (li_ sh3 (((p2.mono le17).at_ I41).fld Clue.fld2) rfl (wo_ (aw_ (v:=(pt_ g3)) rfl fv_ e25 rfl (wo_ (bt_ (v:=(vi a1.B)) (cs := #[(vi a1.Kind),(vi a1.A),(vi 0),(vi 0),(vi 0),sn,(vb a1.Not)]) sh3 I41 rfl rfl rfl nb rfl (fun w36 (I42:Inv w36 S17 (bh_ g3 98 #[(vi a1.Kind),(vi a1.A),(vi a1.B),(vi 0),(vi 0),sn,(vb a1.Not)]::Fr))=>(ad_ (ab_ (aa_ (wm_ rfl e26 (wm_ (v:=(vb v4)) rfl rfl ?_))))))))))))))))))))))))))
  rcases ifs h with ⟨hc20,h⟩ | ⟨hc20,h⟩
  ·
   refine wk_ rfl rfl hc20 (ff_ rfl xe_ e24 ((p2.mono le17).at_ I42) (fun u3 hu3 => ?_))
   obtain ⟨c4,e27,r4⟩:=Clue.inv hu3
   subst e27
   obtain ⟨z4,m4,k4,rfl⟩:=bb_ r4
   refine wk_ rfl rfl hc20 (qx_ (l:=[(vi a1.Kind),(vi a1.A),(vi a1.B),(vi 0),(vi 0),sn,(vb a1.Not)]) rfl xe_ (I42.nth 0 rfl) e25 rfl rfl ?_)
   obtain ⟨x9,hx9,h⟩:=bnd h
   refine wk_ rfl rfl hc20 (cv_ ca55 rfl I42 (fun Fr_ hF_=>eh_ hF_ (Clue.rv (s:=a1) r4) (Clue.rv (s:=(⟨a1.Kind,a1.A,a1.B,0,0,([]:(List Int)),a1.Not⟩:Clue)) rv_nil) hx9) (ep_ rfl rfl) (fun w37 I43=>(wo_ (ba_ (a:=(vb x9)) rfl rfl hc20 rfl (wa_ (v:=(vb x9)) rfl rfl (ad_ (ap_ ?_)))))))
   obtain rfl:=sj h
   exact ⟨ed5,(vb x9),(eb_ rfl rfl),_,[],((le1.trans le2).trans le17),(I43).drop,rfl,rfl⟩
  refine ws_ rfl rfl hc20 (ws_ rfl rfl hc20 (ws_ rfl rfl hc20 (wo_ (ah_ (b:=(vb false)) rfl rfl hc20 rfl (wa_ (v:=(vb false)) rfl rfl (ad_ (ap_ ?_)))))))
  obtain rfl:=sj h
  exact ⟨ed5,(vb false),(eb_ rfl rfl),_,[],((le1.trans le2).trans le17),(I42).drop,rfl,rfl⟩
 refine ao_ e23 hc15 (ab_ (aa_ (wo_ (bv_ rfl e22 rfl (wa_ (v:=(vb (a1.Kind==5))) rfl rfl (ad_ ?_))))))
 rcases ifs h with ⟨hc21,h⟩ | ⟨hc21,h⟩
 ·
  refine an_ rfl hc21 ?_
  obtain ⟨v5,h14,h⟩:=bnd h
  refine pf_ (fun f w=>Inv w S17 (bh_ g3 98 #[(vi a1.Kind),(vi 0),(vi 0),(vi 0),(vi 0),sn,(vb a1.Not)]::Fr)∧f 3=(pt_ g2)∧f 7=(pt_ g3)∧f 8=(vb v5)∧f.ds=[]) ?_ ?_
  ·
   refine aa_ (wo_ (ac_ rfl ci_ e17 ((p2.mono le17).at_ I39) (wo_ (li_ sh3 (((p2.mono le17).at_ I39).fld Clue.fld3) rfl (wo_ (ac_ rfl fa96_1 e16 ((p1.mono (le2.trans le17)).at_ I39) (wo_ (li_ sh3 (((p1.mono (le2.trans le17)).at_ I39).fld CodeLock.fld1) rfl (wo_ (mo_ rfl rfl rfl ?_))))))))))
   obtain ⟨x12,hx12,h14⟩:=bnd h14
   refine wo_ (cv_ ut_ rfl I39 (fun Fr_ hF_=>bw_ hF_  hx12) (mh_ rfl rfl rfl) (fun w40 I46=>(wm_ (v:=(vb x12)) rfl rfl ?_)))
   rcases ifs h14 with ⟨hc23,h14⟩ | ⟨hc23,h14⟩
   ·
    refine wk_ rfl rfl hc23 (ac_ rfl fk_ e17 ((p2.mono le17).at_ I46) (wk_ rfl rfl hc23 (li_ sh3 (((p2.mono le17).at_ I46).fld Clue.fld4) rfl (wk_ rfl rfl hc23 (ac_ rfl vi_ e16 ((p1.mono (le2.trans le17)).at_ I46) (wk_ rfl rfl hc23 (li_ sh3 (((p1.mono (le2.trans le17)).at_ I46).fld CodeLock.fld0) rfl ?_)))))))
    obtain ⟨x13,hx13,h14⟩:=bnd h14
    refine wk_ rfl rfl hc23 (cv_ ut_ rfl I46 (fun Fr_ hF_=>bw_ hF_  hx13) (mh_ rfl rfl rfl) (fun w41 I47=>(wo_ (ba_ (a:=(vb x13)) rfl rfl hc23 rfl (wa_ (v:=(vb x13)) rfl rfl (ad_ ?_))))))
    obtain rfl:=sj h14
    exact ⟨I47,e17,e20,rfl,ed4⟩
   refine ws_ rfl rfl hc23 (ws_ rfl rfl hc23 (ws_ rfl rfl hc23 (ws_ rfl rfl hc23 (ws_ rfl rfl hc23 (wo_ (ah_ (b:=(vb false)) rfl rfl hc23 rfl (wa_ (v:=(vb false)) rfl rfl (ad_ ?_))))))))
   obtain rfl:=sj h14
   exact ⟨I46,e17,e20,rfl,ed4⟩
  rintro f w ⟨I48,e29,e30,e31,ed6⟩
  refine ab_ (aa_ (wo_ (ac_ rfl ci_ e29 ((p2.mono le17).at_ I48) (wo_ (li_ sh3 (((p2.mono le17).at_ I48).fld Clue.fld3) rfl (wo_ (aw_ (v:=(pt_ g3)) rfl ci_ e30 rfl (wo_ (bt_ (v:=(vi a1.N)) (cs := #[(vi a1.Kind),(vi 0),(vi 0),(vi 0),(vi 0),sn,(vb a1.Not)]) sh3 I48 rfl rfl rfl nb rfl (fun w42 (I49:Inv w42 S17 (bh_ g3 98 #[(vi a1.Kind),(vi 0),(vi 0),(vi a1.N),(vi 0),sn,(vb a1.Not)]::Fr))=>(ad_ (aa_ (wo_ (ac_ rfl fk_ e29 ((p2.mono le17).at_ I49) (wo_ (li_ sh3 (((p2.mono le17).at_ I49).fld Clue.fld4) rfl (wo_ (aw_ (v:=(pt_ g3)) rfl fk_ e30 rfl (wo_ (bt_ (v:=(vi a1.M)) (cs := #[(vi a1.Kind),(vi 0),(vi 0),(vi a1.N),(vi 0),sn,(vb a1.Not)]) sh3 I49 rfl rfl rfl nb rfl (fun w43 (I50:Inv w43 S17 (bh_ g3 98 #[(vi a1.Kind),(vi 0),(vi 0),(vi a1.N),(vi a1.M),sn,(vb a1.Not)]::Fr))=>(ad_ (ab_ (aa_ (wm_ rfl e31 (wm_ (v:=(vb v5)) rfl rfl ?_))))))))))))))))))))))))))
  rcases ifs h with ⟨hc24,h⟩ | ⟨hc24,h⟩
  ·
   refine wk_ rfl rfl hc24 (ff_ rfl xe_ e29 ((p2.mono le17).at_ I50) (fun u4 hu4 => ?_))
   obtain ⟨c5,e32,r5⟩:=Clue.inv hu4
   subst e32
   obtain ⟨z5,m5,k5,rfl⟩:=bb_ r5
   refine wk_ rfl rfl hc24 (qx_ (l:=[(vi a1.Kind),(vi 0),(vi 0),(vi a1.N),(vi a1.M),sn,(vb a1.Not)]) rfl xe_ (I50.nth 0 rfl) e30 rfl rfl ?_)
   obtain ⟨x14,hx14,h⟩:=bnd h
   refine wk_ rfl rfl hc24 (cv_ ca55 rfl I50 (fun Fr_ hF_=>eh_ hF_ (Clue.rv (s:=a1) r5) (Clue.rv (s:=(⟨a1.Kind,0,0,a1.N,a1.M,([]:(List Int)),a1.Not⟩:Clue)) rv_nil) hx14) (ep_ rfl rfl) (fun w44 I51=>(wo_ (ba_ (a:=(vb x14)) rfl rfl hc24 rfl (wa_ (v:=(vb x14)) rfl rfl (ad_ (ap_ ?_)))))))
   obtain rfl:=sj h
   exact ⟨ed6,(vb x14),(eb_ rfl rfl),_,[],((le1.trans le2).trans le17),(I51).drop,rfl,rfl⟩
  refine ws_ rfl rfl hc24 (ws_ rfl rfl hc24 (ws_ rfl rfl hc24 (wo_ (ah_ (b:=(vb false)) rfl rfl hc24 rfl (wa_ (v:=(vb false)) rfl rfl (ad_ (ap_ ?_)))))))
  obtain rfl:=sj h
  exact ⟨ed6,(vb false),(eb_ rfl rfl),_,[],((le1.trans le2).trans le17),(I50).drop,rfl,rfl⟩
 refine ao_ rfl hc21 (ab_ (aa_ (wo_ (bv_ rfl e22 rfl (wa_ (v:=(vb (a1.Kind==6))) rfl rfl (ad_ ?_))))))
 rcases ifs h with ⟨hc25,h⟩ | ⟨hc25,h⟩
 ·
  refine an_ rfl hc25 ?_
  obtain ⟨v6,h17,h⟩:=bnd h
  refine pf_ (fun f w=>Inv w S17 (bh_ g3 98 #[(vi a1.Kind),(vi 0),(vi 0),(vi 0),(vi 0),sn,(vb a1.Not)]::Fr)∧f 3=(pt_ g2)∧f 7=(pt_ g3)∧f 8=(vb v6)∧f.ds=[]) ?_ ?_
  ·
   refine aa_ (wo_ (ff_ rfl sh96 e16 ((p1.mono (le2.trans le17)).at_ I39) (fun u7 hu7 => ?_)))
   have e36:=CodeLock.inv hu7
   subst e36
   refine wo_ (ac_ rfl pa_ e17 ((p2.mono le17).at_ I39) (wo_ (ld_ sh45 (((p2.mono le17).at_ I39).fld Clue.fld5) rfl (fun u8 hu8 => ?_))))
   obtain ⟨z7,m7,k7,rfl⟩:=bb_ hu8
   obtain ⟨x18,hx18,h17⟩:=bnd h17
   refine wo_ (cv_ ca167 rfl I39 (fun Fr_ hF_=>pj_ hF_ (CodeLock.rv (s:=a0)) hu8 hx18) (ep_ rfl rfl) (fun w48 I55=>(wm_ (v:=(vb x18)) rfl rfl ?_)))
   rcases ifs h17 with ⟨hc28,h17⟩ | ⟨hc28,h17⟩
   ·
    refine wk_ rfl rfl hc28 (ac_ rfl ci_ e17 ((p2.mono le17).at_ I55) (wk_ rfl rfl hc28 (li_ sh3 (((p2.mono le17).at_ I55).fld Clue.fld3) rfl (wk_ rfl rfl hc28 (ac_ rfl vi_ e16 ((p1.mono (le2.trans le17)).at_ I55) (wk_ rfl rfl hc28 (li_ sh3 (((p1.mono (le2.trans le17)).at_ I55).fld CodeLock.fld0) rfl ?_)))))))
    obtain ⟨x19,hx19,h17⟩:=bnd h17
    refine wk_ rfl rfl hc28 (cv_ ut_ rfl I55 (fun Fr_ hF_=>bw_ hF_  hx19) (mh_ rfl rfl rfl) (fun w49 I56=>(wo_ (ba_ (a:=(vb x19)) rfl rfl hc28 rfl (wm_ (v:=(vb x19)) rfl rfl ?_)))))
    rcases ifs h17 with ⟨hc29,h17⟩ | ⟨hc29,h17⟩
    ·
     refine wk_ rfl rfl hc29 (ac_ rfl fk_ e17 ((p2.mono le17).at_ I56) (wk_ rfl rfl hc29 (li_ sh3 (((p2.mono le17).at_ I56).fld Clue.fld4) rfl (wk_ rfl rfl hc29 (ac_ rfl vi_ e16 ((p1.mono (le2.trans le17)).at_ I56) (wk_ rfl rfl hc29 (li_ sh3 (((p1.mono (le2.trans le17)).at_ I56).fld CodeLock.fld0) rfl ?_)))))))
     obtain ⟨x20,hx20,h17⟩:=bnd h17
     refine wk_ rfl rfl hc29 (cv_ ut_ rfl I56 (fun Fr_ hF_=>bw_ hF_  hx20) (mh_ rfl rfl rfl) (fun w50 I57=>(wo_ (ba_ (a:=(vb x20)) rfl rfl hc29 rfl (wa_ (v:=(vb x20)) rfl rfl (ad_ ?_))))))
     obtain rfl:=sj h17
     exact ⟨I57,e17,e20,rfl,ed4⟩
    refine ws_ rfl rfl hc29 (ws_ rfl rfl hc29 (ws_ rfl rfl hc29 (ws_ rfl rfl hc29 (ws_ rfl rfl hc29 (wo_ (ah_ (b:=(vb false)) rfl rfl hc29 rfl (wa_ (v:=(vb false)) rfl rfl (ad_ ?_))))))))
    obtain rfl:=sj h17
    exact ⟨I56,e17,e20,rfl,ed4⟩
   refine ws_ rfl rfl hc28 (ws_ rfl rfl hc28 (ws_ rfl rfl hc28 (ws_ rfl rfl hc28 (ws_ rfl rfl hc28 (wo_ (ah_ (b:=(vb false)) rfl rfl hc28 rfl (wm_ (v:=(vb false)) rfl rfl (ws_ rfl rfl rfl (ws_ rfl rfl rfl (ws_ rfl rfl rfl (ws_ rfl rfl rfl (ws_ rfl rfl rfl (wo_ (ah_ (b:=(vb false)) rfl rfl rfl rfl (wa_ (v:=(vb false)) rfl rfl (ad_ ?_))))))))))))))))
   obtain rfl:=sj h17
   exact ⟨I55,e17,e20,rfl,ed4⟩
  rintro f w ⟨I58,e38,e39,e40,ed7⟩
  refine ab_ (aa_ (wo_ (ac_ rfl ci_ e38 ((p2.mono le17).at_ I58) (wo_ (li_ sh3 (((p2.mono le17).at_ I58).fld Clue.fld3) rfl (wo_ (aw_ (v:=(pt_ g3)) rfl ci_ e39 rfl (wo_ (bt_ (v:=(vi a1.N)) (cs := #[(vi a1.Kind),(vi 0),(vi 0),(vi 0),(vi 0),sn,(vb a1.Not)]) sh3 I58 rfl rfl rfl nb rfl (fun w51 (I59:Inv w51 S17 (bh_ g3 98 #[(vi a1.Kind),(vi 0),(vi 0),(vi a1.N),(vi 0),sn,(vb a1.Not)]::Fr))=>(ad_ (ab_ (aa_ (wo_ (ac_ rfl fk_ e38 ((p2.mono le17).at_ I59) (wo_ (li_ sh3 (((p2.mono le17).at_ I59).fld Clue.fld4) rfl (wo_ (aw_ (v:=(pt_ g3)) rfl fk_ e39 rfl (wo_ (bt_ (v:=(vi a1.M)) (cs := #[(vi a1.Kind),(vi 0),(vi 0),(vi a1.N),(vi 0),sn,(vb a1.Not)]) sh3 I59 rfl rfl rfl nb rfl (fun w52 (I60:Inv w52 S17 (bh_ g3 98 #[(vi a1.Kind),(vi 0),(vi 0),(vi a1.N),(vi a1.M),sn,(vb a1.Not)]::Fr))=>(ad_ (aa_ (wo_ (ac_ rfl pa_ e38 ((p2.mono le17).at_ I60) (wo_ (ld_ sh45 (((p2.mono le17).at_ I60).fld Clue.fld5) rfl (fun u9 hu9 => ?_)))))))))))))))))))))))))))))
  obtain ⟨z8,m8,k8,rfl⟩:=bb_ hu9
  refine wo_ (aw_ (v:=(pt_ g3)) rfl pa_ e39 rfl (wo_ (bt_ (v:=(.slice z8 m8 k8)) (cs := #[(vi a1.Kind),(vi 0),(vi 0),(vi a1.N),(vi a1.M),sn,(vb a1.Not)]) sh45 I60 rfl rfl rfl nb rfl (fun w53 (I61:Inv w53 S17 (bh_ g3 98 #[(vi a1.Kind),(vi 0),(vi 0),(vi a1.N),(vi a1.M),(.slice z8 m8 k8),(vb a1.Not)]::Fr))=>(ad_ (ab_ (aa_ (wm_ rfl e40 (wm_ (v:=(vb v6)) rfl rfl ?_)))))))))
  rcases ifs h with ⟨hc30,h⟩ | ⟨hc30,h⟩
  ·
   refine wk_ rfl rfl hc30 (ff_ rfl xe_ e38 ((p2.mono le17).at_ I61) (fun u10 hu10 => ?_))
   obtain ⟨c6,e42,r6⟩:=Clue.inv hu10
   subst e42
   obtain ⟨z9,m9,k9,rfl⟩:=bb_ r6
   refine wk_ rfl rfl hc30 (qx_ (l:=[(vi a1.Kind),(vi 0),(vi 0),(vi a1.N),(vi a1.M),(.slice z8 m8 k8),(vb a1.Not)]) rfl xe_ (I61.nth 0 rfl) e39 rfl rfl ?_)
   obtain ⟨x21,hx21,h⟩:=bnd h
   refine wk_ rfl rfl hc30 (cv_ ca55 rfl I61 (fun Fr_ hF_=>eh_ hF_ (Clue.rv (s:=a1) r6) (Clue.rv (s:=(⟨a1.Kind,0,0,a1.N,a1.M,a1.Guess,a1.Not⟩:Clue)) hu9) hx21) (ep_ rfl rfl) (fun w54 I62=>(wo_ (ba_ (a:=(vb x21)) rfl rfl hc30 rfl (wa_ (v:=(vb x21)) rfl rfl (ad_ (ap_ ?_)))))))
   obtain rfl:=sj h
   exact ⟨ed7,(vb x21),(eb_ rfl rfl),_,[],((le1.trans le2).trans le17),(I62).drop,rfl,rfl⟩
  refine ws_ rfl rfl hc30 (ws_ rfl rfl hc30 (ws_ rfl rfl hc30 (wo_ (ah_ (b:=(vb false)) rfl rfl hc30 rfl (wa_ (v:=(vb false)) rfl rfl (ad_ (ap_ ?_)))))))
  obtain rfl:=sj h
  exact ⟨ed7,(vb false),(eb_ rfl rfl),_,[],((le1.trans le2).trans le17),(I61).drop,rfl,rfl⟩
 refine ao_ rfl hc25 (ab_ (aa_ (wo_ (bv_ rfl e22 rfl (wa_ (v:=(vb (a1.Kind==7))) rfl rfl (ad_ ?_))))))
 rcases ifs h with ⟨hc31,h⟩ | ⟨hc31,h⟩
 ·
  refine an_ rfl hc31 ?_
  obtain ⟨v7,h20,h⟩:=bnd h
  refine pf_ (fun f w=>Inv w S17 (bh_ g3 98 #[(vi a1.Kind),(vi 0),(vi 0),(vi 0),(vi 0),sn,(vb a1.Not)]::Fr)∧f 3=(pt_ g2)∧f 7=(pt_ g3)∧f 8=(vb v7)∧f.ds=[]) ?_ ?_
  ·
   refine aa_ (wm_ rfl e18 (wm_ (v:=(vb x1)) rfl rfl ?_))
   rcases ifs h20 with ⟨hc34,h20⟩ | ⟨hc34,h20⟩
   ·
    refine wk_ rfl rfl hc34 (ac_ rfl ci_ e17 ((p2.mono le17).at_ I39) (wk_ rfl rfl hc34 (li_ sh3 (((p2.mono le17).at_ I39).fld Clue.fld3) rfl ?_)))
    obtain ⟨x24,hx24,h20⟩:=bnd h20
    refine wk_ rfl rfl hc34 (cv_ ut_ rfl I39 (fun Fr_ hF_=>bw_ hF_  hx24) (mh_ rfl rfl rfl) (fun w57 I65=>(wo_ (ba_ (a:=(vb x24)) rfl rfl hc34 rfl (wm_ (v:=(vb x24)) rfl rfl ?_)))))
    rcases ifs h20 with ⟨hc35,h20⟩ | ⟨hc35,h20⟩
    ·
     refine wk_ rfl rfl hc35 (ac_ rfl fk_ e17 ((p2.mono le17).at_ I65) (wk_ rfl rfl hc35 (li_ sh3 (((p2.mono le17).at_ I65).fld Clue.fld4) rfl (wk_ rfl rfl hc35 (ac_ rfl ci_ e17 ((p2.mono le17).at_ I65) (wk_ rfl rfl hc35 (li_ sh3 (((p2.mono le17).at_ I65).fld Clue.fld3) rfl (wk_ rfl rfl hc35 (mo_ rfl rfl rfl ?_)))))))))
     obtain ⟨x25,hx25,h20⟩:=bnd h20
     refine wk_ rfl rfl hc35 (cv_ ut_ rfl I65 (fun Fr_ hF_=>bw_ hF_  hx25) (mh_ rfl rfl rfl) (fun w58 I66=>(wo_ (ba_ (a:=(vb x25)) rfl rfl hc35 rfl (wa_ (v:=(vb x25)) rfl rfl (ad_ ?_))))))
     obtain rfl:=sj h20
     exact ⟨I66,e17,e20,rfl,ed4⟩
    refine ws_ rfl rfl hc35 (ws_ rfl rfl hc35 (ws_ rfl rfl hc35 (ws_ rfl rfl hc35 (ws_ rfl rfl hc35 (ws_ rfl rfl hc35 (wo_ (ah_ (b:=(vb false)) rfl rfl hc35 rfl (wa_ (v:=(vb false)) rfl rfl (ad_ ?_)))))))))
    obtain rfl:=sj h20
    exact ⟨I65,e17,e20,rfl,ed4⟩
   refine ws_ rfl rfl hc34 (ws_ rfl rfl hc34 (ws_ rfl rfl hc34 (wo_ (ah_ (b:=(vb false)) rfl rfl hc34 rfl (wm_ (v:=(vb false)) rfl rfl (ws_ rfl rfl rfl (ws_ rfl rfl rfl (ws_ rfl rfl rfl (ws_ rfl rfl rfl (ws_ rfl rfl rfl (ws_ rfl rfl rfl (wo_ (ah_ (b:=(vb false)) rfl rfl rfl rfl (wa_ (v:=(vb false)) rfl rfl (ad_ ?_)))))))))))))))
   obtain rfl:=sj h20
   exact ⟨I39,e17,e20,rfl,ed4⟩
  rintro f w ⟨I67,e44,e45,e46,ed8⟩
  refine ab_ (aa_ (wo_ (ac_ rfl da_ e44 ((p2.mono le17).at_ I67) (wo_ (li_ sh3 (((p2.mono le17).at_ I67).fld Clue.fld1) rfl (wo_ (aw_ (v:=(pt_ g3)) rfl da_ e45 rfl (wo_ (bt_ (v:=(vi a1.A)) (cs := #[(vi a1.Kind),(vi 0),(vi 0),(vi 0),(vi 0),sn,(vb a1.Not)]) sh3 I67 rfl rfl rfl nb rfl (fun w59 (I68:Inv w59 S17 (bh_ g3 98 #[(vi a1.Kind),(vi a1.A),(vi 0),(vi 0),(vi 0),sn,(vb a1.Not)]::Fr))=>(ad_ (ab_ (aa_ (wo_ (ac_ rfl ci_ e44 ((p2.mono le17).at_ I68) (wo_ (li_ sh3 (((p2.mono le17).at_ I68).fld Clue.fld3) rfl (wo_ (aw_ (v:=(pt_ g3)) rfl ci_ e45 rfl (wo_ (bt_ (v:=(vi a1.N)) (cs := #[(vi a1.Kind),(vi a1.A),(vi 0),(vi 0),(vi 0),sn,(vb a1.Not)]) sh3 I68 rfl rfl rfl nb rfl (fun w60 (I69:Inv w60 S17 (bh_ g3 98 #[(vi a1.Kind),(vi a1.A),(vi 0),(vi a1.N),(vi 0),sn,(vb a1.Not)]::Fr))=>(ad_ (aa_ (wo_ (ac_ rfl fk_ e44 ((p2.mono le17).at_ I69) (wo_ (li_ sh3 (((p2.mono le17).at_ I69).fld Clue.fld4) rfl (wo_ (aw_ (v:=(pt_ g3)) rfl fk_ e45 rfl (wo_ (bt_ (v:=(vi a1.M)) (cs := #[(vi a1.Kind),(vi a1.A),(vi 0),(vi a1.N),(vi 0),sn,(vb a1.Not)]) sh3 I69 rfl rfl rfl nb rfl (fun w61 (I70:Inv w61 S17 (bh_ g3 98 #[(vi a1.Kind),(vi a1.A),(vi 0),(vi a1.N),(vi a1.M),sn,(vb a1.Not)]::Fr))=>(ad_ (ab_ (aa_ (wm_ rfl e46 (wm_ (v:=(vb v7)) rfl rfl ?_))))))))))))))))))))))))))))))))))))))
  rcases ifs h with ⟨hc36,h⟩ | ⟨hc36,h⟩
  ·
   refine wk_ rfl rfl hc36 (ff_ rfl xe_ e44 ((p2.mono le17).at_ I70) (fun u11 hu11 => ?_))
   obtain ⟨c7,e47,r7⟩:=Clue.inv hu11
   subst e47
   obtain ⟨z10,m10,k10,rfl⟩:=bb_ r7
   refine wk_ rfl rfl hc36 (qx_ (l:=[(vi a1.Kind),(vi a1.A),(vi 0),(vi a1.N),(vi a1.M),sn,(vb a1.Not)]) rfl xe_ (I70.nth 0 rfl) e45 rfl rfl ?_)
   obtain ⟨x26,hx26,h⟩:=bnd h
   refine wk_ rfl rfl hc36 (cv_ ca55 rfl I70 (fun Fr_ hF_=>eh_ hF_ (Clue.rv (s:=a1) r7) (Clue.rv (s:=(⟨a1.Kind,a1.A,0,a1.N,a1.M,([]:(List Int)),a1.Not⟩:Clue)) rv_nil) hx26) (ep_ rfl rfl) (fun w62 I71=>(wo_ (ba_ (a:=(vb x26)) rfl rfl hc36 rfl (wa_ (v:=(vb x26)) rfl rfl (ad_ (ap_ ?_)))))))
   obtain rfl:=sj h
   exact ⟨ed8,(vb x26),(eb_ rfl rfl),_,[],((le1.trans le2).trans le17),(I71).drop,rfl,rfl⟩
  refine ws_ rfl rfl hc36 (ws_ rfl rfl hc36 (ws_ rfl rfl hc36 (wo_ (ah_ (b:=(vb false)) rfl rfl hc36 rfl (wa_ (v:=(vb false)) rfl rfl (ad_ (ap_ ?_)))))))
  obtain rfl:=sj h
  exact ⟨ed8,(vb false),(eb_ rfl rfl),_,[],((le1.trans le2).trans le17),(I70).drop,rfl,rfl⟩
 refine ao_ rfl hc31 (bc_ (ab_ (aa_ (wm_ rfl e21 (wm_ (v:=(vb false)) rfl rfl (ws_ rfl rfl rfl (ws_ rfl rfl rfl (ws_ rfl rfl rfl (wo_ (ah_ (b:=(vb false)) rfl rfl rfl rfl (wa_ (v:=(vb false)) rfl rfl (ad_ (ap_ ?_)))))))))))))
 obtain rfl:=sj h
 exact ⟨ed4,(vb false),(eb_ rfl rfl),_,[],((le1.trans le2).trans le17),(I39).drop,rfl,rfl⟩
end Go.Proofs.YtfcgcpjnpdkjmaaGreatDoor.Pad
end
section
set_option maxHeartbeats 4000000
set_option maxRecDepth 100000
namespace Go.Proofs.YtfcgcpjnpdkjmaaGreatDoor.Pad
open Go Go.Proofs
theorem sz_ {w:World} {S:PH} {Fr:List HP} {a0:CodeLock} {v0:Value} {a1:Clue} {v1:Value} {r:Int} (hI:Inv w S (Fr)) (h0_:RV S v0 a0) (h1_:RV S v1 a1) (h:ji_ a0 a1=some r) :
    Calls Tryz.prog 169 [v0,v1].toArray w (fh_ S Fr (Value.int .i64 (r))):=by
 unfold ji_ at h
 have e1:=CodeLock.inv h0_
 subst e1
 obtain ⟨c1,e2,r1⟩:=Clue.inv h1_
 subst e2
 obtain ⟨z1,m1,k1,rfl⟩:=bb_ r1
 refine av_ (n:=15) Tryz.func169 rfl rfl rfl (ab_ (aa_ (wo_ (dv_ (v:=(.agg #[(vi a0.Wheels),(vi a0.Symbols)])) rfl hI rfl (fun g1 w1 I1 => ?_)))))
 obtain ⟨S1,le1,I2,p1⟩:=Inv.boxFreeze (x:=a0) I1 (CodeLock.rv (s:=a0))
 refine wo_ (dv_ (v:=(.agg #[(vi a1.Kind),(vi a1.A),(vi a1.B),(vi a1.N),(vi a1.M),(.slice z1 m1 k1),(vb a1.Not)])) rfl I2 rfl (fun g2 w2 I3 => ?_))
 obtain ⟨S2,le2,I4,p2⟩:=Inv.boxFreeze (x:=a1) I3 (Clue.rv (s:=a1) (r1.mono le1))
 refine wa_ (v:=(vi 0)) rfl rfl (ad_ (ab_ (ab_ (aa_ (wo_ (ld_ sh96 ((p1.mono le2).at_ I4) rfl (fun u1 hu1 => ?_)))))))
 have e4:=CodeLock.inv hu1
 subst e4
 obtain ⟨x1,hx1,h⟩:=bnd h
 refine wo_ (cv_ ca86 rfl I4 (fun Fr_ hF_=>ng_ hF_ (CodeLock.rv (s:=a0)) hx1) (args1 rfl) (fun w3 I5=>(wa_ (v:=(vi x1)) rfl rfl (ad_ (ab_ (aa_ (wm_ (v:=(vi x1)) rfl rfl (wo_ (nt_ rfl rfl rfl (ad_ ?_))))))))))
 rcases ifs h with ⟨hc1,h⟩ | ⟨hc1,h⟩
 ·
  refine an_ rfl hc1 (ab_ (aa_ (wm_ (v:=(vi x1)) rfl rfl (wa_ (v:=(vi x1)) rfl rfl (ad_ (ap_ ?_))))))
  obtain rfl:=sj h
  exact ⟨rfl,(vi x1),(eb_ rfl rfl),_,[],(le1.trans le2),I5,rfl,rfl⟩
 refine ao_ rfl hc1 (bc_ (ab_ (ab_ (aa_ (wo_ (ld_ sh96 ((p1.mono le2).at_ I5) rfl (fun u2 hu2 => ?_)))))))
 have e5:=CodeLock.inv hu2
 subst e5
 refine wo_ (ld_ xe_ (p2.at_ I5) rfl (fun u3 hu3 => ?_))
 obtain ⟨c2,e6,r2⟩:=Clue.inv hu3
 subst e6
 obtain ⟨z2,m2,k2,rfl⟩:=bb_ r2
 obtain ⟨x2,hx2,h⟩:=bnd h
 refine wo_ (cv_ ca231 rfl I5 (fun Fr_ hF_=>xm_ hF_ (CodeLock.rv (s:=a0)) (Clue.rv (s:=a1) r2) hx2) (ep_ rfl rfl) (fun w4 I6=>(wo_ (ly_ rfl rfl (ad_ ?_)))))
 rcases ifs h with ⟨hc2,h⟩ | ⟨hc2,h⟩
 ·
  refine an_ rfl hc2 (ab_ (aa_ (wa_ (v:=(vi 11)) rfl rfl (ad_ (ap_ ?_)))))
  obtain rfl:=sj h
  exact ⟨rfl,(vi 11),(eb_ rfl rfl),_,[],(le1.trans le2),I6,rfl,rfl⟩
 refine ao_ rfl hc2 (bc_ (ab_ (aa_ (wa_ (v:=(vi 0)) rfl rfl (ad_ (ap_ ?_))))))
 obtain rfl:=sj h
 exact ⟨rfl,(vi 0),(eb_ rfl rfl),_,[],(le1.trans le2),I6,rfl,rfl⟩
end Go.Proofs.YtfcgcpjnpdkjmaaGreatDoor.Pad
end
section
set_option maxHeartbeats 4000000
set_option maxRecDepth 100000
namespace Go.Proofs.YtfcgcpjnpdkjmaaGreatDoor.Pad
open Go Go.Proofs
theorem nf_ {w:World} {S:PH} {Fr:List HP} {a0:(List Int)} {v0:Value} {a1:Int} {r:Int} (hI:Inv w S (Fr)) (h0_:RV S v0 a0) (h:dz_ a0 a1=some r) :
    Calls Tryz.prog 232 [v0,(Value.int .i64 (a1))].toArray w (fh_ S Fr (Value.int .i64 (r))):=by
 unfold dz_ at h
 obtain ⟨z1,m1,k1,rfl⟩:=bb_ h0_
 refine av_ (n:=22) Tryz.func232 rfl rfl rfl (ab_ (aa_ (wa_ (v:=(vi 0)) rfl rfl (ad_ (ab_ (aa_ (wa_ (v:=(vi 0)) rfl rfl (ad_ (ab_ (ab_ (aa_ (wa_ (v:=(vi 0)) rfl rfl (ad_ ?_)))))))))))))
 have hk1:a0.length≤9223372036854775807:=(rm_ h0_)
 obtain ⟨eo_,hrun1,h⟩:=bnd h
 refine jc_ (fun f w=>Inv w S (Fr)∧f 0=(.slice z1 m1 k1)∧f 1=(vi a1)∧f 5=(vi eo_)∧f.ds=[]) ?_ ?_
 ·
  refine bd_ ?_
  refine rt_ (I:=fun (i1:Nat) (s1:(Int)) (f:Frm) (w:World)=>Inv w S (Fr)∧f 0=(.slice z1 m1 k1)∧f 1=(vi a1)∧f 5=(vi s1)∧f 6=(vi (i1:Int))∧f.ds=[]) hrun1 ⟨hI,rfl,rfl,rfl,rfl,rfl⟩ ?_ ?_
  ·
   rintro i1 s1 f w o1 hlt1 hI1 h1
   obtain ⟨I4,e14,e15,e16,e17,ed4⟩:=hI1
   refine ab_ (ab_ (aa_ (wm_ rfl e17 (wm_ rfl e14 (wo_ (cn_ rfl Tryz.underlying45 rfl h0_ (wo_ (fi_ rfl rfl rfl (ad_ (an_ rfl (zh_ hlt1) (bc_ (ab_ (bd_ (ab_ (aa_ (wm_ rfl e14 (wm_ rfl e17 ?_)))))))))))))))))
   obtain ⟨x4,hx4,h1⟩:=bnd h1
   refine wo_ (ix_ Tryz.underlying45 sh3 h0_ hx4 rfl rfl (wo_ (li_ sh3 (h0_.elem I4.in_ hx4) rfl (wm_ rfl e15 (wo_ (bv_ rfl rfl rfl (ad_ ?_)))))))
   rcases ifs h1 with ⟨hc4,h1⟩ | ⟨hc4,h1⟩
   ·
    refine an_ rfl hc4 (aa_ (wm_ rfl e16 (wo_ (et_ rfl rfl rfl (wa_ (v:=(vi (w64 (s1+1)))) rfl rfl (ad_ (aa_ (wm_ rfl e17 (wo_ (et_ rfl rfl rfl (wa_ (v:=(vi (w64 ((i1:Int)+1)))) rfl rfl (ad_ ?_))))))))))))
    obtain rfl:=sj h1
    exact ⟨I4,e14,e15,rfl,(ft_ hlt1 hk1),ed4⟩
   refine ao_ rfl hc4 (bc_ (aa_ (wm_ rfl e17 (wo_ (et_ rfl rfl rfl (wa_ (v:=(vi (w64 ((i1:Int)+1)))) rfl rfl (ad_ ?_)))))))
   obtain rfl:=sj h1
   exact ⟨I4,e14,e15,e16,(ft_ hlt1 hk1),ed4⟩
  rintro f w hI2
  obtain ⟨I5,e18,e19,e20,e21,ed5⟩:=hI2
  refine ab_ (ab_ (aa_ (wm_ rfl e21 (wm_ rfl e18 (wo_ (cn_ rfl Tryz.underlying45 rfl h0_ (wo_ (fi_ rfl rfl rfl (ad_ (ao_ rfl (zi_ _) (fl_ ?_)))))))))))
  exact ⟨I5,e18,e19,e20,ed5⟩
 rintro f w ⟨I6,e22,e23,e24,ed6⟩
 refine ab_ (aa_ (wm_ rfl e24 (wa_ (v:=(vi eo_)) rfl rfl (ad_ (ap_ ?_)))))
 obtain rfl:=sj h
 exact ⟨ed6,(vi eo_),(eb_ rfl rfl),_,[],lr,I6,rfl,rfl⟩
theorem xo_ {w:World} {S:PH} {Fr:List HP} {a0:(List Int)} {v0:Value} {a1:(List Int)} {v1:Value} {r:Int×Int} (hI:Inv w S (Fr)) (h0_:RV S v0 a0) (h1_:RV S v1 a1) (h:ko_ a0 a1=some r) :
    Calls Tryz.prog 233 [v0,v1].toArray w (fh_ S Fr (Value.tuple #[(Value.int .i64 (r.1)),(Value.int .i64 (r.2))])):=by
 unfold ko_ at h
 obtain ⟨z1,m1,k1,rfl⟩:=bb_ h0_
 obtain ⟨z2,m2,k2,rfl⟩:=bb_ h1_
 refine av_ (n:=44) Tryz.func233 rfl rfl rfl (ab_ (aa_ (wa_ (v:=(vi 0)) rfl rfl (wa_ (v:=(vi 0)) rfl rfl (ad_ (ab_ (aa_ (wa_ (v:=(vi 0)) rfl rfl (wa_ (v:=(vi 0)) rfl rfl (ad_ (ab_ (ab_ (aa_ (wa_ (v:=(vi 0)) rfl rfl (ad_ ?_)))))))))))))))
 have hk1:a0.length≤9223372036854775807:=(rm_ h0_)
 obtain ⟨eo_,hrun1,h⟩:=bnd h
 refine jc_ (fun f w=>∃ (S_:PH),S.Le S_∧Inv w S_ (Fr)∧f 0=(.slice z1 m1 k1)∧f 1=(.slice z2 m2 k2)∧f 6=(vi eo_)∧f 7=(vi 0)∧f.ds=[]) ?_ ?_
 ·
  refine bd_ ?_
  refine rt_ (I:=fun (i1:Nat) (s1:(Int)) (f:Frm) (w:World)=>∃ (S_:PH),S.Le S_∧Inv w S_ (Fr)∧f 0=(.slice z1 m1 k1)∧f 1=(.slice z2 m2 k2)∧f 6=(vi s1)∧f 7=(vi 0)∧f 8=(vi (i1:Int))∧f.ds=[]) hrun1 ⟨_,lr,hI,rfl,rfl,rfl,rfl,rfl,rfl⟩ ?_ ?_
  ·
   rintro i1 s1 f w o1 hlt1 hI31 h1
   obtain ⟨S33,le33,I34,e33,e34,e35,e36,e37,ed7⟩:=hI31
   refine ab_ (ab_ (aa_ (wm_ rfl e37 (wm_ rfl e33 (wo_ (cn_ rfl Tryz.underlying45 rfl (h0_.mono le33) (wo_ (fi_ rfl rfl rfl (ad_ (an_ rfl (zh_ hlt1) (bc_ (ab_ (bd_ (ab_ ?_))))))))))))))
   obtain ⟨x7,hx7,h1⟩:=bnd h1
   obtain ⟨x8,hx8,h1⟩:=bnd h1
   refine ek_ (sps:=[spV 16 [] 0 (.slice z1 m1 k1),spV 17 [] 1 (vi (i1:Int)),spV 18 [0,1] 2 (bx_ (.slice z1 m1 k1) ((i1:Int)) (Enc.sz Int)),spV 19 [0,1,2] 3 (vi x7),spV 20 [] 4 (.slice z2 m2 k2),spV 21 [] 5 (vi (i1:Int)),spV 22 [4,5] 6 (bx_ (.slice z2 m2 k2) ((i1:Int)) (Enc.sz Int)),spV 23 [4,5,6] 7 (vi x8),spV 24 (lrg 8) 8 (vb (x7==x8))]) (tks:=[]) (O:=Fr) rfl (by kernel_rfl) I34 ⟨ob_ rfl fun l A K I=>(br_ rfl ((K 0 (au_ rfl)).trans e33) (fo I)),ob_ rfl fun l A K I=>(br_ rfl ((K 8 (au_ rfl)).trans e37) (fo I)),ob_ rfl fun l A K I=>(ix_ Tryz.underlying45 sh3 (h0_.mono (le33.trans l)) hx7 (A.v 0 rfl) (A.v 1 rfl) (fo I)),ob_ rfl fun l A K I=>(aj_ rfl sh3 (A.v 2 rfl) ((h0_.mono (le33.trans l)).elem I.in_ hx7) (fo I)),ob_ rfl fun l A K I=>(br_ rfl ((K 1 (au_ rfl)).trans e34) (fo I)),ob_ rfl fun l A K I=>(br_ rfl ((K 8 (au_ rfl)).trans e37) (fo I)),ob_ rfl fun l A K I=>(ix_ Tryz.underlying45 sh3 (h1_.mono (le33.trans l)) hx8 (A.v 0 rfl) (A.v 1 rfl) (fo I)),ob_ rfl fun l A K I=>(aj_ rfl sh3 (A.v 2 rfl) ((h1_.mono (le33.trans l)).elem I.in_ hx8) (fo I)),?_,trivial⟩ ?_
   ·
    intro vs f w_ U X le A K I
    refine pl_ rfl (bv_ rfl (A.v 3 rfl) (A.v 7 rfl) (fo I))
   intro vs40 f w40 S43 ed8 le43 hF4 hK40 hI41
   have e38:f 0=(Value.slice z1 m1 k1):=(hK40 0 (bf_ rfl)).trans e33
   have e39:f 1=(Value.slice z2 m2 k2):=(hK40 1 (bf_ rfl)).trans e34
   have e40:f 6=(vi s1):=(hK40 6 (bf_ rfl)).trans e35
   have e41:f 7=(vi 0):=(hK40 7 (bf_ rfl)).trans e36
   have e42:f 8=(vi ((i1:Int))):=(hK40 8 (bf_ rfl)).trans e37
   have I44:Inv w40 S43 (Fr):=hI41
   have q36:=hF4.v 8 rfl
   rcases ifs h1 with ⟨hc4,h1⟩ | ⟨hc4,h1⟩
   ·
    refine an_ q36 hc4 (aa_ (wm_ rfl e40 (wo_ (et_ rfl rfl rfl (wa_ (v:=(vi (w64 (s1+1)))) rfl rfl (ad_ (aa_ (wm_ rfl e42 (wo_ (et_ rfl rfl rfl (wa_ (v:=(vi (w64 ((i1:Int)+1)))) rfl rfl (ad_ ?_))))))))))))
    obtain rfl:=sj h1
    exact ⟨_,(le33.trans le43),I44,e38,e39,rfl,e41,(ft_ hlt1 hk1),(ed8.trans ed7)⟩
   refine ao_ q36 hc4 (bc_ (aa_ (wm_ rfl e42 (wo_ (et_ rfl rfl rfl (wa_ (v:=(vi (w64 ((i1:Int)+1)))) rfl rfl (ad_ ?_)))))))
   obtain rfl:=sj h1
   exact ⟨_,(le33.trans le43),I44,e38,e39,e40,e41,(ft_ hlt1 hk1),(ed8.trans ed7)⟩
  rintro f w hI42
  obtain ⟨S44,le44,I45,e43,e44,e45,e46,e47,ed9⟩:=hI42
  refine ab_ (ab_ (aa_ (wm_ rfl e47 (wm_ rfl e43 (wo_ (cn_ rfl Tryz.underlying45 rfl (h0_.mono le44) (wo_ (fi_ rfl rfl rfl (ad_ (ao_ rfl (zi_ _) (fl_ ?_)))))))))))
  exact ⟨_,le44,I45,e43,e44,e45,e46,ed9⟩
 rintro f w ⟨S45,le45,I46,e48,e49,e50,e51,ed10⟩
 refine ab_ (ab_ (aa_ (wa_ (v:=(vi 0)) rfl rfl (ad_ ?_))))
 obtain ⟨x15,hx15,h⟩:=bnd h
 obtain ⟨zf_,hrun2,h⟩:=bnd h
 refine jc_ (fun f w=>Inv w S45 (Fr)∧f 0=(.slice z1 m1 k1)∧f 1=(.slice z2 m2 k2)∧f 6=(vi eo_)∧f 7=(vi zf_)∧f.ds=[]) ?_ ?_
 ·
  refine bd_ ?_
  refine rt_ (I:=fun (i2:Nat) (s2:(Int)) (f:Frm) (w:World)=>Inv w S45 (Fr)∧f 0=(.slice z1 m1 k1)∧f 1=(.slice z2 m2 k2)∧f 6=(vi eo_)∧f 7=(vi s2)∧f 9=(vi (i2:Int))∧f.ds=[]) hrun2 ⟨I46,e48,e49,e50,e51,rfl,ed10⟩ ?_ ?_
  ·
   rintro i2 s2 f w o2 hlt2 hI43 h3
   obtain ⟨I56,e67,e68,e69,e70,e71,ed14⟩:=hI43
   refine ab_ (ab_ (aa_ (wm_ rfl e71 (wo_ (fi_ rfl rfl rfl (ad_ (an_ rfl (cnt_t hx15 hlt2) (bc_ (ab_ (bd_ (aa_ (wm_ rfl e70 (wm_ rfl e67 (wm_ rfl e71 ?_))))))))))))))
   obtain ⟨x16,hx16,h3⟩:=bnd h3
   refine wo_ (cv_ ca232 rfl I56 (fun Fr_ hF_=>nf_ hF_ (h0_.mono le45) hx16) (ep_ rfl rfl) (fun w47 I57=>(wm_ rfl e68 (wm_ rfl e71 ?_))))
   obtain ⟨x17,hx17,h3⟩:=bnd h3
   refine wo_ (cv_ ca232 rfl I57 (fun Fr_ hF_=>nf_ hF_ (h1_.mono le45) hx17) (ep_ rfl rfl) (fun w48 I58=>(wo_ (op_min (a:=x16) (b:=x17) rfl rfl rfl (wo_ (et_ rfl rfl rfl (wa_ (v:=(vi (w64 (s2+(minI x16 x17))))) rfl rfl (ad_ (aa_ (wm_ rfl e71 (wo_ (et_ rfl rfl rfl (wa_ (v:=(vi (w64 ((i2:Int)+1)))) rfl rfl (ad_ ?_))))))))))))))
   obtain rfl:=sj h3
   exact ⟨I58,e67,e68,e69,rfl,(ft_ hlt2 (cnt_le hx15)),ed14⟩
  rintro f w hI44
  obtain ⟨I59,e72,e73,e74,e75,e76,ed15⟩:=hI44
  refine ab_ (ab_ (aa_ (wm_ rfl e76 (wo_ (fi_ rfl rfl rfl (ad_ (ao_ rfl (cnt_f hx15) (fl_ ?_))))))))
  exact ⟨I59,e72,e73,e74,e75,ed15⟩
 rintro f w ⟨I60,e77,e78,e79,e80,ed16⟩
 refine ab_ (aa_ (wm_ rfl e79 (wm_ rfl e80 (wm_ rfl e79 (wo_ (mo_ rfl rfl rfl (wa_ (v:=(vi eo_)) rfl rfl (wa_ (v:=(vi (w64 (zf_ - eo_)))) rfl rfl (ad_ (ap_ ?_))))))))))
 obtain rfl:=sj h
 exact ⟨ed16,(Value.tuple #[(vi eo_),(vi (w64 (zf_ - eo_)))]),(res2 rfl rfl rfl),_,[],le45,I60,rfl,rfl⟩
theorem ref01_True_ok {w:World} {S:PH} {Fr:List HP} {a0:Clue} {v0:Value} {a1:(List Int)} {v1:Value} {r:Bool} (hI:Inv w S (Fr)) (h0_:RV S v0 a0) (h1_:RV S v1 a1) (h:jw_ a0 a1=some r) :
    Calls Tryz.prog 170 [v0,v1].toArray w (fh_ S Fr (Value.bool (r))):=by
 unfold jw_ at h
 obtain ⟨c1,e1,r1⟩:=Clue.inv h0_
 subst e1
 obtain ⟨z1,m1,k1,rfl⟩:=bb_ r1
 obtain ⟨z2,m2,k2,rfl⟩:=bb_ h1_
 refine av_ (n:=113) Tryz.func170 rfl rfl rfl (ab_ (aa_ (wo_ (dv_ (v:=(.agg #[(vi a0.Kind),(vi a0.A),(vi a0.B),(vi a0.N),(vi a0.M),(.slice z1 m1 k1),(vb a0.Not)])) rfl hI rfl (fun g1 w1 I1 => ?_)))))
 obtain ⟨S1,le1,I2,p1⟩:=Inv.boxFreeze (x:=a0) I1 (Clue.rv (s:=a0) r1)
 refine wa_ (v:=(vb false)) rfl rfl (ad_ (ab_ (aa_ (wa_ (v:=(vb false)) rfl rfl (ad_ (ab_ (ab_ (aa_ (wo_ (fa_ vh_ (p1.at_ I2) rfl (wo_ (li_ sh3 ((p1.at_ I2).fld Clue.fld0) rfl (ad_ (bd_ (ab_ (aa_ (wo_ (bv_ rfl rfl rfl (wa_ (v:=(vb (a0.Kind==1))) rfl rfl (ad_ ?_))))))))))))))))))))
 rcases ifs h with ⟨hc1,h⟩ | ⟨hc1,h⟩
 ·
  refine an_ rfl hc1 ?_
  obtain ⟨x1,hx1,h⟩:=bnd h
  refine ek_ (sps:=[spV 14 [] 0 (.slice z2 m2 k2),spV 15 [] 1 (aq_ (pt_ g1) 1),spV 16 [1] 2 (vi a0.A),spV 17 [0,1,2] 3 (bx_ (.slice z2 m2 k2) (a0.A) (Enc.sz Int)),spV 18 [0,1,2,3] 4 (vi x1),spV 19 [] 5 (aq_ (pt_ g1) 3),spV 20 [5] 6 (vi a0.N),spV 21 (lrg 7) 7 (vb (x1==a0.N)),spV 5 (lrg 8) 8 (vb (x1==a0.N))]) (tks:=[]) (O:=Fr) rfl (by kernel_rfl) I2 ⟨ob_ rfl fun l A K I=>(br_ rfl (K 1 (au_ rfl)) (fo I)),ob_ rfl fun l A K I=>(ac_ rfl da_ (K 2 (au_ rfl)) ((p1.mono l).at_ I) (fo I)),ob_ rfl fun l A K I=>(aj_ rfl sh3 (A.v 0 rfl) (((p1.mono l).at_ I).fld Clue.fld1) (fo I)),ob_ rfl fun l A K I=>(ix_ Tryz.underlying45 sh3 (h1_.mono (le1.trans l)) hx1 (A.v 0 rfl) (A.v 2 rfl) (fo I)),ob_ rfl fun l A K I=>(aj_ rfl sh3 (A.v 3 rfl) ((h1_.mono (le1.trans l)).elem I.in_ hx1) (fo I)),ob_ rfl fun l A K I=>(ac_ rfl ci_ (K 2 (au_ rfl)) ((p1.mono l).at_ I) (fo I)),ob_ rfl fun l A K I=>(aj_ rfl sh3 (A.v 0 rfl) (((p1.mono l).at_ I).fld Clue.fld3) (fo I)),ob_ rfl fun l A K I=>(bv_ rfl (A.v 4 rfl) (A.v 6 rfl) (fo I)),?_,trivial⟩ ?_
  ·
   intro vs f w_ U X le A K I
   refine pl_ rfl (dm_ (v:=(vb (x1==a0.N))) rfl (A.v 7 rfl) (fo I))
  intro vs10 f w11 S11 ed1 le11 hF1 hK10 hI10
  have e4:f 2=(pt_ g1):=(hK10 2 (bf_ rfl)).trans rfl
  have I12:Inv w11 S11 (Fr):=hI10
  have q9:=hF1.v 8 rfl
  refine ab_ (aa_ (wm_ rfl q9 (wo_ (ac_ rfl mp_ e4 ((p1.mono le11).at_ I12) (wo_ (lb_ sh4 (((p1.mono le11).at_ I12).fld Clue.fld6) rfl (wo_ (nj_ (a:=x1==a0.N) (b:=a0.Not) rfl Tryz.underlying4 rfl rfl (wa_ (v:=(vb ((x1==a0.N) != a0.Not))) rfl rfl (ad_ (ap_ ?_)))))))))))
  obtain rfl:=sj h
  exact ⟨(ed1.trans rfl),(vb ((x1==a0.N) != a0.Not)),(eb_ rfl rfl),_,[],(le1.trans le11),I12,rfl,rfl⟩
 refine ao_ rfl hc1 (ab_ (aa_ (wo_ (bv_ rfl rfl rfl (wa_ (v:=(vb (a0.Kind==2))) rfl rfl (ad_ ?_))))))
 rcases ifs h with ⟨hc2,h⟩ | ⟨hc2,h⟩
 ·
  refine an_ rfl hc2 (ab_ (aa_ (wa_ (v:=(vi 0)) rfl rfl (ad_ (ab_ (ab_ (aa_ (wo_ (fa_ da_ (p1.at_ I2) rfl (wo_ (li_ sh3 ((p1.at_ I2).fld Clue.fld1) rfl (wa_ (v:=(vi a0.A)) rfl rfl (ad_ ?_)))))))))))))
  obtain ⟨eo_,hrun1,h⟩:=bnd h
  refine jc_ (fun f w=>Inv w S1 (Fr)∧f 1=(.slice z2 m2 k2)∧f 2=(pt_ g1)∧f 6=(vi eo_.1)∧f 7=(vi eo_.2)∧f.ds=[]) ?_ ?_
  ·
   refine bd_ ?_
   refine pe_ (I:=fun (s1:(Int×Int)) (f:Frm) (w:World)=>Inv w S1 (Fr)∧f 1=(.slice z2 m2 k2)∧f 2=(pt_ g1)∧f 6=(vi s1.1)∧f 7=(vi s1.2)∧f.ds=[]) hrun1 ⟨I2,rfl,rfl,rfl,rfl,rfl⟩ ?_
   rintro s1 f w o1 hI11 h1 hout1
   obtain ⟨I19,e29,e30,e31,e32,ed8⟩:=hI11
   refine ab_ (ab_ (aa_ (wm_ rfl e32 (wo_ (ac_ rfl fv_ e30 (p1.at_ I19) (wo_ (li_ sh3 ((p1.at_ I19).fld Clue.fld2) rfl (wo_ (op_leq rfl rfl rfl (ad_ ?_))))))))))
   rcases ifs h1 with ⟨hc9,h1⟩ | ⟨hc9,h1⟩
   ·
    refine an_ rfl hc9 (bc_ (ab_ (bd_ (aa_ (wm_ rfl e31 (wm_ rfl e29 (wm_ rfl e32 ?_)))))))
    obtain ⟨x8,hx8,h1⟩:=bnd h1
    refine wo_ (ix_ Tryz.underlying45 sh3 (h1_.mono le1) hx8 rfl rfl (wo_ (li_ sh3 ((h1_.mono le1).elem I19.in_ hx8) rfl (wo_ (et_ rfl rfl rfl (wa_ (v:=(vi (w64 (s1.1+x8)))) rfl rfl (ad_ (aa_ (wm_ rfl e32 (wo_ (et_ rfl rfl rfl (wa_ (v:=(vi (w64 (s1.2+1)))) rfl rfl (ad_ ?_)))))))))))))
    obtain rfl:=sj h1
    exact ⟨_,rfl,I19,e29,e30,rfl,rfl,ed8⟩
   refine ao_ rfl hc9 (fl_ ?_)
   obtain rfl:=sj h1
   obtain rfl:=(hout1 _ rfl)
   exact ⟨I19,e29,e30,e31,e32,ed8⟩
  rintro f w ⟨I20,e33,e34,e35,e36,ed9⟩
  refine aa_ (wm_ rfl e35 (wo_ (ac_ rfl ci_ e34 (p1.at_ I20) (wo_ (li_ sh3 ((p1.at_ I20).fld Clue.fld3) rfl (wo_ (bv_ rfl rfl rfl (wa_ (v:=(vb (eo_.1==a0.N))) rfl rfl (ad_ (ab_ (aa_ (wm_ (v:=(vb (eo_.1==a0.N))) rfl rfl (wo_ (ac_ rfl mp_ e34 (p1.at_ I20) (wo_ (lb_ sh4 ((p1.at_ I20).fld Clue.fld6) rfl (wo_ (nj_ (a:=eo_.1==a0.N) (b:=a0.Not) rfl Tryz.underlying4 rfl rfl (wa_ (v:=(vb ((eo_.1==a0.N) != a0.Not))) rfl rfl (ad_ (ap_ ?_)))))))))))))))))))))
  obtain rfl:=sj h
  exact ⟨ed9,(vb ((eo_.1==a0.N) != a0.Not)),(eb_ rfl rfl),_,[],le1,I20,rfl,rfl⟩
 refine ao_ rfl hc2 (ab_ (aa_ (wo_ (bv_ rfl rfl rfl (wa_ (v:=(vb (a0.Kind==3))) rfl rfl (ad_ ?_))))))
 rcases ifs h with ⟨hc10,h⟩ | ⟨hc10,h⟩
 ·
  refine an_ rfl hc10 ?_
  obtain ⟨x9,hx9,h⟩:=bnd h
  obtain ⟨x10,hx10,h⟩:=bnd h
  refine ek_ (sps:=[spV 44 [] 0 (.slice z2 m2 k2),spV 45 [] 1 (aq_ (pt_ g1) 1),spV 46 [1] 2 (vi a0.A),spV 47 [0,1,2] 3 (bx_ (.slice z2 m2 k2) (a0.A) (Enc.sz Int)),spV 48 [0,1,2,3] 4 (vi x9),spV 49 [] 5 (.slice z2 m2 k2),spV 50 [] 6 (aq_ (pt_ g1) 2),spV 51 [6] 7 (vi a0.B),spV 52 [5,6,7] 8 (bx_ (.slice z2 m2 k2) (a0.B) (Enc.sz Int)),spV 53 [5,6,7,8] 9 (vi x10),spV 54 (lrg 10) 10 (vb (decide (x9<x10))),spV 5 (lrg 11) 11 (vb (decide (x9<x10)))]) (tks:=[]) (O:=Fr) rfl (by kernel_rfl) I2 ⟨ob_ rfl fun l A K I=>(br_ rfl (K 1 (au_ rfl)) (fo I)),ob_ rfl fun l A K I=>(ac_ rfl da_ (K 2 (au_ rfl)) ((p1.mono l).at_ I) (fo I)),ob_ rfl fun l A K I=>(aj_ rfl sh3 (A.v 0 rfl) (((p1.mono l).at_ I).fld Clue.fld1) (fo I)),ob_ rfl fun l A K I=>(ix_ Tryz.underlying45 sh3 (h1_.mono (le1.trans l)) hx9 (A.v 0 rfl) (A.v 2 rfl) (fo I)),ob_ rfl fun l A K I=>(aj_ rfl sh3 (A.v 3 rfl) ((h1_.mono (le1.trans l)).elem I.in_ hx9) (fo I)),ob_ rfl fun l A K I=>(br_ rfl (K 1 (au_ rfl)) (fo I)),ob_ rfl fun l A K I=>(ac_ rfl fv_ (K 2 (au_ rfl)) ((p1.mono l).at_ I) (fo I)),ob_ rfl fun l A K I=>(aj_ rfl sh3 (A.v 0 rfl) (((p1.mono l).at_ I).fld Clue.fld2) (fo I)),ob_ rfl fun l A K I=>(ix_ Tryz.underlying45 sh3 (h1_.mono (le1.trans l)) hx10 (A.v 0 rfl) (A.v 2 rfl) (fo I)),ob_ rfl fun l A K I=>(aj_ rfl sh3 (A.v 3 rfl) ((h1_.mono (le1.trans l)).elem I.in_ hx10) (fo I)),ob_ rfl fun l A K I=>(fi_ rfl (A.v 4 rfl) (A.v 9 rfl) (fo I)),?_,trivial⟩ ?_
  ·
   intro vs f w_ U X le A K I
   refine pl_ rfl (dm_ (v:=(vb (decide (x9<x10)))) rfl (A.v 10 rfl) (fo I))
  intro vs23 f w24 S24 ed10 le24 hF2 hK23 hI24
  have e37:f 2=(pt_ g1):=(hK23 2 (bf_ rfl)).trans rfl
  have I33:Inv w24 S24 (Fr):=hI24
  have q21:=hF2.v 11 rfl
  refine ab_ (aa_ (wm_ rfl q21 (wo_ (ac_ rfl mp_ e37 ((p1.mono le24).at_ I33) (wo_ (lb_ sh4 (((p1.mono le24).at_ I33).fld Clue.fld6) rfl (wo_ (nj_ (a:=decide (x9<x10)) (b:=a0.Not) rfl Tryz.underlying4 rfl rfl (wa_ (v:=(vb ((decide (x9<x10)) != a0.Not))) rfl rfl (ad_ (ap_ ?_)))))))))))
  obtain rfl:=sj h
  exact ⟨(ed10.trans rfl),(vb ((decide (x9<x10)) != a0.Not)),(eb_ rfl rfl),_,[],(le1.trans le24),I33,rfl,rfl⟩
 refine ao_ rfl hc10 (ab_ (aa_ (wo_ (bv_ rfl rfl rfl (wa_ (v:=(vb (a0.Kind==4))) rfl rfl (ad_ ?_))))))
 rcases ifs h with ⟨hc11,h⟩ | ⟨hc11,h⟩
 ·
  refine an_ rfl hc11 ?_
  obtain ⟨x11,hx11,h⟩:=bnd h
  obtain ⟨x12,hx12,h⟩:=bnd h
  refine ek_ (sps:=[spV 57 [] 0 (.slice z2 m2 k2),spV 58 [] 1 (aq_ (pt_ g1) 1),spV 59 [1] 2 (vi a0.A),spV 60 [0,1,2] 3 (bx_ (.slice z2 m2 k2) (a0.A) (Enc.sz Int)),spV 61 [0,1,2,3] 4 (vi x11),spV 62 [] 5 (.slice z2 m2 k2),spV 63 [] 6 (aq_ (pt_ g1) 2),spV 64 [6] 7 (vi a0.B),spV 65 [5,6,7] 8 (bx_ (.slice z2 m2 k2) (a0.B) (Enc.sz Int)),spV 66 [5,6,7,8] 9 (vi x12),spV 67 (lrg 10) 10 (vb (x11==x12)),spV 5 (lrg 11) 11 (vb (x11==x12))]) (tks:=[]) (O:=Fr) rfl (by kernel_rfl) I2 ⟨ob_ rfl fun l A K I=>(br_ rfl (K 1 (au_ rfl)) (fo I)),ob_ rfl fun l A K I=>(ac_ rfl da_ (K 2 (au_ rfl)) ((p1.mono l).at_ I) (fo I)),ob_ rfl fun l A K I=>(aj_ rfl sh3 (A.v 0 rfl) (((p1.mono l).at_ I).fld Clue.fld1) (fo I)),ob_ rfl fun l A K I=>(ix_ Tryz.underlying45 sh3 (h1_.mono (le1.trans l)) hx11 (A.v 0 rfl) (A.v 2 rfl) (fo I)),ob_ rfl fun l A K I=>(aj_ rfl sh3 (A.v 3 rfl) ((h1_.mono (le1.trans l)).elem I.in_ hx11) (fo I)),ob_ rfl fun l A K I=>(br_ rfl (K 1 (au_ rfl)) (fo I)),ob_ rfl fun l A K I=>(ac_ rfl fv_ (K 2 (au_ rfl)) ((p1.mono l).at_ I) (fo I)),ob_ rfl fun l A K I=>(aj_ rfl sh3 (A.v 0 rfl) (((p1.mono l).at_ I).fld Clue.fld2) (fo I)),ob_ rfl fun l A K I=>(ix_ Tryz.underlying45 sh3 (h1_.mono (le1.trans l)) hx12 (A.v 0 rfl) (A.v 2 rfl) (fo I)),ob_ rfl fun l A K I=>(aj_ rfl sh3 (A.v 3 rfl) ((h1_.mono (le1.trans l)).elem I.in_ hx12) (fo I)),ob_ rfl fun l A K I=>(bv_ rfl (A.v 4 rfl) (A.v 9 rfl) (fo I)),?_,trivial⟩ ?_
  ·
   intro vs f w_ U X le A K I
   refine pl_ rfl (dm_ (v:=(vb (x11==x12))) rfl (A.v 10 rfl) (fo I))
  intro vs36 f w37 S37 ed11 le37 hF3 hK36 hI37
  have e38:f 2=(pt_ g1):=(hK36 2 (bf_ rfl)).trans rfl
  have I46:Inv w37 S37 (Fr):=hI37
  have q33:=hF3.v 11 rfl
  refine ab_ (aa_ (wm_ rfl q33 (wo_ (ac_ rfl mp_ e38 ((p1.mono le37).at_ I46) (wo_ (lb_ sh4 (((p1.mono le37).at_ I46).fld Clue.fld6) rfl (wo_ (nj_ (a:=x11==x12) (b:=a0.Not) rfl Tryz.underlying4 rfl rfl (wa_ (v:=(vb ((x11==x12) != a0.Not))) rfl rfl (ad_ (ap_ ?_)))))))))))
  obtain rfl:=sj h
  exact ⟨(ed11.trans rfl),(vb ((x11==x12) != a0.Not)),(eb_ rfl rfl),_,[],(le1.trans le37),I46,rfl,rfl⟩
 refine ao_ rfl hc11 (ab_ (aa_ (wo_ (bv_ rfl rfl rfl (wa_ (v:=(vb (a0.Kind==5))) rfl rfl (ad_ ?_))))))
 rcases ifs h with ⟨hc12,h⟩ | ⟨hc12,h⟩
 ·
  refine an_ rfl hc12 ?_
  obtain ⟨x13,hx13,h⟩:=bnd h
  refine ek_ (sps:=[spV 70 [] 0 (.slice z2 m2 k2),spV 71 [] 1 (aq_ (pt_ g1) 3),spV 72 [1] 2 (vi a0.N),spV 73 [0,1,2] 3 (vi x13),spV 74 [] 4 (aq_ (pt_ g1) 4),spV 75 [4] 5 (vi a0.M),spV 76 (lrg 6) 6 (vb (x13==a0.M)),spV 5 (lrg 7) 7 (vb (x13==a0.M))]) (tks:=[]) (O:=Fr) rfl (by kernel_rfl) I2 ⟨ob_ rfl fun l A K I=>(br_ rfl (K 1 (au_ rfl)) (fo I)),ob_ rfl fun l A K I=>(ac_ rfl ci_ (K 2 (au_ rfl)) ((p1.mono l).at_ I) (fo I)),ob_ rfl fun l A K I=>(aj_ rfl sh3 (A.v 0 rfl) (((p1.mono l).at_ I).fld Clue.fld3) (fo I)),fun vs f w U X l A K I=>pl_ rfl (cv_ ca232 rfl I (fun Fr_ hF_=>nf_ hF_ (h1_.mono (le1.trans l)) hx13) (ep_ (A.v 0 rfl) (A.v 2 rfl)) (fun w43 I52=>(fo I52))),ob_ rfl fun l A K I=>(ac_ rfl fk_ (K 2 (au_ rfl)) ((p1.mono l).at_ I) (fo I)),ob_ rfl fun l A K I=>(aj_ rfl sh3 (A.v 0 rfl) (((p1.mono l).at_ I).fld Clue.fld4) (fo I)),ob_ rfl fun l A K I=>(bv_ rfl (A.v 3 rfl) (A.v 5 rfl) (fo I)),?_,trivial⟩ ?_
  ·
   intro vs f w_ U X le A K I
   refine pl_ rfl (dm_ (v:=(vb (x13==a0.M))) rfl (A.v 6 rfl) (fo I))
  intro vs45 f w48 S46 ed12 le46 hF4 hK45 hI46
  have e39:f 2=(pt_ g1):=(hK45 2 (bf_ rfl)).trans rfl
  have I57:Inv w48 S46 (Fr):=hI46
  have q41:=hF4.v 7 rfl
  refine ab_ (aa_ (wm_ rfl q41 (wo_ (ac_ rfl mp_ e39 ((p1.mono le46).at_ I57) (wo_ (lb_ sh4 (((p1.mono le46).at_ I57).fld Clue.fld6) rfl (wo_ (nj_ (a:=x13==a0.M) (b:=a0.Not) rfl Tryz.underlying4 rfl rfl (wa_ (v:=(vb ((x13==a0.M) != a0.Not))) rfl rfl (ad_ (ap_ ?_)))))))))))
  obtain rfl:=sj h
  exact ⟨(ed12.trans rfl),(vb ((x13==a0.M) != a0.Not)),(eb_ rfl rfl),_,[],(le1.trans le46),I57,rfl,rfl⟩
 refine ao_ rfl hc12 (ab_ (aa_ (wo_ (bv_ rfl rfl rfl (wa_ (v:=(vb (a0.Kind==6))) rfl rfl (ad_ ?_))))))
 rcases ifs h with ⟨hc13,h⟩ | ⟨hc13,h⟩
 ·
  refine an_ rfl hc13 (ab_ (aa_ (wm_ (v:=(.slice z2 m2 k2)) rfl rfl (wo_ (fa_ pa_ (p1.at_ I2) rfl (wo_ (ld_ sh45 ((p1.at_ I2).fld Clue.fld5) rfl (fun u1 hu1 => ?_))))))))
  obtain ⟨z3,m3,k3,rfl⟩:=bb_ hu1
  obtain ⟨x14,hx14,h⟩:=bnd h
  refine wo_ (cv_ ca233 rfl I2 (fun Fr_ hF_=>xo_ hF_ (h1_.mono le1) hu1 hx14) (ep_ rfl rfl) (fun w49 I58=>(wm_ (v:=(Value.tuple #[(vi x14.1),(vi x14.2)])) rfl rfl (wo_ (qy_ (v:=(vi x14.1)) rfl rfl rfl (wo_ (qy_ (v:=(vi x14.2)) rfl rfl rfl (wa_ (v:=(vi x14.1)) rfl rfl (wa_ (v:=(vi x14.2)) rfl rfl (ad_ (aa_ (wm_ (v:=(vi x14.1)) rfl rfl (wo_ (fa_ ci_ (p1.at_ I58) rfl (wo_ (li_ sh3 ((p1.at_ I58).fld Clue.fld3) rfl (wo_ (bv_ rfl rfl rfl (wm_ (v:=(vb (x14.1==a0.N))) rfl rfl ?_)))))))))))))))))))
  rcases ifs h with ⟨hc14,h⟩ | ⟨hc14,h⟩
  ·
   refine wk_ rfl rfl hc14 (br_ (v:=(vi x14.2)) rfl rfl (wk_ rfl rfl hc14 (fa_ fk_ (p1.at_ I58) rfl (wk_ rfl rfl hc14 (li_ sh3 ((p1.at_ I58).fld Clue.fld4) rfl (wk_ rfl rfl hc14 (bv_ rfl rfl rfl (wo_ (ba_ (a:=(vb (x14.2==a0.M))) rfl rfl hc14 rfl (wa_ (v:=(vb (x14.2==a0.M))) rfl rfl (ad_ (ab_ (aa_ (wm_ (v:=(vb (x14.2==a0.M))) rfl rfl (wo_ (fa_ mp_ (p1.at_ I58) rfl (wo_ (lb_ sh4 ((p1.at_ I58).fld Clue.fld6) rfl (wo_ (nj_ (a:=x14.2==a0.M) (b:=a0.Not) rfl Tryz.underlying4 rfl rfl (wa_ (v:=(vb ((x14.2==a0.M) != a0.Not))) rfl rfl (ad_ (ap_ ?_)))))))))))))))))))))))
   obtain rfl:=sj h
   exact ⟨rfl,(vb ((x14.2==a0.M) != a0.Not)),(eb_ rfl rfl),_,[],le1,I58,rfl,rfl⟩
  refine ws_ rfl rfl hc14 (ws_ rfl rfl hc14 (ws_ rfl rfl hc14 (ws_ rfl rfl hc14 (wo_ (ah_ (b:=(vb false)) rfl rfl hc14 rfl (wa_ (v:=(vb false)) rfl rfl (ad_ (ab_ (aa_ (wm_ (v:=(vb false)) rfl rfl (wo_ (fa_ mp_ (p1.at_ I58) rfl (wo_ (lb_ sh4 ((p1.at_ I58).fld Clue.fld6) rfl (wo_ (nj_ (a:=false) (b:=a0.Not) rfl Tryz.underlying4 rfl rfl (wa_ (v:=(vb (false != a0.Not))) rfl rfl (ad_ (ap_ ?_)))))))))))))))))))
  obtain rfl:=sj h
  exact ⟨rfl,(vb (false != a0.Not)),(eb_ rfl rfl),_,[],le1,I58,rfl,rfl⟩
 refine ao_ rfl hc13 (ab_ (aa_ (wo_ (bv_ rfl rfl rfl (wa_ (v:=(vb (a0.Kind==7))) rfl rfl (ad_ ?_))))))
 rcases ifs h with ⟨hc15,h⟩ | ⟨hc15,h⟩
 ·
  refine an_ rfl hc15 ?_
  obtain ⟨x15,hx15,h⟩:=bnd h
  obtain ⟨x16,hx16,h⟩:=bnd h
  refine ek_ (sps:=[spV 98 [] 0 (.slice z2 m2 k2),spV 99 [] 1 (aq_ (pt_ g1) 1),spV 100 [1] 2 (vi a0.A),spV 101 [0,1,2] 3 (bx_ (.slice z2 m2 k2) (a0.A) (Enc.sz Int)),spV 102 [0,1,2,3] 4 (vi x15),spV 103 [] 5 (aq_ (pt_ g1) 3),spV 104 [5] 6 (vi a0.N),spV 105 (lrg 7) 7 (vi x16),spV 106 [] 8 (aq_ (pt_ g1) 4),spV 107 [8] 9 (vi a0.M),spV 108 (lrg 10) 10 (vb (x16==a0.M)),spV 5 (lrg 11) 11 (vb (x16==a0.M))]) (tks:=[]) (O:=Fr) rfl (by kernel_rfl) I2 ⟨ob_ rfl fun l A K I=>(br_ rfl (K 1 (au_ rfl)) (fo I)),ob_ rfl fun l A K I=>(ac_ rfl da_ (K 2 (au_ rfl)) ((p1.mono l).at_ I) (fo I)),ob_ rfl fun l A K I=>(aj_ rfl sh3 (A.v 0 rfl) (((p1.mono l).at_ I).fld Clue.fld1) (fo I)),ob_ rfl fun l A K I=>(ix_ Tryz.underlying45 sh3 (h1_.mono (le1.trans l)) hx15 (A.v 0 rfl) (A.v 2 rfl) (fo I)),ob_ rfl fun l A K I=>(aj_ rfl sh3 (A.v 3 rfl) ((h1_.mono (le1.trans l)).elem I.in_ hx15) (fo I)),ob_ rfl fun l A K I=>(ac_ rfl ci_ (K 2 (au_ rfl)) ((p1.mono l).at_ I) (fo I)),ob_ rfl fun l A K I=>(aj_ rfl sh3 (A.v 0 rfl) (((p1.mono l).at_ I).fld Clue.fld3) (fo I)),ob_ rfl fun l A K I=>(op_rem (a:=x15) (b:=a0.N) rfl (A.v 4 rfl) (A.v 6 rfl) hx16 (fo I)),ob_ rfl fun l A K I=>(ac_ rfl fk_ (K 2 (au_ rfl)) ((p1.mono l).at_ I) (fo I)),ob_ rfl fun l A K I=>(aj_ rfl sh3 (A.v 0 rfl) (((p1.mono l).at_ I).fld Clue.fld4) (fo I)),ob_ rfl fun l A K I=>(bv_ rfl (A.v 7 rfl) (A.v 9 rfl) (fo I)),?_,trivial⟩ ?_
  ·
   intro vs f w_ U X le A K I
   refine pl_ rfl (dm_ (v:=(vb (x16==a0.M))) rfl (A.v 10 rfl) (fo I))
  intro vs58 f w62 S59 ed13 le59 hF5 hK58 hI59
  have e41:f 2=(pt_ g1):=(hK58 2 (bf_ rfl)).trans rfl
  have I71:Inv w62 S59 (Fr):=hI59
  have q53:=hF5.v 11 rfl
  refine ab_ (aa_ (wm_ rfl q53 (wo_ (ac_ rfl mp_ e41 ((p1.mono le59).at_ I71) (wo_ (lb_ sh4 (((p1.mono le59).at_ I71).fld Clue.fld6) rfl (wo_ (nj_ (a:=x16==a0.M) (b:=a0.Not) rfl Tryz.underlying4 rfl rfl (wa_ (v:=(vb ((x16==a0.M) != a0.Not))) rfl rfl (ad_ (ap_ ?_)))))))))))
  obtain rfl:=sj h
  exact ⟨(ed13.trans rfl),(vb ((x16==a0.M) != a0.Not)),(eb_ rfl rfl),_,[],(le1.trans le59),I71,rfl,rfl⟩
 refine ao_ rfl hc15 (bc_ (ab_ (aa_ (wm_ (v:=(vb false)) rfl rfl (wo_ (fa_ mp_ (p1.at_ I2) rfl (wo_ (lb_ sh4 ((p1.at_ I2).fld Clue.fld6) rfl (wo_ (nj_ (a:=false) (b:=a0.Not) rfl Tryz.underlying4 rfl rfl (wa_ (v:=(vb (false != a0.Not))) rfl rfl (ad_ (ap_ ?_)))))))))))))
 obtain rfl:=sj h
 exact ⟨rfl,(vb (false != a0.Not)),(eb_ rfl rfl),_,[],le1,I2,rfl,rfl⟩
end Go.Proofs.YtfcgcpjnpdkjmaaGreatDoor.Pad
end
section
set_option maxHeartbeats 4000000
set_option maxRecDepth 100000
namespace Go.Proofs.YtfcgcpjnpdkjmaaGreatDoor.Pad
open Go Go.Proofs
end Go.Proofs.YtfcgcpjnpdkjmaaGreatDoor.Pad
end
section
namespace Go.Proofs.YtfcgcpjnpdkjmaaGreatDoor.Rex
open Go Go.Proofs.YtfcgcpjnpdkjmaaGreatDoor.Pad
variable [Gb]
theorem br_list {α β:Type} [ea:Enc α] [eb:Enc β] (f:α→β) (hs:Enc.sz α=Enc.sz β) (hr:∀ (S:PH) cs x,ea.rep S cs x→eb.rep S cs (f x)) {S:PH} {v:Value} {l:List α} (h:RV S v l):RV S v (l.map f):=by
  obtain ⟨a,cap,rfl,h1,h2,h3,h4⟩:=je_ h
  rw [show l.length=(l.map f).length by simp]
  refine qu_ ⟨by simpa using h1,h2,fun e=>⟨by rw [(h3 e).1]; rfl,(h3 e).2⟩,fun ad e i x hx => ?_⟩
  rw [List.getElem?_map] at hx
  cases hl:l[i]? with
  | none=>rw [hl] at hx; cases hx
  | some y =>
    rw [hl] at hx
    obtain rfl:=Option.some.inj hx
    obtain ⟨es,p,q⟩:=h4 ad e i y hl
    exact ⟨es,hr S es y p,fun j u hu=>by rw [← hs]; exact q j u hu⟩
def cvL (x:Int×Int):CodeLock:=⟨x.1,x.2⟩
def cvC (x:Int×Int×Int×Int×Int×List Int×Bool):Clue:=⟨x.1,x.2.1,x.2.2.1,x.2.2.2.1,x.2.2.2.2.1,x.2.2.2.2.2.1,x.2.2.2.2.2.2⟩
abbrev tyL:Ty:=.pair .int (.one .int)
abbrev tyC:Ty:=.pair .int (.pair .int (.pair .int (.pair .int (.pair .int (.pair (.list .int) (.one .bool))))))
theorem br_L {S:PH} {v:Value} {x:tyL.den} (h:RVt tyL S v x):RV S v (cvL x):=h
theorem br_C {S:PH} {v:Value} {x:tyC.den} (h:RVt tyC S v x):RV S v (cvC x):=h
theorem br_Cs {S:PH} {v:Value} {l:List tyC.den} (h:RVt (.list tyC) S v l):RV S v (l.map cvC):=br_list (ea:=tyC.enc) cvC rfl (fun S cs x h=>h) h
theorem br_Is {S:PH} {v:Value} {l:List Int} (h:RVt (.list .int) S v l):RV S v l:=h
theorem map_some {α β:Type} {o:Option α} {f:α→β} {r:β} (h:o.map f=some r):∃ x,o=some x∧r=f x:=by
  cases o with
  | none=>cases h
  | some x=>exact ⟨x,rfl,(Option.some.inj h).symm⟩
def eo_ {α:Type} (x:α):α×Unit:=(x,())
def zf_ {α β:Type} (x:α×β):α×β×Unit:=(x.1,x.2,())
theorem ra_i {T:PH} (n:Int):RA (fun _=>undef) T (outA [.int] (n,())) (.int .i64 n):=um_ n
theorem ra_b {T:PH} (n:Bool):RA (fun _=>undef) T (outA [.bool] (n,())) (.bool n):=wb_ n
theorem ra_ii {T:PH} (a b:Int):RA (fun _=>undef) T (outA [.int,.int] (a,b,())) (.tuple #[.int .i64 a,.int .i64 b]):=⟨[_,_],rfl,um_ a,um_ b,trivial⟩
theorem ra_bi {T:PH} (a:Bool) (b:Int):RA (fun _=>undef) T (outA [.bool,.int] (a,b,())) (.tuple #[.bool a,.int .i64 b]):=⟨[_,_],rfl,wb_ a,um_ b,trivial⟩
section
variable {P:Program} {k:FuncId} {w:World} {S:PH} {Fr:List HP} {v:Value} {vs:Array Value}
theorem qd_ {rs:List Ty} {r:sb_ rs} (h:Calls P k vs w (fh_ S Fr v)) (hr:∀ T,RA (fun _=>undef) T (outA rs r) v):Calls P k vs w (Done S Fr fun T u O'=>O'=[]∧RA (fun _=>undef) T (outA rs r) u) :=
  h.mono fun e w' he=>by
    cases e with
    | returned u =>
      obtain ⟨T,O',a,b,c,d⟩:=he
      subst c
      exact ⟨T,O',a,b,d,hr T⟩
    | panicked c=>exact he.elim
    | outgrown=>exact he.elim
end
end Go.Proofs.YtfcgcpjnpdkjmaaGreatDoor.Rex
end
section
set_option maxRecDepth 100000
set_option maxHeartbeats 0
namespace Go.Proofs.YtfcgcpjnpdkjmaaGreatDoor.Rx
open Go Go.Proofs.YtfcgcpjnpdkjmaaGreatDoor.Pad Go.Proofs.YtfcgcpjnpdkjmaaGreatDoor.Rex Go.Proofs
noncomputable def ez_ (a0:ag_) (a1:(List bn_)):Option (Int×Int×Unit):=(kc_ (cvL a0) (a1.map cvC)).map zf_
noncomputable def c_29:Con Tryz.prog:=⟨29,[cd_,(.list dc_)],[.int,.int],fun x=>ez_ x.1 x.2.1,fun {w S Fr hv vs x r} hG hI hf h=>by
  obtain ⟨y,hy,rfl⟩:=map_some h
  match vs,hf with
  | [v0,v1],⟨h0,h1,_⟩=>exact qd_ (zp_ hI (br_L (fs_ (hv:=hv) (t:=tyL) h0)) (br_Cs (fs_ (hv:=hv) (t:=.list tyC) h1)) hy) (fun T=>ra_ii _ _)⟩
noncomputable def lo_ (a0:ag_):Option (Int×Unit):=(gy_ (cvL a0)).map eo_
noncomputable def c_75:Con Tryz.prog:=⟨75,[cd_],[.int],fun x=>lo_ x.1,fun {w S Fr hv vs x r} hG hI hf h=>by
  obtain ⟨y,hy,rfl⟩:=map_some h
  match vs,hf with
  | [v0],⟨h0,_⟩=>exact qd_ (ki_ hI (br_L (fs_ (hv:=hv) (t:=tyL) h0)) hy) (fun T=>ra_i _)⟩
noncomputable def hh_ (a0:ag_) (a1:(List Int)):Option (Int×Unit):=(fq_ (cvL a0) a1).map eo_
noncomputable def c_76:Con Tryz.prog:=⟨76,[cd_,(.list .int)],[.int],fun x=>hh_ x.1 x.2.1,fun {w S Fr hv vs x r} hG hI hf h=>by
  obtain ⟨y,hy,rfl⟩:=map_some h
  match vs,hf with
  | [v0,v1],⟨h0,h1,_⟩=>exact qd_ (mz_ hI (br_L (fs_ (hv:=hv) (t:=tyL) h0)) (br_Is (fs_ (hv:=hv) (t:=.list .int) h1)) hy) (fun T=>ra_i _)⟩
noncomputable def lm_ (a0:ag_):Option (Int×Unit):=(ik_ (cvL a0)).map eo_
noncomputable def c_86:Con Tryz.prog:=⟨86,[cd_],[.int],fun x=>lm_ x.1,fun {w S Fr hv vs x r} hG hI hf h=>by
  obtain ⟨y,hy,rfl⟩:=map_some h
  match vs,hf with
  | [v0],⟨h0,_⟩=>exact qd_ (ng_ hI (br_L (fs_ (hv:=hv) (t:=tyL) h0)) hy) (fun T=>ra_i _)⟩
noncomputable def hf_ (a0:ag_) (a1:(List Int)):Option (Int×Unit):=(go_ (cvL a0) a1).map eo_
noncomputable def c_87:Con Tryz.prog:=⟨87,[cd_,(.list .int)],[.int],fun x=>hf_ x.1 x.2.1,fun {w S Fr hv vs x r} hG hI hf h=>by
  obtain ⟨y,hy,rfl⟩:=map_some h
  match vs,hf with
  | [v0,v1],⟨h0,h1,_⟩=>exact qd_ (sx_ hI (br_L (fs_ (hv:=hv) (t:=tyL) h0)) (br_Is (fs_ (hv:=hv) (t:=.list .int) h1)) hy) (fun T=>ra_i _)⟩
noncomputable def ln_ (a0:ag_) (a1:bn_) (a2:(List Int)):Option (Bool×Int×Unit):=(ow_ (cvL a0) (cvC a1) a2).map zf_
noncomputable def c_156:Con Tryz.prog:=⟨156,[cd_,dc_,(.list .int)],[.bool,.int],fun x=>ln_ x.1 x.2.1 x.2.2.1,fun {w S Fr hv vs x r} hG hI hf h=>by
  obtain ⟨y,hy,rfl⟩:=map_some h
  match vs,hf with
  | [v0,v1,v2],⟨h0,h1,h2,_⟩=>exact qd_ (zo_ hI (br_L (fs_ (hv:=hv) (t:=tyL) h0)) (br_C (fs_ (hv:=hv) (t:=tyC) h1)) (br_Is (fs_ (hv:=hv) (t:=.list .int) h2)) hy) (fun T=>ra_bi _ _)⟩
noncomputable def hg_ (a0:ag_) (a1:bn_):Option (Int×Unit):=(ji_ (cvL a0) (cvC a1)).map eo_
noncomputable def c_169:Con Tryz.prog:=⟨169,[cd_,dc_],[.int],fun x=>hg_ x.1 x.2.1,fun {w S Fr hv vs x r} hG hI hf h=>by
  obtain ⟨y,hy,rfl⟩:=map_some h
  match vs,hf with
  | [v0,v1],⟨h0,h1,_⟩=>exact qd_ (sz_ hI (br_L (fs_ (hv:=hv) (t:=tyL) h0)) (br_C (fs_ (hv:=hv) (t:=tyC) h1)) hy) (fun T=>ra_i _)⟩
noncomputable def ms_ (a0:bn_) (a1:(List Int)):Option (Bool×Unit):=(jw_ (cvC a0) a1).map eo_
noncomputable def c_170:Con Tryz.prog:=⟨170,[dc_,(.list .int)],[.bool],fun x=>ms_ x.1 x.2.1,fun {w S Fr hv vs x r} hG hI hf h=>by
  obtain ⟨y,hy,rfl⟩:=map_some h
  match vs,hf with
  | [v0,v1],⟨h0,h1,_⟩=>exact qd_ (ref01_True_ok hI (br_C (fs_ (hv:=hv) (t:=tyC) h0)) (br_Is (fs_ (hv:=hv) (t:=.list .int) h1)) hy) (fun T=>ra_b _)⟩
theorem cz_34:vn_ Tryz.prog 3 .int=some (show Int from 0):=by kernel_rfl
theorem ce_34:Rex.elemOf Tryz.prog 45=some 3:=by kernel_rfl
noncomputable def cp_34:Cpy Tryz.prog:=⟨34,.int,3,fun hc hI h=>clone_ok Tryz.func34 rfl rfl rfl ce_34 cz_34 rfl hc hI h⟩
theorem cz_84:vn_ Tryz.prog 4 .bool=some (show Bool from false):=by kernel_rfl
theorem ce_84:Rex.elemOf Tryz.prog 48=some 4:=by kernel_rfl
noncomputable def cp_84:Cpy Tryz.prog:=⟨84,.bool,4,fun hc hI h=>clone_ok Tryz.func84 rfl rfl rfl ce_84 cz_84 rfl hc hI h⟩
end Go.Proofs.YtfcgcpjnpdkjmaaGreatDoor.Rx
end
section
set_option maxRecDepth 100000
set_option maxHeartbeats 0
namespace Go.Proofs.YtfcgcpjnpdkjmaaGreatDoor.Rx
open Go Go.Proofs.YtfcgcpjnpdkjmaaGreatDoor.Pad Go.Proofs.YtfcgcpjnpdkjmaaGreatDoor.Rex Go.Proofs
def an_28:An:=(.p .z (.p (.j0 [.v 49 .bool] .z .z) (.p (.p .z (.ls [.v 3 .int] [] [] 0 .z)) (.p (.p .z (.ls [.v 4 .int] [] [] 2 .z)) (.p (.p .z (.ls [.v 5 .int] [] [] 4 (.p .z (.p (.j0 [.v 103 .bool] .z .z) .z)))) (.p (.p .z (.ls [.v 6 .int] [] [] 6 .z)) (.p (.p .z (.ls [.v 7 .int] [] [] 8 (.p .z (.p (.p .z (.j0 [.v 164 .bool] .z .z)) .z)))) (.p (.p .z (.ls [.v 9 .int] [] [] 10 .z)) .z))))))))
noncomputable def cs_28:List (Con Tryz.prog):=[]
noncomputable def cl_28:List (Cpy Tryz.prog):=[]
noncomputable def cx_28:Cx Tryz.prog:=cxC cs_28 cl_28
noncomputable def ot_ (a0:ae_):Option (Bool×Unit) :=
 (((cond (decide (12<(a0.1.length:Int)))
 (some (true,()))
 (cond (decide (15<(a0.2.1.length:Int)))
 (some (true,()))
 (cond (decide (14<(a0.2.2.1.length:Int)))
 (some (true,()))
 (cond (decide (20<(a0.2.2.2.1.length:Int)))
 (some (true,()))
 (cond (decide (30<(a0.2.2.2.2.1.length:Int)))
 (some (true,()))
 (cond (decide (15<(a0.2.2.2.2.2.1.length:Int)))
 (some (true,()))
 (some ((decide (20<(a0.2.2.2.2.2.2.2.length:Int))),()))))))))).bind fun v0 =>
 (cond v0.1
 (some (true,()))
 ((af_ (ρ:=(Unit⊕(Bool×Unit))) (fun (v1:(Int×Unit)) =>
 (cond (decide (v1.1<(a0.1.length:Int)))
 ((at? a0.1 v1.1).bind fun v2 =>
 (cond (decide (100<(v2.length:Int)))
 (some (Sum.inr (Sum.inr (true,()))))
 (some (Sum.inl ((w64 (v1.1+1)),())))))
 (some (Sum.inr (Sum.inl ()))))) (0,())).bind fun v3 =>
 (de_ v3 (fun v4=>((af_ (ρ:=(Unit⊕(Bool×Unit))) (fun (v6:(Int×Unit)) =>
 (cond (decide (v6.1<(a0.2.1.length:Int)))
 ((at? a0.2.1 v6.1).bind fun v7 =>
 (cond (decide (100<(v7.1.length:Int)))
 (some (Sum.inr (Sum.inr (true,()))))
 (some (Sum.inl ((w64 (v6.1+1)),())))))
 (some (Sum.inr (Sum.inl ()))))) (0,())).bind fun v8 =>
 (de_ v8 (fun v9=>((af_ (ρ:=(Unit⊕(Bool×Unit))) (fun (v11:(Int×Unit)) =>
 (cond (decide (v11.1<(a0.2.2.1.length:Int)))
 ((((at? a0.2.2.1 v11.1).bind fun v12 =>
 (cond (decide (100<(v12.1.length:Int)))
 (some (true,()))
 ((at? a0.2.2.1 v11.1).bind fun v13 =>
 (some ((decide (20<(v13.2.2.length:Int))),())))))).bind fun v14 =>
 (cond v14.1
 (some (Sum.inr (Sum.inr (true,()))))
 (some (Sum.inl ((w64 (v11.1+1)),())))))
 (some (Sum.inr (Sum.inl ()))))) (0,())).bind fun v15 =>
 (de_ v15 (fun v16=>((af_ (ρ:=(Unit⊕(Bool×Unit))) (fun (v18:(Int×Unit)) =>
 (cond (decide (v18.1<(a0.2.2.2.1.length:Int)))
 ((at? a0.2.2.2.1 v18.1).bind fun v19 =>
 (cond (decide (20<(v19.2.2.length:Int)))
 (some (Sum.inr (Sum.inr (true,()))))
 (some (Sum.inl ((w64 (v18.1+1)),())))))
 (some (Sum.inr (Sum.inl ()))))) (0,())).bind fun v20 =>
 (de_ v20 (fun v21=>((af_ (ρ:=(Unit⊕(Bool×Unit))) (fun (v23:(Int×Unit)) =>
 (cond (decide (v23.1<(a0.2.2.2.2.1.length:Int)))
 ((at? a0.2.2.2.2.1 v23.1).bind fun v24 =>
 (((cond (decide (100<(v24.1.length:Int)))
 (some (true,()))
 (cond (decide (20<(v24.2.2.2.2.1.length:Int)))
 (some (true,()))
 (cond (decide (20<(v24.2.2.2.1.length:Int)))
 (some (true,()))
 (cond (decide (20<(v24.2.2.2.2.2.1.length:Int)))
 (some (true,()))
 (cond (decide (20<(v24.2.2.2.2.2.2.1.length:Int)))
 (some (true,()))
 (some ((decide (20<(v24.2.2.2.2.2.2.2.length:Int))),())))))))).bind fun v25 =>
 (cond v25.1
 (some (Sum.inr (Sum.inr (true,()))))
 (some (Sum.inl ((w64 (v23.1+1)),()))))))
 (some (Sum.inr (Sum.inl ()))))) (0,())).bind fun v26 =>
 (de_ v26 (fun v27=>((af_ (ρ:=(Unit⊕(Bool×Unit))) (fun (v29:(Int×Unit)) =>
 (cond (decide (v29.1<(a0.2.2.2.2.2.1.length:Int)))
 ((at? a0.2.2.2.2.2.1 v29.1).bind fun v30 =>
 (cond (decide (20<(v30.1.length:Int)))
 (some (Sum.inr (Sum.inr (true,()))))
 (some (Sum.inl ((w64 (v29.1+1)),())))))
 (some (Sum.inr (Sum.inl ()))))) (0,())).bind fun v31 =>
 (de_ v31 (fun v32=>(some (false,())))
 (fun v33=>(some v33)))))
 (fun v28=>(some v28)))))
 (fun v22=>(some v22)))))
 (fun v17=>(some v17)))))
 (fun v10=>(some v10)))))
 (fun v5=>(some v5))))))
theorem x_28:ch_ cx_28 an_28 28 [ay_] [.bool]=fun x=>ot_ x.1:=by kernel_rfl
noncomputable def c_28:Con Tryz.prog:=ck_ _ _ 28 [ay_] [.bool] _ x_28
def an_7:An:=.z
noncomputable def cs_7:List (Con Tryz.prog):=[c_29]
noncomputable def cl_7:List (Cpy Tryz.prog):=[]
noncomputable def cx_7:Cx Tryz.prog:=cxC cs_7 cl_7
noncomputable def cm_  : Option (Bool×Unit) :=
 ((ez_ (2,4) [(2,(0,(1,(4,(0,([],false))))))]).bind fun v0 =>
 (cond (v0.1==3)
 (some ((v0.2.1==0),()))
 (some (false,()))))
theorem x_7:ch_ cx_7 an_7 7 [] [.bool]=fun x=>cm_:=by kernel_rfl
noncomputable def c_7:Con Tryz.prog:=ck_ _ _ 7 [] [.bool] _ x_7
def an_70:An:=.z
noncomputable def cs_70:List (Con Tryz.prog):=[]
noncomputable def cl_70:List (Cpy Tryz.prog):=[]
noncomputable def cx_70:Cx Tryz.prog:=cxC cs_70 cl_70
noncomputable def dd_ (a0:(List az_)):Option ((List az_)×Unit) :=
 ((push? (α:=az_) [] a0).bind fun v0 =>
 (some (v0,())))
theorem x_70:ch_ cx_70 an_70 70 [(.list cr_)] [(.list cr_)]=fun x=>dd_ x.1:=by kernel_rfl
noncomputable def c_70:Con Tryz.prog:=ck_ _ _ 70 [(.list cr_)] [(.list cr_)] _ x_70
def an_71:An:=.z
noncomputable def cs_71:List (Con Tryz.prog):=[]
noncomputable def cl_71:List (Cpy Tryz.prog):=[]
noncomputable def cx_71:Cx Tryz.prog:=cxC cs_71 cl_71
noncomputable def er_ (a0:(List Int)):Option ((List Int)×Unit) :=
 ((push? (α:=Int) [] a0).bind fun v0 =>
 (some (v0,())))
theorem x_71:ch_ cx_71 an_71 71 [(.list .int)] [(.list .int)]=fun x=>er_ x.1:=by kernel_rfl
noncomputable def c_71:Con Tryz.prog:=ck_ _ _ 71 [(.list .int)] [(.list .int)] _ x_71
def an_31:An:=.z
noncomputable def cs_31:List (Con Tryz.prog):=[]
noncomputable def cl_31:List (Cpy Tryz.prog):=[]
noncomputable def cx_31:Cx Tryz.prog:=cxC cs_31 cl_31
noncomputable def ie_ (a0:bn_):Option (bn_×Unit) :=
 ((push? (α:=Int) [] a0.2.2.2.2.2.1).bind fun v0 =>
 (some ((a0.1,(a0.2.1,(a0.2.2.1,(a0.2.2.2.1,(a0.2.2.2.2.1,(v0,a0.2.2.2.2.2.2)))))),())))
theorem x_31:ch_ cx_31 an_31 31 [dc_] [dc_]=fun x=>ie_ x.1:=by kernel_rfl
noncomputable def c_31:Con Tryz.prog:=ck_ _ _ 31 [dc_] [dc_] _ x_31
def an_140:An:=.z
noncomputable def cs_140:List (Con Tryz.prog):=[]
noncomputable def cl_140:List (Cpy Tryz.prog):=[]
noncomputable def cx_140:Cx Tryz.prog:=cxC cs_140 cl_140
noncomputable def bl_ (a0:Int) (a1:Int) (a2:Int):Option (Bool×Unit) :=
 (cond (decide (a1≤a0))
 (some ((decide (a0≤a2)),()))
 (some (false,())))
theorem x_140:ch_ cx_140 an_140 140 [.int,.int,.int] [.bool]=fun x=>bl_ x.1 x.2.1 x.2.2.1:=by kernel_rfl
noncomputable def c_140:Con Tryz.prog:=ck_ _ _ 140 [.int,.int,.int] [.bool] _ x_140
def an_286:An:=(.p .z (.p (.p .z (.ls [.v 8 .int] [] [] 0 .z)) .z))
noncomputable def cs_286:List (Con Tryz.prog):=[]
noncomputable def cl_286:List (Cpy Tryz.prog):=[]
noncomputable def cx_286:Cx Tryz.prog:=cxC cs_286 cl_286
noncomputable def eu_ (a0:(List (List UInt8))) (a1:(List UInt8)):Option (Int×Unit) :=
 ((af_ (ρ:=(Unit⊕(Int×Unit))) (fun (v0:(Int×Unit)) =>
 (cond (decide (v0.1<(a0.length:Int)))
 ((at? a0 v0.1).bind fun v1 =>
 (cond (a1==v1)
 (some (Sum.inr (Sum.inr (v0.1,()))))
 (some (Sum.inl ((w64 (v0.1+1)),())))))
 (some (Sum.inr (Sum.inl ()))))) (0,())).bind fun v2 =>
 (de_ v2 (fun v3=>(some ((-1),())))
 (fun v4=>(some v4))))
theorem x_286:ch_ cx_286 an_286 286 [(.list .str),.str] [.int]=fun x=>eu_ x.1 x.2.1:=by kernel_rfl
noncomputable def c_286:Con Tryz.prog:=ck_ _ _ 286 [(.list .str),.str] [.int] _ x_286
def an_142:An:=.z
noncomputable def cs_142:List (Con Tryz.prog):=[]
noncomputable def cl_142:List (Cpy Tryz.prog):=[]
noncomputable def cx_142:Cx Tryz.prog:=cxC cs_142 cl_142
noncomputable def vw_ (a0:(List UInt8)):Option ((List UInt8)×Unit) :=
 (some (a0,()))
theorem x_142:ch_ cx_142 an_142 142 [.str] [.str]=fun x=>vw_ x.1:=by kernel_rfl
noncomputable def c_142:Con Tryz.prog:=ck_ _ _ 142 [.str] [.str] _ x_142
def an_144:An:=.z
noncomputable def cs_144:List (Con Tryz.prog):=[]
noncomputable def cl_144:List (Cpy Tryz.prog):=[]
noncomputable def cx_144:Cx Tryz.prog:=cxC cs_144 cl_144
noncomputable def vv_ (a0:io_):Option ((List UInt8)×Unit) :=
 (some (a0.1,()))
theorem x_144:ch_ cx_144 an_144 144 [ru_] [.str]=fun x=>vv_ x.1:=by kernel_rfl
noncomputable def c_144:Con Tryz.prog:=ck_ _ _ 144 [ru_] [.str] _ x_144
def an_146:An:=.z
noncomputable def cs_146:List (Con Tryz.prog):=[]
noncomputable def cl_146:List (Cpy Tryz.prog):=[]
noncomputable def cx_146:Cx Tryz.prog:=cxC cs_146 cl_146
noncomputable def yo_ (a0:ls_):Option ((List UInt8)×Unit) :=
 (some (a0.1,()))
theorem x_146:ch_ cx_146 an_146 146 [qp_] [.str]=fun x=>yo_ x.1:=by kernel_rfl
noncomputable def c_146:Con Tryz.prog:=ck_ _ _ 146 [qp_] [.str] _ x_146
def an_212:An:=.z
noncomputable def cs_212:List (Con Tryz.prog):=[]
noncomputable def cl_212:List (Cpy Tryz.prog):=[]
noncomputable def cx_212:Cx Tryz.prog:=cxC cs_212 cl_212
noncomputable def zk_ (a0:dr_):Option ((List UInt8)×Unit) :=
 (some (a0.1,()))
theorem x_212:ch_ cx_212 an_212 212 [np_] [.str]=fun x=>zk_ x.1:=by kernel_rfl
noncomputable def c_212:Con Tryz.prog:=ck_ _ _ 212 [np_] [.str] _ x_212
def an_213:An:=(.p .z (.p .z (.p (.p .z (.ls [.v 5 .int,.v 10 .int] [] [] 0 (.p .z (.p .z (.p (.p .z (.p (.j0 [.v 23 .bool] .z .z) .z)) .z))))) .z)))
noncomputable def cs_213:List (Con Tryz.prog):=[]
noncomputable def cl_213:List (Cpy Tryz.prog):=[]
noncomputable def cx_213:Cx Tryz.prog:=cxC cs_213 cl_213
noncomputable def iw_ (a0:ae_) (a1:(List Int)):Option (Bool×Unit) :=
 ((af_ (ρ:=(Unit⊕(Bool×Unit))) (fun (v0:(Int×(Int×Unit))) =>
 (cond (decide (v0.2.1<(a1.length:Int)))
 ((at? a1 v0.2.1).bind fun v1 =>
 (((cond (decide (v1≤v0.1))
 (some (true,()))
 (some ((decide ((a0.2.2.1.length:Int)≤v1)),())))).bind fun v2 =>
 (cond v2.1
 (some (Sum.inr (Sum.inr (false,()))))
 (some (Sum.inl (v1,((w64 (v0.2.1+1)),())))))))
 (some (Sum.inr (Sum.inl ()))))) ((-1),(0,()))).bind fun v3 =>
 (de_ v3 (fun v4=>(some (true,())))
 (fun v5=>(some v5))))
theorem x_213:ch_ cx_213 an_213 213 [ay_,(.list .int)] [.bool]=fun x=>iw_ x.1 x.2.1:=by kernel_rfl
noncomputable def c_213:Con Tryz.prog:=ck_ _ _ 213 [ay_,(.list .int)] [.bool] _ x_213
def an_162:An:=(.p .z (.p (.p .z (.ls [.v 8 .int] [] [] 0 .z)) .z))
noncomputable def cs_162:List (Con Tryz.prog):=[]
noncomputable def cl_162:List (Cpy Tryz.prog):=[]
noncomputable def cx_162:Cx Tryz.prog:=cxC cs_162 cl_162
noncomputable def ge_ (a0:(List Int)) (a1:Int):Option (Int×Unit) :=
 ((af_ (ρ:=(Unit⊕(Int×Unit))) (fun (v0:(Int×Unit)) =>
 (cond (decide (v0.1<(a0.length:Int)))
 ((at? a0 v0.1).bind fun v1 =>
 (cond (a1==v1)
 (some (Sum.inr (Sum.inr (v0.1,()))))
 (some (Sum.inl ((w64 (v0.1+1)),())))))
 (some (Sum.inr (Sum.inl ()))))) (0,())).bind fun v2 =>
 (de_ v2 (fun v3=>(some ((-1),())))
 (fun v4=>(some v4))))
theorem x_162:ch_ cx_162 an_162 162 [(.list .int),.int] [.int]=fun x=>ge_ x.1 x.2.1:=by kernel_rfl
noncomputable def c_162:Con Tryz.prog:=ck_ _ _ 162 [(.list .int),.int] [.int] _ x_162
def an_79:An:=.z
noncomputable def cs_79:List (Con Tryz.prog):=[]
noncomputable def cl_79:List (Cpy Tryz.prog):=[]
noncomputable def cx_79:Cx Tryz.prog:=cxC cs_79 cl_79
noncomputable def ed_ (a0:Int) (a1:Int) (a2:Int):Option (Bool×Unit) :=
 (cond (decide (a1≤a0))
 (some ((decide (a0≤a2)),()))
 (some (false,())))
theorem x_79:ch_ cx_79 an_79 79 [.int,.int,.int] [.bool]=fun x=>ed_ x.1 x.2.1 x.2.2.1:=by kernel_rfl
noncomputable def c_79:Con Tryz.prog:=ck_ _ _ 79 [.int,.int,.int] [.bool] _ x_79
def an_154:An:=(.p .z (.p (.p .z (.j0 [.v 5 .bool] .z .z)) (.p (.p .z (.ls [.v 19 .int] [] [] 1 (.p .z (.p .z (.p (.p .z (.j0 [.v 31 .bool] .z .z)) .z))))) .z)))
noncomputable def cs_154:List (Con Tryz.prog):=[]
noncomputable def cl_154:List (Cpy Tryz.prog):=[]
noncomputable def cx_154:Cx Tryz.prog:=cxC cs_154 cl_154
noncomputable def os_ (a0:(List UInt8)):Option (Bool×Unit) :=
 (((cond (a0==[])
 (some ((a0==[]),()))
 (cond (a0==[97,116])
 (some ((a0==[97,116]),()))
 (cond (a0==[115,116,97,116,101,115])
 (some ((a0==[115,116,97,116,101,115]),()))
 (cond (a0==[115,116,97,114,116])
 (some ((a0==[115,116,97,114,116]),()))
 (cond (a0==[103,111,110,101])
 (some ((a0==[103,111,110,101]),()))
 (cond (a0==[105,102])
 (some ((a0==[105,102]),()))
 (cond (a0==[108,111,99,107])
 (some ((a0==[108,111,99,107]),()))
 (cond (a0==[119,105,116,104])
 (some ((a0==[119,105,116,104]),()))
 (cond (a0==[115,101,116,115])
 (some ((a0==[115,101,116,115]),()))
 (cond (a0==[115,112,101,110,100,115])
 (some ((a0==[115,112,101,110,100,115]),()))
 (some ((a0==[98,114,105,110,103,115]),()))))))))))))).bind fun v0 =>
 (cond v0.1
 (some (false,()))
 ((af_ (ρ:=(Unit⊕(Bool×Unit))) (fun (v1:(Int×Unit)) =>
 (cond (decide (v1.1<(a0.length:Int)))
 ((((at? a0 v1.1).bind fun v2 =>
 (cond (decide (((UInt8.toNat v2):Int)<97))
 (some (true,()))
 ((at? a0 v1.1).bind fun v3 =>
 (some ((decide (122<((UInt8.toNat v3):Int))),())))))).bind fun v4 =>
 (cond v4.1
 (some (Sum.inr (Sum.inr (false,()))))
 (some (Sum.inl ((w64 (v1.1+1)),())))))
 (some (Sum.inr (Sum.inl ()))))) (0,())).bind fun v5 =>
 (de_ v5 (fun v6=>(some (true,())))
 (fun v7=>(some v7))))))
theorem x_154:ch_ cx_154 an_154 154 [.str] [.bool]=fun x=>os_ x.1:=by kernel_rfl
noncomputable def c_154:Con Tryz.prog:=ck_ _ _ 154 [.str] [.bool] _ x_154
def an_155:An:=.z
noncomputable def cs_155:List (Con Tryz.prog):=[]
noncomputable def cl_155:List (Cpy Tryz.prog):=[]
noncomputable def cx_155:Cx Tryz.prog:=cxC cs_155 cl_155
noncomputable def mb_ (a0:bn_):Option (Bool×Unit) :=
 (cond (a0.1==0)
 (cond (a0.2.1==0)
 (cond (a0.2.2.1==0)
 (cond (a0.2.2.2.1==0)
 (cond (a0.2.2.2.2.1==0)
 (cond ((a0.2.2.2.2.2.1.length:Int)==0)
 (some ((!a0.2.2.2.2.2.2),()))
 (some (false,())))
 (some (false,())))
 (some (false,())))
 (some (false,())))
 (some (false,())))
 (some (false,())))
theorem x_155:ch_ cx_155 an_155 155 [dc_] [.bool]=fun x=>mb_ x.1:=by kernel_rfl
noncomputable def c_155:Con Tryz.prog:=ck_ _ _ 155 [dc_] [.bool] _ x_155
def an_161:An:=.z
def at_161:FuncId→An:=fun k=>cond (Nat.beq k 157) (.p .z (.j0 [.v 4 .bool] .z .z)) (cond (Nat.beq k 224) (.p .z (.p (.p .z (.ls [.v 8 .int] [] [] 0 .z)) .z)) (cond (Nat.beq k 227) (.p .z (.p (.q [] .z .z) .z)) (.z)))
noncomputable def cs_161:List (Con Tryz.prog):=[]
noncomputable def cl_161:List (Cpy Tryz.prog):=[]
noncomputable def cx_161:Cx Tryz.prog:=cxI at_161 (fun k=>false) (cxC cs_161 cl_161) 4
noncomputable def bg_ (a0:kt_) (a1:(List az_)):Option (Bool×Unit) :=
 ((((af_ (ρ:=(Unit⊕(Bool×Unit))) (fun (v0:(Int×Unit)) =>
 (cond (decide (v0.1<(a1.length:Int)))
 ((at? a1 v0.1).bind fun v1 =>
 ((at? a0.2.1 v1.1).bind fun v2 =>
 (cond ((v2==v1.2.1)==v1.2.2)
 (some (Sum.inr (Sum.inr ((decide (0≤v0.1)),()))))
 (some (Sum.inl ((w64 (v0.1+1)),()))))))
 (some (Sum.inr (Sum.inl ()))))) (0,())).bind fun v3 =>
 (de_ v3 (fun v4=>(some ((decide (0≤(-1))),())))
 (fun v5=>(some v5))))).bind fun v6 =>
 (some ((!v6.1),())))
theorem x_161:ch_ cx_161 an_161 161 [(.ref gj_),(.list cr_)] [.bool]=fun x=>bg_ x.1 x.2.1:=by kernel_rfl
noncomputable def c_161:Con Tryz.prog:=ck_ _ _ 161 [(.ref gj_),(.list cr_)] [.bool] _ x_161
def an_33:An:=.z
noncomputable def cs_33:List (Con Tryz.prog):=[]
noncomputable def cl_33:List (Cpy Tryz.prog):=[]
noncomputable def cx_33:Cx Tryz.prog:=cxC cs_33 cl_33
noncomputable def jn_ (a0:Int) (a1:Int) (a2:Int):Option (Bool×Unit) :=
 (cond (decide (a1≤a0))
 (some ((decide (a0≤a2)),()))
 (some (false,())))
theorem x_33:ch_ cx_33 an_33 33 [.int,.int,.int] [.bool]=fun x=>jn_ x.1 x.2.1 x.2.2.1:=by kernel_rfl
noncomputable def c_33:Con Tryz.prog:=ck_ _ _ 33 [.int,.int,.int] [.bool] _ x_33
def an_281:An:=(.p .z (.p (.p .z (.lp [.v 4 .int,.v 13 .int] [.v 4 .int] [] 0 (.p .z (.p .z (.j0 [.v 4 .int] .z .z))))) .z))
noncomputable def cs_281:List (Con Tryz.prog):=[]
noncomputable def cl_281:List (Cpy Tryz.prog):=[]
noncomputable def cx_281:Cx Tryz.prog:=cxC cs_281 cl_281
noncomputable def ei_ (a0:kt_) (a1:Int):Option (Int×Unit) :=
 ((af_ (ρ:=(Int×Unit)) (fun (v0:(Int×(Int×Unit))) =>
 (cond (decide (v0.2.1<(a0.2.2.1.length:Int)))
 ((((at? a0.2.2.1 v0.2.1).bind fun v1 =>
 (cond (v1==(w64 ((-2) - a1)))
 (some ((w64 (v0.1+1)),()))
 (some (v0.1,()))))).bind fun v2 =>
 (some (Sum.inl (v2.1,((w64 (v0.2.1+1)),())))))
 (some (Sum.inr (v0.1,()))))) (0,(0,()))).bind fun v3 =>
 (some (v3.1,())))
theorem x_281:ch_ cx_281 an_281 281 [(.ref gj_),.int] [.int]=fun x=>ei_ x.1 x.2.1:=by kernel_rfl
noncomputable def c_281:Con Tryz.prog:=ck_ _ _ 281 [(.ref gj_),.int] [.int] _ x_281
def an_93:An:=.z
noncomputable def cs_93:List (Con Tryz.prog):=[]
noncomputable def cl_93:List (Cpy Tryz.prog):=[]
noncomputable def cx_93:Cx Tryz.prog:=cxC cs_93 cl_93
noncomputable def dq_ (a0:Int) (a1:Int) (a2:Int):Option (Bool×Unit) :=
 (cond (decide (a1≤a0))
 (some ((decide (a0≤a2)),()))
 (some (false,())))
theorem x_93:ch_ cx_93 an_93 93 [.int,.int,.int] [.bool]=fun x=>dq_ x.1 x.2.1 x.2.2.1:=by kernel_rfl
noncomputable def c_93:Con Tryz.prog:=ck_ _ _ 93 [.int,.int,.int] [.bool] _ x_93
def an_269:An:=.z
noncomputable def cs_269:List (Con Tryz.prog):=[]
noncomputable def cl_269:List (Cpy Tryz.prog):=[]
noncomputable def cx_269:Cx Tryz.prog:=cxC cs_269 cl_269
noncomputable def f_ref02_words  : Option ((List (List UInt8))×Unit) :=
 (some ([[97,116],[115,116,97,116,101,115],[115,116,97,114,116],[103,111,110,101],[105,102],[108,111,99,107],[119,105,116,104],[115,101,116,115],[115,112,101,110,100,115],[98,114,105,110,103,115]],()))
theorem x_269:ch_ cx_269 an_269 269 [] [(.list .str)]=fun x=>f_ref02_words:=by kernel_rfl
noncomputable def c_269:Con Tryz.prog:=ck_ _ _ 269 [] [(.list .str)] _ x_269
def an_164:An:=(.p .z (.p (.p .z (.ls [.v 5 .int] [] [] 0 (.p .z (.p (.p (.q [] .z .z) .z) .z)))) .z))
noncomputable def cs_164:List (Con Tryz.prog):=[]
noncomputable def cl_164:List (Cpy Tryz.prog):=[]
noncomputable def cx_164:Cx Tryz.prog:=cxC cs_164 cl_164
noncomputable def he_ (a0:(List (List UInt8))) (a1:Int):Option (Bool×Unit) :=
 ((af_ (ρ:=(Unit⊕(Bool×Unit))) (fun (v0:(Int×Unit)) =>
 (cond (decide (v0.1<a1))
 ((at? a0 v0.1).bind fun v1 =>
 ((at? a0 a1).bind fun v2 =>
 (cond (v1==v2)
 (some (Sum.inr (Sum.inr (true,()))))
 (some (Sum.inl ((w64 (v0.1+1)),()))))))
 (some (Sum.inr (Sum.inl ()))))) (0,())).bind fun v3 =>
 (de_ v3 (fun v4=>(some (false,())))
 (fun v5=>(some v5))))
theorem x_164:ch_ cx_164 an_164 164 [(.list .str),.int] [.bool]=fun x=>he_ x.1 x.2.1:=by kernel_rfl
noncomputable def c_164:Con Tryz.prog:=ck_ _ _ 164 [(.list .str),.int] [.bool] _ x_164
def an_230:An:=(.p .z (.p (.p .z (.ls [.v 5 .int] [] [] 0 .z)) .z))
noncomputable def cs_230:List (Con Tryz.prog):=[]
noncomputable def cl_230:List (Cpy Tryz.prog):=[]
noncomputable def cx_230:Cx Tryz.prog:=cxC cs_230 cl_230
noncomputable def ny_ (a0:(List Int)) (a1:Int):Option (Bool×Unit) :=
 ((af_ (ρ:=(Unit⊕(Bool×Unit))) (fun (v0:(Int×Unit)) =>
 (cond (decide (v0.1<(a0.length:Int)))
 ((at? a0 v0.1).bind fun v1 =>
 (cond (v1==a1)
 (some (Sum.inr (Sum.inr (true,()))))
 (some (Sum.inl ((w64 (v0.1+1)),())))))
 (some (Sum.inr (Sum.inl ()))))) (0,())).bind fun v2 =>
 (de_ v2 (fun v3=>(some (false,())))
 (fun v4=>(some v4))))
theorem x_230:ch_ cx_230 an_230 230 [(.list .int),.int] [.bool]=fun x=>ny_ x.1 x.2.1:=by kernel_rfl
noncomputable def c_230:Con Tryz.prog:=ck_ _ _ 230 [(.list .int),.int] [.bool] _ x_230
def an_90:An:=.z
noncomputable def cs_90:List (Con Tryz.prog):=[]
noncomputable def cl_90:List (Cpy Tryz.prog):=[]
noncomputable def cx_90:Cx Tryz.prog:=cxC cs_90 cl_90
noncomputable def kq_ (a0:Int) (a1:Int) (a2:Int):Option (Bool×Unit) :=
 (cond (decide (a1≤a0))
 (some ((decide (a0≤a2)),()))
 (some (false,())))
theorem x_90:ch_ cx_90 an_90 90 [.int,.int,.int] [.bool]=fun x=>kq_ x.1 x.2.1 x.2.2.1:=by kernel_rfl
noncomputable def c_90:Con Tryz.prog:=ck_ _ _ 90 [.int,.int,.int] [.bool] _ x_90
def an_168:An:=.z
noncomputable def cs_168:List (Con Tryz.prog):=[]
noncomputable def cl_168:List (Cpy Tryz.prog):=[]
noncomputable def cx_168:Cx Tryz.prog:=cxC cs_168 cl_168
noncomputable def mq_ (a0:bn_):Option (Bool×Unit) :=
 (cond (a0.1==0)
 (cond (a0.2.1==0)
 (cond (a0.2.2.1==0)
 (cond (a0.2.2.2.1==0)
 (cond (a0.2.2.2.2.1==0)
 (cond ((a0.2.2.2.2.2.1.length:Int)==0)
 (some ((!a0.2.2.2.2.2.2),()))
 (some (false,())))
 (some (false,())))
 (some (false,())))
 (some (false,())))
 (some (false,())))
 (some (false,())))
theorem x_168:ch_ cx_168 an_168 168 [dc_] [.bool]=fun x=>mq_ x.1:=by kernel_rfl
noncomputable def c_168:Con Tryz.prog:=ck_ _ _ 168 [dc_] [.bool] _ x_168
def an_95:An:=.z
noncomputable def cs_95:List (Con Tryz.prog):=[]
noncomputable def cl_95:List (Cpy Tryz.prog):=[]
noncomputable def cx_95:Cx Tryz.prog:=cxC cs_95 cl_95
noncomputable def bs_ (a0:Int) (a1:Int) (a2:Int):Option (Bool×Unit) :=
 (cond (decide (a1≤a0))
 (some ((decide (a0≤a2)),()))
 (some (false,())))
theorem x_95:ch_ cx_95 an_95 95 [.int,.int,.int] [.bool]=fun x=>bs_ x.1 x.2.1 x.2.2.1:=by kernel_rfl
noncomputable def c_95:Con Tryz.prog:=ck_ _ _ 95 [.int,.int,.int] [.bool] _ x_95
def an_99:An:=(.p .z (.p .z (.p .z (.p (.j0 [.v 29 .bool] .z .z) .z))))
def at_99:FuncId→An:=fun k=>cond (Nat.beq k 172) (.p .z (.j0 [.v 4 .bool] .z .z)) (cond (Nat.beq k 174) (.p .z (.p (.q [] .z .z) .z)) (cond (Nat.beq k 175) (.p .z (.p (.q [] .z .z) .z)) (cond (Nat.beq k 234) (.p .z (.p (.p .z (.ls [.v 8 .int] [] [] 0 .z)) .z)) (.z))))
noncomputable def cs_99:List (Con Tryz.prog):=[]
noncomputable def cl_99:List (Cpy Tryz.prog):=[]
noncomputable def cx_99:Cx Tryz.prog:=cxI at_99 (fun k=>false) (cxC cs_99 cl_99) 5
noncomputable def ct_ (a0:bi_) (a1:mi_) (a2:Int) (a3:bu_):Option (Int×Unit) :=
 (((cond (decide (a1.2.2.2≤a2))
 (some (true,()))
 ((((af_ (ρ:=(Unit⊕(Bool×Unit))) (fun (v0:(Int×Unit)) =>
 (cond (decide (v0.1<(a3.2.length:Int)))
 ((at? a3.2 v0.1).bind fun v1 =>
 ((at? a0.2.2.1 v1.1).bind fun v2 =>
 (cond (decide (a1.2.2.1≤v2))
 (some (Sum.inr (Sum.inr ((decide (0≤v0.1)),()))))
 (some (Sum.inl ((w64 (v0.1+1)),()))))))
 (some (Sum.inr (Sum.inl ()))))) (0,())).bind fun v3 =>
 (de_ v3 (fun v4=>(some ((decide (0≤(-1))),())))
 (fun v5=>(some v5))))).bind fun v6 =>
 (cond v6.1
 (some (true,()))
 ((((af_ (ρ:=(Unit⊕(Bool×Unit))) (fun (v7:(Int×Unit)) =>
 (cond (decide (v7.1<(a3.2.length:Int)))
 ((at? a3.2 v7.1).bind fun v8 =>
 ((at? a0.2.1 v8.1).bind fun v9 =>
 (cond ((v9==v8.2.1)==v8.2.2)
 (some (Sum.inr (Sum.inr ((decide (0≤v7.1)),()))))
 (some (Sum.inl ((w64 (v7.1+1)),()))))))
 (some (Sum.inr (Sum.inl ()))))) (0,())).bind fun v10 =>
 (de_ v10 (fun v11=>(some ((decide (0≤(-1))),())))
 (fun v12=>(some v12))))).bind fun v13 =>
 (some ((!v13.1),()))))))).bind fun v14 =>
 (cond v14.1
 (some (2,()))
 (some (1,()))))
theorem x_99:ch_ cx_99 an_99 99 [fd_,gl_,.int,jt_] [.int]=fun x=>ct_ x.1 x.2.1 x.2.2.1 x.2.2.2.1:=by kernel_rfl
noncomputable def c_99:Con Tryz.prog:=ck_ _ _ 99 [fd_,gl_,.int,jt_] [.int] _ x_99
def an_100:An:=(.p .z (.p .z (.j0 [.b (.s 5) [.val .int,.keep]] (.j0 [.v 16 .bool] .z .z) (.j0 [.b (.s 5) [.keep,.val .bool]] .z .z))))
noncomputable def cs_100:List (Con Tryz.prog):=[]
noncomputable def cl_100:List (Cpy Tryz.prog):=[]
noncomputable def cx_100:Cx Tryz.prog:=cxC cs_100 cl_100
noncomputable def cq_ (a0:bo_) (a1:Int) (a2:Bool) (a3:Bool) (a4:Int):Option (bo_×Unit) :=
 (((((cond (!a2)
 (some ((!a2),()))
 (some ((a4==2),())))).bind fun v0 =>
 (cond v0.1
 (some ((0,()),()))
 (cond (a4==1)
 (some ((a1,()),()))
 (some (((maxI 0 (w64 (a0.1 - 1))),()),())))))).bind fun v1 =>
 (((cond a2
 (cond (decide (0<v1.1.1))
 (cond (!a3)
 (some ((true,()),()))
 (some ((a0.2,()),())))
 (some ((false,()),())))
 (some ((false,()),())))).bind fun v2 =>
 (some ((v1.1.1,v2.1.1),()))))
theorem x_100:ch_ cx_100 an_100 100 [ee_,.int,.bool,.bool,.int] [ee_]=fun x=>cq_ x.1 x.2.1 x.2.2.1 x.2.2.2.1 x.2.2.2.2.1:=by kernel_rfl
noncomputable def c_100:Con Tryz.prog:=ck_ _ _ 100 [ee_,.int,.bool,.bool,.int] [ee_] _ x_100
def an_14:An:=(.p .z (.p (.p .z (.ls [.v 5 .int] [] [] 0 (.p .z (.p (.p (.q [] .z .z) .z) .z)))) .z))
noncomputable def cs_14:List (Con Tryz.prog):=[]
noncomputable def cl_14:List (Cpy Tryz.prog):=[]
noncomputable def cx_14:Cx Tryz.prog:=cxC cs_14 cl_14
noncomputable def gt_ (a0:ar_) (a1:(List az_)):Option (Bool×Unit) :=
 ((af_ (ρ:=(Unit⊕(Bool×Unit))) (fun (v0:(Int×Unit)) =>
 (cond (decide (v0.1<(a1.length:Int)))
 ((at? a1 v0.1).bind fun v1 =>
 ((at? a0.1 v1.1).bind fun v2 =>
 ((at? a1 v0.1).bind fun v3 =>
 ((at? a1 v0.1).bind fun v4 =>
 (cond ((v2==v3.2.1)==v4.2.2)
 (some (Sum.inr (Sum.inr (false,()))))
 (some (Sum.inl ((w64 (v0.1+1)),()))))))))
 (some (Sum.inr (Sum.inl ()))))) (0,())).bind fun v5 =>
 (de_ v5 (fun v6=>(some (true,())))
 (fun v7=>(some v7))))
theorem x_14:ch_ cx_14 an_14 14 [cc_,(.list cr_)] [.bool]=fun x=>gt_ x.1 x.2.1:=by kernel_rfl
noncomputable def c_14:Con Tryz.prog:=ck_ _ _ 14 [cc_,(.list cr_)] [.bool] _ x_14
end Go.Proofs.YtfcgcpjnpdkjmaaGreatDoor.Rx
end
section
set_option maxRecDepth 100000
set_option maxHeartbeats 0
namespace Go.Proofs.YtfcgcpjnpdkjmaaGreatDoor.Rx
open Go Go.Proofs.YtfcgcpjnpdkjmaaGreatDoor.Pad Go.Proofs.YtfcgcpjnpdkjmaaGreatDoor.Rex Go.Proofs
def an_6:An:=(.p .z (.p (.j0 [.v 27 .bool] .z .z) (.p (.p .z (.ls [.v 3 .int] [] [] 0 (.p .z (.p (.j0 [.v 50 .bool] .z .z) .z)))) (.p (.p .z (.ls [.v 4 .int] [] [] 2 .z)) (.p (.p .z (.ls [.v 5 .int] [] [] 4 (.p .z (.p (.p .z (.j0 [.v 93 .bool] .z .z)) .z)))) .z)))))
noncomputable def cs_6:List (Con Tryz.prog):=[c_28]
noncomputable def cl_6:List (Cpy Tryz.prog):=[]
noncomputable def cx_6:Cx Tryz.prog:=cxC cs_6 cl_6
noncomputable def mc_ (a0:ai_):Option (Bool×Unit) :=
 ((((ot_ a0.1).bind fun v0 =>
 (cond v0.1
 (some (true,()))
 (cond (decide (10<(a0.2.1.length:Int)))
 (some (true,()))
 (cond (decide (10<(a0.2.2.1.length:Int)))
 (some (true,()))
 (some ((decide (20<(a0.2.2.2.1.length:Int))),()))))))).bind fun v1 =>
 (cond v1.1
 (some (true,()))
 ((af_ (ρ:=(Unit⊕(Bool×Unit))) (fun (v2:(Int×Unit)) =>
 (cond (decide (v2.1<(a0.2.1.length:Int)))
 ((((at? a0.2.1 v2.1).bind fun v3 =>
 (cond (decide (3<v3.1))
 ((at? a0.2.1 v2.1).bind fun v4 =>
 (some ((decide (5<v4.2)),())))
 (some (false,()))))).bind fun v5 =>
 (cond v5.1
 (some (Sum.inr (Sum.inr (true,()))))
 (some (Sum.inl ((w64 (v2.1+1)),())))))
 (some (Sum.inr (Sum.inl ()))))) (0,())).bind fun v6 =>
 (de_ v6 (fun v7=>((af_ (ρ:=(Unit⊕(Bool×Unit))) (fun (v9:(Int×Unit)) =>
 (cond (decide (v9.1<(a0.2.2.1.length:Int)))
 ((at? a0.2.2.1 v9.1).bind fun v10 =>
 (cond (decide (10<(v10.length:Int)))
 (some (Sum.inr (Sum.inr (true,()))))
 (some (Sum.inl ((w64 (v9.1+1)),())))))
 (some (Sum.inr (Sum.inl ()))))) (0,())).bind fun v11 =>
 (de_ v11 (fun v12=>((af_ (ρ:=(Unit⊕(Bool×Unit))) (fun (v14:(Int×Unit)) =>
 (cond (decide (v14.1<(a0.2.2.2.1.length:Int)))
 ((at? a0.2.2.2.1 v14.1).bind fun v15 =>
 (((cond (decide (100<(v15.1.length:Int)))
 (some (true,()))
 (cond (decide (20<(v15.2.2.2.1.length:Int)))
 (some (true,()))
 (some ((decide (10<(v15.2.2.2.2.2.2.2.2.2.1.length:Int))),()))))).bind fun v16 =>
 (cond v16.1
 (some (Sum.inr (Sum.inr (true,()))))
 (some (Sum.inl ((w64 (v14.1+1)),()))))))
 (some (Sum.inr (Sum.inl ()))))) (0,())).bind fun v17 =>
 (de_ v17 (fun v18=>(some (false,())))
 (fun v19=>(some v19)))))
 (fun v13=>(some v13)))))
 (fun v8=>(some v8))))))
theorem x_6:ch_ cx_6 an_6 6 [bq_] [.bool]=fun x=>mc_ x.1:=by kernel_rfl
noncomputable def c_6:Con Tryz.prog:=ck_ _ _ 6 [bq_] [.bool] _ x_6
def an_30:An:=(.p .z (.p .z (.p (.p .z (.lp [.v 4 .int] [] [.o (.s 20) qp_] 0 .z)) (.p (.p .z (.lp [.v 5 .int] [] [.o (.s 24) t_api_Way] 2 .z)) (.p (.p .z (.lp [.v 6 .int] [] [.o (.s 28) np_] 4 .z)) (.p (.p .z (.lp [.v 8 .int] [] [.o (.s 32) zu_] 6 .z)) .z))))))
noncomputable def cs_30:List (Con Tryz.prog):=[c_70,c_71]
noncomputable def cl_30:List (Cpy Tryz.prog):=[]
noncomputable def cx_30:Cx Tryz.prog:=cxC cs_30 cl_30
noncomputable def mr_ (a0:ae_):Option (ae_×Unit) :=
 ((push? (α:=(List UInt8)) [] a0.1).bind fun v0 =>
 ((push? (α:=io_) [] a0.2.1).bind fun v1 =>
 ((push? (α:=ls_) [] a0.2.2.1).bind fun v2 =>
 ((push? (α:=qh_) [] a0.2.2.2.1).bind fun v3 =>
 ((push? (α:=dr_) [] a0.2.2.2.2.1).bind fun v4 =>
 ((push? (α:=rj_) [] a0.2.2.2.2.2.1).bind fun v5 =>
 ((dd_ a0.2.2.2.2.2.2.2).bind fun v6 =>
 ((af_ (ρ:=((List ls_)×Unit)) (fun (v7:(Int×((List ls_)×Unit))) =>
 (cond (decide (v7.1<(v7.2.1.length:Int)))
 ((at? v7.2.1 v7.1).bind fun v8 =>
 ((at? v7.2.1 v7.1).bind fun v9 =>
 ((dd_ v9.2.2).bind fun v10 =>
 ((at? v7.2.1 v7.1).bind fun v11 =>
 ((at? v7.2.1 v7.1).bind fun v12 =>
 (some (Sum.inl ((w64 (v7.1+1)),((v7.2.1.set v7.1.toNat (v12.1,(v12.2.1,v10.1))),())))))))))
 (some (Sum.inr (v7.2.1,()))))) (0,(v2,()))).bind fun v13 =>
 ((af_ (ρ:=((List qh_)×Unit)) (fun (v14:(Int×((List qh_)×Unit))) =>
 (cond (decide (v14.1<(v14.2.1.length:Int)))
 ((at? v14.2.1 v14.1).bind fun v15 =>
 ((at? v14.2.1 v14.1).bind fun v16 =>
 ((dd_ v16.2.2).bind fun v17 =>
 ((at? v14.2.1 v14.1).bind fun v18 =>
 ((at? v14.2.1 v14.1).bind fun v19 =>
 (some (Sum.inl ((w64 (v14.1+1)),((v14.2.1.set v14.1.toNat (v19.1,(v19.2.1,v17.1))),())))))))))
 (some (Sum.inr (v14.2.1,()))))) (0,(v3,()))).bind fun v20 =>
 ((af_ (ρ:=((List dr_)×Unit)) (fun (v21:(Int×((List dr_)×Unit))) =>
 (cond (decide (v21.1<(v21.2.1.length:Int)))
 ((at? v21.2.1 v21.1).bind fun v22 =>
 ((at? v21.2.1 v21.1).bind fun v23 =>
 ((er_ v23.2.2.2.1).bind fun v24 =>
 ((er_ v23.2.2.2.2.2.2.1).bind fun v25 =>
 ((er_ v23.2.2.2.2.2.2.2).bind fun v26 =>
 ((dd_ v23.2.2.2.2.1).bind fun v27 =>
 ((push? (α:=ag_) [] v23.2.2.2.2.2.1).bind fun v28 =>
 ((at? v21.2.1 v21.1).bind fun v29 =>
 ((at? v21.2.1 v21.1).bind fun v30 =>
 (some (Sum.inl ((w64 (v21.1+1)),((v21.2.1.set v21.1.toNat (v23.1,(v23.2.1,(v23.2.2.1,(v24.1,(v27.1,(v28,(v25.1,v26.1)))))))),())))))))))))))
 (some (Sum.inr (v21.2.1,()))))) (0,(v4,()))).bind fun v31 =>
 ((af_ (ρ:=((List rj_)×Unit)) (fun (v32:(Int×((List rj_)×Unit))) =>
 (cond (decide (v32.1<(v32.2.1.length:Int)))
 ((at? v32.2.1 v32.1).bind fun v33 =>
 ((at? v32.2.1 v32.1).bind fun v34 =>
 ((dd_ v34.1).bind fun v35 =>
 ((at? v32.2.1 v32.1).bind fun v36 =>
 ((at? v32.2.1 v32.1).bind fun v37 =>
 (some (Sum.inl ((w64 (v32.1+1)),((v32.2.1.set v32.1.toNat (v35.1,v37.2)),())))))))))
 (some (Sum.inr (v32.2.1,()))))) (0,(v5,()))).bind fun v38 =>
 (some ((v0,(v1,(v13.1,(v20.1,(v31.1,(v38.1,(a0.2.2.2.2.2.2.1,v6.1))))))),())))))))))))))
theorem x_30:ch_ cx_30 an_30 30 [ay_] [ay_]=fun x=>mr_ x.1:=by kernel_rfl
noncomputable def c_30:Con Tryz.prog:=ck_ _ _ 30 [ay_] [ay_] _ x_30
def an_258:An:=.z
noncomputable def cs_258:List (Con Tryz.prog):=[c_286]
noncomputable def cl_258:List (Cpy Tryz.prog):=[]
noncomputable def cx_258:Cx Tryz.prog:=cxC cs_258 cl_258
noncomputable def dx_ (a0:(List (List UInt8))) (a1:(List UInt8)):Option (Bool×Unit) :=
 ((eu_ a0 a1).bind fun v0 =>
 (some ((decide (0≤v0.1)),())))
theorem x_258:ch_ cx_258 an_258 258 [(.list .str),.str] [.bool]=fun x=>dx_ x.1 x.2.1:=by kernel_rfl
noncomputable def c_258:Con Tryz.prog:=ck_ _ _ 258 [(.list .str),.str] [.bool] _ x_258
def an_149:An:=.z
noncomputable def cs_149:List (Con Tryz.prog):=[c_140]
noncomputable def cl_149:List (Cpy Tryz.prog):=[]
noncomputable def cx_149:Cx Tryz.prog:=cxC cs_149 cl_149
noncomputable def gr_ (a0:ae_) (a1:Int) (a2:Int):Option (Bool×Unit) :=
 ((bl_ a1 0 (w64 ((a0.2.1.length:Int) - 1))).bind fun v0 =>
 (cond v0.1
 ((at? a0.2.1 a1).bind fun v1 =>
 ((bl_ a2 0 (w64 (v1.2.2.1 - 1))).bind fun v2 =>
 (some (v2.1,()))))
 (some (false,()))))
theorem x_149:ch_ cx_149 an_149 149 [ay_,.int,.int] [.bool]=fun x=>gr_ x.1 x.2.1 x.2.2.1:=by kernel_rfl
noncomputable def c_149:Con Tryz.prog:=ck_ _ _ 149 [ay_,.int,.int] [.bool] _ x_149
def an_83:An:=.z
noncomputable def cs_83:List (Con Tryz.prog):=[c_162]
noncomputable def cl_83:List (Cpy Tryz.prog):=[]
noncomputable def cx_83:Cx Tryz.prog:=cxC cs_83 cl_83
noncomputable def cb_ (a0:(List Int)) (a1:Int):Option (Bool×Unit) :=
 ((ge_ a0 a1).bind fun v0 =>
 (some ((decide (0≤v0.1)),())))
theorem x_83:ch_ cx_83 an_83 83 [(.list .int),.int] [.bool]=fun x=>cb_ x.1 x.2.1:=by kernel_rfl
noncomputable def c_83:Con Tryz.prog:=ck_ _ _ 83 [(.list .int),.int] [.bool] _ x_83
def an_77:An:=(.p .z (.p .z (.p (.j0 [.v 49 .bool] .z .z) (.p .z (.p (.q [] .z .z) .z)))))
def at_77:FuncId→An:=fun k=>cond (Nat.beq k 152) (.p .z (.j0 [.v 4 .bool] .z .z)) (cond (Nat.beq k 221) (.p .z (.p (.p .z (.ls [.v 8 .int] [] [] 0 .z)) .z)) (.z))
noncomputable def cs_77:List (Con Tryz.prog):=[c_79,c_154,c_155,c_156]
noncomputable def cl_77:List (Cpy Tryz.prog):=[]
noncomputable def cx_77:Cx Tryz.prog:=cxI at_77 (fun k=>Nat.beq k 79||Nat.beq k 154||Nat.beq k 155||Nat.beq k 156||false) (cxC cs_77 cl_77) 4
noncomputable def mu_ (a0:ai_) (a1:Int) (a2:di_):Option (Bool×Unit) :=
 ((sub? a0.2.2.2.1 0 a1).bind fun v0 =>
 ((((af_ (ρ:=(Unit⊕(Bool×Unit))) (fun (v1:(Int×Unit)) =>
 (cond (decide (v1.1<(v0.length:Int)))
 ((at? v0 v1.1).bind fun v2 =>
 (cond (v2.1==a2.1)
 (some (Sum.inr (Sum.inr ((decide (0≤v1.1)),()))))
 (some (Sum.inl ((w64 (v1.1+1)),())))))
 (some (Sum.inr (Sum.inl ()))))) (0,())).bind fun v3 =>
 (de_ v3 (fun v4=>(some ((decide (0≤(-1))),())))
 (fun v5=>(some v5))))).bind fun v6 =>
 ((((os_ a2.1).bind fun v7 =>
 (cond (!v7.1)
 (some (true,()))
 (cond (decide (12<(a2.1.length:Int)))
 (some (true,()))
 (cond v6.1
 (some (true,()))
 ((ed_ a2.2.1 0 (w64 ((a0.1.1.length:Int) - 1))).bind fun v8 =>
 (cond (!v8.1)
 (some (true,()))
 ((ed_ a2.2.2.1 (-1) (w64 ((a0.2.1.length:Int) - 1))).bind fun v9 =>
 (some ((!v9.1),())))))))))).bind fun v10 =>
 (cond v10.1
 (some (false,()))
 (cond (decide (a2.2.2.1<0))
 ((mb_ a2.2.2.2.2).bind fun v11 =>
 (some (v11.1,())))
 ((at? a0.2.1 a2.2.2.1).bind fun v12 =>
 ((at? a0.2.2.1 a2.2.2.1).bind fun v13 =>
 ((ln_ v12 a2.2.2.2.2 v13).bind fun v14 =>
 (cond (v14.2.1==0)
 (some (v14.1,()))
 (some (false,())))))))))))
theorem x_77:ch_ cx_77 an_77 77 [bq_,.int,qq_] [.bool]=fun x=>mu_ x.1 x.2.1 x.2.2.1:=by kernel_rfl
noncomputable def c_77:Con Tryz.prog:=ck_ _ _ 77 [bq_,.int,qq_] [.bool] _ x_77
def an_78:An:=.z
def at_78:FuncId→An:=fun k=>cond (Nat.beq k 157) (.p .z (.j0 [.v 4 .bool] .z .z)) (cond (Nat.beq k 158) (.p .z (.j0 [.v 3 .bool] (.q [] .z .z) .z)) (cond (Nat.beq k 224) (.p .z (.p (.p .z (.ls [.v 8 .int] [] [] 0 .z)) .z)) (.z)))
noncomputable def cs_78:List (Con Tryz.prog):=[c_79]
noncomputable def cl_78:List (Cpy Tryz.prog):=[]
noncomputable def cx_78:Cx Tryz.prog:=cxI at_78 (fun k=>Nat.beq k 79||false) (cxC cs_78 cl_78) 4
noncomputable def mt_ (a0:ae_) (a1:(List az_)):Option (Bool×Unit) :=
 (cond (decide ((a1.length:Int)≤8))
 ((((af_ (ρ:=(Unit⊕(Bool×Unit))) (fun (v0:(Int×Unit)) =>
 (cond (decide (v0.1<(a1.length:Int)))
 ((at? a1 v0.1).bind fun v1 =>
 ((((ed_ v1.1 0 (w64 ((a0.2.1.length:Int) - 1))).bind fun v2 =>
 (cond (!v2.1)
 (some (true,()))
 ((at? a0.2.1 v1.1).bind fun v3 =>
 ((ed_ v1.2.1 0 (w64 (v3.2.2.1 - 1))).bind fun v4 =>
 (some ((!v4.1),()))))))).bind fun v5 =>
 (cond v5.1
 (some (Sum.inr (Sum.inr ((decide (0≤v0.1)),()))))
 (some (Sum.inl ((w64 (v0.1+1)),()))))))
 (some (Sum.inr (Sum.inl ()))))) (0,())).bind fun v6 =>
 (de_ v6 (fun v7=>(some ((decide (0≤(-1))),())))
 (fun v8=>(some v8))))).bind fun v9 =>
 (some ((!v9.1),())))
 (some (false,())))
theorem x_78:ch_ cx_78 an_78 78 [ay_,(.list cr_)] [.bool]=fun x=>mt_ x.1 x.2.1:=by kernel_rfl
noncomputable def c_78:Con Tryz.prog:=ck_ _ _ 78 [ay_,(.list cr_)] [.bool] _ x_78
def an_250:An:=(.p .z (.p (.p (.q [] .z .z) .z) (.p (.q [] .z .z) (.p .z (.p .z (.p .z (.p (.p .z (.p .z (.p (.p (.p (.q [] .z .z) .z) .z) (.p .z (.p (.p (.q [] .z .z) .z) (.p .z (.p (.p (.q [] .z .z) .z) (.p .z (.p (.p (.p (.q [] .z .z) .z) .z) .z))))))))) .z)))))))
def at_250:FuncId→An:=fun k=>cond (Nat.beq k 183) (.p .z (.p (.p .z (.ls [.v 8 .int] [] [] 0 .z)) .z)) (cond (Nat.beq k 216) (.p .z (.j0 [.v 4 .bool] .z .z)) (cond (Nat.beq k 278) (.p .z (.p (.q [] .z .z) .z)) (.z)))
noncomputable def cs_250:List (Con Tryz.prog):=[c_140,c_161,c_281]
noncomputable def cl_250:List (Cpy Tryz.prog):=[]
noncomputable def cx_250:Cx Tryz.prog:=cxI at_250 (fun k=>Nat.beq k 140||Nat.beq k 161||Nat.beq k 281||false) (cxC cs_250 cl_250) 7
noncomputable def ew_ (a0:kt_) (a1:bp_):Option (Bool×Unit) :=
 ((bl_ a1.1 0 (w64 ((a0.2.2.2.length:Int) - 1))).bind fun v0 =>
 (cond (!v0.1)
 (some (false,()))
 ((at? a0.2.2.2 a1.1).bind fun v1 =>
 (cond (a1.2.1==1)
 ((bl_ a1.2.2 0 (w64 ((a0.1.2.2.2.1.length:Int) - 1))).bind fun v2 =>
 (cond (!v2.1)
 (some (false,()))
 ((at? a0.1.2.2.2.1 a1.2.2).bind fun v3 =>
 (cond (v3.1==v1)
 ((bg_ a0 v3.2.2).bind fun v4 =>
 (some (v4.1,())))
 (cond (v3.2.1==v1)
 ((bg_ a0 v3.2.2).bind fun v5 =>
 (some (v5.1,())))
 (some (false,())))))))
 (cond (a1.2.1==2)
 ((bl_ a1.2.2 0 (w64 ((a0.2.2.1.length:Int) - 1))).bind fun v6 =>
 (cond v6.1
 ((at? a0.2.2.1 a1.2.2).bind fun v7 =>
 (cond (v7==v1)
 ((at? a0.1.2.2.1 a1.2.2).bind fun v8 =>
 ((bg_ a0 v8.2.2).bind fun v9 =>
 (cond v9.1
 ((ei_ a0 a1.1).bind fun v10 =>
 (some ((decide (v10.1<3)),())))
 (some (false,())))))
 (some (false,()))))
 (some (false,()))))
 (cond (a1.2.1==3)
 ((bl_ a1.2.2 0 (w64 ((a0.2.2.1.length:Int) - 1))).bind fun v11 =>
 (cond v11.1
 ((at? a0.2.2.1 a1.2.2).bind fun v12 =>
 (some ((v12==(w64 ((-2) - a1.1))),())))
 (some (false,()))))
 (cond (a1.2.1==4)
 ((bl_ a1.2.2 0 (w64 ((a0.1.2.2.2.2.1.length:Int) - 1))).bind fun v13 =>
 (cond (!v13.1)
 (some (false,()))
 ((at? a0.1.2.2.2.2.1 a1.2.2).bind fun v14 =>
 (cond (v14.2.1==v1)
 ((((af_ (ρ:=(Unit⊕(Bool×Unit))) (fun (v15:(Int×Unit)) =>
 (cond (decide (v15.1<(v14.2.2.2.1.length:Int)))
 ((at? v14.2.2.2.1 v15.1).bind fun v16 =>
 ((at? a0.2.2.1 v16).bind fun v17 =>
 (cond (!(v17==(w64 ((-2) - a1.1))))
 (some (Sum.inr (Sum.inr ((decide (0≤v15.1)),()))))
 (some (Sum.inl ((w64 (v15.1+1)),()))))))
 (some (Sum.inr (Sum.inl ()))))) (0,())).bind fun v18 =>
 (de_ v18 (fun v19=>(some ((decide (0≤(-1))),())))
 (fun v20=>(some v20))))).bind fun v21 =>
 (cond (!v21.1)
 ((bg_ a0 v14.2.2.2.2.1).bind fun v22 =>
 (cond v22.1
 ((((af_ (ρ:=(Unit⊕(Bool×Unit))) (fun (v23:(Int×Unit)) =>
 (cond (decide (v23.1<(v14.2.2.2.2.2.2.2.length:Int)))
 ((at? v14.2.2.2.2.2.2.2 v23.1).bind fun v24 =>
 ((at? a0.2.2.1 v24).bind fun v25 =>
 (cond (!(v25==(-1)))
 (some (Sum.inr (Sum.inr ((decide (0≤v23.1)),()))))
 (some (Sum.inl ((w64 (v23.1+1)),()))))))
 (some (Sum.inr (Sum.inl ()))))) (0,())).bind fun v26 =>
 (de_ v26 (fun v27=>(some ((decide (0≤(-1))),())))
 (fun v28=>(some v28))))).bind fun v29 =>
 (cond (!v29.1)
 ((ei_ a0 a1.1).bind fun v30 =>
 (some ((decide ((w64 ((w64 (v30.1 - (v14.2.2.2.2.2.2.1.length:Int)))+(v14.2.2.2.2.2.2.2.length:Int)))≤3)),())))
 (some (false,()))))
 (some (false,()))))
 (some (false,()))))
 (some (false,()))))))
 (some (false,())))))))))
theorem x_250:ch_ cx_250 an_250 250 [(.ref gj_),fy_] [.bool]=fun x=>ew_ x.1 x.2.1:=by kernel_rfl
noncomputable def c_250:Con Tryz.prog:=ck_ _ _ 250 [(.ref gj_),fy_] [.bool] _ x_250
def an_91:An:=.z
noncomputable def cs_91:List (Con Tryz.prog):=[c_93]
noncomputable def cl_91:List (Cpy Tryz.prog):=[]
noncomputable def cx_91:Cx Tryz.prog:=cxC cs_91 cl_91
noncomputable def im_ (a0:ae_) (a1:Int) (a2:Int):Option (Bool×Unit) :=
 ((dq_ a1 0 (w64 ((a0.2.1.length:Int) - 1))).bind fun v0 =>
 (cond v0.1
 ((at? a0.2.1 a1).bind fun v1 =>
 ((dq_ a2 0 (w64 (v1.2.2.1 - 1))).bind fun v2 =>
 (some (v2.1,()))))
 (some (false,()))))
theorem x_91:ch_ cx_91 an_91 91 [ay_,.int,.int] [.bool]=fun x=>im_ x.1 x.2.1 x.2.2.1:=by kernel_rfl
noncomputable def c_91:Con Tryz.prog:=ck_ _ _ 91 [ay_,.int,.int] [.bool] _ x_91
def an_92:An:=.z
noncomputable def cs_92:List (Con Tryz.prog):=[c_93]
noncomputable def cl_92:List (Cpy Tryz.prog):=[]
noncomputable def cx_92:Cx Tryz.prog:=cxC cs_92 cl_92
noncomputable def dj_ (a0:ae_) (a1:Int):Option (Bool×Unit) :=
 ((dq_ a1 0 (w64 ((a0.1.length:Int) - 1))).bind fun v0 =>
 (some (v0.1,())))
theorem x_92:ch_ cx_92 an_92 92 [ay_,.int] [.bool]=fun x=>dj_ x.1 x.2.1:=by kernel_rfl
noncomputable def c_92:Con Tryz.prog:=ck_ _ _ 92 [ay_,.int] [.bool] _ x_92
def an_228:An:=(.p .z (.p (.p .z (.ls [.v 3 .int] [] [] 0 (.p .z (.p (.j0 [.v 21 .bool] .z .z) .z)))) (.p .z (.p (.p .z (.ls [.v 5 .int] [] [] 2 .z)) .z))))
noncomputable def cs_228:List (Con Tryz.prog):=[c_269]
noncomputable def cl_228:List (Cpy Tryz.prog):=[]
noncomputable def cx_228:Cx Tryz.prog:=cxC cs_228 cl_228
noncomputable def jl_ (a0:(List UInt8)):Option (Bool×Unit) :=
 ((af_ (ρ:=(Unit⊕(Bool×Unit))) (fun (v0:(Int×Unit)) =>
 (cond (decide (v0.1<(a0.length:Int)))
 ((((at? a0 v0.1).bind fun v1 =>
 (cond (decide (((UInt8.toNat v1):Int)<97))
 (some (true,()))
 ((at? a0 v0.1).bind fun v2 =>
 (some ((decide (122<((UInt8.toNat v2):Int))),())))))).bind fun v3 =>
 (cond v3.1
 (some (Sum.inr (Sum.inr (false,()))))
 (some (Sum.inl ((w64 (v0.1+1)),())))))
 (some (Sum.inr (Sum.inl ()))))) (0,())).bind fun v4 =>
 (de_ v4 (fun v5=>((af_ (ρ:=(Unit⊕(Bool×Unit))) (fun (v7:(Int×Unit)) =>
 (cond (decide (v7.1<(([[97,116],[115,116,97,116,101,115],[115,116,97,114,116],[103,111,110,101],[105,102],[108,111,99,107],[119,105,116,104],[115,101,116,115],[115,112,101,110,100,115],[98,114,105,110,103,115]]).length:Int)))
 ((at? [[97,116],[115,116,97,116,101,115],[115,116,97,114,116],[103,111,110,101],[105,102],[108,111,99,107],[119,105,116,104],[115,101,116,115],[115,112,101,110,100,115],[98,114,105,110,103,115]] v7.1).bind fun v8 =>
 (cond (v8==a0)
 (some (Sum.inr (Sum.inr (false,()))))
 (some (Sum.inl ((w64 (v7.1+1)),())))))
 (some (Sum.inr (Sum.inl ()))))) (0,())).bind fun v9 =>
 (de_ v9 (fun v10=>(some ((!(a0==[])),())))
 (fun v11=>(some v11)))))
 (fun v6=>(some v6))))
theorem x_228:ch_ cx_228 an_228 228 [.str] [.bool]=fun x=>jl_ x.1:=by kernel_rfl
noncomputable def c_228:Con Tryz.prog:=ck_ _ _ 228 [.str] [.bool] _ x_228
def an_229:An:=(.p .z (.p (.p .z (.ls [.v 5 .int] [] [] 0 (.p .z (.p (.j0 [.v 37 .bool] (.q [] .z .z) .z) .z)))) .z))
noncomputable def cs_229:List (Con Tryz.prog):=[c_93]
noncomputable def cl_229:List (Cpy Tryz.prog):=[]
noncomputable def cx_229:Cx Tryz.prog:=cxC cs_229 cl_229
noncomputable def ej_ (a0:ae_) (a1:(List Int)):Option (Bool×Unit) :=
 ((af_ (ρ:=(Unit⊕(Bool×Unit))) (fun (v0:(Int×Unit)) =>
 (cond (decide (v0.1<(a1.length:Int)))
 ((((at? a1 v0.1).bind fun v1 =>
 ((dq_ v1 0 (w64 ((a0.2.2.1.length:Int) - 1))).bind fun v2 =>
 (cond (!v2.1)
 (some (true,()))
 (cond (decide (0<v0.1))
 ((at? a1 v0.1).bind fun v3 =>
 ((at? a1 (w64 (v0.1 - 1))).bind fun v4 =>
 (some ((decide (v3≤v4)),()))))
 (some (false,()))))))).bind fun v5 =>
 (cond v5.1
 (some (Sum.inr (Sum.inr (false,()))))
 (some (Sum.inl ((w64 (v0.1+1)),())))))
 (some (Sum.inr (Sum.inl ()))))) (0,())).bind fun v6 =>
 (de_ v6 (fun v7=>(some (true,())))
 (fun v8=>(some v8))))
theorem x_229:ch_ cx_229 an_229 229 [ay_,(.list .int)] [.bool]=fun x=>ej_ x.1 x.2.1:=by kernel_rfl
noncomputable def c_229:Con Tryz.prog:=ck_ _ _ 229 [ay_,(.list .int)] [.bool] _ x_229
def an_94:An:=(.p .z (.p (.j0 [.v 27 .bool] .z .z) (.p (.p .z (.ls [.v 31 .int] [] [] 0 (.p .z (.p .z (.p (.p .z (.p .z (.j0 [.v 51 .bool] .z .z))) .z))))) .z)))
def at_94:FuncId→An:=fun k=>cond (Nat.beq k 171) (.p .z (.j0 [.v 3 .bool] .z .z)) (cond (Nat.beq k 172) (.p .z (.j0 [.v 4 .bool] .z .z)) (cond (Nat.beq k 234) (.p .z (.p (.p .z (.ls [.v 8 .int] [] [] 0 .z)) .z)) (.z)))
noncomputable def cs_94:List (Con Tryz.prog):=[c_95]
noncomputable def cl_94:List (Cpy Tryz.prog):=[]
noncomputable def cx_94:Cx Tryz.prog:=cxI at_94 (fun k=>Nat.beq k 95||false) (cxC cs_94 cl_94) 4
noncomputable def fn_ (a0:mi_):Option (Int×Unit) :=
 ((((bs_ a0.1 0 12).bind fun v0 =>
 (cond (!v0.1)
 (some (true,()))
 (cond (decide (8<(a0.2.1.length:Int)))
 (some (true,()))
 ((bs_ a0.2.2.1 1 50).bind fun v1 =>
 (cond (!v1.1)
 (some (true,()))
 ((bs_ a0.2.2.2 1 1000).bind fun v2 =>
 (some ((!v2.1),()))))))))).bind fun v3 =>
 (cond v3.1
 (some (80,()))
 ((af_ (ρ:=(Unit⊕(Int×Unit))) (fun (v4:(Int×Unit)) =>
 (cond (decide (v4.1<(a0.2.1.length:Int)))
 ((at? a0.2.1 v4.1).bind fun v5 =>
 ((((bs_ v5.1 1 50).bind fun v6 =>
 (cond (!v6.1)
 (some (true,()))
 (cond (decide (8<(v5.2.length:Int)))
 (some (true,()))
 ((((af_ (ρ:=(Unit⊕(Bool×Unit))) (fun (v7:(Int×Unit)) =>
 (cond (decide (v7.1<(v5.2.length:Int)))
 ((at? v5.2 v7.1).bind fun v8 =>
 ((((bs_ v8.1 0 (w64 (a0.1 - 1))).bind fun v9 =>
 (cond (!v9.1)
 (some (true,()))
 ((bs_ v8.2.1 0 9).bind fun v10 =>
 (some ((!v10.1),())))))).bind fun v11 =>
 (cond v11.1
 (some (Sum.inr (Sum.inr ((decide (0≤v7.1)),()))))
 (some (Sum.inl ((w64 (v7.1+1)),()))))))
 (some (Sum.inr (Sum.inl ()))))) (0,())).bind fun v12 =>
 (de_ v12 (fun v13=>(some ((decide (0≤(-1))),())))
 (fun v14=>(some v14))))).bind fun v15 =>
 (some (v15.1,()))))))).bind fun v16 =>
 (cond v16.1
 (some (Sum.inr (Sum.inr (80,()))))
 (some (Sum.inl ((w64 (v4.1+1)),()))))))
 (some (Sum.inr (Sum.inl ()))))) (0,())).bind fun v17 =>
 (de_ v17 (fun v18=>(some (0,())))
 (fun v19=>(some v19))))))
theorem x_94:ch_ cx_94 an_94 94 [gl_] [.int]=fun x=>fn_ x.1:=by kernel_rfl
noncomputable def c_94:Con Tryz.prog:=ck_ _ _ 94 [gl_] [.int] _ x_94
def an_98:An:=(.p .z (.p .z (.p (.p .z (.p .z (.p .z (.p .z (.p .z (.j0 [.v 41 .bool] .z (.p .z (.j0 [.v 56 .bool] .z .z)))))))) .z)))
noncomputable def cs_98:List (Con Tryz.prog):=[c_95]
noncomputable def cl_98:List (Cpy Tryz.prog):=[]
noncomputable def cx_98:Cx Tryz.prog:=cxC cs_98 cl_98
noncomputable def el_ (a0:mi_) (a1:Int) (a2:al_):Option (Bool×Unit) :=
 ((bs_ a2.1 0 (w64 (a1 - 1))).bind fun v0 =>
 (cond (!v0.1)
 (some (false,()))
 (cond (a2.2.1==1)
 ((bs_ a2.2.2.1 0 (w64 (a0.1 - 1))).bind fun v1 =>
 (cond v1.1
 ((bs_ a2.2.2.2 0 9).bind fun v2 =>
 (some (v2.1,())))
 (some (false,()))))
 (cond (a2.2.1==2)
 ((bs_ a2.2.2.1 0 (w64 (a0.1 - 1))).bind fun v3 =>
 (cond v3.1
 (some ((a2.2.2.2==0),()))
 (some (false,()))))
 (((cond (a2.2.1==3)
 (some ((a2.2.1==3),()))
 (some ((a2.2.1==6),())))).bind fun v4 =>
 (cond v4.1
 ((bs_ a2.2.2.1 0 (w64 ((a0.2.1.length:Int) - 1))).bind fun v5 =>
 (cond v5.1
 (some ((a2.2.2.2==0),()))
 (some (false,()))))
 (((cond (a2.2.1==4)
 (some ((a2.2.1==4),()))
 (some ((a2.2.1==5),())))).bind fun v6 =>
 (cond v6.1
 (cond (a2.2.2.1==0)
 (some ((a2.2.2.2==0),()))
 (some (false,())))
 (some (false,()))))))))))
theorem x_98:ch_ cx_98 an_98 98 [gl_,.int,gk_] [.bool]=fun x=>el_ x.1 x.2.1 x.2.2.1:=by kernel_rfl
noncomputable def c_98:Con Tryz.prog:=ck_ _ _ 98 [gl_,.int,gk_] [.bool] _ x_98
def an_43:An:=(.p .z (.p .z (.p (.p .z (.lp [.r 4 .int 3,.v 16 .int] [.r 4 .int 3] [.o (.s 5) ee_] 0 (.p .z (.p .z (.p (.p .z (.p .z (.p (.p .z (.lp [.v 8 .int,.v 22 .int] [.v 8 .int] [.o (.s 5) ee_] 2 (.p .z (.p .z (.j0 [.v 8 .int,.o (.s 5) ee_] .z .z))))) .z))) .z))))) .z)))
noncomputable def cs_43:List (Con Tryz.prog):=[c_100]
noncomputable def cl_43:List (Cpy Tryz.prog):=[]
noncomputable def cx_43:Cx Tryz.prog:=cxC cs_43 cl_43
noncomputable def ef_ (a0:mi_) (a1:(List bi_)):Option ((List Int)×Unit) :=
 ((mk? (α:=bo_) (a0.2.1.length:Int) (0,false)).bind fun v0 =>
 ((af_ (ρ:=((List Int)×((List bo_)×Unit))) (fun (v1:((List Int)×(Int×((List bo_)×Unit)))) =>
 (cond (decide (v1.2.1<(a1.length:Int)))
 ((at? a1 v1.2.1).bind fun v2 =>
 ((af_ (ρ:=(Int×((List bo_)×Unit))) (fun (v3:(Int×(Int×((List bo_)×Unit)))) =>
 (cond (decide (v3.2.1<(v1.2.2.1.length:Int)))
 ((((at? v3.2.2.1 v3.2.1).bind fun v4 =>
 ((at? v3.2.2.1 v3.2.1).bind fun v5 =>
 ((at? a0.2.1 v3.2.1).bind fun v6 =>
 ((at? v2.2.2.2.2.2 v3.2.1).bind fun v7 =>
 ((at? v2.2.2.2.2.1 v3.2.1).bind fun v8 =>
 ((cq_ v5 v6.1 v2.1 v7 v8).bind fun v9 =>
 ((at? v3.2.2.1 v3.2.1).bind fun v10 =>
 ((at? v3.2.2.1 v3.2.1).bind fun v11 =>
 ((at? (v3.2.2.1.set v3.2.1.toNat v9.1) v3.2.1).bind fun v12 =>
 ((at? (v3.2.2.1.set v3.2.1.toNat v9.1) v3.2.1).bind fun v13 =>
 (cond v13.2
 (((cond (decide (0≤v3.2.1))
 (some (shlI 1 v3.2.1))
 none)).bind fun v14 =>
 (some ((orI v3.1 v14),((v3.2.2.1.set v3.2.1.toNat v9.1),()))))
 (some (v3.1,((v3.2.2.1.set v3.2.1.toNat v9.1),()))))))))))))))).bind fun v15 =>
 (some (Sum.inl (v15.1,((w64 (v3.2.1+1)),(v15.2.1,()))))))
 (some (Sum.inr (v3.1,(v3.2.2.1,())))))) (0,(0,(v1.2.2.1,())))).bind fun v16 =>
 ((push? (α:=Int) v1.1 [v16.1]).bind fun v17 =>
 (some (Sum.inl (v17,((w64 (v1.2.1+1)),(v16.2.1,()))))))))
 (some (Sum.inr (v1.1,(v1.2.2.1,())))))) ([],(0,(v0,())))).bind fun v18 =>
 (some (v18.1,()))))
theorem x_43:ch_ cx_43 an_43 43 [gl_,(.list fd_)] [(.list .int)]=fun x=>ef_ x.1 x.2.1:=by kernel_rfl
noncomputable def c_43:Con Tryz.prog:=ck_ _ _ 43 [gl_,(.list fd_)] [(.list .int)] _ x_43
end Go.Proofs.YtfcgcpjnpdkjmaaGreatDoor.Rx
end
section
set_option maxRecDepth 100000
set_option maxHeartbeats 0
namespace Go.Proofs.YtfcgcpjnpdkjmaaGreatDoor.Rx
open Go Go.Proofs.YtfcgcpjnpdkjmaaGreatDoor.Pad Go.Proofs.YtfcgcpjnpdkjmaaGreatDoor.Rex Go.Proofs
def an_8:An:=(.p .z (.p .z (.p (.p .z (.lp [.v 4 .int] [] [.b (.s 3) [.keep,.keep,.keep,.keep,.keep,.keep,.keep,.keep,.keep,.row (.list .int) 45,.keep,.keep]] 0 .z)) (.p (.p .z (.lp [.v 5 .int] [] [.o (.s 16) qq_] 2 .z)) .z))))
noncomputable def cs_8:List (Con Tryz.prog):=[c_30,c_31]
noncomputable def cl_8:List (Cpy Tryz.prog):=[]
noncomputable def cx_8:Cx Tryz.prog:=cxC cs_8 cl_8
noncomputable def kr_ (a0:ai_):Option (ai_×Unit) :=
 ((mr_ a0.1).bind fun v0 =>
 ((push? (α:=ag_) [] a0.2.1).bind fun v1 =>
 ((push? (α:=di_) [] a0.2.2.2.1).bind fun v2 =>
 ((af_ (ρ:=(((List (List Int))×Unit)×Unit)) (fun (v3:(Int×(((List (List Int))×Unit)×Unit))) =>
 (cond (decide (v3.1<(a0.2.2.1.length:Int)))
 ((at? a0.2.2.1 v3.1).bind fun v4 =>
 ((push? (α:=Int) [] v4).bind fun v5 =>
 ((push? (α:=(List Int)) v3.2.1.1 [v5]).bind fun v6 =>
 (some (Sum.inl ((w64 (v3.1+1)),((v6,()),())))))))
 (some (Sum.inr ((v3.2.1.1,()),()))))) (0,(([],()),()))).bind fun v7 =>
 ((af_ (ρ:=((List di_)×Unit)) (fun (v8:(Int×((List di_)×Unit))) =>
 (cond (decide (v8.1<(v8.2.1.length:Int)))
 ((at? v8.2.1 v8.1).bind fun v9 =>
 ((at? v8.2.1 v8.1).bind fun v10 =>
 ((push? (α:=az_) [] v10.2.2.2.1).bind fun v11 =>
 ((at? v8.2.1 v8.1).bind fun v12 =>
 ((at? v8.2.1 v8.1).bind fun v13 =>
 ((at? (v8.2.1.set v8.1.toNat (v13.1,(v13.2.1,(v13.2.2.1,(v11,v13.2.2.2.2))))) v8.1).bind fun v14 =>
 ((at? (v8.2.1.set v8.1.toNat (v13.1,(v13.2.1,(v13.2.2.1,(v11,v13.2.2.2.2))))) v8.1).bind fun v15 =>
 ((ie_ v15.2.2.2.2).bind fun v16 =>
 ((at? (v8.2.1.set v8.1.toNat (v13.1,(v13.2.1,(v13.2.2.1,(v11,v13.2.2.2.2))))) v8.1).bind fun v17 =>
 ((at? (v8.2.1.set v8.1.toNat (v13.1,(v13.2.1,(v13.2.2.1,(v11,v13.2.2.2.2))))) v8.1).bind fun v18 =>
 (some (Sum.inl ((w64 (v8.1+1)),(((v8.2.1.set v8.1.toNat (v13.1,(v13.2.1,(v13.2.2.1,(v11,v13.2.2.2.2))))).set v8.1.toNat (v18.1,(v18.2.1,(v18.2.2.1,(v18.2.2.2.1,v16.1))))),()))))))))))))))
 (some (Sum.inr (v8.2.1,()))))) (0,(v2,()))).bind fun v19 =>
 (some ((v0.1,(v1,(v7.1.1,(v19.1,a0.2.2.2.2)))),())))))))
theorem x_8:ch_ cx_8 an_8 8 [bq_] [bq_]=fun x=>kr_ x.1:=by kernel_rfl
noncomputable def c_8:Con Tryz.prog:=ck_ _ _ 8 [bq_] [bq_] _ x_8
def an_206:An:=(.p .z (.p (.p .z (.ls [.v 6 .int] [] [] 0 (.p .z (.p .z (.p (.p .z (.j0 [.v 18 .bool] .z .z)) .z))))) .z))
noncomputable def cs_206:List (Con Tryz.prog):=[c_258]
noncomputable def cl_206:List (Cpy Tryz.prog):=[]
noncomputable def cx_206:Cx Tryz.prog:=cxC cs_206 cl_206
noncomputable def gq_ (a0:(List UInt8)):Option (Bool×Unit) :=
 ((af_ (ρ:=(Unit⊕(Bool×Unit))) (fun (v0:(Int×Unit)) =>
 (cond (decide (v0.1<(a0.length:Int)))
 ((((at? a0 v0.1).bind fun v1 =>
 (cond (decide (((UInt8.toNat v1):Int)<97))
 (some (true,()))
 ((at? a0 v0.1).bind fun v2 =>
 (some ((decide (122<((UInt8.toNat v2):Int))),())))))).bind fun v3 =>
 (cond v3.1
 (some (Sum.inr (Sum.inr (false,()))))
 (some (Sum.inl ((w64 (v0.1+1)),())))))
 (some (Sum.inr (Sum.inl ()))))) (0,())).bind fun v4 =>
 (de_ v4 (fun v5=>(cond (!(a0==[]))
 ((dx_ [[97,116],[115,116,97,116,101,115],[115,116,97,114,116],[103,111,110,101],[105,102],[108,111,99,107],[119,105,116,104],[115,101,116,115],[115,112,101,110,100,115],[98,114,105,110,103,115]] a0).bind fun v7 =>
 (some ((!v7.1),())))
 (some (false,()))))
 (fun v6=>(some v6))))
theorem x_206:ch_ cx_206 an_206 206 [.str] [.bool]=fun x=>gq_ x.1:=by kernel_rfl
noncomputable def c_206:Con Tryz.prog:=ck_ _ _ 206 [.str] [.bool] _ x_206
def an_147:An:=.z
def at_147:FuncId→An:=fun k=>cond (Nat.beq k 157) (.p .z (.j0 [.v 4 .bool] .z .z)) (cond (Nat.beq k 224) (.p .z (.p (.p .z (.ls [.v 8 .int] [] [] 0 .z)) .z)) (.z))
noncomputable def cs_147:List (Con Tryz.prog):=[c_149]
noncomputable def cl_147:List (Cpy Tryz.prog):=[]
noncomputable def cx_147:Cx Tryz.prog:=cxI at_147 (fun k=>Nat.beq k 149||false) (cxC cs_147 cl_147) 4
noncomputable def ev_ (a0:ae_) (a1:(List az_)):Option (Bool×Unit) :=
 (cond (decide ((a1.length:Int)≤8))
 ((((af_ (ρ:=(Unit⊕(Bool×Unit))) (fun (v0:(Int×Unit)) =>
 (cond (decide (v0.1<(a1.length:Int)))
 ((at? a1 v0.1).bind fun v1 =>
 ((gr_ a0 v1.1 v1.2.1).bind fun v2 =>
 (cond (!v2.1)
 (some (Sum.inr (Sum.inr ((decide (0≤v0.1)),()))))
 (some (Sum.inl ((w64 (v0.1+1)),()))))))
 (some (Sum.inr (Sum.inl ()))))) (0,())).bind fun v3 =>
 (de_ v3 (fun v4=>(some ((decide (0≤(-1))),())))
 (fun v5=>(some v5))))).bind fun v6 =>
 (some ((!v6.1),())))
 (some (false,())))
theorem x_147:ch_ cx_147 an_147 147 [ay_,(.list cr_)] [.bool]=fun x=>ev_ x.1 x.2.1:=by kernel_rfl
noncomputable def c_147:Con Tryz.prog:=ck_ _ _ 147 [ay_,(.list cr_)] [.bool] _ x_147
def an_89:An:=(.p .z (.p (.p .z (.ls [.v 5 .int] [] [] 0 (.p .z (.p (.p (.q [] .z .z) .z) .z)))) .z))
noncomputable def cs_89:List (Con Tryz.prog):=[c_91]
noncomputable def cl_89:List (Cpy Tryz.prog):=[]
noncomputable def cx_89:Cx Tryz.prog:=cxC cs_89 cl_89
noncomputable def dk_ (a0:ae_) (a1:(List az_)):Option (Bool×Unit) :=
 ((af_ (ρ:=(Unit⊕(Bool×Unit))) (fun (v0:(Int×Unit)) =>
 (cond (decide (v0.1<(a1.length:Int)))
 ((at? a1 v0.1).bind fun v1 =>
 ((at? a1 v0.1).bind fun v2 =>
 ((im_ a0 v1.1 v2.2.1).bind fun v3 =>
 (cond (!v3.1)
 (some (Sum.inr (Sum.inr (false,()))))
 (some (Sum.inl ((w64 (v0.1+1)),())))))))
 (some (Sum.inr (Sum.inl ()))))) (0,())).bind fun v4 =>
 (de_ v4 (fun v5=>(some ((decide ((a1.length:Int)≤8)),())))
 (fun v6=>(some v6))))
theorem x_89:ch_ cx_89 an_89 89 [ay_,(.list cr_)] [.bool]=fun x=>dk_ x.1 x.2.1:=by kernel_rfl
noncomputable def c_89:Con Tryz.prog:=ck_ _ _ 89 [ay_,(.list cr_)] [.bool] _ x_89
def an_163:An:=.z
noncomputable def cs_163:List (Con Tryz.prog):=[c_228]
noncomputable def cl_163:List (Cpy Tryz.prog):=[]
noncomputable def cx_163:Cx Tryz.prog:=cxC cs_163 cl_163
noncomputable def ex_ (a0:(List UInt8)):Option (Bool×Unit) :=
 (cond (decide ((a0.length:Int)≤12))
 ((jl_ a0).bind fun v0 =>
 (some (v0.1,())))
 (some (false,())))
theorem x_163:ch_ cx_163 an_163 163 [.str] [.bool]=fun x=>ex_ x.1:=by kernel_rfl
noncomputable def c_163:Con Tryz.prog:=ck_ _ _ 163 [.str] [.bool] _ x_163
end Go.Proofs.YtfcgcpjnpdkjmaaGreatDoor.Rx
end
section
set_option maxRecDepth 100000
set_option maxHeartbeats 0
namespace Go.Proofs.YtfcgcpjnpdkjmaaGreatDoor.Rx
open Go Go.Proofs.YtfcgcpjnpdkjmaaGreatDoor.Pad Go.Proofs.YtfcgcpjnpdkjmaaGreatDoor.Rex Go.Proofs
def an_148:An:=(.p .z (.p (.j0 [.v 35 .bool] (.q [] .z .z) .z) (.p (.j0 [.v 60 .bool] .z .z) (.p .z (.p .z (.p (.j0 [.v 72 .bool] .z .z) (.p (.p .z (.ls [.v 76 .int] [] [] 0 (.p .z (.p .z (.p (.p .z (.p .z (.j0 [.v 96 .bool] .z .z))) .z))))) .z)))))))
def at_148:FuncId→An:=fun k=>cond (Nat.beq k 183) (.p .z (.p (.p .z (.ls [.v 8 .int] [] [] 0 .z)) .z)) (cond (Nat.beq k 211) (.p .z (.j0 [.v 6 .bool] .z .z)) (cond (Nat.beq k 216) (.p .z (.j0 [.v 4 .bool] .z .z)) (cond (Nat.beq k 217) (.p .z (.j0 [.v 4 .bool] .z .z)) (cond (Nat.beq k 265) (.p .z (.j0 [.v 6 .int] .z .z)) (cond (Nat.beq k 266) (.p .z (.p (.p .z (.ls [.v 8 .int] [] [] 0 .z)) .z)) (cond (Nat.beq k 287) (.p .z (.p (.p .z (.ls [.v 8 .int] [] [] 0 .z)) .z)) (cond (Nat.beq k 288) (.p .z (.p (.q [] .z .z) .z)) (.z))))))))
noncomputable def cs_148:List (Con Tryz.prog):=[c_83,c_140,c_149,c_206,c_212,c_213]
noncomputable def cl_148:List (Cpy Tryz.prog):=[]
noncomputable def cx_148:Cx Tryz.prog:=cxI at_148 (fun k=>Nat.beq k 83||Nat.beq k 140||Nat.beq k 149||Nat.beq k 206||Nat.beq k 212||Nat.beq k 213||false) (cxC cs_148 cl_148) 12
noncomputable def re_ (a0:ae_) (a1:Int) (a2:dr_):Option (Bool×Unit) :=
 ((((sub? a0.2.2.2.2.1 0 a1).bind fun v0 =>
 ((((gq_ a2.1).bind fun v1 =>
 (cond v1.1
 (cond (decide ((a2.1.length:Int)≤12))
 ((((af_ (ρ:=(Unit⊕(Int×Unit))) (fun (v2:(Int×Unit)) =>
 (cond (decide (v2.1<(v0.length:Int)))
 ((at? v0 v2.1).bind fun v3 =>
 (cond (v3.1==a2.1)
 (some (Sum.inr (Sum.inr (v2.1,()))))
 (some (Sum.inl ((w64 (v2.1+1)),())))))
 (some (Sum.inr (Sum.inl ()))))) (0,())).bind fun v4 =>
 (de_ v4 (fun v5=>(some ((-1),())))
 (fun v6=>(some v6))))).bind fun v7 =>
 (some ((decide (v7.1<0)),())))
 (some (false,())))
 (some (false,()))))).bind fun v8 =>
 (cond (!v8.1)
 (some (true,()))
 ((bl_ a2.2.1 0 (w64 ((a0.1.length:Int) - 1))).bind fun v9 =>
 (cond (!v9.1)
 (some (true,()))
 ((bl_ a2.2.2.1 (-1) 7).bind fun v10 =>
 (some ((!v10.1),()))))))))).bind fun v11 =>
 (cond v11.1
 (some (false,()))
 ((((iw_ a0 a2.2.2.2.1).bind fun v12 =>
 (cond (!v12.1)
 (some (true,()))
 ((iw_ a0 a2.2.2.2.2.2.2.1).bind fun v13 =>
 (cond (!v13.1)
 (some (true,()))
 ((iw_ a0 a2.2.2.2.2.2.2.2).bind fun v14 =>
 (cond (!v14.1)
 (some (true,()))
 (some ((decide (6<(a2.2.2.2.2.2.1.length:Int))),()))))))))).bind fun v15 =>
 (cond v15.1
 (some (false,()))
 ((((((af_ (ρ:=(Unit⊕(Bool×Unit))) (fun (v16:(Int×Unit)) =>
 (cond (decide (v16.1<(a2.2.2.2.2.2.2.1.length:Int)))
 ((at? a2.2.2.2.2.2.2.1 v16.1).bind fun v17 =>
 ((cb_ a2.2.2.2.1 v17).bind fun v18 =>
 (cond (!v18.1)
 (some (Sum.inr (Sum.inr ((decide (0≤v16.1)),()))))
 (some (Sum.inl ((w64 (v16.1+1)),()))))))
 (some (Sum.inr (Sum.inl ()))))) (0,())).bind fun v19 =>
 (de_ v19 (fun v20=>(some ((decide (0≤(-1))),())))
 (fun v21=>(some v21))))).bind fun v22 =>
 (cond v22.1
 (some (true,()))
 ((((af_ (ρ:=(Unit⊕(Bool×Unit))) (fun (v23:(Int×Unit)) =>
 (cond (decide (v23.1<(a2.2.2.2.2.2.2.2.length:Int)))
 ((at? a2.2.2.2.2.2.2.2 v23.1).bind fun v24 =>
 ((cb_ a2.2.2.2.1 v24).bind fun v25 =>
 (cond v25.1
 (some (Sum.inr (Sum.inr ((decide (0≤v23.1)),()))))
 (some (Sum.inl ((w64 (v23.1+1)),()))))))
 (some (Sum.inr (Sum.inl ()))))) (0,())).bind fun v26 =>
 (de_ v26 (fun v27=>(some ((decide (0≤(-1))),())))
 (fun v28=>(some v28))))).bind fun v29 =>
 (some (v29.1,())))))).bind fun v30 =>
 (cond v30.1
 (some (false,()))
 ((af_ (ρ:=(Unit⊕(Bool×Unit))) (fun (v31:(Int×Unit)) =>
 (cond (decide (v31.1<(a2.2.2.2.2.2.1.length:Int)))
 ((at? a2.2.2.2.2.2.1 v31.1).bind fun v32 =>
 ((sub? a2.2.2.2.2.2.1 0 v31.1).bind fun v33 =>
 ((((af_ (ρ:=(Unit⊕(Bool×Unit))) (fun (v34:(Int×Unit)) =>
 (cond (decide (v34.1<(v33.length:Int)))
 ((at? v33 v34.1).bind fun v35 =>
 (cond (v35.1==v32.1)
 (some (Sum.inr (Sum.inr ((decide (0≤v34.1)),()))))
 (some (Sum.inl ((w64 (v34.1+1)),())))))
 (some (Sum.inr (Sum.inl ()))))) (0,())).bind fun v36 =>
 (de_ v36 (fun v37=>(some ((decide (0≤(-1))),())))
 (fun v38=>(some v38))))).bind fun v39 =>
 ((((gr_ a0 v32.1 v32.2).bind fun v40 =>
 (cond (!v40.1)
 (some (true,()))
 (some (v39.1,()))))).bind fun v41 =>
 (cond v41.1
 (some (Sum.inr (Sum.inr (false,()))))
 (some (Sum.inl ((w64 (v31.1+1)),()))))))))
 (some (Sum.inr (Sum.inl ()))))) (0,())).bind fun v42 =>
 (de_ v42 (fun v43=>(some (true,())))
 (fun v44=>(some v44))))))))))
theorem x_148:ch_ cx_148 an_148 148 [ay_,.int,np_] [.bool]=fun x=>re_ x.1 x.2.1 x.2.2.1:=by kernel_rfl
noncomputable def c_148:Con Tryz.prog:=ck_ _ _ 148 [ay_,.int,np_] [.bool] _ x_148
def an_165:An:=(.p .z (.p .z (.p (.p .z (.ls [.v 6 .int] [] [] 0 .z)) (.p (.j0 [.v 73 .bool] .z .z) (.p (.p .z (.ls [.v 7 .int] [] [] 2 .z)) (.p (.p .z (.ls [.v 8 .int] [] [] 4 .z)) (.p (.p .z (.ls [.v 9 .int] [] [] 6 (.p .z (.p (.p .z (.p .z (.ls [.v 10 .int] [] [] 8 .z))) .z)))) .z)))))))
noncomputable def cs_165:List (Con Tryz.prog):=[c_91,c_92,c_93,c_163,c_229,c_230]
noncomputable def cl_165:List (Cpy Tryz.prog):=[]
noncomputable def cx_165:Cx Tryz.prog:=cxC cs_165 cl_165
noncomputable def oq_ (a0:ae_) (a1:Int):Option (Bool×Unit) :=
 ((at? a0.2.2.2.2.1 a1).bind fun v0 =>
 ((af_ (ρ:=(Unit⊕(Bool×Unit))) (fun (v1:(Int×Unit)) =>
 (cond (decide (v1.1<a1))
 ((at? a0.2.2.2.2.1 v1.1).bind fun v2 =>
 (cond (v2.1==v0.1)
 (some (Sum.inr (Sum.inr (false,()))))
 (some (Sum.inl ((w64 (v1.1+1)),())))))
 (some (Sum.inr (Sum.inl ()))))) (0,())).bind fun v3 =>
 (de_ v3 (fun v4=>((((ex_ v0.1).bind fun v6 =>
 (cond (!v6.1)
 (some (true,()))
 ((dj_ a0 v0.2.1).bind fun v7 =>
 (cond (!v7.1)
 (some (true,()))
 ((dq_ v0.2.2.1 (-1) 7).bind fun v8 =>
 (cond (!v8.1)
 (some (true,()))
 ((ej_ a0 v0.2.2.2.1).bind fun v9 =>
 (cond (!v9.1)
 (some (true,()))
 ((ej_ a0 v0.2.2.2.2.2.2.1).bind fun v10 =>
 (cond (!v10.1)
 (some (true,()))
 ((ej_ a0 v0.2.2.2.2.2.2.2).bind fun v11 =>
 (cond (!v11.1)
 (some (true,()))
 (some ((decide (6<(v0.2.2.2.2.2.1.length:Int))),()))))))))))))))).bind fun v12 =>
 (cond v12.1
 (some (false,()))
 ((af_ (ρ:=(Unit⊕(Bool×Unit))) (fun (v13:(Int×Unit)) =>
 (cond (decide (v13.1<(v0.2.2.2.2.2.2.1.length:Int)))
 ((at? v0.2.2.2.2.2.2.1 v13.1).bind fun v14 =>
 ((ny_ v0.2.2.2.1 v14).bind fun v15 =>
 (cond (!v15.1)
 (some (Sum.inr (Sum.inr (false,()))))
 (some (Sum.inl ((w64 (v13.1+1)),()))))))
 (some (Sum.inr (Sum.inl ()))))) (0,())).bind fun v16 =>
 (de_ v16 (fun v17=>((af_ (ρ:=(Unit⊕(Bool×Unit))) (fun (v19:(Int×Unit)) =>
 (cond (decide (v19.1<(v0.2.2.2.2.2.2.2.length:Int)))
 ((at? v0.2.2.2.2.2.2.2 v19.1).bind fun v20 =>
 ((ny_ v0.2.2.2.1 v20).bind fun v21 =>
 (cond v21.1
 (some (Sum.inr (Sum.inr (false,()))))
 (some (Sum.inl ((w64 (v19.1+1)),()))))))
 (some (Sum.inr (Sum.inl ()))))) (0,())).bind fun v22 =>
 (de_ v22 (fun v23=>((af_ (ρ:=(Unit⊕(Bool×Unit))) (fun (v25:(Int×Unit)) =>
 (cond (decide (v25.1<(v0.2.2.2.2.2.1.length:Int)))
 ((at? v0.2.2.2.2.2.1 v25.1).bind fun v26 =>
 ((at? v0.2.2.2.2.2.1 v25.1).bind fun v27 =>
 ((im_ a0 v26.1 v27.2).bind fun v28 =>
 (cond (!v28.1)
 (some (Sum.inr (Sum.inr (false,()))))
 ((af_ (ρ:=(Unit⊕((Int×Unit)⊕(Unit⊕(Bool×Unit))))) (fun (v29:(Int×Unit)) =>
 (cond (decide (v29.1<v25.1))
 ((at? v0.2.2.2.2.2.1 v29.1).bind fun v30 =>
 ((at? v0.2.2.2.2.2.1 v25.1).bind fun v31 =>
 (cond (v30.1==v31.1)
 (some (Sum.inr (Sum.inr (Sum.inr (Sum.inr (false,()))))))
 (some (Sum.inl ((w64 (v29.1+1)),()))))))
 (some (Sum.inr (Sum.inl ()))))) (0,())).bind fun v32 =>
 (de_ v32 (fun v33=>(some (Sum.inl ((w64 (v25.1+1)),()))))
 (fun v34=>(some v34))))))))
 (some (Sum.inr (Sum.inl ()))))) (0,())).bind fun v35 =>
 (de_ v35 (fun v36=>(some (true,())))
 (fun v37=>(some v37)))))
 (fun v24=>(some v24)))))
 (fun v18=>(some v18)))))))
 (fun v5=>(some v5)))))
theorem x_165:ch_ cx_165 an_165 165 [ay_,.int] [.bool]=fun x=>oq_ x.1 x.2.1:=by kernel_rfl
noncomputable def c_165:Con Tryz.prog:=ck_ _ _ 165 [ay_,.int] [.bool] _ x_165
def an_88:An:=(.p .z (.p .z (.p (.p .z (.ls [.v 6 .int] [] [] 0 .z)) (.p (.j0 [.v 50 .bool] .z .z) .z))))
noncomputable def cs_88:List (Con Tryz.prog):=[c_90,c_163,c_168,c_169,c_170]
noncomputable def cl_88:List (Cpy Tryz.prog):=[]
noncomputable def cx_88:Cx Tryz.prog:=cxC cs_88 cl_88
noncomputable def ll_ (a0:ai_) (a1:Int):Option (Bool×Unit) :=
 ((at? a0.2.2.2.1 a1).bind fun v0 =>
 ((af_ (ρ:=(Unit⊕(Bool×Unit))) (fun (v1:(Int×Unit)) =>
 (cond (decide (v1.1<a1))
 ((at? a0.2.2.2.1 v1.1).bind fun v2 =>
 (cond (v2.1==v0.1)
 (some (Sum.inr (Sum.inr (false,()))))
 (some (Sum.inl ((w64 (v1.1+1)),())))))
 (some (Sum.inr (Sum.inl ()))))) (0,())).bind fun v3 =>
 (de_ v3 (fun v4=>((((ex_ v0.1).bind fun v6 =>
 (cond (!v6.1)
 (some (true,()))
 ((kq_ v0.2.1 0 (w64 ((a0.1.1.length:Int) - 1))).bind fun v7 =>
 (cond (!v7.1)
 (some (true,()))
 ((kq_ v0.2.2.1 (-1) (w64 ((a0.2.1.length:Int) - 1))).bind fun v8 =>
 (some ((!v8.1),())))))))).bind fun v9 =>
 (cond v9.1
 (some (false,()))
 (cond (v0.2.2.1==(-1))
 ((mq_ v0.2.2.2.2).bind fun v10 =>
 (some (v10.1,())))
 ((at? a0.2.1 v0.2.2.1).bind fun v11 =>
 ((hg_ v11 v0.2.2.2.2).bind fun v12 =>
 (cond (v12.1==0)
 ((at? a0.2.2.1 v0.2.2.1).bind fun v13 =>
 ((ms_ v0.2.2.2.2 v13).bind fun v14 =>
 (some (v14.1,()))))
 (some (false,())))))))))
 (fun v5=>(some v5)))))
theorem x_88:ch_ cx_88 an_88 88 [bq_,.int] [.bool]=fun x=>ll_ x.1 x.2.1:=by kernel_rfl
noncomputable def c_88:Con Tryz.prog:=ck_ _ _ 88 [bq_,.int] [.bool] _ x_88
end Go.Proofs.YtfcgcpjnpdkjmaaGreatDoor.Rx
end
section
namespace Go.Proofs.YtfcgcpjnpdkjmaaGreatDoor.Rx
open Go Go.Proofs.YtfcgcpjnpdkjmaaGreatDoor.Pad Go.Proofs.YtfcgcpjnpdkjmaaGreatDoor.Rex
def wi (a b c:Int):Bool:=decide (b≤a)&&decide (a≤c)
theorem wi_iff {a b c:Int}:wi a b c=true↔b≤a∧a≤c:=by simp [wi]
theorem wi_of (a b c:Int):(cond (decide (b≤a)) (some ((decide (a≤c)),())) (some (false,())))=some (wi a b c,()):=by
  unfold wi
  cases decide (b≤a) <;> rfl
theorem fe_ (a b c:Int):bl_ a b c=some (wi a b c,()):=wi_of a b c
theorem oh_ (a b c:Int):ed_ a b c=some (wi a b c,()):=wi_of a b c
theorem record_within (a b c:Int):jn_ a b c=some (wi a b c,()):=wi_of a b c
theorem iq_ (a b c:Int):dq_ a b c=some (wi a b c,()):=wi_of a b c
theorem zx_ (a b c:Int):kq_ a b c=some (wi a b c,()):=wi_of a b c
theorem rp_ (a b c:Int):bs_ a b c=some (wi a b c,()):=wi_of a b c
theorem beqc {α:Type} [BEq α] [LawfulBEq α] (x y:α):(y==x)=(x==y):=by
  rw [Bool.eq_iff_iff,beq_iff_eq,beq_iff_eq]
  exact eq_comm
theorem jb_ {α:Type} [BEq α] [LawfulBEq α] (l:List α) (x:α):l.any (x == ·)=l.contains x:=by
  induction l with
  | nil=>rfl
  | cons y l ih=>simp [List.contains_cons,ih]
theorem Index_int {l:List Int} {x:Int} (hl:Sm l.length):∃ i:Int,ge_ l x=some (i,())∧decide (0≤i)=l.contains x:=by
  unfold ge_
  have h1:=ps_ l (fun i y=>cond (x==y) (some (Sum.inr ((i:Int),()):Unit⊕(Int×Unit))) none) (fun i=>((i:Int),())) (r0:=Sum.inl ())
    (body:=fun (v0:(Int×Unit)) =>
     (cond (decide (v0.1<(l.length:Int)))
     ((at? l v0.1).bind fun v1 =>
     (cond (x==v1)
     (some (Sum.inr (Sum.inr (v0.1,()))))
     (some (Sum.inl ((w64 (v0.1+1)),())))))
     (some (Sum.inr (Sum.inl ())))))
    (fun i y hy=>by
      have hi:=ax_ hy
      simp only [dlt hi,cond_true,am_ hy,Option.bind_some,cf_ (show Sm i by omega)]
      cases x==y <;> rfl)
    (by simp only [dnl,cond_false])
  rcases scan_idx (q:=fun y=>x==y) (f:=fun i=>(Sum.inr ((i:Int),()):Unit⊕(Int×Unit))) l 0 with ⟨h2,h3⟩ | ⟨i,h2,h3⟩
  · refine ⟨-1,Eq.trans (congrArg (fun o=>Option.bind o _) h1) ?_,by rw [← jb_,h3]; rfl⟩
    rw [h2]; rfl
  · refine ⟨i,Eq.trans (congrArg (fun o=>Option.bind o _) h1) ?_,by rw [← jb_,h3]; exact decide_eq_true (by omega)⟩
    rw [h2]; rfl
theorem ne_ {l:List Int} {x:Int} (hl:Sm l.length):cb_ l x=some (l.contains x,()):=by
  obtain ⟨i,h1,h2⟩:=Index_int (x:=x) hl
  unfold cb_
  rw [h1,Option.bind_some,h2]
theorem Index_string {l:List (List UInt8)} {x:List UInt8} (hl:Sm l.length):∃ i:Int,eu_ l x=some (i,())∧decide (0≤i)=l.contains x:=by
  unfold eu_
  rcases scan_idx (q:=fun y=>x==y) (f:=fun i=>(Sum.inr ((i:Int),()):Unit⊕(Int×Unit))) l 0 with ⟨h2,h3⟩ | ⟨i,h2,h3⟩
  · refine ⟨-1,cp_ l (fun i y=>cond (x==y) (some (Sum.inr ((i:Int),()):Unit⊕(Int×Unit))) none) (fun i=>((i:Int),())) (r0:=Sum.inl ()) (fun i y hy => ?_) ?_ ?_,by rw [← jb_,h3]; rfl⟩
    · have hi:=ax_ hy
      simp only [dlt hi,cond_true,am_ hy,Option.bind_some,cf_ (show Sm i by omega)]
      cases x==y <;> rfl
    · simp only [dnl,cond_false]
    · rw [h2]; rfl
  · refine ⟨i,cp_ l (fun i y=>cond (x==y) (some (Sum.inr ((i:Int),()):Unit⊕(Int×Unit))) none) (fun i=>((i:Int),())) (r0:=Sum.inl ()) (fun i y hy => ?_) ?_ ?_,by rw [← jb_,h3]; exact decide_eq_true (by omega)⟩
    · have hi:=ax_ hy
      simp only [dlt hi,cond_true,am_ hy,Option.bind_some,cf_ (show Sm i by omega)]
      cases x==y <;> rfl
    · simp only [dnl,cond_false]
    · rw [h2]; rfl
theorem za_ {l:List (List UInt8)} {x:List UInt8} (hl:Sm l.length):dx_ l x=some (l.contains x,()):=by
  obtain ⟨i,h1,h2⟩:=Index_string (x:=x) hl
  unfold dx_
  rw [h1,Option.bind_some,h2]
theorem ref02_in {l:List Int} {x:Int} (hl:Sm l.length):ny_ l x=some (l.contains x,()):=by
  unfold ny_
  refine cp_ l (fun i y=>cond (x==y) (some (Sum.inr (true,()):Unit⊕(Bool×Unit))) none) (fun i=>((i:Int),())) (r0:=Sum.inl ()) (fun i y hy => ?_) ?_ ?_
  · have hi:=ax_ hy
    simp only [dlt hi,cond_true,am_ hy,Option.bind_some,cf_ (show Sm i by omega)]
    rw [beqc x y]
    cases x==y <;> rfl
  · simp only [dnl,cond_false]
  · rw [jd_ (q:=fun y=>x==y),jb_]
    cases l.contains x <;> rfl
def zg_ (c:UInt8):Bool:=decide (97≤(c.toNat:Int))&&decide ((c.toNat:Int)≤122)
def okW (t:List UInt8):Bool:=t.all zg_&&(!(t==[])&&!(reserved.contains t))
def okN (t:List UInt8):Bool:=decide ((t.length:Int)≤12)&&okW t
theorem lower_of (c:UInt8):(cond (decide (((UInt8.toNat c):Int)<97)) (some (true,())) (some ((decide (122<((UInt8.toNat c):Int))),())))=some (!(zg_ c),()):=by
  unfold zg_
  by_cases h1:((UInt8.toNat c):Int)<97
  · rw [decide_eq_true h1,decide_eq_false (by omega:¬ (97:Int)≤(c.toNat:Int))]; rfl
  · rw [decide_eq_false h1,decide_eq_true (by omega:(97:Int)≤(c.toNat:Int))]
    by_cases h2:122<((UInt8.toNat c):Int)
    · rw [decide_eq_true h2,decide_eq_false (by omega:¬ ((UInt8.toNat c):Int)≤122)]; rfl
    · rw [decide_eq_false h2,decide_eq_true (by omega:((UInt8.toNat c):Int)≤122)]; rfl
theorem pu_ {t:List UInt8} (hl:Sm t.length):af_ (ρ:=(Unit⊕(Bool×Unit))) (fun (v0:(Int×Unit)) =>
 (cond (decide (v0.1<(t.length:Int)))
 ((((at? t v0.1).bind fun v1 =>
 (cond (decide (((UInt8.toNat v1):Int)<97))
 (some (true,()))
 ((at? t v0.1).bind fun v2 =>
 (some ((decide (122<((UInt8.toNat v2):Int))),())))))).bind fun v3 =>
 (cond v3.1
 (some (Sum.inr (Sum.inr (false,()))))
 (some (Sum.inl ((w64 (v0.1+1)),())))))
 (some (Sum.inr (Sum.inl ()))))) (0,())=some (cond (t.all zg_) (Sum.inl ()) (Sum.inr (false,()))):=by
  refine Eq.trans (ps_ t (fun i c=>cond (zg_ c) none (some (Sum.inr (false,()):Unit⊕(Bool×Unit)))) (fun i=>((i:Int),())) (r0:=Sum.inl ()) (fun i y hy => ?_) ?_) ?_
  · have hi:=ax_ hy
    simp only [dlt hi,cond_true,am_ hy,Option.bind_some,cf_ (show Sm i by omega),lower_of]
    cases zg_ y <;> rfl
  · simp only [dnl,cond_false]
  · rw [wj_]
    cases t.all zg_ <;> rfl
theorem room_word {t:List UInt8} (hl:Sm t.length):gq_ t=some (okW t,()):=by
  unfold gq_
  refine Eq.trans (congrArg (fun o=>Option.bind o _) (pu_ hl)) ?_
  unfold okW
  rw [Option.bind_some]
  cases t.all zg_ with
  | false=>rfl
  | true =>
    simp only [cond_true,Bool.true_and]
    cases t==[] with
    | true=>rfl
    | false =>
      simp only [Bool.not_false,cond_true,Bool.true_and]
      rw [za_ (by decide),Option.bind_some]
      rfl
theorem ref02_letters {t:List UInt8} (hl:Sm t.length):jl_ t=some (okW t,()):=by
  unfold jl_
  refine Eq.trans (congrArg (fun o=>Option.bind o _) (pu_ hl)) ?_
  unfold okW
  rw [Option.bind_some]
  cases t.all zg_ with
  | false=>rfl
  | true =>
    simp only [cond_true,Bool.true_and]
    refine cp_ reserved (fun i y=>cond (t==y) (some (Sum.inr (false,()):Unit⊕(Bool×Unit))) none) (fun i=>((i:Int),())) (r0:=Sum.inl ()) (fun i y hy => ?_) ?_ ?_
    · have hi:=ax_ hy
      have h10:i<10:=hi
      have hy':=hy
      unfold reserved at hy'
      refine Eq.trans (congrArg (fun c=>cond c _ _) (dlt hi)) ?_
      simp only [cond_true,am_ hy',Option.bind_some,cf_ (show Sm i by omega)]
      rw [beqc t y]
      cases t==y <;> rfl
    · rfl
    · rw [jd_ (q:=fun y=>t==y),jb_]
      cases reserved.contains t with
      | true=>simp
      | false=>simp
theorem play_word {t:List UInt8} (hl:Sm t.length):os_ t=some (okW t,()):=by
  unfold os_
  have h0:(((cond (t==[]) (some ((t==[]),())) (cond (t==[97,116]) (some ((t==[97,116]),())) (cond (t==[115,116,97,116,101,115]) (some ((t==[115,116,97,116,101,115]),())) (cond (t==[115,116,97,114,116]) (some ((t==[115,116,97,114,116]),()))
     (cond (t==[103,111,110,101]) (some ((t==[103,111,110,101]),())) (cond (t==[105,102]) (some ((t==[105,102]),())) (cond (t==[108,111,99,107]) (some ((t==[108,111,99,107]),())) (cond (t==[119,105,116,104]) (some ((t==[119,105,116,104]),()))
     (cond (t==[115,101,116,115]) (some ((t==[115,101,116,115]),())) (cond (t==[115,112,101,110,100,115]) (some ((t==[115,112,101,110,100,115]),())) (some ((t==[98,114,105,110,103,115]),()))))))))))))):Option (Bool×Unit))=some ((t==[]||reserved.contains t),()):=by
    unfold reserved
    simp only [List.contains_cons,List.contains_nil,Bool.or_false]
    cases t==[] with
    | true=>rfl
    | false =>
    cases t==[97,116] with
    | true=>rfl
    | false =>
    cases t==[115,116,97,116,101,115] with
    | true=>rfl
    | false =>
    cases t==[115,116,97,114,116] with
    | true=>rfl
    | false =>
    cases t==[103,111,110,101] with
    | true=>rfl
    | false =>
    cases t==[105,102] with
    | true=>rfl
    | false =>
    cases t==[108,111,99,107] with
    | true=>rfl
    | false =>
    cases t==[119,105,116,104] with
    | true=>rfl
    | false =>
    cases t==[115,101,116,115] with
    | true=>rfl
    | false =>
    cases t==[115,112,101,110,100,115] with
    | true=>rfl
    | false=>rfl
  refine Eq.trans (congrArg (fun o=>Option.bind o _) h0) ?_
  rw [Option.bind_some]
  unfold okW
  cases hz:(t==[]||reserved.contains t) with
  | true =>
    have:(!(t==[])&&!(reserved.contains t))=false:=by
      rw [← Bool.not_or,hz]; rfl
    rw [this,Bool.and_false]
    rfl
  | false =>
    have:(!(t==[])&&!(reserved.contains t))=true:=by
      rw [← Bool.not_or,hz]; rfl
    rw [this,Bool.and_true]
    simp only [cond_false]
    refine Eq.trans (congrArg (fun o=>Option.bind o _) (pu_ hl)) ?_
    rw [Option.bind_some]
    cases t.all zg_ <;> rfl
theorem lx_ {t:List UInt8} (hl:Sm t.length):ex_ t=some (okN t,()):=by
  unfold ex_ okN
  rw [ref02_letters hl]
  cases decide ((t.length:Int)≤12) <;> rfl
end Go.Proofs.YtfcgcpjnpdkjmaaGreatDoor.Rx
end
