/- A part of the proof: what the functions of the program compute, shown over the model. -/
import Derived.KernelRfl
import Derived.Test.YtgeehfnbhbibeaaGreatDoorPart4
set_option linter.unusedSectionVars false
set_option linter.unusedVariables false
set_option linter.unusedSimpArgs false
namespace Go.Proofs.YtgeehfnbhbibeaaGreatDoor.Rx
open Go Pad Rex Go.Proofs Go.Proofs.Tryz Sum
section
set_option maxRecDepth 100000
set_option maxHeartbeats 0
noncomputable def ia_ (a0:ae_) (a1:ai_):Option (ai_×Int×Unit) :=
 ((ep_ a0 a1).bind λv0 =>
 (cond (v0.1 != 0)
 (some (([],([],[])),(v0.1,())))
 ((gf_ a0 a1).bind λv1 =>
 (cond (!v1.2.1)
 (some (([],([],[])),(27,())))
 (some (v1.1,(0,())))))))
theorem x_121:au_ (P:=prog) (cxC [c_126,c_158] []) .z 121 [an_,aq_] [aq_,.int]=λx=>ia_ x.1 x.2.1:=by kernel_rfl
noncomputable def c_121:Con prog:=aw_ _ _ 121 [an_,aq_] [aq_,.int] _ x_121
noncomputable def ir_ (a0:ad_) (a1:Int) (a2:(List Int)):Option (Int×Unit) :=
 ((at? a0.2.1 a1).bind λv0 =>
 ((je_ a0 a2).bind λv1 =>
 ((jk_ v0 v1.1).bind λv2 =>
 (some (v2.1,())))))
theorem x_160:au_ (P:=prog) (cxC [c_203,c_204] []) (.p .z (.p (.q [] .z .z) .z)) 160 [ao_,.int,(.list .int)] [.int]=λx=>ir_ x.1 x.2.1 x.2.2.1:=by kernel_rfl
noncomputable def c_160:Con prog:=aw_ _ _ 160 [ao_,.int,(.list .int)] [.int] _ x_160
noncomputable def li_ (a0:ad_) (a1:Int) (a2:cp_):Option (Bool×Unit) :=
 ((sub? a0.2.2.2.1 0 a1).bind λv0 =>
 ((((ag_ (ρ:=(Unit⊕(Bool×Unit))) (λ(v1:(Int×Unit)) =>
 (cond (decide (v1.1<(v0.length:Int)))
 ((at? v0 v1.1).bind λv2 =>
 (cond (v2.1==a2.1)
 (some (inr (inr ((decide (0≤v1.1)),()))))
 (some (inl ((w64 (v1.1+1)),())))))
 (some (inr (inl ()))))) (0,())).bind λv3 =>
 (cd_ v3 (λv4=>(some ((decide (0≤(-1))),())))
 (λv5=>(some v5))))).bind λv6 =>
 ((((mu_ a2.1).bind λv7 =>
 (cond (!v7.1)
 (some (true,()))
 (cond (decide (12<(a2.1.length:Int)))
 (some (true,()))
 (cond v6.1
 (some (true,()))
 ((bx_ a2.2.1 0 (w64 ((a0.1.1.length:Int) - 1))).bind λv8 =>
 (cond (!v8.1)
 (some (true,()))
 ((bx_ a2.2.2.1 (-1) (w64 ((a0.2.1.length:Int) - 1))).bind λv9 =>
 (some ((!v9.1),())))))))))).bind λv10 =>
 (cond v10.1
 (some (false,()))
 (cond (decide (a2.2.2.1<0))
 ((kh_ a2.2.2.2.2).bind λv11 =>
 (some (v11.1,())))
 ((at? a0.2.1 a2.2.2.1).bind λv12 =>
 ((at? a0.2.2.1 a2.2.2.1).bind λv13 =>
 ((jm_ v12 a2.2.2.2.2 v13).bind λv14 =>
 (cond (v14.2.1==0)
 (some (v14.1,()))
 (some (false,())))))))))))
theorem x_134:au_ (P:=prog) (cxI (λk=>cond (Nat.beq k 179) (.p .z (.j0 [.v 4 .bool] .z .z)) (cond (Nat.beq k 221) (.p .z (.p (.p .z (.ls [.v 8 .int] [] [] 0 .z)) .z)) (.z))) (λk=>Nat.beq k 136||Nat.beq k 181||Nat.beq k 182||Nat.beq k 183||false) (cxC [bz8,c_181,c_182,c_183] []) 4) (.p .z (.p .z (.p (.j0 [.v 49 .bool] .z .z) (.p .z (.p (.q [] .z .z) .z))))) 134 [ao_,.int,ow_] [.bool]=λx=>li_ x.1 x.2.1 x.2.2.1:=by kernel_rfl
noncomputable def c_134:Con prog:=aw_ _ _ 134 [ao_,.int,ow_] [.bool] _ x_134
noncomputable def fd_ (a0:ae_) (a1:ai_) (a2:(List bf_)):Option (Bool×Int×Unit) :=
 ((bw_ a0 a1).bind λv0 =>
 (cond (v0.1 != 0)
 (some (false,(v0.1,())))
 ((dr_ a0 a2).bind λv1 =>
 (cond (!v1.1)
 (some (false,(25,())))
 ((push? (α:=Int) [] a1.1).bind λv2 =>
 ((push? (α:=Int) [] a1.2.1).bind λv3 =>
 ((push? (α:=Int) [] a1.2.2).bind λv4 =>
 ((bb_ (a0,(v2,(v3,v4))) a2).bind λv5 =>
 (some (v5.1,(0,())))))))))))
theorem x_138:au_ (P:=prog) (cxI (λk=>.z) (λk=>Nat.beq k 128||Nat.beq k 130||Nat.beq k 140||Nat.beq k 175||false) (cxC [ca0,bz9,c_175] [xr_]) 2) .z 138 [an_,aq_,(.list bz_)] [.bool,.int]=λx=>fd_ x.1 x.2.1 x.2.2.1:=by kernel_rfl
noncomputable def c_138:Con prog:=aw_ _ _ 138 [an_,aq_,(.list bz_)] [.bool,.int] _ x_138
noncomputable def fc_ (a0:ae_) (a1:ai_):Option ((List af_)×Int×Unit) :=
 ((bw_ a0 a1).bind λv0 =>
 (cond (v0.1 != 0)
 (some ([],(v0.1,())))
 ((push? (α:=Int) [] a1.1).bind λv1 =>
 ((push? (α:=Int) [] a1.2.1).bind λv2 =>
 ((push? (α:=Int) [] a1.2.2).bind λv3 =>
 ((ag_ (ρ:=(Unit×(((List af_)×Unit)×Unit))) (λ(v4:(Int×(Unit×(((List af_)×Unit)×Unit)))) =>
 (cond (decide (v4.1<a0.2.2.2.2.2.2.1))
 ((ag_ (ρ:=(Unit×(((List af_)×Unit)×Unit))) (λ(v5:(Int×(Unit×(((List af_)×Unit)×Unit)))) =>
 (cond (decide (v5.1<(([0,(a0.2.2.2.1.length:Int),(a0.2.2.1.length:Int),(a0.2.2.1.length:Int),(a0.2.2.2.2.1.length:Int)]).length:Int)))
 ((at? [0,(a0.2.2.2.1.length:Int),(a0.2.2.1.length:Int),(a0.2.2.1.length:Int),(a0.2.2.2.2.1.length:Int)] v5.1).bind λv6 =>
 ((at? [0,(a0.2.2.2.1.length:Int),(a0.2.2.1.length:Int),(a0.2.2.1.length:Int),(a0.2.2.2.2.1.length:Int)] v5.1).bind λv7 =>
 ((ag_ (ρ:=(Unit×(((List af_)×Unit)×Unit))) (λ(v8:(Int×(Unit×(((List af_)×Unit)×Unit)))) =>
 (cond (decide (v8.1<v7))
 ((((cx_ (a0,(v1,(v2,v3))) (v4.1,(v5.1,v8.1))).bind λv9 =>
 (cond v9.1
 ((push? (α:=af_) v8.2.2.1.1 [(v4.1,(v5.1,v8.1))]).bind λv10 =>
 (some ((),((v10,()),()))))
 (some ((),((v8.2.2.1.1,()),())))))).bind λv11 =>
 (some (inl ((w64 (v8.1+1)),((),((v11.2.1.1,()),()))))))
 (some (inr ((),((v8.2.2.1.1,()),())))))) (0,((),((v5.2.2.1.1,()),())))).bind λv12 =>
 (some (inl ((w64 (v5.1+1)),((),((v12.2.1.1,()),()))))))))
 (some (inr ((),((v5.2.2.1.1,()),())))))) (0,((),((v4.2.2.1.1,()),())))).bind λv13 =>
 (some (inl ((w64 (v4.1+1)),((),((v13.2.1.1,()),()))))))
 (some (inr ((),((v4.2.2.1.1,()),())))))) (0,((),(([],()),())))).bind λv14 =>
 (some (v14.2.1.1,(0,())))))))))
theorem x_106:au_ (P:=prog) (cxI (λk=>cond (Nat.beq k 191) (.p .z (.lp [.v 9 .int] [] [.y (.s 0),.b (.y (.s 0) 4) [.row ar_ 61]] 0 (.p .z (.p .z (.p (.p .z (.p .z (.lp [.v 26 .int] [] [.y (.s 0),.b (.y (.s 0) 4) [.row ar_ 61]] 2 (.p .z (.p .z (.p (.p .z (.p .z (.lp [.v 32 .int] [] [.y (.s 0),.b (.y (.s 0) 4) [.row ar_ 61]] 4 (.p .z (.p .z (.j0 [.y (.s 0),.b (.y (.s 0) 4) [.row ar_ 61]] .z .z)))))) .z)))))) .z))))) (.z)) (λk=>Nat.beq k 128||Nat.beq k 140||Nat.beq k 146||false) (cxC [ca0,c_146] [xr_]) 6) (.p .z (.p .z (.p .z (.p (.p .z (.rf [4,7] .z .z)) .z)))) 106 [an_,aq_] [(.list ar_),.int]=λx=>fc_ x.1 x.2.1:=by kernel_rfl
noncomputable def c_106:Con prog:=aw_ _ _ 106 [an_,aq_] [(.list ar_),.int] _ x_106
noncomputable def fb_ (a0:ae_) (a1:ai_) (a2:af_):Option (ai_×Int×Unit) :=
 ((bw_ a0 a1).bind λv0 =>
 (cond (v0.1 != 0)
 (some (([],([],[])),(v0.1,())))
 ((push? (α:=Int) [] a1.1).bind λv1 =>
 ((push? (α:=Int) [] a1.2.1).bind λv2 =>
 ((push? (α:=Int) [] a1.2.2).bind λv3 =>
 ((cx_ (a0,(v1,(v2,v3))) a2).bind λv4 =>
 (cond (!v4.1)
 (some (([],([],[])),(29,())))
 (((cond (a2.2.1==1)
 ((at? a0.2.2.2.1 a2.2.2).bind λv5 =>
 ((at? v3 a2.1).bind λv6 =>
 ((at? v3 a2.1).bind λv7 =>
 ((at? v3 a2.1).bind λv8 =>
 ((at? v3 a2.1).bind λv9 =>
 (some (v1,(v2,((v3.set a2.1.toNat (w64 ((w64 (v5.1+v5.2.1)) - v7))),())))))))))
 (cond (a2.2.1==2)
 ((at? v2 a2.2.2).bind λv10 =>
 ((at? v2 a2.2.2).bind λv11 =>
 (some (v1,((v2.set a2.2.2.toNat (w64 ((-2) - a2.1))),(v3,()))))))
 (cond (a2.2.1==3)
 ((at? v3 a2.1).bind λv12 =>
 ((at? v3 a2.1).bind λv13 =>
 ((at? v2 a2.2.2).bind λv14 =>
 ((at? v2 a2.2.2).bind λv15 =>
 (some (v1,((v2.set a2.2.2.toNat v13),(v3,()))))))))
 (cond (a2.2.1==4)
 ((at? a0.2.2.2.2.1 a2.2.2).bind λv16 =>
 ((ag_ (ρ:=((List Int)×Unit)) (λ(v17:(Int×((List Int)×Unit))) =>
 (cond (decide (v17.1<(v16.2.2.2.2.2.2.1.length:Int)))
 ((at? v16.2.2.2.2.2.2.1 v17.1).bind λv18 =>
 ((at? v17.2.1 v18).bind λv19 =>
 ((at? v17.2.1 v18).bind λv20 =>
 (some (inl ((w64 (v17.1+1)),((v17.2.1.set v18.toNat (-1)),())))))))
 (some (inr (v17.2.1,()))))) (0,(v2,()))).bind λv21 =>
 ((ag_ (ρ:=((List Int)×Unit)) (λ(v22:(Int×((List Int)×Unit))) =>
 (cond (decide (v22.1<(v16.2.2.2.2.2.2.2.length:Int)))
 ((at? v16.2.2.2.2.2.2.2 v22.1).bind λv23 =>
 ((at? v22.2.1 v23).bind λv24 =>
 ((at? v22.2.1 v23).bind λv25 =>
 (some (inl ((w64 (v22.1+1)),((v22.2.1.set v23.toNat (w64 ((-2) - a2.1))),())))))))
 (some (inr (v22.2.1,()))))) (0,(v21.1,()))).bind λv26 =>
 ((ag_ (ρ:=((List Int)×Unit)) (λ(v27:(Int×((List Int)×Unit))) =>
 (cond (decide (v27.1<(v16.2.2.2.2.2.1.length:Int)))
 ((at? v16.2.2.2.2.2.1 v27.1).bind λv28 =>
 ((at? v27.2.1 v28.1).bind λv29 =>
 ((at? v27.2.1 v28.1).bind λv30 =>
 (some (inl ((w64 (v27.1+1)),((v27.2.1.set v28.1.toNat v28.2),())))))))
 (some (inr (v27.2.1,()))))) (0,(v1,()))).bind λv31 =>
 (some (v31.1,(v26.1,(v3,()))))))))
 (some (v1,(v2,(v3,()))))))))).bind λv32 =>
 ((((ag_ (ρ:=(((List Int)×Unit)⊕(Bool×((List Int)×Unit)))) (λ(v33:(Int×((List Int)×Unit))) =>
 (cond (decide (v33.1<101))
 ((((ag_ (ρ:=(Unit⊕(Int×Unit))) (λ(v34:(Int×Unit)) =>
 (cond (decide (v34.1<(a0.2.2.2.2.2.1.length:Int)))
 ((at? a0.2.2.2.2.2.1 v34.1).bind λv35 =>
 ((((at? v33.2.1 v35.2.1).bind λv36 =>
 ((at? v33.2.1 v35.2.1).bind λv37 =>
 (cond (v37 != v35.2.2)
 ((bb_ (a0,(v33.2.1,(v32.2.1,v32.2.2.1))) v35.1).bind λv38 =>
 (some (v38.1,())))
 (some (false,())))))).bind λv39 =>
 (cond v39.1
 (some (inr (inr (v34.1,()))))
 (some (inl ((w64 (v34.1+1)),()))))))
 (some (inr (inl ()))))) (0,())).bind λv40 =>
 (cd_ v40 (λv41=>(some ((-1),())))
 (λv42=>(some v42))))).bind λv43 =>
 (cond (decide (v43.1<0))
 (some (inr (inr ((!true),(v33.2.1,())))))
 ((at? a0.2.2.2.2.2.1 v43.1).bind λv44 =>
 ((at? a0.2.2.2.2.2.1 v43.1).bind λv45 =>
 ((at? v33.2.1 v44.2.1).bind λv46 =>
 ((at? v33.2.1 v44.2.1).bind λv47 =>
 (some (inl ((w64 (v33.1+1)),((v33.2.1.set v44.2.1.toNat v45.2.2),()))))))))))
 (some (inr (inl (v33.2.1,())))))) (0,(v32.1,()))).bind λv48 =>
 (cd_ v48 (λv49=>(some ((!false),(v49.1,()))))
 (λv50=>(some v50))))).bind λv51 =>
 (cond v51.1
 (some (([],([],[])),(27,())))
 (some ((v51.2.1,(v32.2.1,v32.2.2.1)),(0,())))))))))))))
theorem x_148:au_ (P:=prog) (cxI (λk=>cond (Nat.beq k 137) (.p .z (.p (.j0 [.v 6 .bool,.o (.c (.s 0) 8) .int] .z .z) .z)) (cond (Nat.beq k 185) (.p .z (.p (.p .z (.ls [.v 4 .int] [] [.o (.c (.s 0) 8) .int] 0 (.p .z (.p .z (.p (.j0 [.v 3 .int] .z .z) .z))))) .z)) (cond (Nat.beq k 198) (.p .z (.p .z (.p .z (.p .z (.p .z (.p .z (.p .z (.p .z (.p .z (.p .z (.p (.p .z (.p (.p .z (.lp [.v 96 .int] [] [.o (.c (.s 0) 9) .int] 1 .z)) (.p (.p .z (.lp [.v 111 .int] [] [.o (.c (.s 0) 9) .int] 3 .z)) (.p .z (.lp [.v 127 .int] [] [.o (.c (.s 0) 8) .int] 5 .z))))) .z))))))))))) (cond (Nat.beq k 224) (.p .z (.p (.p .z (.ls [.v 8 .int] [] [] 0 .z)) .z)) (cond (Nat.beq k 225) (.p .z (.j0 [.v 3 .bool] .z .z)) (.z)))))) (λk=>Nat.beq k 128||Nat.beq k 130||Nat.beq k 140||Nat.beq k 146||false) (cxC [ca0,bz9,c_146] [xr_]) 7) (.p .z (.p .z (.p .z (.p .z (.j0 [.o (.c (.s 9) 8) .int,.o (.c (.s 9) 9) .int,.o (.c (.s 9) 10) .int] .z .z))))) 148 [an_,aq_,ar_] [aq_,.int]=λx=>fb_ x.1 x.2.1 x.2.2.1:=by kernel_rfl
noncomputable def c_148:Con prog:=aw_ _ _ 148 [an_,aq_,ar_] [aq_,.int] _ x_148
noncomputable abbrev qc_:Gb:=⟨Gb.ev,λc p=>cond (Nat.beq c 1019250704&&eqS p "room.go:184") true (cond (Nat.beq c 398465025&&eqS p "room.go:183") true (cond (Nat.beq c 130027520&&eqS p "room.go:183") true (Gb.fz c p))),Gb.gd,Gb.gl,λc=>cond (Nat.beq c 1019250704) (some eu_) (cond (Nat.beq c 398465025) (some aq_) (cond (Nat.beq c 130027520) (some an_) (none))),Gb.rw⟩
def an_99:An:=.z
def at_99:FuncId→An:=λk=>.z
noncomputable def cs_99:List (@Con qc_ prog _):=[@cvG instGb qc_ prog _ (λ_=>rfl) (λ_=>rfl) ca0,@cvG instGb qc_ prog _ (λ_=>rfl) (λ_=>rfl) bz9,@cpCon qc_ prog _ xr_]
noncomputable def cx_99:@Cx qc_ prog _:=@cxI qc_ prog _ at_99 (λk=>Nat.beq k 128||Nat.beq k 130||Nat.beq k 140||false) (@cxC qc_ prog _ cs_99 []) 2
noncomputable def kf_ (a0:ae_) (a1:ai_):Option (Bool×Int×Unit) :=
 ((bw_ a0 a1).bind λv0 =>
 (cond (v0.1 != 0)
 (some (false,(v0.1,())))
 ((((push? (α:=Int) [] a1.1).bind λv1 =>
 (some (v1,())))).bind λv2 =>
 ((((push? (α:=Int) [] a1.2.1).bind λv3 =>
 (some (v3,())))).bind λv4 =>
 ((((push? (α:=Int) [] a1.2.2).bind λv5 =>
 (some (v5,())))).bind λv6 =>
 ((bb_ (a0,(v2.1,(v4.1,v6.1))) a0.2.2.2.2.2.2.2).bind λv7 =>
 (some (v7.1,(0,())))))))))
theorem x_99:@au_ qc_ prog _ cx_99 an_99 99 [an_,aq_] [.bool,.int]=λx=>kf_ x.1 x.2.1:=by kernel_rfl
noncomputable def c_99:Con prog:=@cvG qc_ instGb prog _ (λ_=>rfl) (λ_=>rfl) <| @aw_ qc_ prog _ _ _ 99 [an_,aq_] [.bool,.int] _ x_99
end
section
set_option maxRecDepth 100000
set_option maxHeartbeats 0
noncomputable def ji_ (a0:ae_):Option (ai_×Int×Unit) :=
 ((fp_ a0).bind λv0 =>
 (cond (v0.1 != 0)
 (some (([],([],[])),(v0.1,())))
 ((mk? (α:=Int) a0.2.2.2.2.2.2.1 0).bind λv1 =>
 ((ag_ (ρ:=(((List Int)×Unit)×Unit)) (λ(v2:(Int×(((List Int)×Unit)×Unit))) =>
 (cond (decide (v2.1<(a0.2.1.length:Int)))
 ((at? a0.2.1 v2.1).bind λv3 =>
 ((push? (α:=Int) v2.2.1.1 [v3.2.2.2]).bind λv4 =>
 (some (inl ((w64 (v2.1+1)),((v4,()),()))))))
 (some (inr ((v2.2.1.1,()),()))))) (0,(([],()),()))).bind λv5 =>
 ((ag_ (ρ:=(((List Int)×Unit)×Unit)) (λ(v6:(Int×(((List Int)×Unit)×Unit))) =>
 (cond (decide (v6.1<(a0.2.2.1.length:Int)))
 ((at? a0.2.2.1 v6.1).bind λv7 =>
 ((push? (α:=Int) v6.2.1.1 [v7.2.1]).bind λv8 =>
 (some (inl ((w64 (v6.1+1)),((v8,()),()))))))
 (some (inr ((v6.2.1.1,()),()))))) (0,(([],()),()))).bind λv9 =>
 ((ia_ a0 (v5.1.1,(v9.1.1,v1))).bind λv10 =>
 (some (v10.1,(v10.2.1,())))))))))
theorem x_92:au_ (P:=prog) (cxC [c_52,c_121] []) (.p .z (.p .z (.p .z (.p .z (.p (.p .z (.lp [.v 6 .int] [] [.b (.s 5) [.row .int 3,.keep,.keep]] 0 .z)) (.p (.p .z (.lp [.v 7 .int] [] [.b (.s 5) [.keep,.row .int 3,.keep]] 2 .z)) .z)))))) 92 [an_] [aq_,.int]=λx=>ji_ x.1:=by kernel_rfl
noncomputable def c_92:Con prog:=aw_ _ _ 92 [an_] [aq_,.int] _ x_92
noncomputable def lb_ (a0:ad_) (a1:aa_) (a2:Int):Option (Bool×Unit) :=
 ((hf_ a0 a1 a2).bind λv0 =>
 ((ir_ a0 a2 v0.1).bind λv1 =>
 (some ((decide (v1.1≤a0.2.2.2.2)),()))))
theorem x_124:au_ (P:=prog) (cxC [c_160,c_161] []) (.p .z (.p (.q [] .z .z) .z)) 124 [ao_,aj_,.int] [.bool]=λx=>lb_ x.1 x.2.1 x.2.2.1:=by kernel_rfl
noncomputable def c_124:Con prog:=aw_ _ _ 124 [ao_,aj_,.int] [.bool] _ x_124
noncomputable def gx_ (a0:ad_):Option (Int×Unit) :=
 ((fe_ a0.1).bind λv0 =>
 (cond (v0.1 != 0)
 (some (v0.1,()))
 (((cond (decide (8<(a0.2.1.length:Int)))
 (some (true,()))
 (some ((decide (16<(a0.2.2.2.1.length:Int))),())))).bind λv1 =>
 (cond v1.1
 (some (2,()))
 ((ag_ (ρ:=(Unit⊕(Int×Unit))) (λ(v2:(Int×Unit)) =>
 (cond (decide (v2.1<(a0.2.1.length:Int)))
 ((at? a0.2.1 v2.1).bind λv3 =>
 ((ee_ v3).bind λv4 =>
 (cond (v4.1 != 0)
 (some (inr (inr (v4.1,()))))
 (some (inl ((w64 (v2.1+1)),()))))))
 (some (inr (inl ()))))) (0,())).bind λv5 =>
 (cd_ v5 (λv6=>(cond ((a0.2.2.1.length:Int) != (a0.2.1.length:Int))
 (some (12,()))
 ((ag_ (ρ:=(Unit⊕(Int×Unit))) (λ(v8:(Int×Unit)) =>
 (cond (decide (v8.1<(a0.2.1.length:Int)))
 ((at? a0.2.1 v8.1).bind λv9 =>
 ((at? a0.2.2.1 v8.1).bind λv10 =>
 ((dy_ v9 v10).bind λv11 =>
 (cond (v11.1 != 0)
 (some (inr (inr (12,()))))
 (some (inl ((w64 (v8.1+1)),())))))))
 (some (inr (inl ()))))) (0,())).bind λv12 =>
 (cd_ v12 (λv13=>((ag_ (ρ:=(Unit⊕(Int×Unit))) (λ(v15:(Int×Unit)) =>
 (cond (decide (v15.1<(a0.1.2.2.2.2.1.length:Int)))
 ((at? a0.1.2.2.2.2.1 v15.1).bind λv16 =>
 (cond (decide ((a0.2.1.length:Int)≤v16.2.2.1))
 (some (inr (inr (26,()))))
 (some (inl ((w64 (v15.1+1)),())))))
 (some (inr (inl ()))))) (0,())).bind λv17 =>
 (cd_ v17 (λv18=>((ag_ (ρ:=(Unit⊕(Int×Unit))) (λ(v20:(Int×Unit)) =>
 (cond (decide (v20.1<(a0.2.2.2.1.length:Int)))
 ((at? a0.2.2.2.1 v20.1).bind λv21 =>
 ((li_ a0 v20.1 v21).bind λv22 =>
 (cond (!v22.1)
 (some (inr (inr (40,()))))
 ((lh_ a0.1 v21.2.2.2.1).bind λv23 =>
 (cond (!v23.1)
 (some (inr (inr (25,()))))
 (some (inl ((w64 (v20.1+1)),()))))))))
 (some (inr (inl ()))))) (0,())).bind λv24 =>
 (cd_ v24 (λv25=>((bx_ a0.2.2.2.2 1 100).bind λv27 =>
 (cond (!v27.1)
 (some (1,()))
 (some (0,())))))
 (λv26=>(some v26)))))
 (λv19=>(some v19)))))
 (λv14=>(some v14))))))
 (λv7=>(some v7))))))))
theorem x_100:au_ (P:=prog) (cxC [c_131,cn4,c_133,c_134,c_135,bz8] []) (.p .z (.p .z (.p (.j0 [.v 28 .bool] .z .z) (.p (.p .z (.ls [.v 32 .int] [] [] 0 .z)) (.p .z (.p (.p .z (.ls [.v 52 .int] [] [] 2 .z)) (.p (.p .z (.ls [.v 70 .int] [] [] 4 .z)) (.p (.p .z (.ls [.v 84 .int] [] [] 6 .z)) .z)))))))) 100 [ao_] [.int]=λx=>gx_ x.1:=by kernel_rfl
noncomputable def c_100:Con prog:=aw_ _ _ 100 [ao_] [.int] _ x_100
end
section
set_option maxRecDepth 100000
set_option maxHeartbeats 0
noncomputable def jg_ (a0:ad_):Option (aa_×Int×Unit) :=
 ((hg_ a0).bind λv0 =>
 (cond (v0.1 != 0)
 (some ((([],([],[])),[]),(v0.1,())))
 ((ji_ a0.1).bind λv1 =>
 (cond (v1.2.1 != 0)
 (some ((([],([],[])),[]),(v1.2.1,())))
 ((mk? (α:=Bool) (a0.2.2.2.1.length:Int) false).bind λv2 =>
 ((ij_ a0 (v1.1,v2)).bind λv3 =>
 (some (v3.1,(0,())))))))))
theorem x_58:au_ (P:=prog) (cxC [c_24,c_92,c_93] []) .z 58 [ao_] [aj_,.int]=λx=>jg_ x.1:=by kernel_rfl
noncomputable def c_58:Con prog:=aw_ _ _ 58 [ao_] [aj_,.int] _ x_58
noncomputable def gj_ (a0:ad_) (a1:aa_) (a2:af_):Option (Bool×Unit) :=
 ((gg_ a0.1 a1.1 a2).bind λv0 =>
 (cond (!v0.2.1)
 (some (false,()))
 (cond (a2.2.1 != 4)
 (some (true,()))
 ((at? a0.1.2.2.2.2.1 a2.2.2).bind λv1 =>
 (cond (decide (v1.2.2.1<0))
 (some (true,()))
 ((at? a0.1.2.2.2.2.1 a2.2.2).bind λv2 =>
 ((lb_ a0 a1 v2.2.2.1).bind λv3 =>
 (some (v3.1,())))))))))
theorem x_96:au_ (P:=prog) (cxC [c_97,c_124] []) (.p .z (.p .z (.p .z (.p (.q [] .z .z) .z)))) 96 [ao_,aj_,ar_] [.bool]=λx=>gj_ x.1 x.2.1 x.2.2.1:=by kernel_rfl
noncomputable def c_96:Con prog:=aw_ _ _ 96 [ao_,aj_,ar_] [.bool] _ x_96
noncomputable def lj_ (a0:ad_):Option (aa_×Int×Unit) :=
 ((gx_ a0).bind λv0 =>
 (cond (v0.1 != 0)
 (some ((([],([],[])),[]),(v0.1,())))
 ((ii_ a0.1).bind λv1 =>
 (cond (v1.2.1 != 0)
 (some ((([],([],[])),[]),(v1.2.1,())))
 ((mk? (α:=Bool) (a0.2.2.2.1.length:Int) false).bind λv2 =>
 ((ag_ (ρ:=((List Bool)×((List ab_)×Unit))) (λ(v3:(Int×((List Bool)×((List ab_)×Unit)))) =>
 (cond (decide (v3.1<(a0.2.2.2.1.length:Int)))
 ((((at? a0.2.2.2.1 v3.1).bind λv4 =>
 ((fd_ a0.1 v1.1 v4.2.2.2.1).bind λv5 =>
 (((cond v5.1
 ((bj_ v1.1.2.2 v4.2.1).bind λv6 =>
 (cond v6.1
 ((at? v3.2.1 v3.1).bind λv7 =>
 ((at? v3.2.1 v3.1).bind λv8 =>
 (some ((!v8),()))))
 (some (false,()))))
 (some (false,())))).bind λv9 =>
 (cond v9.1
 ((at? v3.2.1 v3.1).bind λv10 =>
 ((at? v3.2.1 v3.1).bind λv11 =>
 (some ((v3.2.1.set v3.1.toNat true),((zc_ v3.2.2.1 v4.2.2.1),())))))
 (some (v3.2.1,(v3.2.2.1,())))))))).bind λv12 =>
 (some (inl ((w64 (v3.1+1)),(v12.1,(v12.2.1,()))))))
 (some (inr (v3.2.1,(v3.2.2.1,())))))) (0,(v2,([],())))).bind λv13 =>
 ((push? (α:=Int) [] v1.1.1).bind λv14 =>
 ((push? (α:=Int) [] v1.1.2.1).bind λv15 =>
 ((push? (α:=Int) [] v1.1.2.2).bind λv16 =>
 ((push? (α:=Bool) [] v13.1).bind λv17 =>
 (some (((v14,(v15,v16)),v17),(0,())))))))))))))
theorem x_69:au_ (P:=prog) (cxI (λk=>cond (Nat.beq k 102) (.p .z (.lp [.v 12 .int] [] [.o (.c (.s 0) 15) .bool,.m (.c (.s 0) 16) .int .int] 0 (.p .z (.p .z (.j0 [.o (.c (.s 0) 15) .bool,.m (.c (.s 0) 16) .int .int] (.p .z (.p .z (.j0 [.v 55 .bool] .z .z))) .z))))) (.z)) (λk=>Nat.beq k 100||Nat.beq k 101||Nat.beq k 138||Nat.beq k 139||Nat.beq k 140||Nat.beq k 141||false) (cxC [c_100,c_101,c_138,cn3] [xr_,by3]) 3) .z 69 [ao_] [aj_,.int]=λx=>lj_ x.1:=by kernel_rfl
noncomputable def c_69:Con prog:=aw_ _ _ 69 [ao_] [aj_,.int] _ x_69
noncomputable def dz_ (a0:ad_) (a1:aa_):Option (Int×Unit) :=
 ((gx_ a0).bind λv0 =>
 (cond (v0.1 != 0)
 (some (v0.1,()))
 ((bw_ a0.1 a1.1).bind λv1 =>
 (cond (v1.1 != 0)
 (some (v1.1,()))
 (cond ((a1.2.length:Int) != (a0.2.2.2.1.length:Int))
 (some (28,()))
 (some (0,())))))))
theorem x_144:au_ (P:=prog) (cxC [c_100,ca0] []) .z 144 [ao_,aj_] [.int]=λx=>dz_ x.1 x.2.1:=by kernel_rfl
noncomputable def c_144:Con prog:=aw_ _ _ 144 [ao_,aj_] [.int] _ x_144
end
section
set_option maxRecDepth 100000
set_option maxHeartbeats 0
noncomputable def jf_ (a0:ad_) (a1:aa_):Option ((List af_)×Unit) :=
 ((eo_ a0.1 a1.1).bind λv0 =>
 ((ag_ (ρ:=((List af_)×Unit)) (λ(v1:((List af_)×(Int×Unit))) =>
 (cond (decide (v1.2.1<(v0.1.length:Int)))
 ((((at? v0.1 v1.2.1).bind λv2 =>
 ((gj_ a0 a1 v2).bind λv3 =>
 (cond v3.1
 ((at? v0.1 v1.2.1).bind λv4 =>
 ((push? (α:=af_) v1.1 [v4]).bind λv5 =>
 (some (v5,()))))
 (some (v1.1,())))))).bind λv6 =>
 (some (inl (v6.1,((w64 (v1.2.1+1)),())))))
 (some (inr (v1.1,()))))) ([],(0,()))).bind λv7 =>
 (some (v7.1,()))))
theorem x_60:au_ (P:=prog) (cxC [c_95,c_96] []) (.p .z (.p .z (.p .z (.p (.p .z (.lp [.r 5 ar_ 61,.v 7 .int] [.r 5 ar_ 61] [] 0 (.p .z (.j0 [.r 5 ar_ 61] (.p (.q [] .z .z) .z) .z)))) .z)))) 60 [ao_,aj_] [(.list ar_)]=λx=>jf_ x.1 x.2.1:=by kernel_rfl
noncomputable def c_60:Con prog:=aw_ _ _ 60 [ao_,aj_] [(.list ar_)] _ x_60
noncomputable def po_ (a0:ad_) (a1:aa_):Option ((List af_)×Int×Unit) :=
 ((dz_ a0 a1).bind λv0 =>
 (cond (v0.1 != 0)
 (cond (v0.1 != 0)
 (some ([],(v0.1,())))
 ((fc_ a0.1 a1.1).bind λv1 =>
 (cond (v1.2.1 != 0)
 (some ([],(v1.2.1,())))
 none)))
 ((push? (α:=Bool) [] a1.2).bind λv2 =>
 ((fc_ a0.1 a1.1).bind λv3 =>
 (cond (v3.2.1 != 0)
 (some ([],(v3.2.1,())))
 ((ag_ (ρ:=((List af_)×((List ab_)×Unit))) (λ(v4:((List af_)×(Int×((List ab_)×Unit)))) =>
 (cond (decide (v4.2.1<(v3.1.length:Int)))
 ((((at? v3.1 v4.2.1).bind λv5 =>
 ((((push? (α:=Bool) [] v2).bind λv6 =>
 (((((cond (v5.2.1==4)
 ((bx_ v5.2.2 0 (w64 ((a0.1.2.2.2.2.1.length:Int) - 1))).bind λv7 =>
 (some (v7.1,())))
 (some (false,())))).bind λv8 =>
 (cond v8.1
 ((at? a0.1.2.2.2.2.1 v5.2.2).bind λv9 =>
 (((cond (decide (v9.2.2.1<0))
 (some (v4.2.2.1,()))
 (((cond ((eh_ 0 v4.2.2.1 v9.2.2.1)==0)
 ((ag_ (ρ:=((List Int)×((List ak_)×Unit))) (λ(v10:((List Int)×((List ak_)×(Int×Unit)))) =>
 (cond (decide (v10.2.2.1<(a0.2.2.2.1.length:Int)))
 ((((at? a0.2.2.2.1 v10.2.2.1).bind λv11 =>
 (((cond (v11.2.2.1==v9.2.2.1)
 ((at? v2 v10.2.2.1).bind λv12 =>
 ((at? v2 v10.2.2.1).bind λv13 =>
 (some (v13,()))))
 (some (false,())))).bind λv14 =>
 (cond v14.1
 ((push? (α:=Int) v10.1 [v10.2.2.1]).bind λv15 =>
 ((push? (α:=ak_) v10.2.1 [v11.2.2.2.2]).bind λv16 =>
 (some (v15,(v16,())))))
 (some (v10.1,(v10.2.1,()))))))).bind λv17 =>
 (some (inl (v17.1,(v17.2.1,((w64 (v10.2.2.1+1)),()))))))
 (some (inr (v10.1,(v10.2.1,())))))) ([],([],(0,())))).bind λv18 =>
 ((at? a0.2.1 v9.2.2.1).bind λv19 =>
 ((cz_ v19 v18.2.1).bind λv20 =>
 (((cond (v20.2.1==0)
 (some ((decide (v20.1≤a0.2.2.2.2)),()))
 (some (false,())))).bind λv21 =>
 (cond v21.1
 (some ((fj_ (fj_ v4.2.2.1 v9.2.2.1 2) v9.2.2.1 1),()))
 (some ((fj_ v4.2.2.1 v9.2.2.1 2),())))))))
 (some (v4.2.2.1,())))).bind λv22 =>
 (some (v22.1,()))))).bind λv23 =>
 (some (v23.1,((fj_ [] v9.2.2.1 (eh_ 0 v23.1 v9.2.2.1)),())))))
 (some (v4.2.2.1,([],())))))).bind λv24 =>
 (((((cond (v5.2.1==4)
 ((bx_ v5.2.2 0 (w64 ((a0.1.2.2.2.2.1.length:Int) - 1))).bind λv25 =>
 (cond v25.1
 ((at? a0.1.2.2.2.2.1 v5.2.2).bind λv26 =>
 (cond (decide (v26.2.2.1<0))
 (some ((!true),(v24.2.1,())))
 (((cond ((eh_ 0 v24.2.1 v26.2.2.1)==0)
 ((ag_ (ρ:=((List Int)×((List ak_)×Unit))) (λ(v27:((List Int)×((List ak_)×(Int×Unit)))) =>
 (cond (decide (v27.2.2.1<(a0.2.2.2.1.length:Int)))
 ((((at? a0.2.2.2.1 v27.2.2.1).bind λv28 =>
 (((cond (v28.2.2.1==v26.2.2.1)
 ((at? v6 v27.2.2.1).bind λv29 =>
 ((at? v6 v27.2.2.1).bind λv30 =>
 (some (v30,()))))
 (some (false,())))).bind λv31 =>
 (cond v31.1
 ((push? (α:=Int) v27.1 [v27.2.2.1]).bind λv32 =>
 ((push? (α:=ak_) v27.2.1 [v28.2.2.2.2]).bind λv33 =>
 (some (v32,(v33,())))))
 (some (v27.1,(v27.2.1,()))))))).bind λv34 =>
 (some (inl (v34.1,(v34.2.1,((w64 (v27.2.2.1+1)),()))))))
 (some (inr (v27.1,(v27.2.1,())))))) ([],([],(0,())))).bind λv35 =>
 ((at? a0.2.1 v26.2.2.1).bind λv36 =>
 ((cz_ v36 v35.2.1).bind λv37 =>
 (((cond (v37.2.1==0)
 (some ((decide (v37.1≤a0.2.2.2.2)),()))
 (some (false,())))).bind λv38 =>
 (cond v38.1
 (some ((fj_ (fj_ v24.2.1 v26.2.2.1 2) v26.2.2.1 1),()))
 (some ((fj_ v24.2.1 v26.2.2.1 2),())))))))
 (some (v24.2.1,())))).bind λv39 =>
 (some ((!((eh_ 0 v39.1 v26.2.2.1)==1)),(v39.1,()))))))
 (some (false,(v24.2.1,())))))
 (some (false,(v24.2.1,()))))).bind λv40 =>
 (cond v40.1
 (some ((!false),(v6,(v40.2.1,((a1.1.1,(a1.1.2.1,(a1.1.2.2,()))),())))))
 ((fb_ a0.1 a1.1 v5).bind λv41 =>
 (cond (v41.2.1 != 0)
 (some ((!false),(v6,(v40.2.1,((a1.1.1,(a1.1.2.1,(a1.1.2.2,()))),())))))
 ((ag_ (ρ:=((List Bool)×((List ab_)×Unit))) (λ(v42:(Int×((List Bool)×((List ab_)×Unit)))) =>
 (cond (decide (v42.1<(a0.2.2.2.1.length:Int)))
 ((((at? a0.2.2.2.1 v42.1).bind λv43 =>
 ((fd_ a0.1 v41.1 v43.2.2.2.1).bind λv44 =>
 (((cond v44.1
 ((bj_ v41.1.2.2 v43.2.1).bind λv45 =>
 (cond v45.1
 ((at? v42.2.1 v42.1).bind λv46 =>
 ((at? v42.2.1 v42.1).bind λv47 =>
 (some ((!v47),()))))
 (some (false,()))))
 (some (false,())))).bind λv48 =>
 (cond v48.1
 ((at? v42.2.1 v42.1).bind λv49 =>
 ((at? v42.2.1 v42.1).bind λv50 =>
 (some ((v42.2.1.set v42.1.toNat true),((zc_ v42.2.2.1 v43.2.2.1),())))))
 (some (v42.2.1,(v42.2.2.1,())))))))).bind λv51 =>
 (some (inl ((w64 (v42.1+1)),(v51.1,(v51.2.1,()))))))
 (some (inr (v42.2.1,(v42.2.2.1,())))))) (0,(v6,(v40.2.1,())))).bind λv52 =>
 (some ((!true),(v52.1,(v52.2.1,((v41.1.1,(v41.1.2.1,(v41.1.2.2,()))),()))))))))))).bind λv53 =>
 (cond v53.1
 (some (false,(v24.1,())))
 (some (true,(v24.1,())))))))).bind λv54 =>
 (cond v54.1
 ((push? (α:=af_) v4.1 [v5]).bind λv55 =>
 (some (v55,(v54.2.1,()))))
 (some (v4.1,(v54.2.1,()))))))).bind λv56 =>
 (some (inl (v56.1,((w64 (v4.2.1+1)),(v56.2.1,()))))))
 (some (inr (v4.1,(v4.2.2.1,())))))) ([],(0,([],())))).bind λv57 =>
 (some (v57.1,(0,())))))))))
theorem x_71:au_ (P:=prog) (cxI (λk=>cond (Nat.beq k 102) (.p .z (.lp [.v 12 .int] [] [.o (.c (.s 0) 15) .bool,.m (.c (.s 0) 16) .int .int] 0 (.p .z (.p .z (.j0 [.o (.c (.s 0) 15) .bool,.m (.c (.s 0) 16) .int .int] (.p .z (.p .z (.j0 [.v 55 .bool] .z .z))) .z))))) (cond (Nat.beq k 107) (.p .z (.p .z (.j0 [.m (.c (.s 0) 16) .int .int,.m (.s 23) .int .int] (.j0 [.v 41 .bool] .z (.p (.p .z (.j0 [.m (.c (.s 0) 16) .int .int] .z .z)) .z)) (.p (.j0 [.v 70 .bool,.o (.s 21) .bool,.m (.s 23) .int .int,.b (.s 5) [.keep,.keep,.keep,.keep,.keep,.keep,.keep,.keep,.keep,.keep,.keep,.keep,.val (.list .int),.val (.list .int),.val (.list .int),.keep,.keep]] .z .z) .z)))) (cond (Nat.beq k 108) (.p .z (.p (.j0 [.v 38 .bool,.m (.c (.s 0) 16) .int .int] .z .z) .z)) (cond (Nat.beq k 147) (.p .z (.p .z (.j0 [.m (.c (.s 0) 16) .int .int] (.p .z (.p (.p .z (.p .z (.j0 [.v 37 .bool] .z .z))) .z)) .z))) (cond (Nat.beq k 229) (.p .z (.p (.p .z (.lp [.r 6 .int 3,.r 7 ap_ 80,.v 13 .int] [.r 6 .int 3,.r 7 ap_ 80] [] 0 (.p .z (.p .z (.j0 [.r 6 .int 3,.r 7 ap_ 80] (.p .z (.j0 [.v 26 .bool] .z .z)) .z))))) .z)) (.z)))))) (λk=>Nat.beq k 106||Nat.beq k 136||Nat.beq k 138||Nat.beq k 139||Nat.beq k 141||Nat.beq k 144||Nat.beq k 148||Nat.beq k 231||false) (cxC [c_106,bz8,c_138,cn3,c_144,c_148,c_231] [by3]) 9) (.p .z (.p .z (.p .z (.p .z (.p .z (.p (.p .z (.lp [.r 4 ar_ 61,.v 32 .int] [.r 4 ar_ 61] [.m (.c (.s 6) 16) .int .int] 0 (.p .z (.p .z (.j0 [.r 4 ar_ 61,.m (.c (.s 6) 16) .int .int] (.p .z (.j0 [.v 39 .bool,.m (.c (.s 6) 16) .int .int] .z .z)) .z))))) .z)))))) 71 [ao_,aj_] [(.list ar_),.int]=λx=>po_ x.1 x.2.1:=by kernel_rfl
noncomputable def c_71:Con prog:=aw_ _ _ 71 [ao_,aj_] [(.list ar_),.int] _ x_71
noncomputable def ki_ (a0:ad_) (a1:aa_) (a2:af_):Option (aa_×Int×Unit) :=
 ((dz_ a0 a1).bind λv0 =>
 (cond (v0.1 != 0)
 (cond (v0.1 != 0)
 (some ((([],([],[])),[]),(v0.1,())))
 none)
 ((push? (α:=Bool) [] a1.2).bind λv1 =>
 (((((cond (a2.2.1==4)
 ((bx_ a2.2.2 0 (w64 ((a0.1.2.2.2.2.1.length:Int) - 1))).bind λv2 =>
 (cond v2.1
 ((at? a0.1.2.2.2.2.1 a2.2.2).bind λv3 =>
 (cond (decide (v3.2.2.1<0))
 (some ((!true),([],())))
 ((((ag_ (ρ:=((List Int)×((List ak_)×Unit))) (λ(v4:((List Int)×((List ak_)×(Int×Unit)))) =>
 (cond (decide (v4.2.2.1<(a0.2.2.2.1.length:Int)))
 ((((at? a0.2.2.2.1 v4.2.2.1).bind λv5 =>
 (((cond (v5.2.2.1==v3.2.2.1)
 ((at? v1 v4.2.2.1).bind λv6 =>
 ((at? v1 v4.2.2.1).bind λv7 =>
 (some (v7,()))))
 (some (false,())))).bind λv8 =>
 (cond v8.1
 ((push? (α:=Int) v4.1 [v4.2.2.1]).bind λv9 =>
 ((push? (α:=ak_) v4.2.1 [v5.2.2.2.2]).bind λv10 =>
 (some (v9,(v10,())))))
 (some (v4.1,(v4.2.1,()))))))).bind λv11 =>
 (some (inl (v11.1,(v11.2.1,((w64 (v4.2.2.1+1)),()))))))
 (some (inr (v4.1,(v4.2.1,())))))) ([],([],(0,())))).bind λv12 =>
 ((at? a0.2.1 v3.2.2.1).bind λv13 =>
 ((cz_ v13 v12.2.1).bind λv14 =>
 (((cond (v14.2.1==0)
 (some ((decide (v14.1≤a0.2.2.2.2)),()))
 (some (false,())))).bind λv15 =>
 (cond v15.1
 (some ((fj_ (fj_ [] v3.2.2.1 2) v3.2.2.1 1),()))
 (some ((fj_ [] v3.2.2.1 2),())))))))).bind λv16 =>
 (some ((!((eh_ 0 v16.1 v3.2.2.1)==1)),(v16.1,()))))))
 (some (false,([],())))))
 (some (false,([],()))))).bind λv17 =>
 (cond v17.1
 (some ((!false),(v1,(v17.2.1,((a1.1.1,(a1.1.2.1,(a1.1.2.2,()))),())))))
 ((fb_ a0.1 a1.1 a2).bind λv18 =>
 (cond (v18.2.1 != 0)
 (some ((!false),(v1,(v17.2.1,((a1.1.1,(a1.1.2.1,(a1.1.2.2,()))),())))))
 ((ag_ (ρ:=((List Bool)×((List ab_)×Unit))) (λ(v19:(Int×((List Bool)×((List ab_)×Unit)))) =>
 (cond (decide (v19.1<(a0.2.2.2.1.length:Int)))
 ((((at? a0.2.2.2.1 v19.1).bind λv20 =>
 ((fd_ a0.1 v18.1 v20.2.2.2.1).bind λv21 =>
 (((cond v21.1
 ((bj_ v18.1.2.2 v20.2.1).bind λv22 =>
 (cond v22.1
 ((at? v19.2.1 v19.1).bind λv23 =>
 ((at? v19.2.1 v19.1).bind λv24 =>
 (some ((!v24),()))))
 (some (false,()))))
 (some (false,())))).bind λv25 =>
 (cond v25.1
 ((at? v19.2.1 v19.1).bind λv26 =>
 ((at? v19.2.1 v19.1).bind λv27 =>
 (some ((v19.2.1.set v19.1.toNat true),((zc_ v19.2.2.1 v20.2.2.1),())))))
 (some (v19.2.1,(v19.2.2.1,())))))))).bind λv28 =>
 (some (inl ((w64 (v19.1+1)),(v28.1,(v28.2.1,()))))))
 (some (inr (v19.2.1,(v19.2.2.1,())))))) (0,(v1,(v17.2.1,())))).bind λv29 =>
 (some ((!true),(v29.1,(v29.2.1,((v18.1.1,(v18.1.2.1,(v18.1.2.2,()))),()))))))))))).bind λv30 =>
 (cond v30.1
 (some ((([],([],[])),[]),(29,())))
 ((push? (α:=Int) [] v30.2.2.2.1.1).bind λv31 =>
 ((push? (α:=Int) [] v30.2.2.2.1.2.1).bind λv32 =>
 ((push? (α:=Int) [] v30.2.2.2.1.2.2.1).bind λv33 =>
 ((push? (α:=Bool) [] v30.2.1).bind λv34 =>
 (some (((v31,(v32,v33)),v34),(0,()))))))))))))
theorem x_72:au_ (P:=prog) (cxI (λk=>cond (Nat.beq k 102) (.p .z (.lp [.v 12 .int] [] [.o (.c (.s 0) 15) .bool,.m (.c (.s 0) 16) .int .int] 0 (.p .z (.p .z (.j0 [.o (.c (.s 0) 15) .bool,.m (.c (.s 0) 16) .int .int] (.p .z (.p .z (.j0 [.v 55 .bool] .z .z))) .z))))) (cond (Nat.beq k 108) (.p .z (.p (.j0 [.v 38 .bool,.m (.c (.s 0) 16) .int .int] .z .z) .z)) (cond (Nat.beq k 147) (.p .z (.p .z (.j0 [.m (.c (.s 0) 16) .int .int] (.p .z (.p (.p .z (.p .z (.j0 [.v 37 .bool] .z .z))) .z)) .z))) (cond (Nat.beq k 229) (.p .z (.p (.p .z (.lp [.r 6 .int 3,.r 7 ap_ 80,.v 13 .int] [.r 6 .int 3,.r 7 ap_ 80] [] 0 (.p .z (.p .z (.j0 [.r 6 .int 3,.r 7 ap_ 80] (.p .z (.j0 [.v 26 .bool] .z .z)) .z))))) .z)) (.z))))) (λk=>Nat.beq k 136||Nat.beq k 138||Nat.beq k 139||Nat.beq k 140||Nat.beq k 141||Nat.beq k 144||Nat.beq k 148||Nat.beq k 231||false) (cxC [bz8,c_138,cn3,c_144,c_148,c_231] [xr_,by3]) 9) (.p .z (.p .z (.p .z (.p (.j0 [.v 23 .bool,.o (.c (.s 8) 15) .bool,.m (.c (.s 8) 16) .int .int,.b (.s 8) [.keep,.keep,.keep,.keep,.keep,.keep,.keep,.keep,.keep,.keep,.keep,.keep,.val (.list .int),.val (.list .int),.val (.list .int),.keep,.keep]] .z .z) .z)))) 72 [ao_,aj_,ar_] [aj_,.int]=λx=>ki_ x.1 x.2.1 x.2.2.1:=by kernel_rfl
noncomputable def c_72:Con prog:=aw_ _ _ 72 [ao_,aj_,ar_] [aj_,.int] _ x_72
end
section
set_option maxRecDepth 100000
set_option maxHeartbeats 0
noncomputable def dw_ (a0:ad_):Option (cj_×Int×Unit) :=
 ((jg_ a0).bind λv0 =>
 (cond (v0.2.1 != 0)
 (some (([],[]),(v0.2.1,())))
 ((hv_ v0.1).bind λv1 =>
 ((ag_ (ρ:=(((List ((List UInt8)×Int))×(((List aa_)×((List (List ac_))×Unit))×(((List aa_)×((List (List ac_))×Unit))×Unit)))⊕(cj_×(Int×Unit)))) (λ(v2:(Int×((List ((List UInt8)×Int))×(((List aa_)×((List (List ac_))×Unit))×(((List aa_)×((List (List ac_))×Unit))×Unit))))) =>
 (cond (decide (v2.1<(v2.2.2.2.1.1.length:Int)))
 ((at? v2.2.2.2.1.1 v2.1).bind λv3 =>
 ((at? v2.2.2.2.1.1 v2.1).bind λv4 =>
 ((jf_ a0 v4).bind λv5 =>
 ((ag_ (ρ:=(((List ac_)×((List ((List UInt8)×Int))×(((List aa_)×((List (List ac_))×Unit))×(((List aa_)×Unit)×Unit))))⊕((Int×((List ((List UInt8)×Int))×(((List aa_)×((List (List ac_))×Unit))×(((List aa_)×((List (List ac_))×Unit))×Unit))))⊕(((List ((List UInt8)×Int))×(((List aa_)×((List (List ac_))×Unit))×(((List aa_)×((List (List ac_))×Unit))×Unit)))⊕(cj_×(Int×Unit)))))) (λ(v6:((List ac_)×(Int×((List ((List UInt8)×Int))×(((List aa_)×((List (List ac_))×Unit))×(((List aa_)×Unit)×Unit)))))) =>
 (cond (decide (v6.2.1<(v5.1.length:Int)))
 ((at? v6.2.2.2.2.1.1 v2.1).bind λv7 =>
 ((at? v6.2.2.2.2.1.1 v2.1).bind λv8 =>
 ((at? v5.1 v6.2.1).bind λv9 =>
 ((lc_ a0 v8 v9).bind λv10 =>
 ((hv_ v10.1).bind λv11 =>
 (((cond (!(bg9 v6.2.2.1 v11.1))
 (cond ((v6.2.2.2.2.1.1.length:Int)==3000)
 (some (inr (inr (inr (inr (inr (([],[]),(2,()))))))))
 ((hv_ v10.1).bind λv12 =>
 ((push? (α:=aa_) v6.2.2.2.2.1.1 [v10.1]).bind λv13 =>
 (some (inl ((v6.2.2.2.2.1.1.length:Int),((fj_ v6.2.2.1 v12.1 (v6.2.2.2.2.1.1.length:Int)),((v6.2.2.2.1.1,(v6.2.2.2.1.2.1,())),((v13,()),())))))))))
 (some (inl ((eh_ 0 v6.2.2.1 v11.1),(v6.2.2.1,((v6.2.2.2.1.1,(v6.2.2.2.1.2.1,())),((v6.2.2.2.2.1.1,()),())))))))).bind λv14 =>
 (cd_ v14 (λv15=>((at? v5.1 v6.2.1).bind λv17 =>
 ((push? (α:=ac_) v6.1 [(v17,v15.1)]).bind λv18 =>
 (some (inl (v18,((w64 (v6.2.1+1)),(v15.2.1,((v15.2.2.1.1,(v15.2.2.1.2.1,())),((v15.2.2.2.1.1,()),()))))))))))
 (λv16=>(some v16)))))))))
 (some (inr (inl (v6.1,(v6.2.2.1,((v6.2.2.2.1.1,(v6.2.2.2.1.2.1,())),((v6.2.2.2.2.1.1,()),()))))))))) ([],(0,(v2.2.1,((v2.2.2.1.1,(v2.2.2.1.2.1,())),((v2.2.2.2.1.1,()),())))))).bind λv19 =>
 (cd_ v19 (λv20=>((push? (α:=(List ac_)) v2.2.2.2.1.2.1 [v20.1]).bind λv22 =>
 (some (inl ((w64 (v2.1+1)),(v20.2.1,((v20.2.2.1.1,(v20.2.2.1.2.1,())),((v20.2.2.2.1.1,(v22,())),()))))))))
 (λv21=>(some v21)))))))
 (some (inr (inl (v2.2.1,((v2.2.2.1.1,(v2.2.2.1.2.1,())),((v2.2.2.2.1.1,(v2.2.2.2.1.2.1,())),())))))))) (0,((fj_ [] v1.1 0),(([],([],())),(([v0.1],([],())),()))))).bind λv23 =>
 (cd_ v23 (λv24=>(some ((v24.2.2.1.1,v24.2.2.1.2.1),(0,()))))
 (λv25=>(some v25)))))))
theorem x_25:au_ (P:=prog) (cxC [c_58,c_59,c_60,c_61] []) (.p .z (.p .z (.p .z (.p .z (.p .z (.p (.p .z (.ls [.v 8 .int] [] [.m (.s 7) .str .int,.b (.s 2) [.val (.list aj_),.val (.list (.list ca_))],.b (.s 6) [.row aj_ 97,.row (.list ca_) 59]] 0 (.p .z (.p (.p .z (.p .z (.p (.p .z (.ls [.r 10 ca_ 63,.v 11 .int] [.r 10 ca_ 63] [.m (.s 7) .str .int,.b (.s 2) [.val (.list aj_),.val (.list (.list ca_))],.b (.s 6) [.row aj_ 97,.keep]] 2 (.p .z (.p (.p .z (.p .z (.js [.v 13 .int,.m (.s 7) .str .int,.b (.s 2) [.val (.list aj_),.val (.list (.list ca_))],.b (.s 6) [.row aj_ 97,.keep]] .z .z))) .z)))) .z))) .z)))) .z)))))) 25 [ao_] [mj_,.int]=λx=>dw_ x.1:=by kernel_rfl
noncomputable def c_25:Con prog:=aw_ _ _ 25 [ao_] [mj_,.int] _ x_25
noncomputable def dx_ (a0:ad_):Option (cj_×Int×Unit) :=
 ((lj_ a0).bind λv0 =>
 (cond (v0.2.1 != 0)
 (some (([],[]),(v0.2.1,())))
 ((((kg_ v0.1).bind λv1 =>
 (some ((fj_ [] v1.1 0),((([]++[v0.1]),()),()))))).bind λv2 =>
 ((ag_ (ρ:=(((List ((List UInt8)×Int))×(((List aa_)×((List (List ac_))×Unit))×(((List aa_)×((List (List ac_))×Unit))×Unit)))⊕(cj_×(Int×Unit)))) (λ(v3:(Int×((List ((List UInt8)×Int))×(((List aa_)×((List (List ac_))×Unit))×(((List aa_)×((List (List ac_))×Unit))×Unit))))) =>
 (cond (decide (v3.1<(v3.2.2.2.1.1.length:Int)))
 ((at? v3.2.2.2.1.1 v3.1).bind λv4 =>
 ((at? v3.2.2.2.1.1 v3.1).bind λv5 =>
 ((po_ a0 v5).bind λv6 =>
 (cond (v6.2.1 != 0)
 (some (inr (inr (([],[]),(v6.2.1,())))))
 ((ag_ (ρ:=(((List ac_)×((List ((List UInt8)×Int))×(((List aa_)×((List (List ac_))×Unit))×(((List aa_)×Unit)×Unit))))⊕((Int×((List ((List UInt8)×Int))×(((List aa_)×((List (List ac_))×Unit))×(((List aa_)×((List (List ac_))×Unit))×Unit))))⊕(((List ((List UInt8)×Int))×(((List aa_)×((List (List ac_))×Unit))×(((List aa_)×((List (List ac_))×Unit))×Unit)))⊕(cj_×(Int×Unit)))))) (λ(v7:((List ac_)×(Int×((List ((List UInt8)×Int))×(((List aa_)×((List (List ac_))×Unit))×(((List aa_)×Unit)×Unit)))))) =>
 (cond (decide (v7.2.1<(v6.1.length:Int)))
 ((at? v6.1 v7.2.1).bind λv8 =>
 ((at? v7.2.2.2.2.1.1 v3.1).bind λv9 =>
 ((at? v7.2.2.2.2.1.1 v3.1).bind λv10 =>
 ((ki_ a0 v10 v8).bind λv11 =>
 (cond (v11.2.1 != 0)
 (some (inr (inr (inr (inr (([],[]),(v11.2.1,())))))))
 ((((kg_ v11.1).bind λv12 =>
 (cond (bg9 v7.2.2.1 v12.1)
 (some ((eh_ 0 v7.2.2.1 v12.1),(true,(v7.2.2.1,((v7.2.2.2.2.1.1,()),())))))
 (cond ((v7.2.2.2.2.1.1.length:Int)==3000)
 (some (0,(false,(v7.2.2.1,((v7.2.2.2.2.1.1,()),())))))
 ((push? (α:=aa_) v7.2.2.2.2.1.1 [v11.1]).bind λv13 =>
 (some ((v7.2.2.2.2.1.1.length:Int),(true,((fj_ v7.2.2.1 v12.1 (v7.2.2.2.2.1.1.length:Int)),((v13,()),())))))))))).bind λv14 =>
 (cond (!v14.2.1)
 (some (inr (inr (inr (inr (([],[]),(2,())))))))
 ((push? (α:=ac_) v7.1 [(v8,v14.1)]).bind λv15 =>
 (some (inl (v15,((w64 (v7.2.1+1)),(v14.2.2.1,((v7.2.2.2.1.1,(v7.2.2.2.1.2.1,())),((v14.2.2.2.1.1,()),())))))))))))))))
 (some (inr (inl (v7.1,(v7.2.2.1,((v7.2.2.2.1.1,(v7.2.2.2.1.2.1,())),((v7.2.2.2.2.1.1,()),()))))))))) ([],(0,(v3.2.1,((v3.2.2.1.1,(v3.2.2.1.2.1,())),((v3.2.2.2.1.1,()),())))))).bind λv16 =>
 (cd_ v16 (λv17=>((push? (α:=(List ac_)) v3.2.2.2.1.2.1 [v17.1]).bind λv19 =>
 (some (inl ((w64 (v3.1+1)),(v17.2.1,((v17.2.2.1.1,(v17.2.2.1.2.1,())),((v17.2.2.2.1.1,(v19,())),()))))))))
 (λv18=>(some v18))))))))
 (some (inr (inl (v3.2.1,((v3.2.2.1.1,(v3.2.2.1.2.1,())),((v3.2.2.2.1.1,(v3.2.2.2.1.2.1,())),())))))))) (0,(v2.1,(([],([],())),((v2.2.1.1,([],())),()))))).bind λv20 =>
 (cd_ v20 (λv21=>(some ((v21.2.2.1.1,v21.2.2.1.2.1),(0,()))))
 (λv22=>(some v22)))))))
theorem x_37:au_ (P:=prog) (cxI (λk=>.z) (λk=>Nat.beq k 69||Nat.beq k 71||Nat.beq k 72||Nat.beq k 104||false) (cxC [c_69,c_71,c_72,c_104] []) 2) (.p .z (.p .z (.p .z (.p .z (.j0 [.m (.s 26) .str .int,.b (.s 6) [.row aj_ 97,.keep,.keep]] .z (.p (.p .z (.ls [.v 7 .int] [] [.m (.s 26) .str .int,.b (.s 2) [.val (.list aj_),.val (.list (.list ca_))],.b (.s 6) [.row aj_ 97,.row (.list ca_) 59,.keep]] 0 (.p .z (.p (.p .z (.p .z (.p .z (.p (.p .z (.ls [.r 10 ca_ 63,.v 61 .int] [.r 10 ca_ 63] [.m (.s 26) .str .int,.b (.s 2) [.val (.list aj_),.val (.list (.list ca_))],.b (.s 6) [.row aj_ 97,.keep,.keep]] 2 (.p .z (.p .z (.p (.p .z (.p .z (.p .z (.j0 [.v 15 .int,.v 16 .bool,.m (.s 26) .str .int,.b (.s 6) [.row aj_ 97,.keep,.keep]] .z .z)))) .z))))) .z)))) .z)))) .z)))))) 37 [ao_] [mj_,.int]=λx=>dx_ x.1:=by kernel_rfl
noncomputable def c_37:Con prog:=aw_ _ _ 37 [ao_] [mj_,.int] _ x_37
end
section
set_option maxRecDepth 100000
set_option maxHeartbeats 0
noncomputable def jl_ (a0:ad_):Option (Bool×Unit) :=
 ((((kj_ a0).bind λv0 =>
 (cond v0.1
 (some (true,()))
 ((hg_ a0).bind λv1 =>
 (some ((v1.1 != 0),())))))).bind λv2 =>
 (cond v2.1
 ((kj_ a0).bind λv3 =>
 (some (v3.1,())))
 (((cond (decide (4<(a0.1.1.length:Int)))
 (some (true,()))
 (cond (decide (4<(a0.1.2.1.length:Int)))
 (some (true,()))
 (cond (decide (3<(a0.1.2.2.1.length:Int)))
 (some (true,()))
 (cond (decide (2<a0.1.2.2.2.2.2.2.1))
 (some (true,()))
 (cond (decide (6<(a0.1.2.2.2.2.1.length:Int)))
 (some (true,()))
 (cond (decide (4<(a0.1.2.2.2.2.2.1.length:Int)))
 (some (true,()))
 (cond (decide (5<(a0.2.2.2.1.length:Int)))
 (some (true,()))
 (some ((decide (3<(a0.2.1.length:Int))),())))))))))).bind λv4 =>
 (cond v4.1
 (some (true,()))
 ((dw_ a0).bind λv5 =>
 (cond (v5.2.1==2)
 (some (true,()))
 (some ((decide (200<(v5.1.1.length:Int))),()))))))))
theorem x_7:au_ (P:=prog) (cxC [c_23,c_24,c_25] []) (.p .z (.p .z (.p (.j0 [.v 14 .bool] .z .z) (.p (.j0 [.v 61 .bool] .z .z) .z)))) 7 [ao_] [.bool]=λx=>jl_ x.1:=by kernel_rfl
noncomputable def c_7:Con prog:=aw_ _ _ 7 [ao_] [.bool] _ x_7
noncomputable def fs_ (a0:ad_):Option ((List af_)×Int×Unit) :=
 ((dx_ a0).bind λv0 =>
 (cond (v0.2.1 != 0)
 (cond (v0.2.1 != 0)
 (some ([],(v0.2.1,())))
 none)
 ((ey_ [(-1)] (v0.1.1.length:Int)).bind λv1 =>
 ((ag_ (ρ:=((List Int)×((List Int)×Unit))) (λ(v2:((List Int)×(Int×((List Int)×Unit)))) =>
 (cond (decide (v2.2.1<(v0.1.1.length:Int)))
 ((((at? v0.1.1 v2.2.1).bind λv3 =>
 ((kf_ a0.1 v3.1).bind λv4 =>
 (((cond (v4.2.1==0)
 (some (v4.1,()))
 (some (false,())))).bind λv5 =>
 (cond v5.1
 ((at? v2.2.2.1 v2.2.1).bind λv6 =>
 ((at? v2.2.2.1 v2.2.1).bind λv7 =>
 ((push? (α:=Int) v2.1 [v2.2.1]).bind λv8 =>
 (some (v8,((v2.2.2.1.set v2.2.1.toNat 0),()))))))
 (some (v2.1,(v2.2.2.1,())))))))).bind λv9 =>
 (some (inl (v9.1,((w64 (v2.2.1+1)),(v9.2.1,()))))))
 (some (inr (v2.1,(v2.2.2.1,())))))) ([],(0,(v1,())))).bind λv10 =>
 ((mk? (α:=(List Int)) (v0.1.1.length:Int) []).bind λv11 =>
 ((ag_ (ρ:=((List (List Int))×Unit)) (λ(v12:(Int×((List (List Int))×Unit))) =>
 (cond (decide (v12.1<(v0.1.2.length:Int)))
 ((at? v0.1.2 v12.1).bind λv13 =>
 ((ag_ (ρ:=((List (List Int))×Unit)) (λ(v14:(Int×((List (List Int))×Unit))) =>
 (cond (decide (v14.1<(v13.length:Int)))
 ((((at? v13 v14.1).bind λv15 =>
 ((at? v14.2.1 v15.2).bind λv16 =>
 ((at? v14.2.1 v15.2).bind λv17 =>
 ((push? (α:=Int) v17 [v12.1]).bind λv18 =>
 ((at? v14.2.1 v15.2).bind λv19 =>
 (cond ((v15.2==v15.2)&&true)
 ((at? v14.2.1 v15.2).bind λv20 =>
 (some ((v14.2.1.set v15.2.toNat v18),())))
 none))))))).bind λv21 =>
 (some (inl ((w64 (v14.1+1)),(v21.1,())))))
 (some (inr (v14.2.1,()))))) (0,(v12.2.1,()))).bind λv22 =>
 (some (inl ((w64 (v12.1+1)),(v22.1,()))))))
 (some (inr (v12.2.1,()))))) (0,(v11,()))).bind λv23 =>
 ((ag_ (ρ:=((List Int)×Unit)) (λ(v24:((List Int)×((List Int)×Unit))) =>
 (cond (decide (0<(v24.1.length:Int)))
 ((at? v24.1 0).bind λv25 =>
 ((at? v24.1 0).bind λv26 =>
 ((sub? v24.1 1 (v24.1.length:Int)).bind λv27 =>
 ((at? v23.1 v26).bind λv28 =>
 ((ag_ (ρ:=((List Int)×((List Int)×Unit))) (λ(v29:((List Int)×(Int×((List Int)×Unit)))) =>
 (cond (decide (v29.2.1<(v28.length:Int)))
 ((((at? v28 v29.2.1).bind λv30 =>
 ((at? v29.2.2.1 v30).bind λv31 =>
 ((at? v29.2.2.1 v30).bind λv32 =>
 (cond (decide (v32<0))
 ((at? v29.2.2.1 v26).bind λv33 =>
 ((at? v29.2.2.1 v26).bind λv34 =>
 ((at? v29.2.2.1 v30).bind λv35 =>
 ((at? v29.2.2.1 v30).bind λv36 =>
 ((push? (α:=Int) v29.1 [v30]).bind λv37 =>
 (some (v37,((v29.2.2.1.set v30.toNat (w64 (v34+1))),()))))))))
 (some (v29.1,(v29.2.2.1,())))))))).bind λv38 =>
 (some (inl (v38.1,((w64 (v29.2.1+1)),(v38.2.1,()))))))
 (some (inr (v29.1,(v29.2.2.1,())))))) (v27,(0,(v24.2.1,())))).bind λv39 =>
 (some (inl (v39.1,(v39.2.1,())))))))))
 (some (inr (v24.2.1,()))))) (v10.1,(v10.2.1,()))).bind λv40 =>
 ((at? v40.1 0).bind λv41 =>
 ((at? v40.1 0).bind λv42 =>
 (cond (decide (v42<0))
 (some ([],(50,())))
 ((ag_ (ρ:=(((List af_)×Unit)×Unit)) (λ(v43:(Int×(((List af_)×Unit)×Unit))) =>
 ((at? v40.1 v43.1).bind λv44 =>
 ((at? v40.1 v43.1).bind λv45 =>
 (cond (decide (0<v45))
 ((((at? v0.1.2 v43.1).bind λv46 =>
 ((ag_ (ρ:=(((List Int)×(Unit×(((List af_)×Unit)×Unit)))⊕((List Int)×(((List af_)×Unit)×Unit)))) (λ(v47:(Int×((List Int)×(Unit×(((List af_)×Unit)×Unit))))) =>
 (cond (decide (v47.1<(v46.length:Int)))
 ((at? v46 v47.1).bind λv48 =>
 ((at? v40.1 v48.2).bind λv49 =>
 ((at? v40.1 v48.2).bind λv50 =>
 ((at? v40.1 v43.1).bind λv51 =>
 ((at? v40.1 v43.1).bind λv52 =>
 (cond (v50==(w64 (v52 - 1)))
 ((at? v40.1 v43.1).bind λv53 =>
 ((at? v40.1 v43.1).bind λv54 =>
 (cond (decide (0<v54))
 ((push? (α:=af_) v47.2.2.2.1.1 [v48.1]).bind λv55 =>
 ((at? v47.2.1 0).bind λv56 =>
 (some (inr (inr ((v47.2.1.set (0:Int).toNat v48.2),((v55,()),())))))))
 (some (inl ((w64 (v47.1+1)),(v47.2.1,((),((v47.2.2.2.1.1,()),())))))))))
 (some (inl ((w64 (v47.1+1)),(v47.2.1,((),((v47.2.2.2.1.1,()),()))))))))))))
 (some (inr (inl (v47.2.1,((),((v47.2.2.2.1.1,()),())))))))) (0,([v43.1],((),((v43.2.1.1,()),()))))).bind λv57 =>
 (cd_ v57 (λv58=>(some (v58.1,((v58.2.2.1.1,()),()))))
 (λv59=>(some v59)))))).bind λv60 =>
 ((at? v60.1 0).bind λv61 =>
 (some (inl (v61,((v60.2.1.1,()),()))))))
 (some (inr ((v43.2.1.1,()),()))))))) (0,(([],()),()))).bind λv62 =>
 (some (v62.1.1,(0,()))))))))))))))
theorem x_9:au_ (P:=prog) (cxI (λk=>cond (Nat.beq k 28) (.p .z (.p (.p .z (.lp [.a 3 .int 3] [] [.b (.s 2) [.row ar_ 61]] 0 (.p .z (.j0 [.o (.s 3) .int,.b (.s 2) [.row ar_ 61]] (.p .z (.rf [2,3] .z .z)) .z)))) .z)) (cond (Nat.beq k 63) (.p .z (.p .z (.p .z (.p (.p .z (.lp [.r 8 .int 3,.v 33 .int] [.r 8 .int 3] [.o (.s 27) .int] 0 (.p .z (.p .z (.j0 [.r 8 .int 3,.o (.s 27) .int] (.p .z (.p .z (.j0 [.v 50 .bool] .z .z))) .z))))) (.p .z (.p (.p .z (.lp [.v 69 .int] [] [.g (.s 13) (.list .int)] 2 (.p .z (.p .z (.p (.p .z (.p .z (.lp [.v 76 .int] [] [.g (.s 13) (.list .int)] 4 (.p .z (.p .z (.j0 [.g (.s 13) (.list .int)] .z .z)))))) .z))))) (.q [(.s 13)] (.lp [.r 8 .int 3] [] [.o (.s 27) .int] 6 (.p .z (.p .z (.p .z (.p .z (.lp [.r 8 .int 3,.v 110 .int] [.r 8 .int 3] [.o (.s 27) .int] 8 (.p .z (.p .z (.j0 [.r 8 .int 3,.o (.s 27) .int] .z .z))))))))) .z))))))) (cond (Nat.beq k 67) (.p .z (.ls [.v 15 .int] [] [.o (.y (.s 0) 3) .int,.y (.s 0),.b (.y (.s 0) 2) [.row ar_ 61]] 0 (.p .z (.p .z (.p (.p .z (.p (.sp 38 41) .z)) .z))))) (.z)))) (λk=>Nat.beq k 37||Nat.beq k 64||Nat.beq k 98||Nat.beq k 99||false) (cxR [rp_98] [c_37,c_64,c_99] []) 8) .z 9 [ao_] [(.list ar_),.int]=λx=>fs_ x.1:=by kernel_rfl
noncomputable def c_9:Con prog:=aw_ _ _ 9 [ao_] [(.list ar_),.int] _ x_9
noncomputable def ej_ (a0:ad_) (a1:Int) (a2:Int):Option (Bool×Int×Unit) :=
 ((dx_ a0).bind λv0 =>
 (cond (v0.2.1 != 0)
 (some (false,(v0.2.1,())))
 ((lg_ a0 [a1,a2]).bind λv1 =>
 (cond (!v1.1)
 (some (false,(1,())))
 ((ag_ (ρ:=((List ab_)×Unit)) (λ(v2:((List Int)×((List ab_)×Unit))) =>
 (cond (decide (0<(v2.1.length:Int)))
 ((at? v2.1 0).bind λv3 =>
 ((at? v2.1 0).bind λv4 =>
 ((sub? v2.1 1 (v2.1.length:Int)).bind λv5 =>
 ((at? v0.1.2 v4).bind λv6 =>
 ((ag_ (ρ:=((List Int)×((List ab_)×Unit))) (λ(v7:((List Int)×(Int×((List ab_)×Unit)))) =>
 (cond (decide (v7.2.1<(v6.length:Int)))
 ((((at? v6 v7.2.1).bind λv8 =>
 (((((cond (v8.1.2.1 != 4)
 (some (true,()))
 (some ((v8.1.2.2 != a1),())))).bind λv9 =>
 (cond v9.1
 (some (((eh_ 0 v7.2.2.1 v8.2)==0),()))
 (some (false,()))))).bind λv10 =>
 (cond v10.1
 ((push? (α:=Int) v7.1 [v8.2]).bind λv11 =>
 (some (v11,((fj_ v7.2.2.1 v8.2 1),()))))
 (some (v7.1,(v7.2.2.1,()))))))).bind λv12 =>
 (some (inl (v12.1,((w64 (v7.2.1+1)),(v12.2.1,()))))))
 (some (inr (v7.1,(v7.2.2.1,())))))) (v5,(0,(v2.2.1,())))).bind λv13 =>
 (some (inl (v13.1,(v13.2.1,())))))))))
 (some (inr (v2.2.1,()))))) ([0],((fj_ [] 0 1),()))).bind λv14 =>
 ((mapO (τ:=(Unit⊕(Bool×(Int×Unit)))) (λ(v15:ab_) (v16:Unit) =>
 ((at? v0.1.2 v15.1).bind λv18 =>
 ((((ag_ (ρ:=(Unit⊕(Bool×Unit))) (λ(v19:(Int×Unit)) =>
 (cond (decide (v19.1<(v18.length:Int)))
 ((at? v18 v19.1).bind λv20 =>
 ((il_ v20 4 a2).bind λv21 =>
 (cond v21.1
 (some (inr (inr ((decide (0≤v19.1)),()))))
 (some (inl ((w64 (v19.1+1)),()))))))
 (some (inr (inl ()))))) (0,())).bind λv22 =>
 (cd_ v22 (λv23=>(some ((decide (0≤(-1))),())))
 (λv24=>(some v24))))).bind λv25 =>
 (cond v25.1
 (some (inr (inr (false,(0,())))))
 (some (inl ())))))) (λ(v17:Unit) =>
 (some (inl ()))) v14.1 ()).bind λv26 =>
 (cd_ v26 (λv27=>(some (true,(0,()))))
 (λv28=>(some (v28.1,(v28.2.1,())))))))))))
theorem x_17:au_ (P:=prog) (cxI (λk=>cond (Nat.beq k 39) (.p .z (.p .z (.p (.p .z (.lp [.r 6 .int 3] [] [.m (.s 5) .int .int] 0 (.p .z (.p .z (.p .z (.p .z (.lp [.r 6 .int 3,.v 27 .int] [.r 6 .int 3] [.m (.s 5) .int .int] 2 (.p .z (.p .z (.j0 [.r 6 .int 3,.m (.s 5) .int .int] (.p .z (.j0 [.v 40 .bool] .z .z)) .z)))))))))) .z))) (cond (Nat.beq k 41) (.p .z (.j0 [.v 4 .bool] .z .z)) (cond (Nat.beq k 75) (.p .z (.j0 [.v 3 .bool] .z .z)) (cond (Nat.beq k 76) (.p .z (.p (.p .z (.ls [.v 8 .int] [] [] 0 .z)) .z)) (.z))))) (λk=>Nat.beq k 37||Nat.beq k 38||Nat.beq k 43||false) (cxC [c_37,c_38,c_43] []) 7) (.p .z (.p .z (.p .z (.p .z (.p (.mp [] [] [.v 6 .bool,.v 7 .int] [] .z) .z))))) 17 [ao_,.int,.int] [.bool,.int]=λx=>ej_ x.1 x.2.1 x.2.2.1:=by kernel_rfl
noncomputable def c_17:Con prog:=aw_ _ _ 17 [ao_,.int,.int] [.bool,.int] _ x_17
noncomputable def hz_ (a0:ad_) (a1:Int) (a2:Int):Option (Bool×Int×Unit) :=
 ((dw_ a0).bind λv0 =>
 (cond (v0.2.1 != 0)
 (some (false,(v0.2.1,())))
 (((cond (decide (a1<0))
 (some (true,()))
 (cond (decide ((a0.1.2.2.2.2.1.length:Int)≤a1))
 (some (true,()))
 (cond (decide (a2<0))
 (some (true,()))
 (some ((decide ((a0.1.2.2.2.2.1.length:Int)≤a2)),())))))).bind λv1 =>
 (cond v1.1
 (some (false,(1,())))
 ((mk? (α:=Bool) (v0.1.1.length:Int) false).bind λv2 =>
 ((at? v2 0).bind λv3 =>
 ((at? v2 0).bind λv4 =>
 ((ag_ (ρ:=(((List Bool)×Unit)⊕(Bool×(Int×Unit)))) (λ(v5:(Int×((List Bool)×Unit))) =>
 (cond (decide (v5.1<(v0.1.1.length:Int)))
 ((ag_ (ρ:=(((List Bool)×Unit)⊕((Int×((List Bool)×Unit))⊕(((List Bool)×Unit)⊕(Bool×(Int×Unit)))))) (λ(v6:(Int×((List Bool)×Unit))) =>
 (cond (decide (v6.1<(v0.1.1.length:Int)))
 ((ag_ (ρ:=(((List Bool)×Unit)⊕((Int×((List Bool)×Unit))⊕(((List Bool)×Unit)⊕((Int×((List Bool)×Unit))⊕(((List Bool)×Unit)⊕(Bool×(Int×Unit)))))))) (λ(v7:(Int×((List Bool)×Unit))) =>
 ((((at? v0.1.2 v6.1).bind λv8 =>
 (cond (decide (v7.1<(v8.length:Int)))
 ((at? v7.2.1 v6.1).bind λv9 =>
 ((at? v7.2.1 v6.1).bind λv10 =>
 (some (v10,()))))
 (some (false,()))))).bind λv11 =>
 (cond v11.1
 ((((at? v0.1.2 v6.1).bind λv12 =>
 ((at? v12 v7.1).bind λv13 =>
 ((gv_ v13 a2).bind λv14 =>
 (cond v14.1
 (some (inr (inr (inr (inr (inr (inr (inr (false,(0,()))))))))))
 ((at? v0.1.2 v6.1).bind λv15 =>
 ((at? v15 v7.1).bind λv16 =>
 ((gv_ v16 a1).bind λv17 =>
 (cond (!v17.1)
 ((at? v0.1.2 v6.1).bind λv18 =>
 ((at? v18 v7.1).bind λv19 =>
 ((at? v7.2.1 v19.2).bind λv20 =>
 ((at? v7.2.1 v19.2).bind λv21 =>
 (some (inl ((v7.2.1.set v19.2.toNat true),())))))))
 (some (inl (v7.2.1,())))))))))))).bind λv22 =>
 (cd_ v22 (λv23=>(some (inl ((w64 (v7.1+1)),(v23.1,())))))
 (λv24=>(some v24))))
 (some (inr (inl (v7.2.1,()))))))) (0,(v6.2.1,()))).bind λv25 =>
 (cd_ v25 (λv26=>(some (inl ((w64 (v6.1+1)),(v26.1,())))))
 (λv27=>(some v27))))
 (some (inr (inl (v6.2.1,())))))) (0,(v5.2.1,()))).bind λv28 =>
 (cd_ v28 (λv29=>(some (inl ((w64 (v5.1+1)),(v29.1,())))))
 (λv30=>(some v30))))
 (some (inr (inl (v5.2.1,())))))) (0,((v2.set (0:Int).toNat true),()))).bind λv31 =>
 (cd_ v31 (λv32=>(some (true,(0,()))))
 (λv33=>(some v33)))))))))))
theorem x_18:au_ (P:=prog) (cxC [c_25,c_44] []) (.p .z (.p .z (.p .z (.p (.j0 [.v 42 .bool] .z .z) (.p .z (.p .z (.p (.p .z (.ls [.v 52 .int] [] [.o (.s 10) .bool] 0 (.p .z (.p .z (.p (.p .z (.ls [.v 11 .int] [] [.o (.s 10) .bool] 2 (.p .z (.p (.p .z (.ls [.v 12 .int] [] [.o (.s 10) .bool] 4 (.p (.j0 [.v 74 .bool] .z .z) (.js [.o (.s 10) .bool] .z .z)))) .z)))) .z))))) .z))))))) 18 [ao_,.int,.int] [.bool,.int]=λx=>hz_ x.1 x.2.1 x.2.2.1:=by kernel_rfl
noncomputable def c_18:Con prog:=aw_ _ _ 18 [ao_,.int,.int] [.bool,.int] _ x_18
end
section
set_option maxRecDepth 100000
set_option maxHeartbeats 0
noncomputable def cu_  : Option (Bool×Unit) :=
 ((fs_ (([[104,97,108,108],[118,97,117,108,116]],([([98,111,120],(0,(2,0))),([100,111,111,114],(0,(2,0)))],([([107,101,121],(0,[(0,(1,false))]))],([(0,(1,[(1,(1,false))]))],([([111,112,101,110],(0,(0,([],([],([(0,1)],([],[]))))))),([116,117,114,110],(0,((-1),([0],([],([(1,1)],([0],[])))))))],([],(1,[(1,(1,false))]))))))),([(2,4)],([[3,1]],([([108,101,97,102],(0,(0,([],(2,(0,(1,(4,(0,([],false)))))))))),([98,97,99,107],(0,(0,([(0,(0,false))],(3,(1,(0,(0,(0,([],false)))))))))),([99,97,114,100],(1,((-1),([],(0,(0,(0,(0,(0,([],false))))))))))],1))))).bind λv0 =>
 (cond (v0.2.1==0)
 (cond ((v0.1.length:Int)==3)
 ((at? v0.1 0).bind λv1 =>
 (cond ((v1.1==0)&&((v1.2.1==4)&&(v1.2.2==0)))
 ((at? v0.1 1).bind λv2 =>
 (cond (v2.2.1==2)
 ((at? v0.1 2).bind λv3 =>
 (some ((v3.2.2==1),())))
 (some (false,()))))
 (some (false,()))))
 (some (false,())))
 (some (false,()))))
theorem x_8:au_ (P:=prog) (cxC [c_9,c_26] []) .z 8 [] [.bool]=λx=>cu_:=by kernel_rfl
noncomputable def c_8:Con prog:=aw_ _ _ 8 [] [.bool] _ x_8
end
section
set_option maxRecDepth 100000
set_option maxHeartbeats 0
noncomputable def go_ (a0:ad_) (a1:af_):Option (Bool×Unit) :=
 ((jl_ a0).bind λv0 =>
 (cond v0.1
 ((cu_).bind λv1 =>
 (some (v1.1,())))
 ((ld_ a0).bind λv2 =>
 ((ej_ v2.1 a1.1 a1.2.1).bind λv3 =>
 ((hz_ a0 a1.1 a1.2.1).bind λv4 =>
 (((cond (v3.1 != v4.1)
 (some (true,()))
 (some ((v3.2.1 != v4.2.1),())))).bind λv5 =>
 (cond v5.1
 (some (false,()))
 ((ej_ v2.1 a1.2.1 a1.2.2).bind λv6 =>
 ((ej_ v2.1 a1.1 a1.2.2).bind λv7 =>
 (cond (v3.2.1 != 0)
 ((cu_).bind λv8 =>
 (some (v8.1,())))
 (cond (v6.2.1 != 0)
 ((cu_).bind λv9 =>
 (some (v9.1,())))
 (cond (v7.2.1 != 0)
 ((cu_).bind λv10 =>
 (some (v10.1,())))
 (cond (!v3.1)
 ((cu_).bind λv11 =>
 (some (v11.1,())))
 (cond (!v6.1)
 ((cu_).bind λv12 =>
 (some (v12.1,())))
 (cond v7.1
 ((cu_).bind λv13 =>
 (some (v13.1,())))
 (some (false,())))))))))))))))))
theorem x_5:au_ (P:=prog) (cxC [c_7,c_8,c_10,c_17,c_18] []) (.p .z (.p .z (.p .z (.p .z (.p .z (.p (.j0 [.v 44 .bool] .z .z) .z)))))) 5 [ao_,ar_] [.bool]=λx=>go_ x.1 x.2.1:=by kernel_rfl
noncomputable def c_5:Con prog:=aw_ _ _ 5 [ao_,ar_] [.bool] _ x_5
end
end Go.Proofs.YtgeehfnbhbibeaaGreatDoor.Rx
namespace Go.Proofs.YtgeehfnbhbibeaaGreatDoor.Rx
open Go Pad Rex Sum
section
theorem av_ {α:Type} {l:List α} (h:Sm l.length):push? [] l=some l:=by
  rw[ab7 (by simp only[j3_];omega)]
  rfl
theorem cf_ {α:Type} {l:List α} {x:α} (h:Sm l.length):push? l [x]=some (l++[x]):=ab7 (by simp only[c4_,j3_];omega)
theorem rg_ {α:Type} {l:List α} {i:Nat} {x:α} (h:l[i]?=some x):l.set ((i:Nat):Int).toNat x=l:=by
  show l.set i x=l
  refine f1_ λj => ?_
  rw[g1_]
  split
  · next e =>
    subst e
    rw[if_pos (am_ h),h]
  · rfl
theorem sf_ (c:List bf_) (h:Sm c.length):ck_ c=some (c,()):=by
  unfold ck_
  rw[av_ h]
  rfl
theorem af6 (c:List Int) (h:Sm c.length):dm_ c=some (c,()):=by
  unfold dm_
  rw[av_ h]
  rfl
theorem ok_ {α τ:Type} {l:List α} (hl:Sm l.length) {body:(Int×(List α×Unit))→Option ((Int×(List α×Unit))⊕(List α×Unit))} {K:(List α×Unit)→Option τ} {x:Option τ}
    (h:∀ (i:Nat) y,l[i]?=some y→body ((i:Int),(l,()))=some (.inl ((w64 ((i:Int)+1)),(l,())))) (e:body ((l.length:Int),(l,()))=some (.inr (l,()))) (hk:K (l,())=x):(ag_ body (0,(l,()))).bind K=x:=by
  refine bn_ l (λ_ _=>none) (λi=>((i:Int),(l,()))) (r0:=(l,())) (λi y hy => ?_) e ?_
  · have hi:=am_ hy
    rw[h i y hy,ba_ (show Sm i by omega)]
  · have:ga_ (λ(_:Nat) (_:α)=>(none:Option (List α×Unit))) 0 l=none:=(ie_ l 0).2 λ_ _ _=>rfl
    rw[this]
    exact hk
theorem bg1 {r:ae_} (h:SmR r):le_ r=some (r,()):=by
  unfold le_
  simp only[av_ h.pl,av_ h.th,av_ h.pr,av_ h.wy,av_ h.ac,av_ h.au,sf_ _ h.go,a0_]
  refine ok_ h.pr (λi y hy => ?_) ?_ ?_
  · have:=h.prn y (ax_ hy)
    simp only[dlt (am_ hy),a5_,ah_ hy,a0_,sf_ _ this.2,rg_ hy]
  · simp only[dnl,a2_]
  refine ok_ h.wy (λi y hy => ?_) ?_ ?_
  · have:=h.wyn y (ax_ hy)
    simp only[dlt (am_ hy),a5_,ah_ hy,a0_,sf_ _ this,rg_ hy]
  · simp only[dnl,a2_]
  refine ok_ h.ac (λi y hy => ?_) ?_ ?_
  · obtain⟨h1,h2,h3,h4,h5,h6⟩:=h.acn y (ax_ hy)
    simp only[dlt (am_ hy),a5_,ah_ hy,a0_,sf_ _ h3,af6 _ h2,af6 _ h5,af6 _ h6,av_ h4,rg_ hy]
  · simp only[dnl,a2_]
  refine ok_ h.au (λi y hy => ?_) ?_ ?_
  · have:=h.aun y (ax_ hy)
    simp only[dlt (am_ hy),a5_,ah_ hy,a0_,sf_ _ this,rg_ hy]
  · simp only[dnl,a2_]
  rfl
theorem yf_ (c:ak_) (h:Sm c.2.2.2.2.2.1.length):gk_ c=some (c,()):=by
  unfold gk_
  rw[av_ h]
  rfl
theorem bf9 {g:ad_} (h:SmG g):ld_ g=some (g,()):=by
  have hl:Sm g.2.1.length:=by have:=h.lk;omega
  have hn:Sm g.2.2.2.1.length:=by have:=h.nt;omega
  have hc:Sm g.2.2.1.length:=by have:=h.cd;omega
  unfold ld_
  rw[bg1 h.room]
  simp only[av_ hl,av_ hn,a0_]
  have hgo:=kc_ g.2.2.1 (λ_ t x=>t++[x]) (λi t=>((i:Int),((t,()),()))) (λt=>((t,()),())) [] (body:=(λ(v3:(Int×(((List (List Int))×Unit)×Unit))) =>
 (cond (decide (v3.1<(g.2.2.1.length:Int)))
 ((at? g.2.2.1 v3.1).bind λv4 =>
 ((push? (α:=Int) [] v4).bind λv5 =>
 ((push? (α:=(List Int)) v3.2.1.1 [v5]).bind λv6 =>
 (some (inl ((w64 (v3.1+1)),((v6,()),())))))))
 (some (inr ((v3.2.1.1,()),())))))) (λi t=>t=g.2.2.1.take i) (by simp) (λi x t hx ht=>by
    have hi:=am_ hx
    have hx2:Sm x.length:=by have:=h.cdn x (ax_ hx);omega
    have ht2:Sm t.length:=by rw[ht,c9_];omega
    refine⟨?_,?_⟩
    · simp only[dlt hi,a5_,ah_ hx,a0_,av_ hx2,cf_ ht2,ba_ (show Sm i by omega)]
    · rw[ht,d7_,hx]
      rfl) (λt ht=>by simp only[dnl,a2_])
  obtain⟨t,ht,hw⟩:=hgo
  rw[e1_] at ht
  subst ht
  refine e4_ (congrArg (λo=>Option.bind o _) hw) ?_
  rw[a0_]
  refine ok_ hn (λi y hy => ?_) ?_ ?_
  · have hy2:=h.ntn y (ax_ hy)
    simp only[dlt (am_ hy),a5_,ah_ hy,a0_,av_ (show Sm y.2.2.2.1.length by omega),rg_ hy,yf_ _ (show Sm y.2.2.2.2.2.2.2.2.2.1.length by omega)]
  · simp only[dnl,a2_]
  rfl
end
section
set_option maxRecDepth 10000
theorem aw4 {σ ρ τ:Type} (n:Nat) (F:Nat→τ→σ) (R:τ→ρ) (t0:τ) {body:σ→Option (σ⊕ρ)} (I:Nat→τ→Prop) (h0:I 0 t0)
    (h:∀ i t,i<n→I i t→Tot (body (F i t)) (λr=>∃ t',r = .inl (F (i+1) t')∧I (i+1) t')) (e:∀ t,I n t→body (F n t)=some (.inr (R t))) :
    Tot (ag_ body (F 0 t0)) (λr=>∃ t,r=R t∧I n t):=by
  refine lu_ (λi s=>∃ t,s=F i t∧I i t) _ n 0 (F 0 t0) ⟨t0,rfl,h0⟩ (λj s h1 h2 hs => ?_) (λs hs => ?_)
  · obtain⟨t,rfl,ht⟩:=hs
    obtain⟨r,hr,t',rfl,ht'⟩:=h j t (by omega) ht
    exact .inl ⟨_,hr,t',rfl,ht'⟩
  · obtain⟨t,rfl,ht⟩:=hs
    rw[b0_] at ht ⊢
    exact⟨_,e t ht,t,rfl,ht⟩
structure VS (r:ae_) (s:ai_):Prop where
  l1:s.1.length=r.2.1.length
  l2:s.2.1.length=r.2.2.1.length
  l3:(s.2.2.length:Int)=r.2.2.2.2.2.2.1
  th:∀ (i:Nat) n,s.1[i]?=some n→ng_ r.2.1 (i:Int) n=true
  pr:∀ (i:Nat) p,s.2.1[i]?=some p→inR r p=true
  py:∀ (i:Nat) p,s.2.2[i]?=some p→rw_ r p=true
theorem cm7 {r:ae_} {s:ai_} (h:VS r s):ckS r s=0:=by
  unfold ckS
  have hl:ad3 r s=false:=by
    unfold ad3
    have:=h.l1
    have:=h.l2
    have:=h.l3
    simp only[c0_,bne_eq_false_iff_eq]
    omega
  rw[hl,a2_]
  rw[(ie_ s.1 0).2 (λj x hx=>by rw[b0_,h.th j x hx];rfl),j7_]
  rw[(ie_ s.2.1 0).2 (λj x hx=>by rw[h.pr j x hx];rfl),j7_]
  rw[(ie_ s.2.2 0).2 (λj x hx=>by rw[h.py j x hx];rfl),j7_]
theorem ml_ {r:ae_} (h:SmR r) (ok:OkR r) {i n:Int} (hs:ng_ r.2.1 i n=true):(0≤i∧i<r.2.1.length)∧(0≤n∧n≤5):=by
  unfold ng_ at hs
  rw[a1_] at hs
  have hi:=ce_.1 hs.1
  have hth:=h.th
  rw[fy_ (by omega) (by omega)] at hi
  obtain⟨t,ht,hg⟩:=cb1 (l:=r.2.1) (i:=i) (by omega) (by omega)
  have h2:=hs.2
  rw[ht] at h2
  have hn:=ce_.1 h2
  have:=ok.th _ _ hg
  unfold bk7 at this
  simp only[a1_] at this
  have h3:=ce_.1 this.2.2.1
  rw[fy_ (by omega) (by omega)] at hn
  omega
end
end Go.Proofs.YtgeehfnbhbibeaaGreatDoor.Rx
namespace Go.Proofs.YtgeehfnbhbibeaaGreatDoor.Rx
open Go Pad Rex Go.Proofs Go.Proofs.Tryz Sum
section
set_option maxRecDepth 100000
noncomputable def autB (a0:ae_) (th pr py:List Int):(Int×Unit)→Option ((Int×Unit)⊕(Unit⊕(Int×Unit))) :=
 (λ(v14:(Int×Unit)) =>
 (cond (decide (v14.1<(a0.2.2.2.2.2.1.length:Int)))
 ((at? a0.2.2.2.2.2.1 v14.1).bind λv15 =>
 ((((at? th v15.2.1).bind λv16 =>
 ((at? th v15.2.1).bind λv17 =>
 (cond (v17 != v15.2.2)
 ((bb_ (a0,(th,(pr,py))) v15.1).bind λv18 =>
 (some (v18.1,())))
 (some (false,())))))).bind λv19 =>
 (cond v19.1
 (some (inr (inr (v14.1,()))))
 (some (inl ((w64 (v14.1+1)),()))))))
 (some (inr (inl ())))))
noncomputable def setB (a0:ae_) (v11 v12:List Int):(Int×((List Int)×Unit))→Option ((Int×((List Int)×Unit))⊕(((List Int)×Unit)⊕(Bool×((List Int)×Unit)))) :=
 (λ(v13:(Int×((List Int)×Unit))) =>
 (cond (decide (v13.1<101))
 ((((ag_ (ρ:=(Unit⊕(Int×Unit))) (autB a0 v13.2.1 v11 v12) (0,())).bind λv20 =>
 (cd_ v20 (λv21=>(some ((-1),())))
 (λv22=>(some v22))))).bind λv23 =>
 (cond (decide (v23.1<0))
 (some (inr (inr ((!true),(v13.2.1,())))))
 ((at? a0.2.2.2.2.2.1 v23.1).bind λv24 =>
 ((at? a0.2.2.2.2.2.1 v23.1).bind λv25 =>
 ((at? v13.2.1 v24.2.1).bind λv26 =>
 ((at? v13.2.1 v24.2.1).bind λv27 =>
 (some (inl ((w64 (v13.1+1)),((v13.2.1.set v24.2.1.toNat v25.2.2),()))))))))))
 (some (inr (inl (v13.2.1,()))))))
noncomputable def thgB (a0:ae_):(Int×(((List Int)×Unit)×Unit))→Option ((Int×(((List Int)×Unit)×Unit))⊕(((List Int)×Unit)×Unit)) :=
 (λ(v2:(Int×(((List Int)×Unit)×Unit))) =>
 (cond (decide (v2.1<(a0.2.1.length:Int)))
 ((at? a0.2.1 v2.1).bind λv3 =>
 ((push? (α:=Int) v2.2.1.1 [v3.2.2.2]).bind λv4 =>
 (some (inl ((w64 (v2.1+1)),((v4,()),()))))))
 (some (inr ((v2.2.1.1,()),())))))
noncomputable def prpB (a0:ae_):(Int×(((List Int)×Unit)×Unit))→Option ((Int×(((List Int)×Unit)×Unit))⊕(((List Int)×Unit)×Unit)) :=
 (λ(v6:(Int×(((List Int)×Unit)×Unit))) =>
 (cond (decide (v6.1<(a0.2.2.1.length:Int)))
 ((at? a0.2.2.1 v6.1).bind λv7 =>
 ((push? (α:=Int) v6.2.1.1 [v7.2.1]).bind λv8 =>
 (some (inl ((w64 (v6.1+1)),((v8,()),()))))))
 (some (inr ((v6.2.1.1,()),())))))
noncomputable def rbegX (a0:ae_):Option (ai_×(Int×Unit)) :=
 ((fe_ a0).bind λv0 =>
 (cond (v0.1 != 0)
 (some (([],([],[])),(v0.1,())))
 ((mk? (α:=Int) a0.2.2.2.2.2.2.1 0).bind λv1 =>
 ((ag_ (ρ:=(((List Int)×Unit)×Unit)) (thgB a0) (0,(([],()),()))).bind λv5 =>
 ((ag_ (ρ:=(((List Int)×Unit)×Unit)) (prpB a0) (0,(([],()),()))).bind λv9 =>
 ((push? (α:=Int) [] v5.1.1).bind λv10 =>
 ((push? (α:=Int) [] v9.1.1).bind λv11 =>
 ((push? (α:=Int) [] v1).bind λv12 =>
 ((((ag_ (ρ:=(((List Int)×Unit)⊕(Bool×((List Int)×Unit)))) (setB a0 v11 v12) (0,(v10,()))).bind λv28 =>
 (cd_ v28 (λv29=>(some ((!false),(v29.1,()))))
 (λv30=>(some v30))))).bind λv31 =>
 (cond v31.1
 (some (([],([],[])),(27,())))
 (some ((v31.2.1,(v11,v12)),(0,())))))))))))))
theorem ch0:ii_=rbegX:=by kernel_rfl
end
end Go.Proofs.YtgeehfnbhbibeaaGreatDoor.Rx
namespace Go.Proofs.YtgeehfnbhbibeaaGreatDoor.Rx
open Go Pad Rex Sum
section
set_option maxRecDepth 10000
def VT (r:ae_) (th:List Int):Prop:=th.length=r.2.1.length∧∀ (i:Nat) n,th[i]?=some n→ng_ r.2.1 (i:Int) n=true
theorem cb9 {r:ae_} (h:SmR r) (ok:OkR r) {th:List Int} (hv:VT r th) {i n:Int} (hs:ng_ r.2.1 i n=true):VT r (th.set i.toNat n):=by
  refine⟨by rw[f7_];exact hv.1,λj m hj => ?_⟩
  have hi:=(ml_ h ok hs).1
  rw[g1_] at hj
  split at hj
  · next e =>
    split at hj
    · obtain rfl:=a6_ hj
      rw[show (j:Int)=i by omega]
      exact hs
    · cases hj
  · exact hv.2 j m hj
theorem aw5 {r:ae_} (h:SmR r):ag_ (thgB r) (0,(([],()),()))=some ((r.2.1.map (·.2.2.2),()),()):=by
  have hth:=h.th
  obtain⟨z,hz,q,rfl,hq⟩:=aw4 r.2.1.length (λi (q:List Int)=>((i:Int),((q,()),()))) (λq=>((q,()),())) [] (body:=thgB r) (λi q=>q=(r.2.1.take i).map (·.2.2.2)) rfl (λi q hi hq=>by
    obtain⟨x,hx⟩:=bd_ hi
    have hq2:Sm q.length:=by rw[hq,d6_,c9_];omega
    refine⟨_,?_,q++[x.2.2.2],rfl,?_⟩
    · unfold thgB
      simp only[dlt hi,a5_,ah_ hx,a0_,cf_ hq2,ba_ (show Sm i by omega)]
    · rw[d7_,hx,hq,j2_]
      rfl) (λq hq=>by
    unfold thgB
    simp only[dnl,a2_])
  rw[e1_] at hq
  subst hq
  exact hz
theorem ax9 {r:ae_} (h:SmR r):ag_ (prpB r) (0,(([],()),()))=some ((r.2.2.1.map (·.2.1),()),()):=by
  have hth:=h.pr
  obtain⟨z,hz,q,rfl,hq⟩:=aw4 r.2.2.1.length (λi (q:List Int)=>((i:Int),((q,()),()))) (λq=>((q,()),())) [] (body:=prpB r) (λi q=>q=(r.2.2.1.take i).map (·.2.1)) rfl (λi q hi hq=>by
    obtain⟨x,hx⟩:=bd_ hi
    have hq2:Sm q.length:=by rw[hq,d6_,c9_];omega
    refine⟨_,?_,q++[x.2.1],rfl,?_⟩
    · unfold prpB
      simp only[dlt hi,a5_,ah_ hx,a0_,cf_ hq2,ba_ (show Sm i by omega)]
    · rw[d7_,hx,hq,j2_]
      rfl) (λq hq=>by
    unfold prpB
    simp only[dnl,a2_])
  rw[e1_] at hq
  subst hq
  exact hz
end
end Go.Proofs.YtgeehfnbhbibeaaGreatDoor.Rx
namespace Go.Proofs.YtgeehfnbhbibeaaGreatDoor.Rx
open Go Pad Rex Go.Proofs Go.Proofs.Tryz Sum
section
set_option maxRecDepth 100000
noncomputable def pbgB (a0:ad_) (s:ai_):(Int×((List Bool)×((List ab_)×Unit)))→Option ((Int×((List Bool)×((List ab_)×Unit)))⊕((List Bool)×((List ab_)×Unit))) :=
 (λ(v3:(Int×((List Bool)×((List ab_)×Unit)))) =>
 (cond (decide (v3.1<(a0.2.2.2.1.length:Int)))
 ((((at? a0.2.2.2.1 v3.1).bind λv4 =>
 ((fd_ a0.1 s v4.2.2.2.1).bind λv5 =>
 (((cond v5.1
 ((bj_ s.2.2 v4.2.1).bind λv6 =>
 (cond v6.1
 ((at? v3.2.1 v3.1).bind λv7 =>
 ((at? v3.2.1 v3.1).bind λv8 =>
 (some ((!v8),()))))
 (some (false,()))))
 (some (false,())))).bind λv9 =>
 (cond v9.1
 ((at? v3.2.1 v3.1).bind λv10 =>
 ((at? v3.2.1 v3.1).bind λv11 =>
 (some ((v3.2.1.set v3.1.toNat true),((zc_ v3.2.2.1 v4.2.2.1),())))))
 (some (v3.2.1,(v3.2.2.1,())))))))).bind λv12 =>
 (some (inl ((w64 (v3.1+1)),(v12.1,(v12.2.1,()))))))
 (some (inr (v3.2.1,(v3.2.2.1,()))))))
noncomputable def pbegX (a0:ad_):Option (aa_×(Int×Unit)) :=
 ((gx_ a0).bind λv0 =>
 (cond (v0.1 != 0)
 (some ((([],([],[])),[]),(v0.1,())))
 ((ii_ a0.1).bind λv1 =>
 (cond (v1.2.1 != 0)
 (some ((([],([],[])),[]),(v1.2.1,())))
 ((mk? (α:=Bool) (a0.2.2.2.1.length:Int) false).bind λv2 =>
 ((ag_ (ρ:=((List Bool)×((List ab_)×Unit))) (pbgB a0 v1.1) (0,(v2,([],())))).bind λv13 =>
 ((push? (α:=Int) [] v1.1.1).bind λv14 =>
 ((push? (α:=Int) [] v1.1.2.1).bind λv15 =>
 ((push? (α:=Int) [] v1.1.2.2).bind λv16 =>
 ((push? (α:=Bool) [] v13.1).bind λv17 =>
 (some (((v14,(v15,v16)),v17),(0,())))))))))))))
theorem ch8:lj_=pbegX:=by kernel_rfl
end
end Go.Proofs.YtgeehfnbhbibeaaGreatDoor.Rx
namespace Go.Proofs.YtgeehfnbhbibeaaGreatDoor.Rx
open Go Pad Rex Sum
section
set_option maxRecDepth 10000
theorem py_ {r:ae_} (h:SmR r) (ok:OkR r) {s:ai_} (hv:VS r s):Sm s.1.length∧Sm s.2.1.length∧Sm s.2.2.length:=by
  have:=ce_.1 ok.py
  have h1:=hv.l1
  have h2:=hv.l2
  have h3:=hv.l3
  have:=h.th
  have:=h.pr
  refine⟨by show s.1.length≤1000000000;omega,by show s.2.1.length≤1000000000;omega,by show s.2.2.length≤1000000000;omega⟩
theorem gy_ {r:ae_} {s:ai_} (h0:cy_ r=0) (hv:VS r s):my_ r s=0:=by
  unfold my_
  rw[h0]
  exact cm7 hv
end
section
theorem ll_ (a b c:Int):bv_ a b c=some (wi a b c,()):=be4 a b c
theorem nj_ (a b c:Int):bk_ a b c=some (wi a b c,()):=be4 a b c
def okL (l:ab_):Bool:=wi l.1 1 4&&wi l.2 2 10
structure Lk (l:ab_):Prop where
  w1:1≤l.1
  w2:l.1≤4
  s1:2≤l.2
  s2:l.2≤10
theorem nn_ {l:ab_}:okL l=true↔Lk l:=by
  unfold okL
  rw[a1_,ce_,ce_]
  exact⟨λh=>⟨h.1.1,h.1.2,h.2.1,h.2.2⟩,λh=>⟨⟨h.w1,h.w2⟩,h.s1,h.s2⟩⟩
theorem ky_ (l:ab_):ed_ l=some (if okL l then 0 else 10,()):=by
  unfold ed_ okL
  simp only[nj_,a0_]
  cases wi l.1 1 4<;>cases wi l.2 2 10<;>rfl
theorem lm_ (l:ab_):ee_ l=some (if okL l then 0 else 10,()):=by
  unfold ee_ okL
  simp only[ll_,a0_]
  cases wi l.1 1 4<;>cases wi l.2 2 10<;>rfl
def dc_ (l:ab_) (c:List Int):Bool:=decide ((c.length:Int)=l.1)&&c.all λn=>wi n 0 (l.2 - 1)
theorem Lk.ws {l:ab_} (h:Lk l):w64 (l.2 - 1)=l.2 - 1:=by have:=h.s1;have:=h.s2;exact ku_ (by omega) (by omega)
theorem Lk.ww {l:ab_} (h:Lk l):w64 (l.1 - 1)=l.1 - 1:=by have:=h.w1;have:=h.w2;exact ku_ (by omega) (by omega)
theorem mf_ {l:ab_} (h:Lk l) (n:Int):cn_ l n=some (wi n 0 (l.2 - 1),()):=by
  unfold cn_
  rw[ll_,h.ws]
  rfl
theorem ul_ {l:ab_} (h:Lk l) (n:Int):bt_ l n=some (wi n 0 (l.1 - 1),()):=by
  unfold bt_
  rw[ll_,h.ww]
  rfl
theorem all_any {α:Type} (l:List α) (q:α→Bool):(!(l.any λx=>!(q x)))=l.all q:=tl_ l q
theorem ts_ {l:ab_} (h:Lk l) (c:List Int):gh_ l c=some (dc_ l c,()):=by
  have w2:=h.w2
  unfold gh_ dc_
  by_cases he:(c.length:Int)=l.1
  · have hb:((c.length:Int) != l.1)=false:=by simp[he]
    rw[hb,b5_ he,c2_,a2_]
    refine bn_ c (λ_ y=>cond (wi y 0 (l.2 - 1)) none (some (inr (false,()):Unit⊕(Bool×Unit)))) (λi=>((i:Int),())) (r0:=inl ()) (λi y hy => ?_) ?_ ?_
    · have hi:=am_ hy
      simp only[dlt hi,a5_,ah_ hy,a0_,nj_,h.ws,ba_ (show Sm i by unfold Sm;omega)]
      cases wi y 0 (l.2 - 1)<;>rfl
    · simp only[dnl,a2_]
    · rw[ja_ (q:=λy=>wi y 0 (l.2 - 1))]
      cases c.all λy=>wi y 0 (l.2 - 1)<;>rfl
  · have hb:((c.length:Int) != l.1)=true:=by simp[he]
    rw[hb,c1_ he]
    rfl
theorem oe_ {l:ab_} (h:Lk l) (c:List Int):dh_ l c=some (dc_ l c,()):=by
  have w2:=h.w2
  unfold dh_ dc_
  by_cases he:(c.length:Int)=l.1
  · have hb:((c.length:Int)==l.1)=true:=by simp[he]
    rw[hb,b5_ he,c2_,a5_,mg_ (l:=c) (by unfold Sm;omega) (λn=>!(wi n 0 (l.2 - 1))) (λi y hy=>by
      simp only[dlt (am_ hy),a5_,ah_ hy,a0_,mf_ h]
      cases wi y 0 (l.2 - 1)<;>rfl) (by simp only[dnl,a2_]),a0_,all_any]
  · have hb:((c.length:Int)==l.1)=false:=by simp[he]
    rw[hb,c1_ he]
    rfl
theorem uh_ (l:ab_) (c:List Int):fq_ l c=some (if okL l then (if dc_ l c then 0 else 12) else 10,()):=by
  unfold fq_
  rw[ky_,a0_]
  cases h:okL l with
  | true =>
    rw[if_pos rfl,ts_ (nn_.1 h)]
    cases dc_ l c<;>rfl
  | false=>rfl
theorem nb_ (l:ab_) (c:List Int):dy_ l c=some (if okL l then (if dc_ l c then 0 else 12) else 10,()):=by
  unfold dy_ hi_
  rw[lm_,a0_]
  cases h:okL l with
  | true =>
    have hl:=nn_.1 h
    have:=mg_ (l:=[c]) (by unfold Sm;simp) (λc=>!(dc_ l c)) (body:=λ(v1:(Int×Unit)) =>
      (cond (decide (v1.1<(([c]:List (List Int)).length:Int)))
      ((at? [c] v1.1).bind λv2 =>
      ((dh_ l v2).bind λv3 =>
      (cond (!v3.1)
      (some (inr (inr ((decide (0≤v1.1)),()))))
      (some (inl ((w64 (v1.1+1)),()))))))
      (some (inr (inl ()))))) (λi y hy=>by
      simp only[dlt (am_ hy),a5_,ah_ hy,a0_,oe_ hl]
      cases dc_ l y<;>rfl) (by simp only[dnl,a2_])
    rw[this]
    simp only[m5_,List.any_nil,h6_]
    cases dc_ l c<;>rfl
  | false=>rfl
theorem bm3 {α:Type} [BEq α] [LawfulBEq α] [DecidableEq α] {a b:List α} (ha:Sm a.length) (he:a.length=b.length) {body:(Int×Unit)→Option ((Int×Unit)⊕(Unit⊕(Bool×Unit)))} {K:(Unit⊕(Bool×Unit))→Option (Bool×Unit)}
    (h:∀ (i:Nat) x y,a[i]?=some x→b[i]?=some y→body ((i:Int),())=some (cond (x != y) (.inr (.inr (false,()))) (.inl (w64 ((i:Int)+1),())))) (e:body ((a.length:Int),())=some (.inr (.inl ()))) (k1:K (.inl ())=some (true,())) (k2:K (.inr (false,()))=some (false,())) :
    (ag_ body (0,())).bind K=some (decide (a=b),()):=by
  refine bn_ (a.zip b) (λ_ p=>cond (p.1==p.2) none (some (inr (false,()):Unit⊕(Bool×Unit)))) (λi=>((i:Int),())) (r0:=inl ()) (λi p hp => ?_) ?_ ?_
  · obtain⟨h1,h2⟩:=i1_.1 hp
    rw[h i p.1 p.2 h1 h2,ba_ (show Sm i by have:=am_ h1;unfold Sm at *; omega)]
    cases hq:p.1==p.2<;>simp[bne,hq]
  · rw[n4_,← he,Nat.min_self]
    exact e
  · rw[ja_ (q:=λp:α×α=>p.1==p.2)]
    have hk:((a.zip b).all λp=>p.1==p.2)=decide (a=b):=by
      refine k3_.2 ?_
      rw[f0_,h1_]
      constructor
      · intro hz
        refine f1_ λi => ?_
        by_cases hi:i<a.length
        · obtain⟨x,hx⟩:=bd_ hi
          obtain⟨y,hy⟩:=bd_ (l:=b) (i:=i) (by omega)
          have:=hz (x,y) (b2_ (i1_.2 ⟨hx,hy⟩))
          rw[hx,hy,show x=y from eq_of_beq this]
        · rw[b9_ (by omega),b9_ (by omega)]
      · rintro rfl p hp
        obtain⟨i,hi⟩:=f8_ hp
        obtain⟨h1,h2⟩:=i1_.1 hi
        rw[h1] at h2
        exact f4_.2 (a6_ h2)
    rw[hk]
    cases decide (a=b)
    · exact k2
    · exact k1
theorem yg_ {a b:List Int} (ha:Sm a.length):gl_ a b=some (decide (a=b),()):=by
  unfold gl_
  by_cases he:a.length=b.length
  · have hb:((a.length:Int) != (b.length:Int))=false:=by simp[he]
    rw[hb,a2_]
    refine bm3 ha he (λi x y hx hy => ?_) ?_ rfl rfl
    · simp only[dlt (am_ hx),a5_,ah_ hx,ah_ hy,a0_]
      cases x != y<;>rfl
    · simp only[dnl,a2_]
  · have hb:((a.length:Int) != (b.length:Int))=true:=by simp;omega
    rw[hb,c1_ (λe=>he (by rw[e]))]
    rfl
def dd_ (l:ab_) (c:ak_):Bool :=
  if c.1=1 then wi c.2.1 0 (l.1 - 1)&&(wi c.2.2.2.1 0 (l.2 - 1)&&(c.2.2.1==0&&(c.2.2.2.2.1==0&&decide (c.2.2.2.2.2.1=[]))))
  else if c.1=2 then wi c.2.1 0 (l.1 - 1)&&(wi c.2.2.1 0 (l.1 - 1)&&(decide (c.2.1≤c.2.2.1)&&(wi c.2.2.2.1 0 100&&(c.2.2.2.2.1==0&&decide (c.2.2.2.2.2.1=[])))))
  else if c.1=3∨c.1=4 then wi c.2.1 0 (l.1 - 1)&&(wi c.2.2.1 0 (l.1 - 1)&&(c.2.1 != c.2.2.1&&(c.2.2.2.1==0&&(c.2.2.2.2.1==0&&decide (c.2.2.2.2.2.1=[])))))
  else if c.1=5 then wi c.2.2.2.1 0 (l.2 - 1)&&(wi c.2.2.2.2.1 0 l.1&&(c.2.1==0&&(c.2.2.1==0&&decide (c.2.2.2.2.2.1=[]))))
  else if c.1=6 then dc_ l c.2.2.2.2.2.1&&(wi c.2.2.2.1 0 l.1&&(wi c.2.2.2.2.1 0 l.1&&(c.2.1==0&&c.2.2.1==0)))
  else if c.1=7 then wi c.2.1 0 (l.1 - 1)&&(wi c.2.2.2.1 2 10&&(wi c.2.2.2.2.1 0 (c.2.2.2.1 - 1)&&(c.2.2.1==0&&decide (c.2.2.2.2.2.1=[]))))
  else false
theorem len0 (l:List Int):((l.length:Int)==((([]:List Int)).length:Int))=decide (l=[]):=by cases l<;>simp<;>omega
theorem tt_ {l:ab_} (h:Lk l) {c:ak_} (hs:Sm c.2.2.2.2.2.1.length):gi_ l c=some (dd_ l c,()):=by
  unfold gi_ dd_ iu_
  simp only[nj_,ts_ h,yg_ hs,a0_,h.ww,h.ws,e0_,a5_]
  by_cases h1:c.1=1
  · simp only[h1]
    cases wi c.2.1 0 (l.1 - 1)<;>cases wi c.2.2.2.1 0 (l.2 - 1)<;>simp only[a5_,a2_,a0_,e0_,c2_,e9_,Int.reduceBEq,k2_,i0_,Int.reduceEq,n9_,n8_,n3_]<;>cases c.2.2.1==0<;>cases c.2.2.2.2.1==0<;>rfl
  by_cases h2:c.1=2
  · simp only[h2]
    cases wi c.2.1 0 (l.1 - 1)<;>cases wi c.2.2.1 0 (l.1 - 1)<;>cases decide (c.2.1≤c.2.2.1)<;>cases wi c.2.2.2.1 0 100<;>simp only[a5_,a2_,a0_,e0_,c2_,e9_,Int.reduceBEq,k2_,i0_,Int.reduceEq,n9_,n8_,n3_]<;>cases c.2.2.2.2.1==0<;>rfl
  by_cases h3:c.1=3
  · simp only[h3]
    cases wi c.2.1 0 (l.1 - 1)<;>cases wi c.2.2.1 0 (l.1 - 1)<;>cases c.2.1 != c.2.2.1<;>simp only[a5_,a2_,a0_,e0_,c2_,e9_,Int.reduceBEq,k2_,i0_,Int.reduceEq,n9_,n8_,n3_]<;>cases c.2.2.2.1==0<;>cases c.2.2.2.2.1==0<;>rfl
  by_cases h4:c.1=4
  · simp only[h4]
    cases wi c.2.1 0 (l.1 - 1)<;>cases wi c.2.2.1 0 (l.1 - 1)<;>cases c.2.1 != c.2.2.1<;>simp only[a5_,a2_,a0_,e0_,c2_,e9_,Int.reduceBEq,k2_,i0_,Int.reduceEq,n9_,n8_,n3_]<;>cases c.2.2.2.1==0<;>cases c.2.2.2.2.1==0<;>rfl
  by_cases h5:c.1=5
  · simp only[h5]
    cases wi c.2.2.2.1 0 (l.2 - 1)<;>cases wi c.2.2.2.2.1 0 l.1<;>simp only[a5_,a2_,a0_,e0_,c2_,e9_,Int.reduceBEq,k2_,i0_,Int.reduceEq,n9_,n8_,n3_]<;>cases c.2.1==0<;>cases c.2.2.1==0<;>rfl
  by_cases h6:c.1=6
  · simp only[h6]
    cases dc_ l c.2.2.2.2.2.1<;>cases wi c.2.2.2.1 0 l.1<;>cases wi c.2.2.2.2.1 0 l.1<;>simp only[a5_,a2_,a0_,e0_,c2_,e9_,Int.reduceBEq,k2_,i0_,Int.reduceEq,n9_,n8_,n3_]<;>cases c.2.1==0<;>cases c.2.2.1==0<;>simp
  by_cases h7:c.1=7
  · simp only[h7]
    cases wi c.2.1 0 (l.1 - 1)
    · rfl
    cases hn:wi c.2.2.2.1 2 10
    · rfl
    have:=ce_.1 hn
    rw[ku_ (n:=c.2.2.2.1 - 1) (by omega) (by omega)]
    cases wi c.2.2.2.2.1 0 (c.2.2.2.1 - 1)<;>simp only[a5_,a2_,a0_,e0_,c2_,e9_,Int.reduceBEq,k2_,i0_,Int.reduceEq,n9_,n8_,n3_]<;>cases c.2.2.1==0<;>rfl
  have b1:(c.1==1)=false:=by simp[h1]
  have b2:(c.1==2)=false:=by simp[h2]
  have b3:(c.1==3)=false:=by simp[h3]
  have b4:(c.1==4)=false:=by simp[h4]
  have b5:(c.1==5)=false:=by simp[h5]
  have b6:(c.1==6)=false:=by simp[h6]
  have b7:(c.1==7)=false:=by simp[h7]
  simp only[b1,b2,b3,b4,b5,b6,b7,h1,h2,h3,h4,h5,h6,h7,a2_,a0_,i0_,n3_]
theorem og_ {l:ab_} (h:Lk l) (c:ak_):di_ l c=some (dd_ l c,()):=by
  unfold di_ dd_
  simp only[ll_,ul_ h,mf_ h,oe_ h,a0_]
  by_cases h1:c.1=1
  · simp only[h1]
    cases wi c.2.1 0 (l.1 - 1)<;>cases wi c.2.2.2.1 0 (l.2 - 1)<;>simp only[a5_,a2_,a0_,e0_,c2_,e9_,Int.reduceBEq,k2_,i0_,Int.reduceEq,n9_,n8_,n3_,len0]<;>cases c.2.2.1==0<;>cases c.2.2.2.2.1==0<;>rfl
  by_cases h2:c.1=2
  · simp only[h2]
    cases wi c.2.1 0 (l.1 - 1)<;>cases wi c.2.2.1 0 (l.1 - 1)<;>cases decide (c.2.1≤c.2.2.1)<;>cases wi c.2.2.2.1 0 100<;>simp only[a5_,a2_,a0_,e0_,c2_,e9_,Int.reduceBEq,k2_,i0_,Int.reduceEq,n9_,n8_,n3_,len0]<;>cases c.2.2.2.2.1==0<;>rfl
  by_cases h3:c.1=3
  · simp only[h3]
    cases wi c.2.1 0 (l.1 - 1)<;>cases wi c.2.2.1 0 (l.1 - 1)<;>cases c.2.1 != c.2.2.1<;>simp only[a5_,a2_,a0_,e0_,c2_,e9_,Int.reduceBEq,k2_,i0_,Int.reduceEq,n9_,n8_,n3_,len0]<;>cases c.2.2.2.1==0<;>cases c.2.2.2.2.1==0<;>rfl
  by_cases h4:c.1=4
  · simp only[h4]
    cases wi c.2.1 0 (l.1 - 1)<;>cases wi c.2.2.1 0 (l.1 - 1)<;>cases c.2.1 != c.2.2.1<;>simp only[a5_,a2_,a0_,e0_,c2_,e9_,Int.reduceBEq,k2_,i0_,Int.reduceEq,n9_,n8_,n3_,len0]<;>cases c.2.2.2.1==0<;>cases c.2.2.2.2.1==0<;>rfl
  by_cases h5:c.1=5
  · simp only[h5]
    cases wi c.2.2.2.1 0 (l.2 - 1)<;>cases wi c.2.2.2.2.1 0 l.1<;>simp only[a5_,a2_,a0_,e0_,c2_,e9_,Int.reduceBEq,k2_,i0_,Int.reduceEq,n9_,n8_,n3_,len0]<;>cases c.2.1==0<;>cases c.2.2.1==0<;>rfl
  by_cases h6:c.1=6
  · simp only[h6]
    cases dc_ l c.2.2.2.2.2.1<;>cases wi c.2.2.2.1 0 l.1<;>cases wi c.2.2.2.2.1 0 l.1<;>simp only[a5_,a2_,a0_,e0_,c2_,e9_,Int.reduceBEq,k2_,i0_,Int.reduceEq,n9_,n8_,n3_,len0]<;>cases c.2.1==0<;>cases c.2.2.1==0<;>rfl
  by_cases h7:c.1=7
  · simp only[h7]
    cases wi c.2.1 0 (l.1 - 1)
    · rfl
    cases hn:wi c.2.2.2.1 2 10
    · rfl
    have:=ce_.1 hn
    rw[ku_ (n:=c.2.2.2.1 - 1) (by omega) (by omega)]
    cases wi c.2.2.2.2.1 0 (c.2.2.2.1 - 1)<;>simp only[a5_,a2_,a0_,e0_,c2_,e9_,Int.reduceBEq,k2_,i0_,Int.reduceEq,n9_,n8_,n3_,len0]<;>cases c.2.2.1==0<;>rfl
  have b1:(c.1==1)=false:=by simp[h1]
  have b2:(c.1==2)=false:=by simp[h2]
  have b3:(c.1==3)=false:=by simp[h3]
  have b4:(c.1==4)=false:=by simp[h4]
  have b5:(c.1==5)=false:=by simp[h5]
  have b6:(c.1==6)=false:=by simp[h6]
  have b7:(c.1==7)=false:=by simp[h7]
  simp only[b1,b2,b3,b4,b5,b6,b7,h1,h2,h3,h4,h5,h6,h7,a2_,a0_,i0_,n3_]
theorem ui_ {l:ab_} (hl:Lk l) {c:ak_} (hs:Sm c.2.2.2.2.2.1.length):fr_ l c=some (cond (dd_ l c) 0 11,()):=by
  unfold fr_
  rw[ky_,nn_.2 hl,if_pos rfl,a0_,tt_ hl hs]
  cases dd_ l c<;>rfl
theorem um_ {l:ab_} (hl:Lk l) (c:ak_):fv_ l c=some (cond (dd_ l c) 0 11,()):=by
  unfold fv_
  rw[lm_,nn_.2 hl,if_pos rfl,a0_,og_ hl]
  cases dd_ l c<;>rfl
end
section
theorem zk_ {α τ σ ρ:Type} (l:List α) (f:τ→α→τ) (F:Nat→τ→σ) (R:τ→ρ) (t0:τ) {body:σ→Option (σ⊕ρ)}
    (h:∀ i x t,l[i]?=some x→body (F i t)=some (.inl (F (i+1) (f t x)))) (e:∀ t,body (F l.length t)=some (.inr (R t))):ag_ body (F 0 t0)=some (R (l.foldl f t0)):=by
  obtain⟨t,h1,h2⟩:=kc_ l (λ_=>f) F R t0 (λi t=>t=(l.take i).foldl f t0) rfl (λi x t hx ht=>⟨h i x t hx,by
    rw[ht,d7_,hx,o4_]
    rfl⟩) (λt _=>e t)
  rw[h2,h1,e1_]
theorem mh_ {α τ σ ρ υ:Type} (l:List α) (f:τ→α→τ) (F:Nat→τ→σ) (R:τ→ρ) (t0:τ) {body:σ→Option (σ⊕ρ)} {K:ρ→Option υ} {x:Option υ}
    (h:∀ i x t,l[i]?=some x→body (F i t)=some (.inl (F (i+1) (f t x)))) (e:∀ t,body (F l.length t)=some (.inr (R t))) (hk:K (R (l.foldl f t0))=x):(ag_ body (F 0 t0)).bind K=x:=by
  rw[zk_ l f F R t0 h e,a0_,hk]
theorem ah6 {α β:Type}:∀ (l:List α) (m:List β) (i:Nat),(l.zip m).take i=(l.take i).zip (m.take i)
  | [],m,i=>by simp
  | x::l,[],i=>by cases i<;>simp
  | x::l,y::m,0=>rfl
  | x::l,y::m,i+1=>by simp[ah6 l m i]
theorem jq_ {l:ab_} {c:List Int}:dc_ l c=true↔(c.length:Int)=l.1∧∀ n ∈ c,0≤n∧n≤l.2 - 1:=by
  unfold dc_
  rw[a1_,h1_,f0_]
  exact⟨λh=>⟨h.1,λn hn=>ce_.1 (h.2 n hn)⟩,λh=>⟨h.1,λn hn=>ce_.2 (h.2 n hn)⟩⟩
def zp_ (l:List Int) (k:Int):Int:=l.foldl (λs x=>cond (x==k) (w64 (s+1)) s) 0
def cd2 (code guess:List Int):Int:=(code.zip guess).foldl (λs p=>cond (p.1==p.2) (w64 (s+1)) s) 0
def comW (code guess:List Int):Int:=(List.range 10).foldl (λs (k:Nat)=>w64 (s+minI (zp_ code k) (zp_ guess k))) 0
theorem an5 {l:List Int} {j:Nat} {x k:Int} (h:l[j]?=some x):zp_ (l.take (j+1)) k=cond (x==k) (w64 (zp_ (l.take j) k+1)) (zp_ (l.take j) k):=by
  unfold zp_
  rw[d7_,h,o4_]
  rfl
theorem qj_ {l:List Int} {k:Int} (hl:Sm l.length):ec_ l k=some (zp_ l k,()):=by
  unfold ec_ zp_
  refine mh_ l (λs x=>cond (x==k) (w64 (s+1)) s) (λi s=>(s,((i:Int),()))) (λs=>(s,())) 0 (λi x s hx=>by
    have hi:=am_ hx
    simp only[dlt hi,a5_,ah_ hx,a0_,ba_ (show Sm i by unfold Sm at *; omega)]
    cases x==k<;>rfl) (λs=>by simp only[dnl,a2_]) rfl
theorem aj2 {l:ab_} (hl:Lk l) {code guess:List Int} (hc:dc_ l code=true) (hg:dc_ l guess=true):ib_ code guess=some (cd2 code guess,(w64 (comW code guess - cd2 code guess),())):=by
  obtain⟨c1,_⟩:=jq_.1 hc
  obtain⟨g1,_⟩:=jq_.1 hg
  have w2:=hl.w2
  have sc:Sm code.length:=by unfold Sm;omega
  have sg:Sm guess.length:=by unfold Sm;omega
  have hz:(code.zip guess).length=code.length:=by rw[n4_];omega
  unfold ib_
  refine mh_ (code.zip guess) (λs p=>cond (p.1==p.2) (w64 (s+1)) s) (λi s=>(s,((i:Int),()))) (λs=>(s,())) 0 (λi p s hp=>by
    obtain⟨h1,h2⟩:=i1_.1 hp
    simp only[dlt (am_ h1),a5_,ah_ h1,ah_ h2,a0_,ba_ (show Sm i by have:=am_ h1;unfold Sm at *; omega)]
    cases p.1==p.2<;>rfl) (λs=>by rw[hz];simp only[dnl,a2_]) ?_
  refine mh_ (List.range 10) (λs (k:Nat)=>w64 (s+minI (zp_ code k) (zp_ guess k))) (λi s=>(s,((i:Int),()))) (λs=>(s,())) 0 (λi k s hk=>by
    have hi:=am_ hk
    rw[i5_] at hi
    rw[m9_ hi] at hk
    obtain rfl:=a6_ hk
    simp only[show decide ((i:Int)<10)=true from b5_ (by omega),a5_,qj_ sc,qj_ sg,a0_,ba_ (show Sm i by unfold Sm;omega)]) (λs=>by
    rw[i5_]
    rfl) rfl
theorem an2 {l:ab_} (hl:Lk l) {code guess:List Int} (hc:dc_ l code=true) (hg:dc_ l guess=true):ic_ code guess=some (cd2 code guess,(w64 (comW code guess - cd2 code guess),())):=by
  obtain⟨c1,c2⟩:=jq_.1 hc
  obtain⟨g1,g2⟩:=jq_.1 hg
  have w2:=hl.w2
  have s2:=hl.s2
  have hz:(code.zip guess).length=code.length:=by rw[n4_];omega
  have tk:∀ i,(code.zip guess).take i=(code.take i).zip (guess.take i):=λi=>ah6 _ _ i
  let I:Nat→(Int×(List Int×List Int))→Prop:=λi t=>t.1=cd2 (code.take i) (guess.take i)∧t.2.1.length=10∧t.2.2.length=10∧∀ k:Nat,k<10→t.2.1[k]?=some (zp_ (code.take i) k)∧t.2.2[k]?=some (zp_ (guess.take i) k)
  have h1:=kc_ (code.zip guess) (λ_ (t:Int×(List Int×List Int)) p=>(cond (p.1==p.2) (w64 (t.1+1)) t.1,(t.2.1.set p.1.toNat (w64 ((t.2.1[p.1.toNat]?).getD 0+1)),t.2.2.set p.2.toNat (w64 ((t.2.2[p.2.toNat]?).getD 0+1)))))
    (λi t=>(t.1,((i:Int),(t.2.1,(t.2.2,()))))) (λt=>(t.1,(t.2.1,(t.2.2,())))) (0,([0,0,0,0,0,0,0,0,0,0],[0,0,0,0,0,0,0,0,0,0])) I
    (body:=λ(v0:(Int×(Int×((List Int)×((List Int)×Unit))))) =>
 (cond (decide (v0.2.1<(code.length:Int)))
 ((at? code v0.2.1).bind λv1 =>
 ((((at? guess v0.2.1).bind λv2 =>
 (cond (v1==v2)
 (some ((w64 (v0.1+1)),()))
 (some (v0.1,()))))).bind λv3 =>
 (cond (decide (v1<(10:Int)))
 ((at? v0.2.2.1 v1).bind λv4 =>
 ((at? v0.2.2.1 v1).bind λv5 =>
 (cond (decide (v1<(10:Int)))
 ((at? v0.2.2.1 v1).bind λv6 =>
 ((at? v0.2.2.1 v1).bind λv7 =>
 ((at? guess v0.2.1).bind λv8 =>
 (cond (decide (v8<(10:Int)))
 ((at? v0.2.2.2.1 v8).bind λv9 =>
 ((at? v0.2.2.2.1 v8).bind λv10 =>
 (cond (decide (v8<(10:Int)))
 ((at? v0.2.2.2.1 v8).bind λv11 =>
 ((at? v0.2.2.2.1 v8).bind λv12 =>
 (some (inl (v3.1,((w64 (v0.2.1+1)),((v0.2.2.1.set v1.toNat (w64 (v5+1))),((v0.2.2.2.1.set v8.toNat (w64 (v10+1))),()))))))))
 none)))
 none))))
 none)))
 none)))
 (some (inr (v0.1,(v0.2.2.1,(v0.2.2.2.1,())))))))
    ⟨rfl,rfl,rfl,λk hk=>⟨by
      match k,hk with
      | 0,_ | 1,_ | 2,_ | 3,_ | 4,_ | 5,_ | 6,_ | 7,_ | 8,_ | 9,_=>rfl,by
      match k,hk with
      | 0,_ | 1,_ | 2,_ | 3,_ | 4,_ | 5,_ | 6,_ | 7,_ | 8,_ | 9,_=>rfl⟩⟩ (λi p t hp ht=>by
      obtain⟨x,y⟩:=p
      obtain⟨hx,hy⟩:=i1_.1 hp
      obtain⟨t1,t2,t3,t4⟩:=ht
      have hx':=c2 x (b2_ hx)
      have hy':=g2 y (b2_ hy)
      have ax:at? t.2.1 x=some (zp_ (code.take i) x):=by
        have:=(t4 x.toNat (by omega)).1
        rw[show ((x.toNat:Nat):Int)=x by omega] at this
        unfold at?
        rw[if_pos hx'.1]
        exact this
      have ay:at? t.2.2 y=some (zp_ (guess.take i) y):=by
        have:=(t4 y.toNat (by omega)).2
        rw[show ((y.toNat:Nat):Int)=y by omega] at this
        unfold at?
        rw[if_pos hy'.1]
        exact this
      have gx:t.2.1[x.toNat]?=some (zp_ (code.take i) x):=by
        have:=(t4 x.toNat (by omega)).1
        rwa [show ((x.toNat:Nat):Int)=x by omega] at this
      have gy:t.2.2[y.toNat]?=some (zp_ (guess.take i) y):=by
        have:=(t4 y.toNat (by omega)).2
        rwa [show ((y.toNat:Nat):Int)=y by omega] at this
      refine⟨?_,?_,?_,?_,λk hk => ?_⟩
      · simp only[dlt (am_ hx),a5_,ah_ hx,ah_ hy,a0_,ax,ay,show decide (x<10)=true from b5_ (by omega),show decide (y<10)=true from b5_ (by omega),ba_ (show Sm i by have:=am_ hx;unfold Sm;omega),gx,gy,f6_]
        cases x==y<;>rfl
      · show cond (x==y) (w64 (t.1+1)) t.1=cd2 (code.take (i+1)) (guess.take (i+1))
        unfold cd2
        rw[← tk,d7_,hp,o4_,tk,t1]
        rfl
      · simp[t2]
      · simp[t3]
      · obtain⟨q1,q2⟩:=t4 k hk
        constructor
        · show (t.2.1.set x.toNat (w64 ((t.2.1[x.toNat]?).getD 0+1)))[k]?=_
          rw[an5 hx,gx,f6_,g1_]
          by_cases e:x.toNat=k
          · have e2:x=(k:Int):=by omega
            rw[if_pos e,if_pos (by omega),e2,e0_,a5_]
          · have e2:(x==(k:Int))=false:=by simp;omega
            rw[if_neg e,q1,e2,a2_]
        · show (t.2.2.set y.toNat (w64 ((t.2.2[y.toNat]?).getD 0+1)))[k]?=_
          rw[an5 hy,gy,f6_,g1_]
          by_cases e:y.toNat=k
          · have e2:y=(k:Int):=by omega
            rw[if_pos e,if_pos (by omega),e2,e0_,a5_]
          · have e2:(y==(k:Int))=false:=by simp;omega
            rw[if_neg e,q2,e2,a2_]) (λt _=>by rw[hz];simp only[dnl,a2_])
  obtain⟨t,⟨t1,t2,t3,t4⟩,h2⟩:=h1
  rw[hz] at t1 t4
  rw[e1_,show guess.take code.length=guess by rw[h0_ (by omega)]] at t1
  unfold ic_
  refine (congrArg (λo=>Option.bind o _) h2).trans ?_
  rw[a0_]
  refine mh_ (List.range 10) (λs (k:Nat)=>w64 (s+minI (zp_ code k) (zp_ guess k))) (λi s=>(s,((i:Int),()))) (λs=>(s,())) 0 (λi k s hk=>by
    have hi:=am_ hk
    rw[i5_] at hi
    rw[m9_ hi] at hk
    obtain rfl:=a6_ hk
    obtain⟨q1,q2⟩:=t4 i hi
    rw[e1_] at q1
    rw[show guess.take code.length=guess by rw[h0_ (by omega)]] at q2
    simp only[show decide ((i:Int)<10)=true from b5_ (by omega),a5_,ah_ q1,ah_ q2,a0_,ba_ (show Sm i by unfold Sm;omega)]) (λs=>by
    rw[i5_]
    rfl) ?_
  rw[t1]
  rfl
end
section
def wc_ (code:List Int) (a b:Int):List Int:=(code.take (b+1).toNat).drop a.toNat
def sumW (l:List Int):Int:=l.foldl (λs x=>w64 (s+x)) 0
def gt0 (code:List Int) (i:Int):Int:=(at? code i).getD 0
def plV (c:ak_) (code:List Int):Bool :=
  cond (c.1==1) (gt0 code c.2.1==c.2.2.2.1) <|
  cond (c.1==2) (sumW (wc_ code c.2.1 c.2.2.1)==c.2.2.2.1) <|
  cond (c.1==3) (decide (gt0 code c.2.1<gt0 code c.2.2.1)) <|
  cond (c.1==4) (gt0 code c.2.1==gt0 code c.2.2.1) <|
  cond (c.1==5) (zp_ code c.2.2.2.1==c.2.2.2.2.1) <|
  cond (c.1==6) (cond (cd2 code c.2.2.2.2.2.1==c.2.2.2.1) (w64 (comW code c.2.2.2.2.2.1 - cd2 code c.2.2.2.2.2.1)==c.2.2.2.2.1) false) <|
  cond (c.1==7) ((gt0 code c.2.1).tmod c.2.2.2.1==c.2.2.2.2.1) false
def tr (c:ak_) (code:List Int):Bool:=plV c code != c.2.2.2.2.2.2
theorem gt0_at {code:List Int} {i x:Int} (h:at? code i=some x):gt0 code i=x:=by unfold gt0;rw[h];rfl
theorem pm_ {l:ab_} (hl:Lk l) {c:ak_} {code:List Int} (hc:dd_ l c=true) (hk:dc_ l code=true):ff_ c code=some (tr c code,())∧ft_ c code=some (tr c code,()):=by
  obtain⟨c1,c2⟩:=jq_.1 hk
  have w1:=hl.w1;have w2:=hl.w2;have s1:=hl.s1;have s2:=hl.s2
  have sc:Sm code.length:=by unfold Sm;omega
  unfold dd_ at hc
  have hat:∀ i,wi i 0 (l.1 - 1)=true→at? code i=some (gt0 code i):=by
    intro i hi
    obtain⟨a,b⟩:=ce_.1 hi
    obtain⟨x,h1⟩:=bd_ (l:=code) (i:=i.toNat) (by omega)
    have h2:at? code i=some x:=by unfold at?; rw[if_pos a];exact h1
    rw[h2,gt0_at h2]
  unfold ff_ ft_ mw_ tr plV
  by_cases h1:c.1=1
  · simp only[h1,k2_,a1_] at hc
    have hx:=hat _ hc.1
    simp only[h1,hx,e0_,a5_,a0_,and_self]
  have b1:(c.1==1)=false:=by simp[h1]
  simp only[b1,a2_]
  by_cases h2:c.1=2
  · simp only[h2,k2_,a1_,show ¬ ((2:Int)=1) by omega,i0_] at hc
    obtain⟨hA,hB,hAB,_⟩:=hc
    obtain⟨a1,a2⟩:=ce_.1 hA
    obtain⟨d1,d2⟩:=ce_.1 hB
    have hab:c.2.1≤c.2.2.1:=by simpa using hAB
    have hsub:sub? code c.2.1 (w64 (c.2.2.1+1))=some (wc_ code c.2.1 c.2.2.1):=by
      rw[ku_ (by omega) (by omega)]
      unfold sub? wc_
      rw[if_pos ⟨a1,by omega,by omega⟩]
    have hsl:(wc_ code c.2.1 c.2.2.1).length=(c.2.2.1 - c.2.1+1).toNat:=by
      unfold wc_
      rw[k5_,c9_]
      omega
    have hsg:∀ (j:Nat) x,(wc_ code c.2.1 c.2.2.1)[j]?=some x→at? code (c.2.1+(j:Int))=some x:=by
      intro j x hj
      have hlt:=am_ hj
      unfold wc_ at hj
      rw[List.getElem?_drop,j5_,if_pos (by omega)] at hj
      unfold at?
      rw[if_pos (by omega),show (c.2.1+(j:Int)).toNat=c.2.1.toNat+j by omega]
      exact hj
    simp only[h2,e0_,a5_,hsub,a0_]
    constructor
    · have:=zk_ (wc_ code c.2.1 c.2.2.1) (λs x=>w64 (s+x)) (λi s=>(s,(c.2.1+(i:Int),()))) (λs=>(s,())) 0 (body:=λ(v1:(Int×(Int×Unit))) =>
        (cond (decide (v1.2.1≤c.2.2.1))
        ((at? code v1.2.1).bind λv2 =>
        (some (inl ((w64 (v1.1+v2)),((w64 (v1.2.1+1)),())))))
        (some (inr (v1.1,()))))) (λi x s hx=>by
        have hi:=am_ hx
        simp only[show decide (c.2.1+(i:Int)≤c.2.2.1)=true from b5_ (by omega),a5_,hsg i x hx,a0_,ku_ (n:=c.2.1+(i:Int)+1) (by omega) (by omega)]
        rw[show c.2.1+(i:Int)+1=c.2.1+((i+1:Nat):Int) by omega]) (λs=>by
        simp only[show decide (c.2.1+((wc_ code c.2.1 c.2.2.1).length:Int)≤c.2.2.1)=false from c1_ (by omega),a2_])
      simp only[Int.natCast_zero,Int.add_zero] at this
      rw[this]
      rfl
    · refine congrArg (λo=>Option.bind o _) (?_:_=some (sumW (wc_ code c.2.1 c.2.2.1)==c.2.2.2.1,())) |>.trans rfl
      refine mh_ (wc_ code c.2.1 c.2.2.1) (λs x=>w64 (s+x)) (λi s=>(s,((i:Int),()))) (λs=>(s,())) 0 (λi x s hx=>by
        have hi:=am_ hx
        simp only[dlt hi,a5_,ah_ hx,a0_,ba_ (show Sm i by unfold Sm;omega)]) (λs=>by simp only[dnl,a2_]) rfl
  have b2:(c.1==2)=false:=by simp[h2]
  simp only[b2,a2_]
  by_cases h3:c.1=3
  · simp only[h3,k2_,a1_,show ¬ ((3:Int)=1) by omega,show ¬ ((3:Int)=2) by omega,i0_,n8_] at hc
    simp only[h3,hat _ hc.1,hat _ hc.2.1,e0_,a5_,a0_,and_self]
  have b3:(c.1==3)=false:=by simp[h3]
  simp only[b3,a2_]
  by_cases h4:c.1=4
  · simp only[h4,k2_,a1_,show ¬ ((4:Int)=1) by omega,show ¬ ((4:Int)=2) by omega,i0_,n9_] at hc
    simp only[h4,hat _ hc.1,hat _ hc.2.1,e0_,a5_,a0_,and_self]
  have b4:(c.1==4)=false:=by simp[h4]
  simp only[b4,a2_]
  by_cases h5:c.1=5
  · have hs:=qj_ (k:=c.2.2.2.1) sc
    simp only[h5,e0_,a5_,hs,a0_,true_and]
    have:=hs
    unfold ec_ at this
    obtain⟨y,h6,h7⟩:=bnd this
    rw[h6]
    have e:y.1=zp_ code c.2.2.2.1:=congrArg Prod.fst (a6_ h7)
    rw[a0_,a0_,e]
  have b5:(c.1==5)=false:=by simp[h5]
  simp only[b5,a2_]
  by_cases h6:c.1=6
  · simp only[h6,k2_,a1_,show ¬ ((6:Int)=1) by omega,show ¬ ((6:Int)=2) by omega,show ¬ ((6:Int)=3∨(6:Int)=4) by omega,show ¬ ((6:Int)=5) by omega,i0_] at hc
    simp only[h6,e0_,a5_,aj2 hl hk hc.1,an2 hl hk hc.1,a0_]
    cases cd2 code c.2.2.2.2.2.1==c.2.2.2.1<;>exact⟨rfl,rfl⟩
  have b6:(c.1==6)=false:=by simp[h6]
  simp only[b6,a2_]
  by_cases h7:c.1=7
  · simp only[h7,k2_,a1_,show ¬ ((7:Int)=1) by omega,show ¬ ((7:Int)=2) by omega,show ¬ ((7:Int)=3∨(7:Int)=4) by omega,show ¬ ((7:Int)=5) by omega,show ¬ ((7:Int)=6) by omega,i0_] at hc
    obtain⟨n1,n2⟩:=ce_.1 hc.2.1
    have hm:md (gt0 code c.2.1) c.2.2.2.1=some ((gt0 code c.2.1).tmod c.2.2.2.1):=cr5 (by omega)
    simp only[h7,hat _ hc.1,hm,e0_,a5_,a0_,and_self]
  · simp[h1,h2,h3,h4,h5,h6,h7] at hc
end
section
def im_ (S:Nat):Nat→List (List Int)
  | 0=>[[]]
  | W+1=>(List.range S).flatMap λ(x:Nat)=>(im_ S W).map λc=>(x:Int)::c
theorem bb4 {α β:Type} {f:α→List β} {m:Nat}:∀ (l:List α),(∀ x ∈ l,(f x).length=m)→(l.flatMap f).length=l.length * m
  | [],_=>by simp
  | x::l,h=>by
    rw[p5_,a8_,h x (by simp),bb4 l (λy hy=>h y (by simp[hy])),c4_,j8_]
    omega
theorem bb5 {α β:Type} {f:α→List β} {m:Nat}:∀ (l:List α) (q r:Nat) (x:α),(∀ x ∈ l,(f x).length=m)→r<m→l[q]?=some x→(l.flatMap f)[q * m+r]?=(f x)[r]?
  | [],q,r,x,h,hr,hq=>by simp at hq
  | y::l,0,r,x,h,hr,hq=>by
    have e:y=x:=by simpa using hq
    subst e
    rw[p5_,Nat.zero_mul,b0_,b1_ (by rw[h y (by simp)];exact hr)]
  | y::l,q+1,r,x,h,hr,hq=>by
    have hq':l[q]?=some x:=by simpa using hq
    have hl:=h y (by simp)
    rw[p5_,c5_ (by rw[hl,j8_];omega),hl,show (q+1) * m+r - m=q * m+r by rw[j8_];omega]
    exact bb5 l q r x (λz hz=>h z (by simp[hz])) hr hq'
theorem pq_ (S:Nat):∀ W,(im_ S W).length=S ^ W
  | 0=>rfl
  | W+1=>by
    unfold im_
    rw[bb4 (m:=S ^ W) _ (λx _=>by rw[d6_,pq_ S W]),i5_,k1_,k7_]
theorem te_ (S:Nat):∀ W c,c ∈ im_ S W↔c.length=W∧∀ n ∈ c,0≤n∧n<(S:Int)
  | 0,c=>by
    unfold im_
    rw[e7_]
    constructor
    · rintro rfl;exact⟨rfl,by simp⟩
    · rintro⟨h,_⟩;exact n5_.1 h
  | W+1,c=>by
    unfold im_
    rw[List.mem_flatMap]
    constructor
    · rintro⟨x,hx,hc⟩
      obtain⟨d,hd,rfl⟩:=d0_.1 hc
      obtain⟨h1,h2⟩:=(te_ S W d).1 hd
      have:=m1_.1 hx
      refine⟨by rw[c4_,h1],λn hn => ?_⟩
      rcases d1_.1 hn with rfl | hn
      · omega
      · exact h2 n hn
    · rintro⟨h1,h2⟩
      cases c with
      | nil=>simp at h1
      | cons x c =>
        obtain⟨a,b⟩:=h2 x (by simp)
        refine⟨x.toNat,m1_.2 (by omega),d0_.2 ⟨c,(te_ S W c).2 ⟨by simpa using h1,λn hn=>h2 n (by simp[hn])⟩,?_⟩⟩
        rw[show ((x.toNat:Nat):Int)=x by omega]
def dig (S:Nat):Nat→Nat→List Int
  | 0,_=>[]
  | W+1,i=>dig S W (i / S)++[((i % S:Nat):Int)]
theorem by0 (S:Nat):∀ W i,(dig S W i).length=W
  | 0,_=>rfl
  | W+1,i=>by unfold dig;rw[a8_,by0 S W];rfl
theorem bc2 {S:Nat} (hS:0<S):∀ (W q r:Nat),q<S→r<S ^ W→dig S (W+1) (q * S ^ W+r)=(q:Int)::dig S W r
  | 0,q,r,hq,hr=>by
    have:r=0:=by simpa using hr
    subst this
    simp[dig,k4_ hq]
  | W+1,q,r,hq,hr=>by
    have e1:(q * S ^ (W+1)+r) / S=q * S ^ W+r / S:=by
      rw[k1_,← Nat.mul_assoc,k7_ (q * S ^ W) S,Nat.mul_add_div hS]
    have e2:(q * S ^ (W+1)+r) % S=r % S:=by
      rw[k1_,← Nat.mul_assoc,k7_ (q * S ^ W) S,Nat.mul_add_mod]
    have hr':r / S<S ^ W:=Nat.div_lt_of_lt_mul (by rw[k7_,← k1_];exact hr)
    rw[dig,e1,e2,bc2 hS W q (r / S) hq hr']
    rfl
theorem pr_ {S:Nat} (hS:0<S):∀ (W i:Nat),i<S ^ W→(im_ S W)[i]?=some (dig S W i)
  | 0,i,h=>by
    have:i=0:=by simpa using h
    subst this;rfl
  | W+1,i,h=>by
    have hP:0<S ^ W:=Nat.pow_pos hS
    have hr:i % S ^ W<S ^ W:=Nat.mod_lt _ hP
    have hq:i / S ^ W<S:=Nat.div_lt_of_lt_mul (by rw[← k1_];exact h)
    have he:i=i / S ^ W * S ^ W+i % S ^ W:=by rw[k7_];exact (Nat.div_add_mod i (S ^ W)).symm
    rw[he,bc2 hS W _ _ hq hr]
    unfold im_
    rw[bb5 (m:=S ^ W) _ _ _ (i / S ^ W) (λx _=>by rw[d6_,pq_]) hr (by rw[m9_ hq]),d8_,pr_ hS W _ hr]
    rfl
def rdg (l:ab_) (cl:List ak_):List (List Int):=(im_ l.2.toNat l.1.toNat).filter λc=>cl.all (tr · c)
theorem bc4 {l:ab_} (hl:Lk l) {c:List Int}:c ∈ im_ l.2.toNat l.1.toNat↔dc_ l c=true:=by
  have:=hl.w1;have:=hl.s1
  rw[te_,jq_]
  constructor
  · rintro⟨a,b⟩;exact⟨by omega,λn hn=>by have:=b n hn;omega⟩
  · rintro⟨a,b⟩;exact⟨by omega,λn hn=>by have:=b n hn;omega⟩
theorem cq3 {l:ab_} (hl:Lk l):l.2.toNat ^ l.1.toNat≤10000:=by
  have:=hl.w1;have:=hl.w2;have:=hl.s1;have:=hl.s2
  have h1:l.2.toNat ^ l.1.toNat≤10 ^ l.1.toNat:=Nat.pow_le_pow_left (by omega) _
  have h2:10 ^ l.1.toNat≤10 ^ 4:=Nat.pow_le_pow_right (by omega) (by omega)
  omega
theorem cb7 (cl:List ak_) (code:List Int):(!(cl.any λc=>!(tr c code)))=cl.all (tr · code):=tl_ cl λc=>tr c code
theorem ar4 {l:ab_} (hl:Lk l) {cl:List ak_} (hn:cl.length≤20) {code:List Int} (hc:∀ c ∈ cl,dd_ l c=true) (hk:dc_ l code=true):∃ r,jj_ cl code=some (r,())∧decide (r<0)=cl.all (tr · code):=by
  obtain⟨n,h1,h2,_⟩:=if_lt (l:=cl) (by unfold Sm;omega) (λc=>!(tr c code)) (body:=λ(v0:(Int×Unit)) =>
    (cond (decide (v0.1<(cl.length:Int)))
    ((at? cl v0.1).bind λv1 =>
    ((ff_ v1 code).bind λv2 =>
    (cond (!v2.1)
    (some (inr (inr (v0.1,()))))
    (some (inl ((w64 (v0.1+1)),()))))))
    (some (inr (inl ()))))) (λi c hi=>by
    simp only[dlt (am_ hi),a5_,ah_ hi,a0_,(pm_ hl (hc c (b2_ hi)) hk).1]
    cases tr c code<;>rfl) (by simp only[dnl,a2_])
  exact⟨n,h1,by rw[h2,cb7]⟩
theorem au5 {l:ab_} (hl:Lk l) {cl:List ak_} (hn:cl.length≤20) {code:List Int} (hc:∀ c ∈ cl,dd_ l c=true) (hk:dc_ l code=true):∃ r,fu_ cl code=some (r,())∧decide (r<0)=cl.all (tr · code):=by
  obtain⟨n,h1,h2,_⟩:=if_lt (l:=cl) (by unfold Sm;omega) (λc=>!(tr c code)) (body:=λ(v0:(Int×Unit)) =>
    (cond (decide (v0.1<(cl.length:Int)))
    ((at? cl v0.1).bind λv1 =>
    ((ft_ v1 code).bind λv2 =>
    (cond (!v2.1)
    (some (inr (inr (v0.1,()))))
    (some (inl ((w64 (v0.1+1)),()))))))
    (some (inr (inl ()))))) (λi c hi=>by
    simp only[dlt (am_ hi),a5_,ah_ hi,a0_,(pm_ hl (hc c (b2_ hi)) hk).2]
    cases tr c code<;>rfl) (by simp only[dnl,a2_])
  exact⟨n,h1,by rw[h2,cb7]⟩
theorem rep_set {p:Nat} {x:Int} {t:List Int}:(List.replicate (p+1) (0:Int)++t).set p x=List.replicate p 0++(x::t):=by
  rw[List.set_append_left _ _ (by rw[f2_];omega),q2_,q1_ _ _ (by rw[f2_];omega),f2_,k6_]
  simp
theorem cm4 {l:ab_} (hl:Lk l) {S:Nat} (hS:l.2=(S:Int)):∀ (p n:Nat) (t:List Int),p≤4→n≤10000→ag_ (ρ:=((List Int)×Unit)) (λ(v4:(Int×(Int×((List Int)×Unit)))) =>
 (cond (decide (0≤v4.2.1))
 ((md v4.1 l.2).bind λv5 =>
 ((at? v4.2.2.1 v4.2.1).bind λv6 =>
 ((at? v4.2.2.1 v4.2.1).bind λv7 =>
 ((dv v4.1 l.2).bind λv8 =>
 (some (inl (v8,((w64 (v4.2.1 - 1)),((v4.2.2.1.set v4.2.1.toNat v5),())))))))))
 (some (inr (v4.2.2.1,()))))) ((n:Int),((p:Int) - 1,(List.replicate p 0++t,())))=some (dig S p n++t,()):=by
  have s1:=hl.s1;have s2:=hl.s2
  intro p
  induction p with
  | zero =>
    intro n t _ _
    refine lv_ ?_
    simp[dig]
  | succ p ih =>
    intro n t hp hn
    have hd:dv (n:Int) l.2=some ((n / S:Nat):Int):=by
      unfold dv
      have:n / S≤n:=Nat.div_le_self n S
      rw[hS,if_neg (by omega),show (n:Int).tdiv (S:Int)=((n / S:Nat):Int) from (Int.ofNat_tdiv ..).symm]
      generalize n / S=q at this
      rw[ku_ (by omega) (by omega)]
    have hm:md (n:Int) l.2=some ((n % S:Nat):Int):=by
      rw[hS,cr5 (by omega),show (n:Int).tmod (S:Int)=((n % S:Nat):Int) from (Int.ofNat_tmod ..).symm]
    obtain⟨y,hy⟩:=bd_ (l:=List.replicate (p+1) (0:Int)++t) (i:=p) (by simp;omega)
    have e:((p+1:Nat):Int) - 1=((p:Nat):Int):=by omega
    refine (op_ (s':=(((n / S:Nat):Int),((p:Int) - 1,(List.replicate p 0++(((n % S:Nat):Int)::t),())))) ?_).trans ?_
    · simp only[e,show decide (0≤(p:Int))=true from b5_ (by omega),a5_,hm,hd,ah_ hy,a0_,b8_,rep_set,ku_ (n:=(p:Int) - 1) (by omega) (by omega)]
    · rw[ih (n / S) _ (by omega) (c6_ (Nat.div_le_self n S) hn)]
      simp[dig]
theorem bn6 {l:ab_} (hl:Lk l) {cl:List ak_} (hn:cl.length≤20) (hc:∀ c ∈ cl,dd_ l c=true):mt_ l cl=some (rdg l cl,()):=by
  have w1:=hl.w1;have w2:=hl.w2;have s1:=hl.s1;have s2:=hl.s2
  obtain⟨W,hW⟩:∃ W:Nat,l.1=(W:Int):=⟨l.1.toNat,by omega⟩
  obtain⟨S,hS⟩:∃ S:Nat,l.2=(S:Int):=⟨l.2.toNat,by omega⟩
  have hpow:S ^ W≤10000:=by have:=cq3 hl;rwa [hW,hS,b8_,b8_] at this
  have hSp:0<S:=by omega
  have hlen:=pq_ S W
  have e1:ag_ (ρ:=(Int×Unit)) (λ(v0:(Int×(Int×Unit))) =>
      (cond (decide (v0.2.1<l.1))
      (some (inl ((w64 (v0.1 * l.2)),((w64 (v0.2.1+1)),()))))
      (some (inr (v0.1,()))))) (1,(0,()))=some (((S ^ W:Nat):Int),()):=by
    obtain⟨t,rfl,h2⟩:=kc_ (List.range W) (λi t x=>t * S) (λi (t:Nat)=>((t:Int),((i:Int),()))) (λt=>((t:Int),())) 1 (λi t=>t=S ^ i) (body:=λ(v0:(Int×(Int×Unit))) =>
      (cond (decide (v0.2.1<l.1))
      (some (inl ((w64 (v0.1 * l.2)),((w64 (v0.2.1+1)),()))))
      (some (inr (v0.1,()))))) rfl (λi x t hi ht=>by
      have hi2:=am_ hi
      rw[i5_] at hi2
      have:S ^ (i+1)≤10000:=c6_ (Nat.pow_le_pow_right hSp (by omega)) hpow
      refine⟨?_,by rw[ht,k1_]⟩
      simp only[show decide ((i:Int)<l.1)=true from b5_ (by omega),a5_,ba_ (show Sm i by unfold Sm;omega)]
      rw[hS,← Int.natCast_mul,ht,show S ^ i * S=S ^ (i+1) from (k1_ ..).symm,ku_ (by omega) (by omega)]) (λt _=>by
      rw[i5_]
      simp only[show decide ((W:Int)<l.1)=false from c1_ (by omega),a2_])
    rw[i5_] at h2
    exact h2
  unfold mt_
  refine (congrArg (λo=>Option.bind o _) e1).trans ?_
  rw[a0_]
  obtain⟨t,h1,h2⟩:=kc_ (im_ S W) (λj t c=>cond (cl.all (tr · c)) (t++[c]) t) (λj (t:List (List Int))=>(t,((j:Int),()))) (λt=>(t,())) [] (λj t=>t=((im_ S W).take j).filter λc=>cl.all (tr · c)) (body:=λ(v2:((List (List Int))×(Int×Unit))) =>
 (cond (decide (v2.2.1<((S ^ W:Nat):Int)))
 ((((mk? (α:=Int) l.1 0).bind λv3 =>
 ((ag_ (ρ:=((List Int)×Unit)) (λ(v4:(Int×(Int×((List Int)×Unit)))) =>
 (cond (decide (0≤v4.2.1))
 ((md v4.1 l.2).bind λv5 =>
 ((at? v4.2.2.1 v4.2.1).bind λv6 =>
 ((at? v4.2.2.1 v4.2.1).bind λv7 =>
 ((dv v4.1 l.2).bind λv8 =>
 (some (inl (v8,((w64 (v4.2.1 - 1)),((v4.2.2.1.set v4.2.1.toNat v5),())))))))))
 (some (inr (v4.2.2.1,()))))) (v2.2.1,((w64 (l.1 - 1)),(v3,())))).bind λv9 =>
 ((jj_ cl v9.1).bind λv10 =>
 (cond (decide (v10.1<0))
 ((push? (α:=(List Int)) v2.1 [v9.1]).bind λv11 =>
 (some (v11,())))
 (some (v2.1,()))))))).bind λv12 =>
 (some (inl (v12.1,((w64 (v2.2.1+1)),())))))
 (some (inr (v2.1,()))))) rfl (λj c t hj ht=>by
    have hj2:=am_ hj
    rw[hlen] at hj2
    have hg:=pr_ hSp W j hj2
    rw[hj] at hg
    obtain rfl:=a6_ hg
    have hok:dc_ l (dig S W j)=true:=(bc4 hl (c:=dig S W j)).1 (by rw[hW,hS,b8_,b8_];exact b2_ hj)
    obtain⟨r,r1,r2⟩:=ar4 hl hn hc hok
    have hdig:=cm4 hl hS W j [] (by omega) (by omega)
    rw[e8_,e8_] at hdig
    have hb:=k8_ (λc=>cl.all (tr · c)) ((im_ S W).take j)
    rw[c9_] at hb
    refine⟨?_,?_⟩
    · simp only[show decide ((j:Int)<((S ^ W:Nat):Int))=true from b5_ (by omega),a5_,rs_ (show 0≤l.1 by omega) (show l.1≤2147483648 by omega),a0_,hl.ww,show l.1.toNat=W by omega,ba_ (show Sm j by unfold Sm;omega)]
      rw[show l.1 - 1=(W:Int) - 1 by omega]
      have:∀ (K:(List Int×Unit)→Option ((List (List Int)×(Int×Unit))⊕(List (List Int)×Unit))),Option.bind (some (dig S W j,())) K=K (dig S W j,()):=λK=>rfl
      rw[hdig,a0_,r1,a0_,r2]
      cases hp:cl.all (tr · (dig S W j)) with
      | false=>rfl
      | true =>
        rw[a5_,ab7 (by rw[ht];simp only[d5_];omega)]
        rfl
    · rw[ht,d7_,hj,n6_]
      cases hp:cl.all (tr · (dig S W j))<;>simp[hp]) (λt _=>by
    rw[hlen]
    simp only[dnl,a2_])
  refine (congrArg (λo=>Option.bind o _) h2).trans ?_
  rw[a0_,h1,e1_]
  unfold rdg
  rw[hW,hS,b8_,b8_]
end
section
theorem bj2 {σ ρ:Type} {body:σ→Option (σ⊕ρ)} (F:Nat→σ) {n:Nat} {r:ρ} (h:∀ j,j<n→body (F j)=some (.inl (F (j+1)))) (e:body (F n)=some (.inr r)):ag_ body (F 0)=some r:=by
  have:=lu_ (body:=body) (λj s=>s=F j) (λx=>x=r) n 0 (F 0) rfl (λj s _ hj q=>by subst q;exact .inl ⟨_,h j (by omega),rfl⟩) (λs q=>by subst q;rw[b0_];exact⟨_,e,rfl⟩)
  obtain⟨x,h1,rfl⟩:=this
  exact h1
theorem cf9 {p:List Int} {x y:Int} {t:List Int}:(p++x::t).set p.length y=p++y::t:=by
  rw[q1_ _ _ (c3_ _),k6_]
  rfl
theorem cl2 {p:List Int} {x:Int} {t:List Int}:at? (p++x::t) ((p.length:Nat):Int)=some x:=by
  rw[av3,c5_ (c3_ _),k6_]
  rfl
def odoB (l:ab_):(Int×(List Int×Unit))→Option ((Int×(List Int×Unit))⊕(Int×(List Int×Unit))):=(λ(v3:(Int×((List Int)×Unit))) =>
 (((cond (decide (0≤v3.1))
 ((at? v3.2.1 v3.1).bind λv4 =>
 ((at? v3.2.1 v3.1).bind λv5 =>
 (some ((v5==(w64 (l.2 - 1))),()))))
 (some (false,())))).bind λv6 =>
 (cond v6.1
 ((at? v3.2.1 v3.1).bind λv7 =>
 ((at? v3.2.1 v3.1).bind λv8 =>
 (some (inl ((w64 (v3.1 - 1)),((v3.2.1.set v3.1.toNat 0),()))))))
 (some (inr (v3.1,(v3.2.1,())))))))
theorem odo {l:ab_} (hl:Lk l) {S:Nat} (hS:l.2=(S:Int)):∀ (W j k:Nat),W≤4→∃ (i:Int) (c:List Int),
    ag_ (odoB l) ((W:Int) - 1,(dig S W j++List.replicate k 0,()))=some (i,(c,())) ∧
    (j+1=S ^ W→i<0)∧(j+1<S ^ W→0≤i∧∃ x,at? c i=some x∧c.set i.toNat (w64 (x+1))=dig S W (j+1)++List.replicate k 0):=by
  have s1:=hl.s1;have s2:=hl.s2
  intro W
  induction W with
  | zero =>
    intro j k _
    refine⟨_,_,lv_ (r:=((0:Int) - 1,(dig S 0 j++List.replicate k 0,()))) rfl,λ_=>by omega,λh => ?_⟩
    simp at h
  | succ W ih =>
    intro j k hW
    have hd:dig S (W+1) j++List.replicate k 0=dig S W (j / S)++((j % S:Nat):Int)::List.replicate k 0:=by rw[dig,b4_];rfl
    have hlen:=by0 S W (j / S)
    have hg:at? (dig S W (j / S)++((j % S:Nat):Int)::List.replicate k 0) ((W:Nat):Int)=some ((j % S:Nat):Int):=by
      have:=cl2 (p:=dig S W (j / S)) (x:=((j % S:Nat):Int)) (t:=List.replicate k 0)
      rwa [hlen] at this
    have hse:∀ y:Int,(dig S W (j / S)++((j % S:Nat):Int)::List.replicate k 0).set W y=dig S W (j / S)++y::List.replicate k 0:=λy=>by
      have:=cf9 (p:=dig S W (j / S)) (x:=((j % S:Nat):Int)) (y:=y) (t:=List.replicate k 0)
      rwa [hlen] at this
    have hmod:j % S<S:=Nat.mod_lt _ (by omega)
    have hdm:=Nat.div_add_mod j S
    have hpos:decide (0≤(W:Int))=true:=b5_ (by omega)
    rw[hd,show ((W+1:Nat):Int) - 1=(W:Int) by omega]
    by_cases h9:j % S=S - 1
    · obtain⟨i,c,e1,e2,e3⟩:=ih (j / S) (k+1) (by omega)
      have hj1:j+1=S * (j / S+1):=by rw[Nat.mul_add,q5_];omega
      have hb:(((j % S:Nat):Int)==w64 (l.2 - 1))=true:=by rw[hl.ws,hS];simp;omega
      refine⟨i,c,?_,λh=>e2 ?_,λh => ?_⟩
      · rw[← e1]
        refine op_ ?_
        unfold odoB
        simp only[hpos,a5_,hg,a0_,hb,b8_,hse,ku_ (n:=(W:Int) - 1) (by omega) (by omega)]
        rfl
      · rw[k1_,k7_] at h
        rw[hj1] at h
        exact Nat.eq_of_mul_eq_mul_left (by omega) h
      · have:j / S+1<S ^ W:=by
          rw[k1_,k7_,hj1] at h
          exact Nat.lt_of_mul_lt_mul_left h
        obtain⟨f1,x,f2,f3⟩:=e3 this
        refine⟨f1,x,f2,?_⟩
        rw[f3,dig,hj1,Nat.mul_div_cancel_left _ (by omega),Nat.mul_mod_right,b4_]
        rfl
    · have hb:(((j % S:Nat):Int)==w64 (l.2 - 1))=false:=by rw[hl.ws,hS];simp;omega
      refine⟨_,_,lv_ (r:=((W:Int),(dig S W (j / S)++((j % S:Nat):Int)::List.replicate k 0,()))) (by
        unfold odoB
        simp only[hpos,a5_,hg,a0_,hb,a2_]),λh => ?_,λh=>⟨by omega,_,hg,?_⟩⟩
      · exfalso
        have:(j+1) % S=0:=by rw[h,k1_];exact Nat.mul_mod_left _ _
        have h2:(j+1) % S=j % S+1:=by rw[Nat.add_mod,k4_ (show 1<S by omega),k4_ (by omega)]
        omega
      · simp only[b8_]
        rw[hse,ku_ (by omega) (by omega),dig,b4_]
        have h2:(j+1) % S=j % S+1:=by rw[Nat.add_mod,k4_ (show 1<S by omega),k4_ (by omega)]
        have h3:(j+1) / S=j / S:=by
          refine Nat.div_eq_of_lt_le ?_ ?_
          · rw[k7_];omega
          · rw[k7_,Nat.mul_add];omega
        rw[h2,h3]
        simp
theorem bc1 (S:Nat):∀ W,List.replicate W (0:Int)=dig S W 0
  | 0=>rfl
  | W+1=>by rw[dig,Nat.zero_div,Nat.zero_mod,← bc1 S W,q2_];rfl
noncomputable def bq5 (l:ab_) (n:Int) (c:List Int):Option ((Unit×(Unit×((List Int)×((Int×Unit)×Unit))))⊕((Unit×(Unit×((List Int)×((Int×Unit)×Unit))))⊕(Int×Unit))) :=
 ((ag_ (odoB l) ((w64 (l.1 - 1)),(c,()))).bind λv9 =>
 (cond (decide (v9.1<0))
 (some (inr (inr (n,()))))
 ((at? v9.2.1 v9.1).bind λv10 =>
 ((at? v9.2.1 v9.1).bind λv11 =>
 ((at? v9.2.1 v9.1).bind λv12 =>
 ((at? v9.2.1 v9.1).bind λv13 =>
 (some (inl ((),((),((v9.2.1.set v9.1.toNat (w64 (v11+1))),((n,()),()))))))))))))
noncomputable def cntX (a0:ab_) (a1:List ak_):Option (Int×Unit) :=
 ((mk? (α:=Int) a0.1 0).bind λv0 =>
 ((ag_ (ρ:=((Unit×(Unit×((List Int)×((Int×Unit)×Unit))))⊕(Int×Unit))) (λ(v1:(Unit×(Unit×((List Int)×((Int×Unit)×Unit))))) =>
 ((fu_ a1 v1.2.2.1).bind λv2 =>
 (cond (decide (v2.1<0)) (bq5 a0 (w64 (v1.2.2.2.1.1+1)) v1.2.2.1) (bq5 a0 v1.2.2.2.1.1 v1.2.2.1)))) ((),((),(v0,((0,()),()))))).bind λv25 =>
 (cd_ v25 (λv26=>(some (v26.2.2.2.1.1,())))
 (λv27=>(some v27)))))
theorem cntX_eq:es_=cntX:=by kernel_rfl
theorem bh1 {l:ab_} (hl:Lk l) {cl:List ak_} (hn:cl.length≤20) (hc:∀ c ∈ cl,dd_ l c=true):es_ l cl=some (((rdg l cl).length:Int),()):=by
  have w1:=hl.w1;have w2:=hl.w2;have s1:=hl.s1;have s2:=hl.s2
  obtain⟨W,hW⟩:∃ W:Nat,l.1=(W:Int):=⟨l.1.toNat,by omega⟩
  obtain⟨S,hS⟩:∃ S:Nat,l.2=(S:Int):=⟨l.2.toNat,by omega⟩
  have hpow:S ^ W≤10000:=by have:=cq3 hl;rwa [hW,hS,b8_,b8_] at this
  have hSp:0<S:=by omega
  have hN:0<S ^ W:=Nat.pow_pos hSp
  have hlen:=pq_ S W
  have hok:∀ j,j<S ^ W→dc_ l (dig S W j)=true:=λj hj=>(bc4 hl).1 (by rw[hW,hS,b8_,b8_];exact b2_ (pr_ hSp W j hj))
  let cn:Nat→Nat:=λj=>(((im_ S W).take j).filter λc=>cl.all (tr · c)).length
  have hcn:∀ j,j<S ^ W→cn j≤j∧cn (j+1)=cond (cl.all (tr · (dig S W j))) (cn j+1) (cn j):=by
    intro j hj
    constructor
    · have hb:=k8_ (λc=>cl.all (tr · c)) ((im_ S W).take j)
      rw[c9_] at hb
      exact c6_ hb (Nat.min_le_left _ _)
    · show (((im_ S W).take (j+1)).filter _).length=_
      rw[d7_,pr_ hSp W j hj,n6_,a8_]
      cases hp:cl.all (tr · (dig S W j))<;>simp[hp,cn]
  have step:∀ j,j<S ^ W→∀ m:Int,(j+1<S ^ W→bq5 l m (dig S W j)=some (inl ((),((),(dig S W (j+1),((m,()),()))))))∧(j+1=S ^ W→bq5 l m (dig S W j)=some (inr (inr (m,())))):=by
    intro j hj m
    obtain⟨i,c,o1,o2,o3⟩:=odo hl hS W j 0 (by omega)
    simp only[List.replicate_zero,e8_] at o1 o3
    rw[← hW,← hl.ww] at o1
    constructor
    · intro h
      obtain⟨p1,x,p2,p3⟩:=o3 h
      unfold bq5
      rw[o1,a0_]
      simp only[show decide (i<0)=false from c1_ (by omega),a2_,p2,a0_,p3]
    · intro h
      unfold bq5
      rw[o1,a0_]
      simp only[show decide (i<0)=true from b5_ (o2 h),a5_]
  have body:∀ j,j<S ^ W→(((fu_ cl (dig S W j)).bind λv2=>(cond (decide (v2.1<0)) (bq5 l (w64 ((cn j:Int)+1)) (dig S W j)) (bq5 l (cn j) (dig S W j)))))=bq5 l ((cn (j+1):Nat):Int) (dig S W j):=by
    intro j hj
    obtain⟨r,r1,r2⟩:=au5 hl hn hc (hok j hj)
    obtain⟨q1,q2⟩:=hcn j hj
    rw[r1,a0_,r2,q2]
    cases cl.all (tr · (dig S W j)) with
    | false=>rfl
    | true=>rw[a5_,a5_,ba_ (show Sm (cn j) by unfold Sm;omega)]
  rw[cntX_eq]
  unfold cntX
  rw[rs_ (by omega) (by omega),a0_,show l.1.toNat=W by omega,bc1 S W]
  have hw:=bj2 (n:=S ^ W - 1) (F:=λj=>((),((),(dig S W j,(((cn j:Int),()),()))))) (r:=inr ((cn (S ^ W):Int),())) (body:=λ(v1:(Unit×(Unit×((List Int)×((Int×Unit)×Unit))))) =>
 ((fu_ cl v1.2.2.1).bind λv2 =>
 (cond (decide (v2.1<0)) (bq5 l (w64 (v1.2.2.2.1.1+1)) v1.2.2.1) (bq5 l v1.2.2.2.1.1 v1.2.2.1)))) (λj hj=>(body j (by omega)).trans ((step j (by omega) _).1 (by omega))) ((body (S ^ W - 1) (by omega)).trans (by
    rw[show S ^ W - 1+1=S ^ W by omega]
    exact (step (S ^ W - 1) (by omega) _).2 (by omega)))
  refine (congrArg (λo=>Option.bind o _) (show ag_ _ _=_ from hw)).trans ?_
  have e:cn (S ^ W)=(rdg l cl).length:=by
    show (((im_ S W).take (S ^ W)).filter _).length=_
    rw[← hlen,e1_]
    unfold rdg
    rw[hW,hS,b8_,b8_]
  rw[a0_,← e]
  rfl
theorem td_ {l:ab_} (hl:Lk l) {cl:List ak_} (hn:cl.length≤20) (hc:∀ c ∈ cl,dd_ l c=true):et_ l cl=some (0,()):=by
  unfold et_
  rw[lm_,nn_.2 hl,if_pos rfl,a0_]
  have:=mg_ (l:=cl) (by unfold Sm;omega) (λc=>!(dd_ l c)) (body:=λ(v1:(Int×Unit)) =>
 (cond (decide (v1.1<(cl.length:Int)))
 ((at? cl v1.1).bind λv2 =>
 ((di_ l v2).bind λv3 =>
 (cond (!v3.1)
 (some (inr (inr ((decide (0≤v1.1)),()))))
 (some (inl ((w64 (v1.1+1)),()))))))
 (some (inr (inl ()))))) (λi y hy=>by
    simp only[dlt (am_ hy),a5_,ah_ hy,a0_,og_ hl]
    cases dd_ l y<;>rfl) (by simp only[dnl,a2_])
  have ha:(cl.any λc=>!(dd_ l c))=false:=by
    rw[List.any_eq_false]
    intro c h
    simp[hc c h]
  rw[ha] at this
  simp only[show decide ((20:Int)<(cl.length:Int))=false from c1_ (by omega),l3_,a2_,this,a0_]
theorem an4 {l:ab_} (hl:Lk l) {cl:List ak_} (hn:cl.length≤20) (hc:∀ c ∈ cl,dd_ l c=true):cz_ l cl=some (((rdg l cl).length:Int),(0,())):=by
  unfold cz_
  rw[td_ hl hn hc,a0_]
  simp only[l3_,a2_,bh1 hl hn hc,a0_]
theorem sr_ {l:ab_} (hl:Lk l) {cl:List ak_} (hn:cl.length≤20) (hc:∀ c ∈ cl,dd_ l c=true) (hs:∀ c ∈ cl,Sm c.2.2.2.2.2.1.length):er_ l cl=some (0,()):=by
  unfold er_
  rw[ky_,nn_.2 hl,if_pos rfl,a0_]
  simp only[show decide ((20:Int)<(cl.length:Int))=false from c1_ (by omega),l3_,a2_]
  refine bn_ cl (λ_ c=>cond (dd_ l c) none (some (inr (11,()):Unit⊕(Int×Unit)))) (λi=>((i:Int),())) (r0:=inl ()) (λi c hi => ?_) ?_ ?_
  · simp only[dlt (am_ hi),a5_,ah_ hi,a0_,tt_ hl (hs c (b2_ hi)),ba_ (show Sm i by have:=am_ hi;unfold Sm;omega)]
    cases dd_ l c<;>rfl
  · simp only[dnl,a2_]
  · rw[ja_ (q:=λc=>dd_ l c),f0_.2 hc]
    rfl
theorem aj3 {l:ab_} (hl:Lk l) {cl:List ak_} (hn:cl.length≤20) (hc:∀ c ∈ cl,dd_ l c=true) (hs:∀ c ∈ cl,Sm c.2.2.2.2.2.1.length):jk_ l cl=some (((rdg l cl).length:Int),(0,())):=by
  unfold jk_
  rw[sr_ hl hn hc hs,a0_]
  simp only[l3_,a2_,bn6 hl hn hc,a0_]
theorem an3 {l:ab_} (hl:Lk l) (c:ak_) {k:List Int} (hk:dc_ l k=true):jm_ l c k=some (cond (dd_ l c) (tr c k) false,(cond (dd_ l c) 0 11,())):=by
  unfold jm_
  rw[um_ hl,a0_]
  cases hc:dd_ l c with
  | false=>rfl
  | true =>
    simp only[a5_,l3_,a2_]
    rw[nb_,nn_.2 hl,if_pos rfl,hk,if_pos rfl,a0_]
    simp only[l3_,a2_,(pm_ hl hc hk).2,a0_]
theorem ar5 {l:ab_} (hl:Lk l) {c:ak_} {k:List Int} (hc:dd_ l c=true) (hk:dc_ l k=true):ff_ c k=some (tr c k,()):=(pm_ hl hc hk).1
end
section
theorem zero_eq:kh_=la_:=rfl
def clOk (l:ab_) (c:ak_) (k:List Int):Bool:=dd_ l c&&tr c k
end
section
set_option maxRecDepth 10000
def ce0 (c:ak_):Bool:=c.1==0&&(c.2.1==0&&(c.2.2.1==0&&(c.2.2.2.1==0&&(c.2.2.2.2.1==0&&(((c.2.2.2.2.2.1.length:Int)==0)&&!c.2.2.2.2.2.2)))))
theorem ak2 (c:ak_):kh_ c=some (ce0 c,()):=by
  unfold kh_ ce0
  cases c.1==0 with
  | false=>rfl
  | true =>
  cases c.2.1==0 with
  | false=>rfl
  | true =>
  cases c.2.2.1==0 with
  | false=>rfl
  | true =>
  cases c.2.2.2.1==0 with
  | false=>rfl
  | true =>
  cases c.2.2.2.2.1==0 with
  | false=>rfl
  | true=>cases (c.2.2.2.2.2.1.length:Int)==0<;>rfl
theorem bf6 (c:ak_):la_ c=some (ce0 c,()):=by rw[← zero_eq];exact ak2 c
def twNt (g:ad_) (i:Nat) (n:cp_):Bool:=(g.2.2.2.1.take i).any λy=>y.1==n.1
def cdOk (g:ad_) (i:Nat) (l:ab_):Bool:=match g.2.2.1[i]? with
  | some k=>dc_ l k
  | none=>false
noncomputable def bq8 (g:ad_) (i:Nat) (n:cp_):Bool:=okN n.1&&(!(twNt g i n)&&(wi n.2.1 0 (w64 ((g.1.1.length:Int) - 1))&&(wi n.2.2.1 (-1) (w64 ((g.2.1.length:Int) - 1))&&(cond (decide (n.2.2.1<0)) (ce0 n.2.2.2.2) (match at? g.2.1 n.2.2.1,at? g.2.2.1 n.2.2.1 with
  | some l,some k=>clOk l n.2.2.2.2 k
  | _,_=>false)))))
def LkAll (g:ad_):Prop:=∀ (i:Nat) l,g.2.1[i]?=some l→Lk l∧∃ k,g.2.2.1[i]?=some k∧dc_ l k=true
theorem LkAll.at {g:ad_} (hg:SmG g) (h:LkAll g) {i:Int} (h0:¬ i<0) (hw:wi i (-1) (w64 ((g.2.1.length:Int) - 1))=true):∃ l k,at? g.2.1 i=some l∧at? g.2.2.1 i=some k∧Lk l∧dc_ l k=true:=by
  have hlk:=hg.lk
  rw[fy_ (by omega) (by omega)] at hw
  have hw:=ce_.1 hw
  obtain⟨l,hl⟩:=bd_ (l:=g.2.1) (i:=i.toNat) (by omega)
  obtain⟨h1,k,hk,h2⟩:=h _ l hl
  have hi:i=((i.toNat:Nat):Int):=by omega
  exact⟨l,k,by rw[hi];exact ah_ hl,by rw[hi];exact ah_ hk,h1,h2⟩
theorem bg6 {g:ad_} (hg:SmG g) (hL:LkAll g) {i:Nat} {n:cp_} (hn:g.2.2.2.1[i]?=some n):li_ g (i:Int) n=some (bq8 g i n,()):=by
  have hi:=am_ hn
  have hs:=hg.nt
  have hnm:=(hg.ntn n (ax_ hn)).1
  have ht:Sm (g.2.2.2.1.take i).length:=by rw[c9_];show _≤1000000000;omega
  unfold li_
  rw[ox_ (g2_ hi),a0_]
  refine e4_ (congrArg (λo=>Option.bind o _) (mg_ ht (λy=>y.1==n.1) (λk y hy => ?_) ?_)) ?_
  · simp only[dlt (am_ hy),a5_,ah_ hy,a0_]
    cases y.1==n.1<;>rfl
  · simp only[dnl,a2_]
  rw[a0_]
  simp only[bo7 (show Sm n.1.length by show _≤1000000000;omega),jy_,a0_]
  unfold bq8 okN twNt
  cases okW n.1 with
  | false=>simp only[g0_,e9_];rfl
  | true =>
  by_cases h12:(n.1.length:Int)≤12
  · rw[b5_ h12,c1_ (by omega:¬ 12<(n.1.length:Int))]
    cases (g.2.2.2.1.take i).any λy=>y.1==n.1 with
    | true=>rfl
    | false =>
    cases wi n.2.1 0 (w64 ((g.1.1.length:Int) - 1)) with
    | false=>rfl
    | true =>
    cases hw:wi n.2.2.1 (-1) (w64 ((g.2.1.length:Int) - 1)) with
    | false=>rfl
    | true =>
    cases hz:decide (n.2.2.1<0) with
    | true=>simp only[ak2];rfl
    | false =>
    obtain⟨l,k,e1,e2,h1,h2⟩:=hL.at hg (e2_ hz) hw
    simp only[e1,e2,e5_,g4_,a2_,a0_,an3 h1 _ h2,c2_]
    unfold clOk
    cases dd_ l n.2.2.2.2<;>rfl
  · rw[c1_ h12,b5_ (by omega:12<(n.1.length:Int))]
    rfl
theorem aq9 {g:ad_} (hg:SmG g) (hL:LkAll g) {i:Nat} {n:cp_} (hn:g.2.2.2.1[i]?=some n):jd_ g (i:Int)=some (bq8 g i n,()):=by
  have hi:=am_ hn
  have hs:=hg.nt
  have hnm:=(hg.ntn n (ax_ hn)).1
  have hgs:Sm n.2.2.2.2.2.2.2.2.2.1.length:=c6_ (hg.ntn n (ax_ hn)).2.2 (by decide)
  have hle:(g.2.2.2.1.take i).length=i:=by rw[c9_];omega
  unfold jd_
  rw[ah_ hn,a0_]
  refine bn_ (g.2.2.2.1.take i) (λ_ y=>cond (y.1==n.1) (some (inr (false,()):Unit⊕(Bool×Unit))) none) (λi=>((i:Int),())) (r0:=inl ()) (λk y hy => ?_) ?_ ?_
  · have hk:=am_ hy
    have hy':g.2.2.2.1[k]?=some y:=by
      rw[j5_] at hy
      split at hy
      · exact hy
      · cases hy
    simp only[dlt (show k<i by omega),a5_,ah_ hy',a0_,ba_ (show Sm k by show _≤1000000000;omega)]
    cases y.1==n.1<;>rfl
  · rw[hle]
    simp only[dnl,a2_]
  rw[hd_ (q:=λy:cp_=>y.1==n.1)]
  unfold bq8 twNt
  cases (g.2.2.2.1.take i).any λy=>y.1==n.1 with
  | true=>simp only[e5_,e9_,g0_];rfl
  | false =>
  simp only[a2_,j7_]
  unfold cd_
  simp only[jw_ (show Sm n.1.length by show _≤1000000000;omega),yt_,a0_]
  cases okN n.1 with
  | false=>rfl
  | true =>
  cases wi n.2.1 0 (w64 ((g.1.1.length:Int) - 1)) with
  | false=>rfl
  | true =>
  cases hw:wi n.2.2.1 (-1) (w64 ((g.2.1.length:Int) - 1)) with
  | false=>rfl
  | true =>
  cases hz:decide (n.2.2.1<0) with
  | true =>
    have hz:=f3_ hz
    have:=ce_.1 hw
    rw[show (n.2.2.1==-1)=true by rw[f4_];omega]
    simp only[bf6]
    rfl
  | false =>
    have hz:=e2_ hz
    obtain⟨l,k,e1,e2,h1,h2⟩:=hL.at hg hz hw
    rw[show (n.2.2.1==-1)=false by rw[o8_];omega]
    simp only[e1,e2,e5_,g4_,a2_,a0_,ui_ h1 hgs,c2_]
    unfold clOk
    cases hc:dd_ l n.2.2.2.2 with
    | false=>rfl
    | true =>
      simp only[a5_,show ((0:Int)==0)=true from rfl,ar5 h1 hc h2]
      rfl
noncomputable def cl_ (g:ad_):Int :=
  cond (cy_ g.1 != 0) (cy_ g.1) (cond (decide (8<(g.2.1.length:Int))||decide (16<(g.2.2.2.1.length:Int))) 2
   ((ga_ (λ_ l=>kl_ (okL l) 10) 0 g.2.1).getD
    (cond ((g.2.2.1.length:Int) != (g.2.1.length:Int)) 12
     ((ga_ (λi l=>kl_ (cdOk g i l) 12) 0 g.2.1).getD
      ((ga_ (λ_ (a:cv_)=>kl_ (!(decide ((g.2.1.length:Int)≤a.2.2.1))) 26) 0 g.1.2.2.2.2.1).getD
       ((ga_ (λi n=>sm_ (bq8 g i n) 40 (cOk g.1.2.1 n.2.2.2.1) 25) 0 g.2.2.2.1).getD
        (cond (wi g.2.2.2.2 1 100) 0 1)))))))
theorem ln_ {o:Option Int} {K:Unit→Option (Int×Unit)} {k:Int} (h:o=none→K ()=some (k,())):cd_ (left o) K (λy=>some y)=some (o.getD k,()):=by
  cases o with
  | none=>exact h rfl
  | some e=>rfl
theorem bt1 {g:ad_} (h1:ga_ (λ_ l=>kl_ (okL l) 10) 0 g.2.1=none) (h2:ga_ (λi l=>kl_ (cdOk g i l) 12) 0 g.2.1=none):LkAll g:=by
  intro i l hl
  refine⟨nn_.1 (kk_ (de_ h1 hl)),?_⟩
  have:=kk_ (de_ h2 hl)
  unfold cdOk at this
  cases hk:g.2.2.1[i]? with
  | none=>rw[hk] at this;cases this
  | some k=>rw[hk] at this;exact⟨k,rfl,this⟩
theorem mn_of (g:ad_):(cond (decide (8<(g.2.1.length:Int))) (some (true,())) (some ((decide (16<(g.2.2.2.1.length:Int))),())))=some (decide (8<(g.2.1.length:Int))||decide (16<(g.2.2.2.1.length:Int)),()):=by
  cases decide (8<(g.2.1.length:Int))<;>rfl
theorem yv_ {g:ad_} (hg:SmG g):gx_ g=some (cl_ g,()):=by
  have hlk:=hg.lk
  have hac:=hg.ac
  have hnt:=hg.nt
  unfold gx_ cl_
  rw[sq_ hg.room,a0_]
  cases hr:cy_ g.1 != 0 with
  | true=>rfl
  | false =>
  simp only[a2_]
  refine e4_ (congrArg (λo=>Option.bind o _) (mn_of g)) ?_
  rw[a0_]
  cases hm:(decide (8<(g.2.1.length:Int))||decide (16<(g.2.2.2.1.length:Int))) with
  | true=>rfl
  | false =>
  simp only[a2_]
  refine bu_ g.2.1 (λ_ l=>kl_ (okL l) 10) (λi y hy => ?_) ?_ (ln_ λhA => ?_)
  · have hi:=am_ hy
    simp only[dlt hi,a5_,ah_ hy,a0_,ba_ (show Sm i by show _≤1000000000;omega),lm_]
    unfold kl_
    cases okL y<;>rfl
  · simp only[dnl,a2_]
  cases hcl:((g.2.2.1.length:Int) != (g.2.1.length:Int)) with
  | true=>rfl
  | false =>
  have hcl:(g.2.2.1.length:Int)=(g.2.1.length:Int):=by simpa using hcl
  simp only[a2_]
  refine bu_ g.2.1 (λi l=>kl_ (cdOk g i l) 12) (λi y hy => ?_) ?_ (ln_ λhB => ?_)
  · have hi:=am_ hy
    obtain⟨k,hk⟩:=bd_ (l:=g.2.2.1) (i:=i) (by omega)
    have hy1:=kk_ (de_ hA hy)
    simp only[dlt hi,a5_,ah_ hy,ah_ hk,a0_,ba_ (show Sm i by show _≤1000000000;omega),nb_,hy1]
    unfold kl_ cdOk
    rw[hk]
    simp only
    cases dc_ y k<;>rfl
  · simp only[dnl,a2_]
  refine bu_ g.1.2.2.2.2.1 (λ_ (a:cv_)=>kl_ (!(decide ((g.2.1.length:Int)≤a.2.2.1))) 26) (λi y hy => ?_) ?_ (ln_ λhC => ?_)
  · have hi:=am_ hy
    simp only[dlt hi,a5_,ah_ hy,a0_,ba_ (show Sm i by show _≤1000000000;omega)]
    unfold kl_
    cases decide ((g.2.1.length:Int)≤y.2.2.1)<;>rfl
  · simp only[dnl,a2_]
  have hL:=bt1 hA hB
  refine bu_ g.2.2.2.1 (λi n=>sm_ (bq8 g i n) 40 (cOk g.1.2.1 n.2.2.2.1) 25) (λi y hy => ?_) ?_ (ln_ λhD => ?_)
  · have hi:=am_ hy
    simp only[dlt hi,a5_,ah_ hy,a0_,ba_ (show Sm i by show _≤1000000000;omega),bg6 hg hL hy,bg5 hg.room.th]
    unfold sm_
    cases bq8 g i y with
    | false=>rfl
    | true=>cases cOk g.1.2.1 y.2.2.2.1<;>rfl
  · simp only[dnl,a2_]
  rw[jy_,a0_]
  cases wi g.2.2.2.2 1 100<;>rfl
theorem vv_ {g:ad_} (hg:SmG g):hg_ g=some (cl_ g,()):=by
  have hlk:=hg.lk
  have hac:=hg.ac
  have hnt:=hg.nt
  unfold hg_ cl_
  rw[qi_ hg.room,a0_]
  cases hr:cy_ g.1 != 0 with
  | true=>rfl
  | false =>
  simp only[a2_]
  refine e4_ (congrArg (λo=>Option.bind o _) (mn_of g)) ?_
  rw[a0_]
  cases hm:(decide (8<(g.2.1.length:Int))||decide (16<(g.2.2.2.1.length:Int))) with
  | true=>rfl
  | false =>
  simp only[a2_]
  refine bu_ g.2.1 (λ_ l=>kl_ (okL l) 10) (λi y hy => ?_) ?_ (ln_ λhA => ?_)
  · have hi:=am_ hy
    simp only[dlt hi,a5_,ah_ hy,a0_,ba_ (show Sm i by show _≤1000000000;omega),ky_]
    unfold kl_
    cases okL y<;>rfl
  · simp only[dnl,a2_]
  cases hcl:((g.2.2.1.length:Int) != (g.2.1.length:Int)) with
  | true=>rfl
  | false =>
  have hcl:(g.2.2.1.length:Int)=(g.2.1.length:Int):=by simpa using hcl
  simp only[a2_]
  refine bu_ g.2.1 (λi l=>kl_ (cdOk g i l) 12) (λi y hy => ?_) ?_ (ln_ λhB => ?_)
  · have hi:=am_ hy
    obtain⟨k,hk⟩:=bd_ (l:=g.2.2.1) (i:=i) (by omega)
    have hy1:=kk_ (de_ hA hy)
    simp only[dlt (show i<g.2.2.1.length by omega),a5_,ah_ hy,ah_ hk,a0_,ba_ (show Sm i by show _≤1000000000;omega),uh_,hy1]
    unfold kl_ cdOk
    rw[hk]
    simp only
    cases dc_ y k<;>rfl
  · rw[← hcl]
    simp only[dnl,a2_]
  refine bu_ g.1.2.2.2.2.1 (λ_ (a:cv_)=>kl_ (!(decide ((g.2.1.length:Int)≤a.2.2.1))) 26) (λi y hy => ?_) ?_ (ln_ λhC => ?_)
  · have hi:=am_ hy
    simp only[dlt hi,a5_,ah_ hy,a0_,ba_ (show Sm i by show _≤1000000000;omega)]
    unfold kl_
    cases decide ((g.2.1.length:Int)≤y.2.2.1)<;>rfl
  · simp only[dnl,a2_]
  have hL:=bt1 hA hB
  refine bu_ g.2.2.2.1 (λi n=>sm_ (bq8 g i n) 40 (cOk g.1.2.1 n.2.2.2.1) 25) (λi y hy => ?_) ?_ (ln_ λhD => ?_)
  · have hi:=am_ hy
    have hw:=(hg.ntn y (ax_ hy)).2.1
    simp only[dlt hi,a5_,ah_ hy,a0_,ba_ (show Sm i by show _≤1000000000;omega),aq9 hg hL hy,gs_ hg.room.th (show Sm y.2.2.2.1.length by show _≤1000000000;omega)]
    unfold sm_
    cases bq8 g i y with
    | false=>rfl
    | true=>cases cOk g.1.2.1 y.2.2.2.1<;>rfl
  · simp only[dnl,a2_]
  rw[yt_,a0_]
  cases wi g.2.2.2.2 1 100<;>rfl
structure OkG (g:ad_):Prop where
  room:cy_ g.1=0
  n8:g.2.1.length≤8
  n16:g.2.2.2.1.length≤16
  lk:LkAll g
  cd:g.2.2.1.length=g.2.1.length
  ac:∀ (i:Nat) (a:cv_),g.1.2.2.2.2.1[i]?=some a→a.2.2.1<(g.2.1.length:Int)
  nt:∀ (i:Nat) n,g.2.2.2.1[i]?=some n→bq8 g i n=true∧cOk g.1.2.1 n.2.2.2.1=true
  tr:wi g.2.2.2.2 1 100=true
theorem dk_ {g:ad_} (h:cl_ g=0):OkG g:=by
  unfold cl_ at h
  cases hr:cy_ g.1 != 0 with
  | true =>
    rw[hr] at h
    rw[o0_] at hr
    exact absurd h hr
  | false =>
  rw[hr,a2_] at h
  cases hm:(decide (8<(g.2.1.length:Int))||decide (16<(g.2.2.2.1.length:Int))) with
  | true=>rw[hm] at h;exact absurd (show (2:Int)=0 from h) (by decide)
  | false =>
  rw[hm,a2_] at h
  rw[c0_] at hm
  have m1:=e2_ hm.1
  have m2:=e2_ hm.2
  obtain⟨hA,h⟩:=ge_ h (ju_ (λi x=>xm_ (by decide)) _ _)
  cases hcl:((g.2.2.1.length:Int) != (g.2.1.length:Int)) with
  | true=>rw[hcl] at h;exact absurd (show (12:Int)=0 from h) (by decide)
  | false =>
  rw[hcl,a2_] at h
  have hcl:(g.2.2.1.length:Int)=(g.2.1.length:Int):=by simpa using hcl
  obtain⟨hB,h⟩:=ge_ h (ju_ (λi x=>xm_ (by decide)) _ _)
  obtain⟨hC,h⟩:=ge_ h (ju_ (λi x=>xm_ (by decide)) _ _)
  obtain⟨hD,h⟩:=ge_ h (ju_ (λi x=>xl_ (by decide) (by decide)) _ _)
  refine⟨by simpa using hr,by omega,by omega,bt1 hA hB,by omega,λi a ha => ?_,λi n hn=>oa_ (de_ hD hn),?_⟩
  · have:=kk_ (de_ hC ha)
    simpa using this
  · cases hw:wi g.2.2.2.2 1 100 with
    | true=>rfl
    | false=>rw[hw] at h;exact absurd (show (1:Int)=0 from h) (by decide)
end
section
set_option maxRecDepth 10000
theorem bo_ {σ ρ:Type} {body:σ→Option (σ⊕ρ)} {s t:σ} {r:ρ} (h:body s=some (.inl t)) (e:ag_ body t=some r):ag_ body s=some r:=by
  obtain⟨k,hk⟩:=hp_.1 e
  exact oo_ (k:=k+1) (by rw[at4 h];exact hk)
theorem br_ {σ ρ:Type} {body:σ→Option (σ⊕ρ)} {s:σ} {r:ρ} (h:body s=some (.inr r)):ag_ body s=some r:=oo_ (k:=1) (uy_ h)
theorem ao1 {α τ σ ρ υ:Type} (l:List α) (f:Nat→τ→α→τ) (F:Nat→τ→σ) (R:τ→ρ) (t0:τ) {body:σ→Option (σ⊕ρ)} (I:Nat→τ→Prop) {K:ρ→Option υ} {x:Option υ} (h0:I 0 t0)
    (h:∀ i x t,l[i]?=some x→I i t→body (F i t)=some (.inl (F (i+1) (f i t x)))∧I (i+1) (f i t x)) (e:∀ t,I l.length t→body (F l.length t)=some (.inr (R t))) (hk:∀ t,I l.length t→K (R t)=x) :
    (ag_ body (F 0 t0)).bind K=x:=by
  obtain⟨t,h1,h2⟩:=kc_ l f F R t0 I h0 h e
  rw[h2,a0_]
  exact hk t h1
theorem cb2 {np:Nat} {l:List Int} (h:kp_ np l=true):∀ x ∈ l,0≤x∧x<(np:Int):=by
  intro x hx
  obtain⟨i,hi⟩:=f8_ hx
  rw[← cu3] at h
  have:=(aa6 l).1 h i x hi
  unfold badQ at this
  rw[c0_] at this
  have h1:wi x 0 ((np:Int) - 1)=true:=by simpa using this.1
  have:=ce_.1 h1
  omega
structure ActIn (r:ae_) (a:cv_):Prop where
  us:∀ p ∈ a.2.2.2.1,0≤p∧p<(r.2.2.1.length:Int)
  sp:∀ p ∈ a.2.2.2.2.2.2.1,0≤p∧p<(r.2.2.1.length:Int)
  br:∀ p ∈ a.2.2.2.2.2.2.2,0≤p∧p<(r.2.2.1.length:Int)
  st:∀ x ∈ a.2.2.2.2.2.1,ng_ r.2.1 x.1 x.2=true
theorem be0 {r:ae_} {i:Nat} {a:cv_} (h:uo_ r i a=true):ActIn r a:=by
  unfold uo_ at h
  simp only[a1_] at h
  obtain⟨_,_,_,h1,h2,h3,_,_,_,h4⟩:=h
  refine⟨cb2 h1,cb2 h2,cb2 h3,λx hx => ?_⟩
  obtain⟨j,hj⟩:=f8_ hx
  rw[Option.isNone_iff_eq_none] at h4
  have:=de_ h4 hj
  cases hs:rf_ r a.2.2.2.2.2.1 j x with
  | false=>rw[hs] at this;cases this
  | true =>
    unfold rf_ at hs
    rw[a1_] at hs
    exact hs.1
theorem cr_ {α:Type} {l:List α} (hl:Sm l.length) (i:Int):(wi i 0 (w64 ((l.length:Int) - 1))=false∧at? l i=none)∨∃ (j:Nat) (x:α),i=(j:Int)∧l[j]?=some x∧wi i 0 (w64 ((l.length:Int) - 1))=true∧at? l i=some x:=by
  rw[fy_ (by omega) (by omega)]
  by_cases h:0≤i∧i<(l.length:Int)
  · obtain⟨x,hx⟩:=bd_ (l:=l) (i:=i.toNat) (by omega)
    have hi:i=((i.toNat:Nat):Int):=by omega
    exact .inr ⟨i.toNat,x,hi,hx,ce_.2 (by omega),by rw[hi];exact ah_ hx⟩
  · refine .inl ⟨?_,?_⟩
    · cases hw:wi i 0 ((l.length:Int) - 1) with
      | false=>rfl
      | true=>have:=ce_.1 hw;omega
    · unfold at?
      split
      · exact b9_ (by omega)
      · rfl
def lr_ (pr:List Int) (h:Int):Nat:=pr.countP (· == h)
theorem va_ (pr:List Int) (h:Int):lr_ pr h≤pr.length:=j4_
theorem be7 {t:hb_} (h:Sm t.2.2.1.length) (p:Int):df_ t p=some ((lr_ t.2.2.1 (w64 ((-2) - p)):Int),()):=by
  unfold df_
  refine ao1 t.2.2.1 (λ_ (c:Nat) x=>cond (x==w64 ((-2) - p)) (c+1) c) (λi c=>((c:Int),((i:Int),()))) (λc=>((c:Int),())) 0 (λi c=>c=lr_ (t.2.2.1.take i) (w64 ((-2) - p))) rfl (λi x c hx hc => ?_) (λc hc => ?_) (λc hc => ?_)
  · have hi:=am_ hx
    have hcl:c≤i:=by rw[hc];refine c6_ (va_ _ _) ?_;rw[c9_];omega
    have hn:lr_ (t.2.2.1.take (i+1)) (w64 ((-2) - p))=cond (x==w64 ((-2) - p)) (c+1) c:=by
      unfold lr_
      rw[d7_,hx,hc,List.countP_append]
      unfold lr_
      cases hq:x==w64 ((-2) - p) with
      | true=>simp[hq]
      | false=>simp[hq]
    refine⟨?_,hn.symm⟩
    simp only[dlt hi,a5_,ah_ hx,a0_,ba_ (show Sm i by omega)]
    cases hq:x==w64 ((-2) - p) with
    | true=>simp only[a5_,a0_,ba_ (show Sm c by omega)]
    | false=>rfl
  · simp only[dnl,a2_]
  · rw[e1_] at hc
    rw[hc]
abbrev hdl (m:af_):Int:=w64 ((-2) - m.1)
def lgl (r:ae_) (s:ai_) (m:af_):Bool :=
  wi m.1 0 (w64 ((s.2.2.length:Int) - 1)) &&
  cond (m.2.1==1) ((at? r.2.2.2.1 m.2.2).elim false λw=>(w.1==gi s.2.2 m.1||w.2.1==gi s.2.2 m.1)&&dl_ s.1 w.2.2)
  (cond (m.2.1==2) ((at? r.2.2.1 m.2.2).elim false λx=>gi s.2.1 m.2.2==gi s.2.2 m.1&&(dl_ s.1 x.2.2&&decide ((lr_ s.2.1 (hdl m):Int)<3)))
  (cond (m.2.1==3) ((at? s.2.1 m.2.2).elim false λp=>p==hdl m)
  (cond (m.2.1==4) ((at? r.2.2.2.2.1 m.2.2).elim false λa=>a.2.1==gi s.2.2 m.1&&((a.2.2.2.1.all λp=>gi s.2.1 p==hdl m)&&(dl_ s.1 a.2.2.2.2.1&&((a.2.2.2.2.2.2.2.all λp=>gi s.2.1 p==-1)&&decide ((lr_ s.2.1 (hdl m):Int) - (a.2.2.2.2.2.2.1.length:Int)+(a.2.2.2.2.2.2.2.length:Int)≤3)))))
   false)))
theorem bd8 {l t:List Int} (hl:Sm l.length) (hi:∀ p ∈ l,0≤p∧p<(t.length:Int)) (h:Int) :
    ((ag_ (ρ:=(Unit⊕(Bool×Unit))) (λ(v15:(Int×Unit)) =>
 (cond (decide (v15.1<(l.length:Int)))
 ((at? l v15.1).bind λv16 =>
 ((at? t v16).bind λv17 =>
 (cond (!(v17==h))
 (some (inr (inr ((decide (0≤v15.1)),()))))
 (some (inl ((w64 (v15.1+1)),()))))))
 (some (inr (inl ()))))) (0,())).bind λv18 =>
 (cd_ v18 (λv19=>(some ((decide ((0:Int)≤(-1))),())))
 (λv20=>(some v20))))=some (!(l.all λp=>gi t p==h),()):=by
  refine e4_ (mg_ hl (λp=>!(gi t p==h)) (λi y hy => ?_) ?_) ?_
  · have:=hi y (ax_ hy)
    simp only[dlt (am_ hy),a5_,ah_ hy,a0_,ol_ this.1 this.2]
    cases gi t y==h<;>rfl
  · simp only[dnl,a2_]
  · rw[← tl_,Bool.not_not]
theorem vo_ {r:ae_} (h:SmR r) (ok:OkR r) {s:ai_} (hv:VS r s) (m:af_):cx_ (r,s) m=some (lgl r s m,()):=by
  obtain⟨m1,m2,m3⟩:=py_ h ok hv
  have hl1:=hv.l1
  have hl2:=hv.l2
  have hH:∀ {c:List bf_},cOk r.2.1 c=true→bb_ (r,s) c=some (dl_ s.1 c,()):=λ{c} hc=>by
    obtain⟨c1,c2⟩:=ua_ h.th hc
    exact mi_ (t:=(r,s)) (show c.length≤1000000000 by omega) (by show InC s.1.length c;rw[hl1];exact c1)
  have hD:df_ (r,s) m.1=some ((lr_ s.2.1 (hdl m):Int),()):=be7 (t:=(r,s)) m2 m.1
  have hDl:=va_ s.2.1 (hdl m)
  unfold cx_ lgl
  simp only[dt_,a0_]
  rcases cr_ m3 m.1 with ⟨e1,_⟩ | ⟨pj,px,hpj,hp,e1,e2⟩
  · rw[e1];rfl
  · have eg:gi s.2.2 m.1=px:=mr_ e2
    simp only[e1,e2,eg,e5_,a2_,a0_,c2_]
    cases hk1:m.2.1==1 with
    | true =>
      simp only[a5_]
      rcases cr_ h.wy m.2.2 with ⟨f1,f2⟩ | ⟨j,w,hj,hw,f1,f2⟩
      · simp only[f1,f2];rfl
      · simp only[f1,f2,e5_,a2_,a0_,hH (ok.wy j w hw).2]
        show _=some ((w.1==px||w.2.1==px)&&dl_ s.1 w.2.2,())
        cases w.1==px with
        | true=>rfl
        | false=>cases w.2.1==px<;>rfl
    | false =>
    simp only[a2_]
    cases hk2:m.2.1==2 with
    | true =>
      simp only[a5_]
      rcases cr_ m2 m.2.2 with ⟨f1,f2⟩ | ⟨j,p,hj,hp,f1,f2⟩
      · have f3:at? r.2.2.1 m.2.2=none:=by
          rcases cr_ h.pr m.2.2 with ⟨_,g2⟩ | ⟨j,x,hj,hx,g1,g2⟩
          · exact g2
          · rw[← hl2,f1] at g1;cases g1
        simp only[f1,f3,a2_];rfl
      · obtain⟨x,hx⟩:=bd_ (l:=r.2.2.1) (i:=j) (by have:=am_ hp;omega)
        have f3:at? r.2.2.1 m.2.2=some x:=by rw[hj];exact ah_ hx
        have f4:gi s.2.1 m.2.2=p:=mr_ f2
        simp only[f1,f2,f3,f4,a5_,a0_,hH (ok.pr j x hx).2,hD]
        show _=some (p==px&&(dl_ s.1 x.2.2&&decide ((lr_ s.2.1 (hdl m):Int)<3)),())
        cases p==px with
        | false=>rfl
        | true=>cases dl_ s.1 x.2.2<;>rfl
    | false =>
    simp only[a2_]
    cases hk3:m.2.1==3 with
    | true =>
      simp only[a5_]
      rcases cr_ m2 m.2.2 with ⟨f1,f2⟩ | ⟨j,p,hj,hp,f1,f2⟩
      · simp only[f1,f2];rfl
      · simp only[f1,f2,a5_,a0_];rfl
    | false =>
    simp only[a2_]
    cases hk4:m.2.1==4 with
    | false=>rfl
    | true =>
      simp only[a5_]
      rcases cr_ h.ac m.2.2 with ⟨f1,f2⟩ | ⟨j,a,hj,ha,f1,f2⟩
      · simp only[f1,f2];rfl
      · obtain⟨oa,oc⟩:=ok.ac j a ha
        have ai:=be0 oa
        obtain⟨s1,s2,s3,s4,s5,s6⟩:=h.acn a (ax_ ha)
        simp only[f1,f2,e5_,a2_,a0_]
        show _=some (a.2.1==px&&((a.2.2.2.1.all λp=>gi s.2.1 p==hdl m)&&(dl_ s.1 a.2.2.2.2.1&&((a.2.2.2.2.2.2.2.all λp=>gi s.2.1 p==-1)&&decide ((lr_ s.2.1 (hdl m):Int) - (a.2.2.2.2.2.2.1.length:Int)+(a.2.2.2.2.2.2.2.length:Int)≤3)))),())
        cases a.2.1==px with
        | false=>rfl
        | true =>
        simp only[a5_,c2_]
        refine e4_ (congrArg (λo=>Option.bind o _) (bd8 s2 (λp hp=>by have:=ai.us p hp;omega) (hdl m))) ?_
        rw[a0_]
        cases a.2.2.2.1.all λp=>gi s.2.1 p==hdl m with
        | false=>rfl
        | true =>
        simp only[e5_,g4_,a5_,hH oc,a0_,c2_]
        cases dl_ s.1 a.2.2.2.2.1 with
        | false=>rfl
        | true =>
        simp only[a5_,c2_]
        refine e4_ (congrArg (λo=>Option.bind o _) (bd8 s6 (λp hp=>by have:=ai.br p hp;omega) (-1))) ?_
        rw[a0_]
        cases a.2.2.2.2.2.2.2.all λp=>gi s.2.1 p==-1 with
        | false=>rfl
        | true =>
        simp only[e5_,g4_,a5_,hD,a0_,c2_]
        rw[fy_ (n:=(lr_ s.2.1 (hdl m):Int) - _) (by omega) (by omega),fy_ (by omega) (by omega)]
theorem aa4 {α:Type} (l:List α) (hl:Sm l.length) (ix vl:α→Int) (t:List Int) (hi:∀ x ∈ l,0≤ix x∧ix x<(t.length:Int)) {body:(Int×(List Int×Unit))→Option ((Int×(List Int×Unit))⊕(List Int×Unit))}
    (hb:∀ (i:Nat) (x:α) (t':List Int) (y:Int),l[i]?=some x→at? t' (ix x)=some y→body ((i:Int),(t',()))=some (.inl (w64 ((i:Int)+1),(t'.set (ix x).toNat (vl x),())))) (e:∀ t',body ((l.length:Int),(t',()))=some (.inr (t',()))) :
    ag_ body (0,(t,()))=some (l.foldl (λt x=>t.set (ix x).toNat (vl x)) t,()):=by
  obtain⟨z,⟨_,hz⟩,e⟩:=kc_ l (λ_ t x=>t.set (ix x).toNat (vl x)) (λi t=>((i:Int),(t,()))) (λt=>(t,())) t (body:=body) (λi t'=>t'.length=t.length∧t'=(l.take i).foldl (λt x=>t.set (ix x).toNat (vl x)) t) ⟨rfl,rfl⟩ (λi x t' hx ht=>by
    obtain⟨h1,h2⟩:=ht
    have hil:=am_ hx
    have:=hi x (ax_ hx)
    refine⟨?_,by rw[f7_,h1],?_⟩
    · rw[hb i x t' _ hx (ol_ this.1 (by omega)),ba_ (show Sm i by omega)]
    · rw[d7_,hx,o4_,← h2]
      rfl) (λt' _=>e t')
  rw[e1_] at hz
  rw[← hz]
  exact e
def mvP (r:ae_) (s:ai_) (m:af_):ai_ :=
  cond (m.2.1==1) ((at? r.2.2.2.1 m.2.2).elim s λw=>(s.1,(s.2.1,s.2.2.set m.1.toNat (w.1+w.2.1 - gi s.2.2 m.1))))
  (cond (m.2.1==2) (s.1,(s.2.1.set m.2.2.toNat (hdl m),s.2.2))
  (cond (m.2.1==3) (s.1,(s.2.1.set m.2.2.toNat (gi s.2.2 m.1),s.2.2))
  (cond (m.2.1==4) ((at? r.2.2.2.2.1 m.2.2).elim s λa=>(a.2.2.2.2.2.1.foldl (λt x=>t.set x.1.toNat x.2) s.1,(a.2.2.2.2.2.2.2.foldl (λt p=>t.set p.toNat (hdl m)) (a.2.2.2.2.2.2.1.foldl (λt p=>t.set p.toNat (-1)) s.2.1),s.2.2)))
   s)))
theorem xw_ {α:Type} {l:List α} {P:α→Prop} (h:∀ (i:Nat) x,l[i]?=some x→P x) {j:Nat} {v:α} (hv:P v):∀ (i:Nat) x,(l.set j v)[i]?=some x→P x:=by
  intro i x hx
  rw[g1_] at hx
  split at hx
  · split at hx
    · obtain rfl:=a6_ hx
      exact hv
    · cases hx
  · exact h i x hx
theorem nx_ {α τ:Type} {f:τ→α→τ} {P:τ→Prop}:∀ (l:List α) (t:τ),P t→(∀ t x,x ∈ l→P t→P (f t x))→P (l.foldl f t)
  | [],t,h,_=>h
  | x::l,t,h,hf=>nx_ l (f t x) (hf t x (d9_ ..) h) λt y hy=>hf t y (d3_ _ hy)
theorem aa3 {α:Type} (ix vl:α→Int) (l:List α) (t:List Int):(l.foldl (λt x=>t.set (ix x).toNat (vl x)) t).length=t.length :=
  nx_ (P:=λt'=>t'.length=t.length) l t rfl λt' x _ h=>by rw[f7_,h]
theorem kz_ {r:ae_} (h:SmR r) {p:Int}:rw_ r p=true↔0≤p∧p<(r.1.length:Int):=by
  have:=h.pl
  unfold rw_
  rw[ce_,fy_ (by omega) (by omega)]
  omega
theorem ad7 {r:ae_} (h:SmR r) (ok:OkR r) {p:Int}:inR r p=true↔(-2) - r.2.2.2.2.2.2.1<p∧p<(r.1.length:Int):=by
  have:=h.pl
  have hp:=ce_.1 ok.py
  unfold inR
  rw[ce_,fy_ (n:=(-2) - r.2.2.2.2.2.2.1) (by omega) (by omega),fy_ (by omega) (by omega),fy_ (by omega) (by omega)]
  omega
theorem pl_pos {r:ae_} (ok:OkR r):0<r.1.length:=by
  have hne:r.1.length≠0:=λe=>ok.ne (n5_.1 e)
  omega
theorem hdl_eq {r:ae_} (ok:OkR r) {s:ai_} (hv:VS r s) {m:af_} {j:Nat} {x:Int} (hj:m.1=(j:Int)) (hx:s.2.2[j]?=some x):hdl m=(-2) - m.1∧m.1<r.2.2.2.2.2.2.1:=by
  have hp:=ce_.1 ok.py
  have:=am_ hx
  have:=hv.l3
  exact⟨fy_ (by omega) (by omega),by omega⟩
theorem bt3 {r:ae_} {s:ai_} {m:af_} (m3:Sm s.2.2.length) (hl:lgl r s m=true):∃ (j:Nat) (x:Int),m.1=(j:Int)∧s.2.2[j]?=some x∧at? s.2.2 m.1=some x:=by
  unfold lgl at hl
  rw[a1_] at hl
  rcases cr_ m3 m.1 with ⟨e1,_⟩ | ⟨pj,px,hpj,hp,e1,e2⟩
  · rw[e1] at hl;cases hl.1
  · exact⟨pj,px,hpj,hp,e2⟩
theorem VS_mv {r:ae_} (h:SmR r) (ok:OkR r) {s:ai_} (hv:VS r s) {m:af_} (hl:lgl r s m=true):VS r (mvP r s m):=by
  obtain⟨m1,m2,m3⟩:=py_ h ok hv
  obtain⟨pj,px,hpj,hp,e2⟩:=bt3 m3 hl
  obtain⟨d1,d2⟩:=hdl_eq ok hv hpj hp
  have hpy:=ce_.1 ok.py
  have hpos:=pl_pos ok
  have hhd:inR r (hdl m)=true:=(ad7 h ok).2 (by omega)
  have hm1:inR r (-1)=true:=(ad7 h ok).2 (by omega)
  unfold lgl at hl
  rw[a1_] at hl
  have hl:=hl.2
  have eg:gi s.2.2 m.1=px:=mr_ e2
  have hpx:=hv.py _ _ hp
  unfold mvP
  cases hk1:m.2.1==1 with
  | true =>
    rw[hk1] at hl
    simp only[a5_] at hl ⊢
    cases hw:at? r.2.2.2.1 m.2.2 with
    | none=>exact hv
    | some w =>
      rw[hw] at hl
      have hl:((w.1==gi s.2.2 m.1||w.2.1==gi s.2.2 m.1)&&dl_ s.1 w.2.2)=true:=hl
      rw[a1_,c8_,f4_,f4_] at hl
      rcases cr_ h.wy m.2.2 with ⟨f1,f2⟩ | ⟨j,w',hj,hw',f1,f2⟩
      · rw[f2] at hw;cases hw
      · rw[f2] at hw
        obtain rfl:=a6_ hw
        have ow:=(ok.wy j w' hw').1
        unfold cd0 at ow
        simp only[a1_] at ow
        have o1:=(kz_ h).1 ow.1
        have o2:=(kz_ h).1 ow.2.1
        refine⟨hv.l1,hv.l2,by show ((s.2.2.set _ _).length:Int)=_;rw[f7_];exact hv.l3,hv.th,hv.pr,xw_ hv.py ((kz_ h).2 ?_)⟩
        rcases hl.1 with e | e<;>omega
  | false =>
  rw[hk1] at hl
  simp only[a2_] at hl ⊢
  cases hk2:m.2.1==2 with
  | true=>exact⟨hv.l1,by show (s.2.1.set _ _).length=_;rw[f7_];exact hv.l2,hv.l3,hv.th,xw_ hv.pr hhd,hv.py⟩
  | false =>
  rw[hk2] at hl
  simp only[a2_] at hl ⊢
  cases hk3:m.2.1==3 with
  | true =>
    refine⟨hv.l1,by show (s.2.1.set _ _).length=_;rw[f7_];exact hv.l2,hv.l3,hv.th,xw_ hv.pr ?_,hv.py⟩
    rw[eg]
    have:=(kz_ h).1 hpx
    exact (ad7 h ok).2 (by omega)
  | false =>
  rw[hk3] at hl
  simp only[a2_] at hl ⊢
  cases hk4:m.2.1==4 with
  | false=>exact hv
  | true =>
    simp only[a5_]
    rcases cr_ h.ac m.2.2 with ⟨f1,f2⟩ | ⟨j,a,hj,ha,f1,f2⟩
    · rw[f2];exact hv
    · rw[f2]
      have ai:=be0 (ok.ac j a ha).1
      have hth:VT r (a.2.2.2.2.2.1.foldl (λt x=>t.set x.1.toNat x.2) s.1):=nx_ (P:=VT r) _ _ ⟨hv.l1,hv.th⟩ λt x hx ht=>cb9 h ok ht (ai.st x hx)
      have hpr:∀ (i:Nat) p,(a.2.2.2.2.2.2.2.foldl (λt p=>t.set p.toNat (hdl m)) (a.2.2.2.2.2.2.1.foldl (λt p=>t.set p.toNat (-1)) s.2.1))[i]?=some p→inR r p=true:=by
        refine nx_ (P:=λt=>∀ (i:Nat) p,t[i]?=some p→inR r p=true) _ _ ?_ λt x hx ht=>xw_ ht hhd
        exact nx_ (P:=λt=>∀ (i:Nat) p,t[i]?=some p→inR r p=true) _ _ hv.pr λt x hx ht=>xw_ ht hm1
      refine⟨hth.1,?_,hv.l3,hth.2,hpr,hv.py⟩
      show (a.2.2.2.2.2.2.2.foldl (λt p=>t.set p.toNat (hdl m)) (a.2.2.2.2.2.2.1.foldl (λt p=>t.set p.toNat (-1)) s.2.1)).length=_
      rw[aa3 (λp=>p) (λ_=>hdl m),aa3 (λp=>p) (λ_=>-1)]
      exact hv.l2
end
end Go.Proofs.YtgeehfnbhbibeaaGreatDoor.Rx
namespace Go.Proofs.YtgeehfnbhbibeaaGreatDoor.Rx
open Go Pad Rex Go.Proofs Go.Proofs.Tryz Sum
section
set_option maxRecDepth 100000
noncomputable def mvX (a0:ae_) (a2:af_) (v1 v2 v3:List Int):Option (List Int×(List Int×(List Int×Unit))) :=
 (cond (a2.2.1==1)
 ((at? a0.2.2.2.1 a2.2.2).bind λv5 =>
 ((at? v3 a2.1).bind λv6 =>
 ((at? v3 a2.1).bind λv7 =>
 ((at? v3 a2.1).bind λv8 =>
 ((at? v3 a2.1).bind λv9 =>
 (some (v1,(v2,((v3.set a2.1.toNat (w64 ((w64 (v5.1+v5.2.1)) - v7))),())))))))))
 (cond (a2.2.1==2)
 ((at? v2 a2.2.2).bind λv10 =>
 ((at? v2 a2.2.2).bind λv11 =>
 (some (v1,((v2.set a2.2.2.toNat (w64 ((-2) - a2.1))),(v3,()))))))
 (cond (a2.2.1==3)
 ((at? v3 a2.1).bind λv12 =>
 ((at? v3 a2.1).bind λv13 =>
 ((at? v2 a2.2.2).bind λv14 =>
 ((at? v2 a2.2.2).bind λv15 =>
 (some (v1,((v2.set a2.2.2.toNat v13),(v3,()))))))))
 (cond (a2.2.1==4)
 ((at? a0.2.2.2.2.1 a2.2.2).bind λv16 =>
 ((ag_ (ρ:=((List Int)×Unit)) (λ(v17:(Int×((List Int)×Unit))) =>
 (cond (decide (v17.1<(v16.2.2.2.2.2.2.1.length:Int)))
 ((at? v16.2.2.2.2.2.2.1 v17.1).bind λv18 =>
 ((at? v17.2.1 v18).bind λv19 =>
 ((at? v17.2.1 v18).bind λv20 =>
 (some (inl ((w64 (v17.1+1)),((v17.2.1.set v18.toNat (-1)),())))))))
 (some (inr (v17.2.1,()))))) (0,(v2,()))).bind λv21 =>
 ((ag_ (ρ:=((List Int)×Unit)) (λ(v22:(Int×((List Int)×Unit))) =>
 (cond (decide (v22.1<(v16.2.2.2.2.2.2.2.length:Int)))
 ((at? v16.2.2.2.2.2.2.2 v22.1).bind λv23 =>
 ((at? v22.2.1 v23).bind λv24 =>
 ((at? v22.2.1 v23).bind λv25 =>
 (some (inl ((w64 (v22.1+1)),((v22.2.1.set v23.toNat (w64 ((-2) - a2.1))),())))))))
 (some (inr (v22.2.1,()))))) (0,(v21.1,()))).bind λv26 =>
 ((ag_ (ρ:=((List Int)×Unit)) (λ(v27:(Int×((List Int)×Unit))) =>
 (cond (decide (v27.1<(v16.2.2.2.2.2.1.length:Int)))
 ((at? v16.2.2.2.2.2.1 v27.1).bind λv28 =>
 ((at? v27.2.1 v28.1).bind λv29 =>
 ((at? v27.2.1 v28.1).bind λv30 =>
 (some (inl ((w64 (v27.1+1)),((v27.2.1.set v28.1.toNat v28.2),())))))))
 (some (inr (v27.2.1,()))))) (0,(v1,()))).bind λv31 =>
 (some (v31.1,(v26.1,(v3,()))))))))
 (some (v1,(v2,(v3,()))))))))
noncomputable def rstX (a0:ae_) (a1:ai_) (a2:af_):Option (ai_×(Int×Unit)) :=
 ((bw_ a0 a1).bind λv0 =>
 (cond (v0.1 != 0)
 (some (([],([],[])),(v0.1,())))
 ((push? (α:=Int) [] a1.1).bind λv1 =>
 ((push? (α:=Int) [] a1.2.1).bind λv2 =>
 ((push? (α:=Int) [] a1.2.2).bind λv3 =>
 ((cx_ (a0,(v1,(v2,v3))) a2).bind λv4 =>
 (cond (!v4.1)
 (some (([],([],[])),(29,())))
 ((mvX a0 a2 v1 v2 v3).bind λv32 =>
 ((((ag_ (ρ:=(((List Int)×Unit)⊕(Bool×((List Int)×Unit)))) (setB a0 v32.2.1 v32.2.2.1) (0,(v32.1,()))).bind λv48 =>
 (cd_ v48 (λv49=>(some ((!false),(v49.1,()))))
 (λv50=>(some v50))))).bind λv51 =>
 (cond v51.1
 (some (([],([],[])),(27,())))
 (some ((v51.2.1,(v32.2.1,v32.2.2.1)),(0,())))))))))))))
theorem rstX_eq:fb_=rstX:=by kernel_rfl
theorem cr2 {r:ae_} (h:SmR r) (ok:OkR r) {s:ai_} (hv:VS r s) {m:af_} (hl:lgl r s m=true):mvX r m s.1 s.2.1 s.2.2=some ((mvP r s m).1,((mvP r s m).2.1,((mvP r s m).2.2,()))):=by
  obtain⟨m1,m2,m3⟩:=py_ h ok hv
  have hl1:=hv.l1
  have hl2:=hv.l2
  obtain⟨pj,px,hpj,hp,e2⟩:=bt3 m3 hl
  have eg:gi s.2.2 m.1=px:=mr_ e2
  have hpx:=(kz_ h).1 (hv.py _ _ hp)
  have hpl:=h.pl
  unfold lgl at hl
  rw[a1_] at hl
  have hl:=hl.2
  unfold mvX mvP
  cases hk1:m.2.1==1 with
  | true =>
    rw[hk1] at hl
    simp only[a5_] at hl ⊢
    rcases cr_ h.wy m.2.2 with ⟨f1,f2⟩ | ⟨j,w,hj,hw,f1,f2⟩
    · rw[f2] at hl;cases hl
    · have ow:=(ok.wy j w hw).1
      unfold cd0 at ow
      simp only[a1_] at ow
      have o1:=(kz_ h).1 ow.1
      have o2:=(kz_ h).1 ow.2.1
      simp only[f2,e2,eg,a0_,Option.elim]
      rw[fy_ (n:=w.1+w.2.1) (by omega) (by omega),fy_ (by omega) (by omega)]
  | false =>
  rw[hk1] at hl
  simp only[a2_] at hl ⊢
  cases hk2:m.2.1==2 with
  | true =>
    rw[hk2] at hl
    simp only[a5_] at hl ⊢
    rcases cr_ h.pr m.2.2 with ⟨f1,f2⟩ | ⟨j,x,hj,hx,f1,f2⟩
    · rw[f2] at hl;cases hl
    · have:=am_ hx
      rw[ol_ (l:=s.2.1) (i:=m.2.2) (by omega) (by omega)]
      rfl
  | false =>
  rw[hk2] at hl
  simp only[a2_] at hl ⊢
  cases hk3:m.2.1==3 with
  | true =>
    rw[hk3] at hl
    simp only[a5_] at hl ⊢
    rcases cr_ m2 m.2.2 with ⟨f1,f2⟩ | ⟨j,x,hj,hx,f1,f2⟩
    · rw[f2] at hl;cases hl
    · simp only[f2,e2,eg,a0_]
  | false =>
  rw[hk3] at hl
  simp only[a2_] at hl ⊢
  cases hk4:m.2.1==4 with
  | false=>rfl
  | true =>
    rw[hk4] at hl
    simp only[a5_] at hl ⊢
    rcases cr_ h.ac m.2.2 with ⟨f1,f2⟩ | ⟨j,a,hj,ha,f1,f2⟩
    · rw[f2] at hl;cases hl
    · have ai:=be0 (ok.ac j a ha).1
      obtain⟨s1,s2,s3,s4,s5,s6⟩:=h.acn a (ax_ ha)
      simp only[f2,a0_,Option.elim]
      have hA:=aa4 a.2.2.2.2.2.2.1 s5 (λp=>p) (λ_=>-1) s.2.1 (λp hp=>by have:=ai.sp p hp;omega) (body:=(λ(v17:(Int×((List Int)×Unit))) =>
 (cond (decide (v17.1<(a.2.2.2.2.2.2.1.length:Int)))
 ((at? a.2.2.2.2.2.2.1 v17.1).bind λv18 =>
 ((at? v17.2.1 v18).bind λv19 =>
 ((at? v17.2.1 v18).bind λv20 =>
 (some (inl ((w64 (v17.1+1)),((v17.2.1.set v18.toNat (-1)),())))))))
 (some (inr (v17.2.1,())))))) (λi x t' y hx hy=>by simp only[dlt (am_ hx),a5_,ah_ hx,a0_,hy]) (λt'=>by simp only[dnl,a2_])
      rw[hA,a0_]
      have hl3:(a.2.2.2.2.2.2.1.foldl (λt p=>t.set p.toNat (-1)) s.2.1).length=s.2.1.length:=aa3 (λp=>p) (λ_=>-1) _ _
      have hB:=aa4 a.2.2.2.2.2.2.2 s6 (λp=>p) (λ_=>hdl m) (a.2.2.2.2.2.2.1.foldl (λt p=>t.set p.toNat (-1)) s.2.1) (λp hp=>by have:=ai.br p hp;omega) (body:=(λ(v22:(Int×((List Int)×Unit))) =>
 (cond (decide (v22.1<(a.2.2.2.2.2.2.2.length:Int)))
 ((at? a.2.2.2.2.2.2.2 v22.1).bind λv23 =>
 ((at? v22.2.1 v23).bind λv24 =>
 ((at? v22.2.1 v23).bind λv25 =>
 (some (inl ((w64 (v22.1+1)),((v22.2.1.set v23.toNat (w64 ((-2) - m.1))),())))))))
 (some (inr (v22.2.1,())))))) (λi x t' y hx hy=>by simp only[dlt (am_ hx),a5_,ah_ hx,a0_,hy]) (λt'=>by simp only[dnl,a2_])
      simp only
      rw[hB,a0_]
      have hC:=aa4 a.2.2.2.2.2.1 s4 (λx:Int×Int=>x.1) (λx=>x.2) s.1 (λx hx=>by have:=(ml_ h ok (ai.st x hx)).1;omega) (body:=(λ(v27:(Int×((List Int)×Unit))) =>
 (cond (decide (v27.1<(a.2.2.2.2.2.1.length:Int)))
 ((at? a.2.2.2.2.2.1 v27.1).bind λv28 =>
 ((at? v27.2.1 v28.1).bind λv29 =>
 ((at? v27.2.1 v28.1).bind λv30 =>
 (some (inl ((w64 (v27.1+1)),((v27.2.1.set v28.1.toNat v28.2),())))))))
 (some (inr (v27.2.1,())))))) (λi x t' y hx hy=>by simp only[dlt (am_ hx),a5_,ah_ hx,a0_,hy]) (λt'=>by simp only[dnl,a2_])
      rw[hC,a0_]
def fstA (r:ae_) (th:List Int):Option (List bf_×ab_):=r.2.2.2.2.2.1.find? λy=>(gi th y.2.1 != y.2.2)&&dl_ th y.1
def stl (r:ae_):Nat→List Int→Option (List Int)
  | 0,_=>none
  | n+1,th=>match fstA r th with
    | none=>some th
    | some y=>stl r n (th.set y.2.1.toNat y.2.2)
theorem ai2 {α ρ:Type} {q:α→Bool} {f:Nat→ρ}:∀ (m:List α) (k:Nat),(ga_ (λi y=>cond (q y) (some (f i)) none) k m=none∧m.find? q=none)∨∃ (i:Nat) (y:α),m[i]?=some y∧m.find? q=some y∧ga_ (λi y=>cond (q y) (some (f i)) none) k m=some (f (k+i))
  | [],_=>.inl ⟨rfl,rfl⟩
  | x::m,k=>by
    unfold ga_
    cases hq:q x with
    | true=>exact .inr ⟨0,x,rfl,by simp[hq],rfl⟩
    | false =>
      rcases ai2 (q:=q) (f:=f) m (k+1) with ⟨h1,h2⟩ | ⟨i,y,h1,h2,h3⟩
      · exact .inl ⟨h1,by simp[hq,h2]⟩
      · exact .inr ⟨i+1,y,by simpa using h1,by simp[hq,h2],by rw[show k+(i+1)=k+1+i by omega];exact h3⟩
theorem if_find {α:Type} {l:List α} (hl:Sm l.length) (q:α→Bool) {body:(Int×Unit)→Option ((Int×Unit)⊕(Unit⊕(Int×Unit)))}
    (h:∀ (i:Nat) y,l[i]?=some y→body ((i:Int),())=some (cond (q y) (.inr (.inr ((i:Int),()))) (.inl (w64 ((i:Int)+1),())))) (e:body ((l.length:Int),())=some (.inr (.inl ()))) :
    ∃ n:Int,((ag_ body (0,())).bind λv=>cd_ v (λ_=>some ((-1:Int),())) (λw=>some w))=some (n,())∧((n = -1∧l.find? q=none)∨∃ (i:Nat) (y:α),n=(i:Int)∧l[i]?=some y∧l.find? q=some y):=by
  have hrun:=nv_ l (λi y=>cond (q y) (some (inr ((i:Int),()):Unit⊕(Int×Unit))) none) (λi=>((i:Int),())) (r0:=inl ()) (body:=body) (λi y hy=>by
    have hi:=am_ hy
    rw[h i y hy,ba_ (show Sm i by omega)]
    cases q y<;>rfl) e
  have hr2:ag_ body (0,())=some ((ga_ (λi y=>cond (q y) (some (inr ((i:Int),()):Unit⊕(Int×Unit))) none) 0 l).getD (inl ())):=hrun
  rw[hr2]
  rcases ai2 (q:=q) (f:=λi=>(inr ((i:Int),()):Unit⊕(Int×Unit))) l 0 with ⟨h1,h2⟩ | ⟨i,y,h1,h2,h3⟩
  · exact⟨-1,by rw[h1];rfl,.inl ⟨rfl,h2⟩⟩
  · exact⟨(i:Int),by rw[h3,b0_];rfl,.inr ⟨i,y,rfl,h1,h2⟩⟩
theorem cn8 {r:ae_} (h:SmR r) (ok:OkR r) {th pr py:List Int} (hv:VT r th) :
    ∃ n:Int,((ag_ (autB r th pr py) (0,())).bind λv=>cd_ v (λ_=>some ((-1:Int),())) (λw=>some w))=some (n,())∧((n = -1∧fstA r th=none)∨∃ (i:Nat) (y:List bf_×ab_),n=(i:Int)∧r.2.2.2.2.2.1[i]?=some y∧fstA r th=some y) :=
  if_find (l:=r.2.2.2.2.2.1) h.au (λy=>(gi th y.2.1 != y.2.2)&&dl_ th y.1) (body:=autB r th pr py) (λi y hy=>by
    obtain⟨g1,g2⟩:=ok.au i y hy
    have hi:=(ml_ h ok g1).1
    obtain⟨c1,c2⟩:=ua_ h.th g2
    have hl:=hv.1
    unfold autB
    have ht:bb_ (r,(th,(pr,py))) y.1=some (dl_ th y.1,()):=mi_ (t:=(r,(th,(pr,py)))) (by omega) (by show InC th.length y.1;rw[hl];exact c1)
    simp only[dlt (am_ hy),a5_,ah_ hy,a0_,ol_ hi.1 (show y.2.1<th.length by omega),ht]
    cases gi th y.2.1 != y.2.2 with
    | false=>rfl
    | true=>cases dl_ th y.1<;>rfl) (by
    unfold autB
    simp only[dnl,a2_])
theorem nh_ {r:ae_} (h:SmR r) (ok:OkR r) {pr py:List Int}:∀ (n i:Nat) (th:List Int),i+n=101→VT r th →
    ∃ z,ag_ (setB r pr py) ((i:Int),(th,()))=some z∧match stl r n th with
      | some th'=>z = .inr (false,(th',()))∧VT r th'
      | none=>∃ w,z = .inl w
  | 0,i,th,hi,hv=>by
    obtain rfl:i=101:=by omega
    exact⟨.inl (th,()),br_ (by unfold setB;rfl),_,rfl⟩
  | n+1,i,th,hi,hv=>by
    obtain⟨k,e,hc⟩:=cn8 h ok hv (pr:=pr) (py:=py)
    have hd:decide ((i:Int)<101)=true:=b5_ (by omega)
    unfold stl
    rcases hc with ⟨rfl,hf⟩ | ⟨j,y,rfl,hy,hf⟩
    · rw[hf]
      refine⟨.inr (false,(th,())),br_ ?_,rfl,hv⟩
      unfold setB
      simp only[hd,a5_]
      refine e4_ (congrArg (λo=>Option.bind o _) e) rfl
    · rw[hf]
      have g1:=(ok.au j y hy).1
      have hi2:=(ml_ h ok g1).1
      have hl:=hv.1
      obtain⟨z,ez,hz⟩:=nh_ h ok (pr:=pr) (py:=py) n (i+1) (th.set y.2.1.toNat y.2.2) (by omega) (cb9 h ok hv g1)
      refine⟨z,bo_ ?_ ez,hz⟩
      unfold setB
      simp only[hd,a5_]
      refine e4_ (congrArg (λo=>Option.bind o _) e) ?_
      simp only[a0_,show decide ((j:Int)<0)=false from c1_ (by omega),a2_,ah_ hy,ol_ hi2.1 (show y.2.1<th.length by omega),ba_ (show Sm i by show _≤1000000000;omega)]
def ya_ (r:ae_) (s:ai_) (m:af_):Option ai_:=(stl r 101 (mvP r s m).1).map λth=>(th,(mvP r s m).2)
abbrev eS:ai_:=([],([],[]))
theorem ai4 {r:ae_} (h:SmR r) (h0:cy_ r=0) {s:ai_} (hv:VS r s) (m:af_) :
    fb_ r s m=some (cond (lgl r s m) ((ya_ r s m).elim (eS,(27,())) λt=>(t,(0,()))) (eS,(29,()))):=by
  have ok:=bq_ h0
  obtain⟨m1,m2,m3⟩:=py_ h ok hv
  rw[rstX_eq]
  unfold rstX
  rw[ev_ h,a0_,gy_ h0 hv]
  simp only[show ((0:Int) != 0)=false from rfl,a2_]
  rw[av_ m1,a0_,av_ m2,a0_,av_ m3,a0_]
  refine e4_ (congrArg (λo=>Option.bind o _) (vo_ h ok hv m)) ?_
  rw[a0_]
  cases hl:lgl r s m with
  | false=>rfl
  | true =>
  simp only[e5_,a2_,a5_]
  rw[cr2 h ok hv hl,a0_]
  simp only
  have hv2:=VS_mv h ok hv hl
  obtain⟨z,ez,hz⟩:=nh_ h ok (pr:=(mvP r s m).2.1) (py:=(mvP r s m).2.2) 101 0 (mvP r s m).1 rfl ⟨hv2.l1,hv2.th⟩
  refine e4_ (congrArg (λo=>Option.bind (Option.bind o _) _) ez) ?_
  unfold ya_
  cases hs:stl r 101 (mvP r s m).1 with
  | none =>
    rw[hs] at hz
    obtain⟨w,rfl⟩:=hz
    rfl
  | some th' =>
    rw[hs] at hz
    obtain⟨rfl,_⟩:=hz
    rfl
theorem ur_ {r:ae_} (h:SmR r) (h0:cy_ r=0) {s t:ai_} (hv:VS r s) {m:af_} (hl:lgl r s m=true) (ht:ya_ r s m=some t):VS r t:=by
  have ok:=bq_ h0
  have hv2:=VS_mv h ok hv hl
  unfold ya_ at ht
  obtain⟨th,hs,rfl⟩:=f5_.1 ht
  obtain⟨z,ez,hz⟩:=nh_ h ok (pr:=(mvP r s m).2.1) (py:=(mvP r s m).2.2) 101 0 (mvP r s m).1 rfl ⟨hv2.l1,hv2.th⟩
  rw[hs] at hz
  exact⟨hz.2.1,hv2.l2,hv2.l3,hz.2.2,hv2.pr,hv2.py⟩
end
section
set_option maxRecDepth 100000
theorem aq3 {r:ae_} (h:SmR r) (h0:cy_ r=0) {s:ai_} (hv:VS r s) {c:List bf_} (hc:cOk r.2.1 c=true):fd_ r s c=some (dl_ s.1 c,(0,())):=by
  have ok:=bq_ h0
  obtain⟨m1,m2,m3⟩:=py_ h ok hv
  unfold fd_
  rw[ev_ h,a0_,gy_ h0 hv]
  simp only[show ((0:Int) != 0)=false from rfl,a2_]
  rw[jp_ h.th,a0_,hc]
  obtain⟨c1,c2⟩:=ua_ h.th hc
  have hl:=hv.l1
  simp only[e5_,a2_]
  rw[av_ m1,a0_,av_ m2,a0_,av_ m3,a0_,mi_ (t:=(r,(s.1,(s.2.1,s.2.2)))) (show c.length≤1000000000 by omega) (by show InC s.1.length c;rw[hl];exact c1)]
  rfl
def rdB (s:ai_) (n:cp_) (b:Bool):Bool:=b||(dl_ s.1 n.2.2.2.1&&s.2.2.contains n.2.1)
def rdN (g:ad_) (s:ai_) (d:List Bool):List Bool:=List.zipWith (rdB s) g.2.2.2.1 d
theorem ss_ {g:ad_} {s:ai_} {d:List Bool} (hd:d.length=g.2.2.2.1.length):(rdN g s d).length=g.2.2.2.1.length:=by
  unfold rdN
  rw[List.length_zipWith]
  omega
theorem bn7 {g:ad_} {s:ai_} {d:List Bool} {i:Nat} {n:cp_} {b:Bool} (hn:g.2.2.2.1[i]?=some n) (hb:d[i]?=some b):(rdN g s d)[i]?=some (rdB s n b):=by
  unfold rdN
  rw[List.getElem?_zipWith,hn,hb]
theorem wb_ {g:ad_} (hg:SmG g) (ok:OkG g) {s:ai_} (hv:VS g.1 s) {d:List Bool} (hd:d.length=g.2.2.2.1.length) (m:List ab_) :
    ∃ z,ag_ (pbgB g s) (0,(d,(m,())))=some z∧z.1=rdN g s d:=by
  have h0:=ok.room
  have okr:=bq_ h0
  obtain⟨m1,m2,m3⟩:=py_ hg.room okr hv
  have hn:=hg.nt
  have hrl:=ss_ (s:=s) hd
  refine lu_ (λ(i:Nat) (z:Int×(List Bool×(List ab_×Unit)))=>∃ d' m',z=((i:Int),(d',(m',())))∧∀ j,d'[j]?=if j<i then (rdN g s d)[j]? else d[j]?) _ g.2.2.2.1.length 0 _ ⟨d,m,rfl,λj=>by simp⟩ (λj z h1 h2 hz=>.inl ?_) (λz hz => ?_)
  · obtain⟨d',m',rfl,hd'⟩:=hz
    obtain⟨x,hx⟩:=bd_ (l:=g.2.2.2.1) (i:=j) (by omega)
    obtain⟨y,hy⟩:=bd_ (l:=d) (i:=j) (by omega)
    have hy':d'[j]?=some y:=by rw[hd' j,if_neg (by omega)];exact hy
    have hr:=bn7 (s:=s) hx hy
    have hH:=aq3 hg.room h0 hv (ok.nt j x hx).2
    have keep:rdB s x y=y→∀ k,d'[k]?=if k<j+1 then (rdN g s d)[k]? else d[k]?:=λe k=>by
      rw[hd' k]
      by_cases hk:k=j
      · subst hk
        rw[if_neg (by omega),if_pos (by omega),hr,hy,e]
      · by_cases hk2:k<j
        · rw[if_pos hk2,if_pos (by omega)]
        · rw[if_neg hk2,if_neg (by omega)]
    have turn:rdB s x y=true→∀ k,(d'.set ((j:Int)).toNat true)[k]?=if k<j+1 then (rdN g s d)[k]? else d[k]?:=λe k=>by
      rw[b8_,g1_]
      by_cases hk:j=k
      · subst hk
        rw[if_pos rfl,if_pos (am_ hy'),if_pos (by omega),hr,e]
      · rw[if_neg hk,hd' k]
        by_cases hk2:k<j
        · rw[if_pos hk2,if_pos (by omega)]
        · rw[if_neg hk2,if_neg (by omega)]
    unfold pbgB
    simp only[dlt (am_ hx),a5_,ah_ hx,ah_ hy',a0_,hH,on_ m3,ba_ (show Sm j by omega)]
    unfold rdB at keep turn
    cases hb:dl_ s.1 x.2.2.2.1 with
    | false=>exact⟨_,rfl,_,_,rfl,keep (by rw[hb];simp)⟩
    | true =>
    cases hc:s.2.2.contains x.2.1 with
    | false =>
      refine⟨_,?_,d',m',rfl,keep (by rw[hc];simp)⟩
      simp only[a5_,a2_,a0_]
    | true =>
    cases y with
    | true=>exact⟨_,rfl,_,_,rfl,keep rfl⟩
    | false=>exact⟨_,rfl,_,_,rfl,turn (by rw[hb,hc];rfl)⟩
  · obtain⟨d',m',rfl,hd'⟩:=hz
    rw[b0_]
    unfold pbgB
    simp only[dnl,a2_]
    refine⟨_,rfl,f1_ λk => ?_⟩
    rw[hd' k]
    split
    · rfl
    · rw[b9_ (by omega),b9_ (by omega)]
def bh9 (g:ad_) (d:List Bool) (lock:Int):List ak_:=(g.2.2.2.1.zip d).filterMap λx=>cond (x.1.2.2.1==lock&&x.2) (some x.1.2.2.2.2) none
theorem ag0 {g:ad_} {d:List Bool} {lock:Int} {c:ak_} (h:c ∈ bh9 g d lock):∃ (i:Nat) (n:cp_),g.2.2.2.1[i]?=some n∧n.2.2.1=lock∧n.2.2.2.2=c:=by
  unfold bh9 at h
  obtain⟨x,hx,he⟩:=List.mem_filterMap.1 h
  obtain⟨i,hi⟩:=f8_ (List.of_mem_zip hx).1
  cases hq:(x.1.2.2.1==lock&&x.2) with
  | false=>rw[hq] at he;cases he
  | true =>
    rw[hq] at he
    rw[a1_,f4_] at hq
    exact⟨i,x.1,hi,hq.1,a6_ he⟩
theorem bc5 {g:ad_} (hg:SmG g) (d:List Bool) (lock:Int):(bh9 g d lock).length≤20:=by
  unfold bh9
  refine c6_ (p4_ ..) ?_
  rw[n4_]
  have:=hg.nt
  omega
theorem bq7 {g:ad_} (ok:OkG g) {i:Nat} {n:cp_} (hn:g.2.2.2.1[i]?=some n) {l:ab_} (h0:0≤n.2.2.1) (hl:at? g.2.1 n.2.2.1=some l):dd_ l n.2.2.2.2=true:=by
  have h:=(ok.nt i n hn).1
  unfold bq8 at h
  simp only[a1_] at h
  have h5:=h.2.2.2.2
  rw[c1_ (by omega),hl] at h5
  simp only[a2_] at h5
  cases hk:at? g.2.2.1 n.2.2.1 with
  | none=>rw[hk] at h5;cases h5
  | some k =>
    rw[hk] at h5
    have h5:clOk l n.2.2.2.2 k=true:=h5
    unfold clOk at h5
    rw[a1_] at h5
    exact h5.1
noncomputable def rdC (g:ad_) (d:List Bool) (lock:Int) (l:ab_):Int:=((rdg l ((bh9 g d lock))).length:Int)
theorem an1 {g:ad_} (hg:SmG g) (ok:OkG g) (d:List Bool) {lock:Int} (h0:0≤lock) {l:ab_} (hl:at? g.2.1 lock=some l):cz_ l (bh9 g d lock)=some (rdC g d lock l,(0,())):=by
  obtain⟨_,_,l1⟩:=da_ hl
  refine an4 (ok.lk _ l l1).1 (bc5 hg d lock) λc hc => ?_
  obtain⟨i,n,hn,rfl,rfl⟩:=ag0 hc
  exact bq7 ok hn h0 hl
noncomputable def opn (g:ad_) (d:List Bool) (lock:Int):Bool:=cond (decide (lock<0)) true ((at? g.2.1 lock).elim false λl=>decide (rdC g d lock l≤g.2.2.2.2))
noncomputable def abB (a0:ad_) (v1:List Bool) (lock:Int):(List Int×(List ak_×(Int×Unit)))→Option ((List Int×(List ak_×(Int×Unit)))⊕(List Int×(List ak_×Unit))) :=
 (λ(v4:((List Int)×((List ak_)×(Int×Unit)))) =>
 (cond (decide (v4.2.2.1<(a0.2.2.2.1.length:Int)))
 ((((at? a0.2.2.2.1 v4.2.2.1).bind λv5 =>
 (((cond (v5.2.2.1==lock)
 ((at? v1 v4.2.2.1).bind λv6 =>
 ((at? v1 v4.2.2.1).bind λv7 =>
 (some (v7,()))))
 (some (false,())))).bind λv8 =>
 (cond v8.1
 ((push? (α:=Int) v4.1 [v4.2.2.1]).bind λv9 =>
 ((push? (α:=ak_) v4.2.1 [v5.2.2.2.2]).bind λv10 =>
 (some (v9,(v10,())))))
 (some (v4.1,(v4.2.1,()))))))).bind λv11 =>
 (some (inl (v11.1,(v11.2.1,((w64 (v4.2.2.1+1)),()))))))
 (some (inr (v4.1,(v4.2.1,()))))))
theorem cb8 {g:ad_} (hg:SmG g) {d:List Bool} (hd:d.length=g.2.2.2.1.length) (lock:Int):∃ q,ag_ (abB g d lock) ([],([],(0,())))=some (q,(bh9 g d lock,())):=by
  have hn:=hg.nt
  suffices hk:∃ r,ag_ (abB g d lock) ([],([],(0,())))=some r∧∃ q,r=(q,(bh9 g d lock,())) by
    obtain⟨z,ez,q,rfl⟩:=hk
    exact⟨q,ez⟩
  refine lu_ (λ(i:Nat) (z:List Int×(List ak_×(Int×Unit)))=>∃ q,z=(q,(((g.2.2.2.1.zip d).take i).filterMap (λx=>cond (x.1.2.2.1==lock&&x.2) (some x.1.2.2.2.2) none),((i:Int),())))∧q.length≤i) (λw=>∃ q,w=(q,(bh9 g d lock,()))) g.2.2.2.1.length 0 ([],([],(0,()))) ⟨[],rfl,c3_ _⟩ (λj z h1 h2 hz=>.inl ?_) (λz hz => ?_)
  · obtain⟨q,rfl,hq⟩:=hz
    obtain⟨x,hx⟩:=bd_ (l:=g.2.2.2.1) (i:=j) (by omega)
    obtain⟨y,hy⟩:=bd_ (l:=d) (i:=j) (by omega)
    have hzip:(g.2.2.2.1.zip d)[j]?=some (x,y):=by rw[i1_];exact⟨hx,hy⟩
    have hlen:(((g.2.2.2.1.zip d).take j).filterMap (λx=>cond (x.1.2.2.1==lock&&x.2) (some x.1.2.2.2.2) none)).length≤j:=by
      refine c6_ (p4_ ..) ?_
      rw[c9_];omega
    have hstep:((g.2.2.2.1.zip d).take (j+1)).filterMap (λx=>cond (x.1.2.2.1==lock&&x.2) (some x.1.2.2.2.2) none)=((g.2.2.2.1.zip d).take j).filterMap (λx=>cond (x.1.2.2.1==lock&&x.2) (some x.1.2.2.2.2) none)++cond (x.2.2.1==lock&&y) [x.2.2.2.2] []:=by
      rw[d7_,hzip,o5_]
      cases hc:(x.2.2.1==lock&&y) with
      | false=>simp[hc]
      | true=>simp[hc]
    unfold abB
    simp only[dlt (am_ hx),a5_,ah_ hx,ah_ hy,a0_,ba_ (show Sm j by omega)]
    cases h1:x.2.2.1==lock with
    | false =>
      refine⟨_,rfl,q,?_,by omega⟩
      rw[hstep,h1,e9_,a2_,e8_]
    | true =>
    cases y with
    | false =>
      refine⟨_,rfl,q,?_,by omega⟩
      rw[hstep,g0_,a2_,e8_]
    | true =>
      simp only[a5_,a0_,cf_ (show Sm q.length by show _≤1000000000;omega),cf_ (show Sm _ from c6_ hlen (by omega))]
      refine⟨_,rfl,q++[(j:Int)],?_,by rw[a8_,d5_];omega⟩
      rw[hstep,h1,i3_,a5_]
  · obtain⟨q,rfl,hq⟩:=hz
    rw[b0_]
    unfold abB
    simp only[dnl,a2_]
    refine⟨_,rfl,q,?_⟩
    unfold bh9
    rw[h0_ (by rw[n4_];omega)]
end
section
set_option maxRecDepth 100000
noncomputable def opX (a0:ad_) (v1:List Bool) (a2:af_):Option (Bool×(List ab_×Unit)) :=
 (cond (a2.2.1==4)
 ((bx_ a2.2.2 0 (w64 ((a0.1.2.2.2.2.1.length:Int) - 1))).bind λv2 =>
 (cond v2.1
 ((at? a0.1.2.2.2.2.1 a2.2.2).bind λv3 =>
 (cond (decide (v3.2.2.1<0))
 (some ((!true),([],())))
 ((((ag_ (abB a0 v1 v3.2.2.1) ([],([],(0,())))).bind λv12 =>
 ((at? a0.2.1 v3.2.2.1).bind λv13 =>
 ((cz_ v13 v12.2.1).bind λv14 =>
 (((cond (v14.2.1==0)
 (some ((decide (v14.1≤a0.2.2.2.2)),()))
 (some (false,())))).bind λv15 =>
 (cond v15.1
 (some ((fj_ (fj_ [] v3.2.2.1 2) v3.2.2.1 1),()))
 (some ((fj_ [] v3.2.2.1 2),())))))))).bind λv16 =>
 (some ((!((eh_ 0 v16.1 v3.2.2.1)==1)),(v16.1,()))))))
 (some (false,([],())))))
 (some (false,([],()))))
noncomputable def pstX (a0:ad_) (a1:aa_) (a2:af_):Option (aa_×(Int×Unit)) :=
 ((dz_ a0 a1).bind λv0 =>
 (cond (v0.1 != 0)
 (cond (v0.1 != 0)
 (some ((([],([],[])),[]),(v0.1,())))
 none)
 ((push? (α:=Bool) [] a1.2).bind λv1 =>
 ((((opX a0 v1 a2).bind λv17 =>
 (cond v17.1
 (some ((!false),(v1,(v17.2.1,((a1.1.1,(a1.1.2.1,(a1.1.2.2,()))),())))))
 ((fb_ a0.1 a1.1 a2).bind λv18 =>
 (cond (v18.2.1 != 0)
 (some ((!false),(v1,(v17.2.1,((a1.1.1,(a1.1.2.1,(a1.1.2.2,()))),())))))
 ((ag_ (ρ:=((List Bool)×((List ab_)×Unit))) (pbgB a0 v18.1) (0,(v1,(v17.2.1,())))).bind λv29 =>
 (some ((!true),(v29.1,(v29.2.1,((v18.1.1,(v18.1.2.1,(v18.1.2.2,()))),()))))))))))).bind λv30 =>
 (cond v30.1
 (some ((([],([],[])),[]),(29,())))
 ((push? (α:=Int) [] v30.2.2.2.1.1).bind λv31 =>
 ((push? (α:=Int) [] v30.2.2.2.1.2.1).bind λv32 =>
 ((push? (α:=Int) [] v30.2.2.2.1.2.2.1).bind λv33 =>
 ((push? (α:=Bool) [] v30.2.1).bind λv34 =>
 (some (((v31,(v32,v33)),v34),(0,()))))))))))))
theorem pstX_eq:ki_=pstX:=by kernel_rfl
noncomputable def okM (g:ad_) (d:List Bool) (m:af_):Bool:=cond (m.2.1==4) ((at? g.1.2.2.2.2.1 m.2.2).elim true λa=>opn g d a.2.2.1) true
noncomputable def stepP (g:ad_) (p:aa_) (m:af_):Option aa_ :=
  cond (okM g p.2 m&&lgl g.1 p.1 m) ((ya_ g.1 p.1 m).map λs=>(s,rdN g s p.2)) none
abbrev eP:aa_:=(eS,[])
theorem bg7 {g:ad_} (hg:SmG g) (p:aa_):dz_ g p=some (cond (cl_ g != 0) (cl_ g) (cond (my_ g.1 p.1 != 0) (my_ g.1 p.1) (cond ((p.2.length:Int) != (g.2.2.2.1.length:Int)) 28 0)),()):=by
  unfold dz_
  rw[yv_ hg,a0_]
  cases cl_ g != 0 with
  | true=>rfl
  | false =>
  simp only[a2_]
  rw[ev_ hg.room,a0_]
  cases my_ g.1 p.1 != 0 with
  | true=>rfl
  | false =>
  simp only[a2_]
  cases (p.2.length:Int) != (g.2.2.2.1.length:Int)<;>rfl
structure VP (g:ad_) (p:aa_):Prop where
  st:VS g.1 p.1
  rd:p.2.length=g.2.2.2.1.length
theorem vz_ {g:ad_} (hg:SmG g) (h0:cl_ g=0) {p:aa_} (hv:VP g p):dz_ g p=some (0,()):=by
  rw[bg7 hg,h0,gy_ (dk_ h0).room hv.st,hv.rd,show ((g.2.2.2.1.length:Int) != (g.2.2.2.1.length:Int))=false by simp]
  rfl
theorem opX_eq {g:ad_} (hg:SmG g) (ok:OkG g) {d:List Bool} (hd:d.length=g.2.2.2.1.length) (m:af_):∃ x,opX g d m=some (!(okM g d m),(x,())):=by
  have hac:=hg.ac
  unfold opX okM
  cases hk:m.2.1==4 with
  | false=>exact⟨[],rfl⟩
  | true =>
  simp only[a5_,jy_,a0_]
  rcases cr_ (l:=g.1.2.2.2.2.1) (by show _≤1000000000;omega) m.2.2 with ⟨f1,f2⟩ | ⟨j,a,hj,ha,f1,f2⟩
  · rw[f1,f2];exact⟨[],rfl⟩
  · rw[f1,f2]
    simp only[a5_,a0_,Option.elim]
    unfold opn
    cases hz:decide (a.2.2.1<0) with
    | true=>exact⟨[],rfl⟩
    | false =>
    have hz:=e2_ hz
    have hlt:=ok.ac j a ha
    obtain⟨l,hl⟩:=bd_ (l:=g.2.1) (i:=a.2.2.1.toNat) (by omega)
    have hl2:at? g.2.1 a.2.2.1=some l:=by rw[show a.2.2.1=((a.2.2.1.toNat:Nat):Int) by omega];exact ah_ hl
    obtain⟨q,e⟩:=cb8 hg hd a.2.2.1
    rw[e]
    simp only[a2_,a0_,hl2,an1 hg ok d (by omega) hl2,Option.elim]
    simp only[show ((0:Int)==0)=true from rfl,a5_,a0_]
    cases decide (rdC g d a.2.2.1 l≤g.2.2.2.2) with
    | true=>exact⟨_,by simp[fj_,eh_,mget?];rfl⟩
    | false=>exact⟨_,by simp[fj_,eh_,mget?];rfl⟩
theorem bo8 {g:ad_} (hg:SmG g) (h0:cl_ g=0) {p:aa_} (hv:VP g p) (m:af_) :
    ki_ g p m=some ((stepP g p m).elim (eP,(29,())) λq=>(q,(0,()))):=by
  have ok:=dk_ h0
  have hn:=hg.nt
  have hrd:=hv.rd
  rw[pstX_eq]
  unfold pstX
  rw[vz_ hg h0 hv,a0_]
  simp only[show ((0:Int) != 0)=false from rfl,a2_]
  rw[av_ (show Sm p.2.length by show _≤1000000000;omega),a0_]
  obtain⟨x,ex⟩:=opX_eq hg ok hv.rd m
  rw[ex,a0_]
  unfold stepP
  cases okM g p.2 m with
  | false=>rfl
  | true =>
  simp only[e5_,a2_,c2_]
  rw[ai4 hg.room ok.room hv.st m,a0_]
  cases hl:lgl g.1 p.1 m with
  | false=>rfl
  | true =>
  simp only[a5_]
  cases hs:ya_ g.1 p.1 m with
  | none=>rfl
  | some s =>
  have hv2:=ur_ hg.room ok.room hv.st hl hs
  obtain⟨m1,m2,m3⟩:=py_ hg.room (bq_ ok.room) hv2
  have hrl:=ss_ (s:=s) hv.rd
  obtain⟨z,ez,hz⟩:=wb_ hg ok hv2 hv.rd x
  simp only[Option.elim,show ((0:Int) != 0)=false from rfl,a2_]
  rw[ez,a0_,a0_]
  simp only[e5_,a2_]
  rw[av_ m1,a0_,av_ m2,a0_,av_ m3,a0_,hz,av_ (show Sm (rdN g s p.2).length by show _≤1000000000;omega),a0_]
  rfl
theorem zz_ {g:ad_} (hg:SmG g) (h0:cl_ g=0) {p q:aa_} (hv:VP g p) {m:af_} (h:stepP g p m=some q):VP g q:=by
  have ok:=dk_ h0
  unfold stepP at h
  cases hc:(okM g p.2 m&&lgl g.1 p.1 m) with
  | false=>rw[hc] at h;cases h
  | true =>
  rw[hc,a5_] at h
  obtain⟨s,hs,rfl⟩:=f5_.1 h
  rw[a1_] at hc
  exact⟨ur_ hg.room ok.room hv.st hc.2 hs,ss_ hv.rd⟩
end
end Go.Proofs.YtgeehfnbhbibeaaGreatDoor.Rx
namespace Go.Proofs.YtgeehfnbhbibeaaGreatDoor.Rx
open Go Pad Rex Sum
section
set_option maxRecDepth 10000
theorem bn2 {r:ae_} (h:SmR r) (h0:cy_ r=0) {s:ai_} (hv:VS r s):kf_ r s=some (dl_ s.1 r.2.2.2.2.2.2.2,(0,())):=by
  have ok:=bq_ h0
  obtain⟨m1,m2,m3⟩:=py_ h ok hv
  unfold kf_
  rw[ev_ h,a0_,gy_ h0 hv]
  simp only[show ((0:Int) != 0)=false from rfl,a2_]
  obtain⟨c1,c2⟩:=ua_ h.th ok.go
  have hl:=hv.l1
  rw[av_ m1,av_ m2,av_ m3]
  simp only[a0_]
  rw[mi_ (t:=(r,(s.1,(s.2.1,s.2.2)))) (show r.2.2.2.2.2.2.2.length≤1000000000 by omega) (by show InC s.1.length r.2.2.2.2.2.2.2;rw[hl];exact c1)]
  rfl
end
section
set_option maxRecDepth 10000
theorem bg0 {s:ai_} (h:Sm s.2.1.length) (p:Int):gw_ s p=some ((lr_ s.2.1 (w64 ((-2) - p)):Int),()):=by
  unfold gw_
  refine ao1 s.2.1 (λ_ (c:Nat) x=>cond (x==w64 ((-2) - p)) (c+1) c) (λi c=>((c:Int),((i:Int),()))) (λc=>((c:Int),())) 0 (λi c=>c=lr_ (s.2.1.take i) (w64 ((-2) - p))) rfl (λi x c hx hc => ?_) (λc hc => ?_) (λc hc => ?_)
  · have hi:=am_ hx
    have hcl:c≤i:=by rw[hc];refine c6_ (va_ _ _) ?_;rw[c9_];omega
    have hn:lr_ (s.2.1.take (i+1)) (w64 ((-2) - p))=cond (x==w64 ((-2) - p)) (c+1) c:=by
      unfold lr_
      rw[d7_,hx,hc,List.countP_append]
      unfold lr_
      cases hq:x==w64 ((-2) - p) with
      | true=>simp[hq]
      | false=>simp[hq]
    refine⟨?_,hn.symm⟩
    simp only[dlt hi,a5_,ah_ hx,a0_,ba_ (show Sm i by omega)]
    cases hq:x==w64 ((-2) - p) with
    | true=>simp only[a5_,a0_,ba_ (show Sm c by omega)]
    | false=>rfl
  · simp only[dnl,a2_]
  · rw[e1_] at hc
    rw[hc]
theorem sk_ (a b:Int):(a != b) = !(a==b):=rfl
theorem ar3 {r:ae_} (h:SmR r) (ok:OkR r) {s:ai_} (hv:VS r s) (m:af_):jh_ r s m=some (lgl r s m,()):=by
  obtain⟨m1,m2,m3⟩:=py_ h ok hv
  have hl1:=hv.l1
  have hl2:=hv.l2
  have hl3:=hv.l3
  have hH:∀ {c:List bf_},cOk r.2.1 c=true→bl_ s c=some (dl_ s.1 c,()):=λ{c} hc=>by
    obtain⟨c1,c2⟩:=ua_ h.th hc
    exact jb_ (show c.length≤1000000000 by omega) (by show InC s.1.length c;rw[hl1];exact c1)
  have hD:gw_ s m.1=some ((lr_ s.2.1 (hdl m):Int),()):=bg0 m2 m.1
  have hDl:=va_ s.2.1 (hdl m)
  unfold jh_ lgl
  rw[← hl3]
  simp only[fk_,a0_]
  rcases cr_ m3 m.1 with ⟨e1,_⟩ | ⟨pj,px,hpj,hp,e1,e2⟩
  · rw[e1];rfl
  · have eg:gi s.2.2 m.1=px:=mr_ e2
    simp only[e1,e2,eg,e5_,a2_,a0_,c2_]
    cases hk1:m.2.1==1 with
    | true =>
      simp only[a5_]
      rcases cr_ h.wy m.2.2 with ⟨f1,f2⟩ | ⟨j,w,hj,hw,f1,f2⟩
      · simp only[f1,f2];rfl
      · simp only[f1,f2,a5_,a0_,hH (ok.wy j w hw).2]
        show _=some ((w.1==px||w.2.1==px)&&dl_ s.1 w.2.2,())
        cases w.1==px with
        | true=>rfl
        | false=>cases w.2.1==px<;>rfl
    | false =>
    simp only[a2_]
    cases hk2:m.2.1==2 with
    | true =>
      simp only[a5_]
      rcases cr_ h.pr m.2.2 with ⟨f1,f2⟩ | ⟨j,x,hj,hx,f1,f2⟩
      · simp only[f1,f2];rfl
      · obtain⟨p,hp⟩:=bd_ (l:=s.2.1) (i:=j) (by have:=am_ hx;omega)
        have f3:at? s.2.1 m.2.2=some p:=by rw[hj];exact ah_ hp
        have f4:gi s.2.1 m.2.2=p:=mr_ f3
        simp only[f1,f2,f3,f4,a5_,a0_,hH (ok.pr j x hx).2,hD]
        show _=some (p==px&&(dl_ s.1 x.2.2&&decide ((lr_ s.2.1 (hdl m):Int)<3)),())
        cases p==px with
        | false=>rfl
        | true=>cases dl_ s.1 x.2.2<;>rfl
    | false =>
    simp only[a2_]
    cases hk3:m.2.1==3 with
    | true =>
      simp only[a5_]
      rcases cr_ m2 m.2.2 with ⟨f1,f2⟩ | ⟨j,p,hj,hp,f1,f2⟩
      · rw[hl2] at f1
        simp only[f1,f2];rfl
      · rw[hl2] at f1
        simp only[f1,f2,a5_,a0_];rfl
    | false =>
    simp only[a2_]
    cases hk4:m.2.1==4 with
    | false=>rfl
    | true =>
      simp only[a5_]
      rcases cr_ h.ac m.2.2 with ⟨f1,f2⟩ | ⟨j,a,hj,ha,f1,f2⟩
      · simp only[f1,f2];rfl
      · obtain⟨oa,oc⟩:=ok.ac j a ha
        have ai:=be0 oa
        obtain⟨s1,s2,s3,s4,s5,s6⟩:=h.acn a (ax_ ha)
        simp only[f1,f2,e5_,a2_,a0_]
        show _=some (a.2.1==px&&((a.2.2.2.1.all λp=>gi s.2.1 p==hdl m)&&(dl_ s.1 a.2.2.2.2.1&&((a.2.2.2.2.2.2.2.all λp=>gi s.2.1 p==-1)&&decide ((lr_ s.2.1 (hdl m):Int) - (a.2.2.2.2.2.2.1.length:Int)+(a.2.2.2.2.2.2.2.length:Int)≤3)))),())
        refine bn_ a.2.2.2.1 (λ_ p=>cond (gi s.2.1 p==hdl m) none (some (inr (false,()):Unit⊕(Bool×Unit)))) (λi=>((i:Int),())) (r0:=inl ()) (λi y hy => ?_) ?_ ?_
        · have:=ai.us y (ax_ hy)
          simp only[dlt (am_ hy),a5_,ah_ hy,a0_,ol_ this.1 (show y<(s.2.1.length:Int) by omega),ba_ (show Sm i by have:=am_ hy;omega),sk_]
          cases gi s.2.1 y==hdl m<;>rfl
        · simp only[dnl,a2_]
        rw[ja_ (q:=λp=>gi s.2.1 p==hdl m)]
        cases a.2.2.2.1.all λp=>gi s.2.1 p==hdl m with
        | false=>simp only[e9_,g0_];rfl
        | true =>
        simp only[a5_,j7_]
        unfold cd_
        refine bn_ a.2.2.2.2.2.2.2 (λ_ p=>cond (gi s.2.1 p==-1) none (some (inr (false,()):Unit⊕(Bool×Unit)))) (λi=>((i:Int),())) (r0:=inl ()) (λi y hy => ?_) ?_ ?_
        · have:=ai.br y (ax_ hy)
          simp only[dlt (am_ hy),a5_,ah_ hy,a0_,ol_ this.1 (show y<(s.2.1.length:Int) by omega),ba_ (show Sm i by have:=am_ hy;omega),sk_]
          cases gi s.2.1 y==-1<;>rfl
        · simp only[dnl,a2_]
        rw[ja_ (q:=λp=>gi s.2.1 p==-1)]
        cases a.2.2.2.2.2.2.2.all λp=>gi s.2.1 p==-1 with
        | false=>simp only[e9_,g0_];rfl
        | true =>
        simp only[a5_,j7_]
        cases a.2.1==px with
        | false=>rfl
        | true =>
        simp only[a5_,hH oc,a0_,c2_]
        cases dl_ s.1 a.2.2.2.2.1 with
        | false=>rfl
        | true =>
        simp only[a5_,hD,a0_,c2_]
        rw[fy_ (n:=(lr_ s.2.1 (hdl m):Int) - _) (by omega) (by omega),fy_ (by omega) (by omega)]
end
section
set_option maxRecDepth 10000
theorem run_cnt {σ ρ:Type} (n:Nat) (S:Nat→σ) {body:σ→Option (σ⊕ρ)} {r:ρ} (h:∀ i,i<n→body (S i)=some (.inl (S (i+1)))) (e:body (S n)=some (.inr r)):ag_ body (S 0)=some r:=by
  have gen:∀ (k i:Nat),i+k=n→ag_ body (S i)=some r:=by
    intro k
    induction k with
    | zero =>
      intro i hi
      obtain rfl:i=n:=by omega
      exact br_ e
    | succ k ih =>
      intro i hi
      exact bo_ (h i (by omega)) (ih (i+1) (by omega))
  exact gen n 0 (by omega)
theorem pu_ {σ ρ υ:Type} (n:Nat) (S:Nat→σ) {body:σ→Option (σ⊕ρ)} {r:ρ} {s0:σ} {K:ρ→Option υ} {x:Option υ} (h0:S 0=s0) (h:∀ i,i<n→body (S i)=some (.inl (S (i+1)))) (e:body (S n)=some (.inr r)) (hk:K r=x):(ag_ body s0).bind K=x:=by
  rw[← h0,run_cnt n S h e,a0_,hk]
section
variable (q:af_→Bool)
def mvK (i k:Int):Nat→List af_→List af_
  | 0,l=>l
  | n+1,l=>cond (q (i,(k,(n:Int)))) (mvK i k n l++[(i,(k,(n:Int)))]) (mvK i k n l)
def mvJ (i:Int) (c:Nat→Nat):Nat→List af_→List af_
  | 0,l=>l
  | k+1,l=>mvK q i (k:Int) (c k) (mvJ i c k l)
def mvs (c:Nat→Nat):Nat→List af_
  | 0=>[]
  | n+1=>mvJ q (n:Int) c 5 (mvs c n)
theorem ac4 (i k:Int):∀ n l,(mvK q i k n l).length≤l.length+n
  | 0,l=>c3_ _
  | n+1,l=>by
    have:=ac4 i k n l
    unfold mvK
    cases q (i,(k,(n:Int))) with
    | true=>simp only[a5_,a8_,c4_,j3_];omega
    | false=>simp only[a2_];omega
theorem ac5 (i:Int) {c:Nat→Nat} (hc:∀ k,c k≤24):∀ k l,(mvJ q i c k l).length≤l.length+k * 24
  | 0,l=>c3_ _
  | k+1,l=>by
    have h1:=ac5 i hc k l
    have h2:=ac4 q i (k:Int) (c k) (mvJ q i c k l)
    have h3:=hc k
    unfold mvJ
    omega
theorem ac3 {c:Nat→Nat} (hc:∀ k,c k≤24):∀ n,(mvs q c n).length≤n * 120
  | 0=>c3_ _
  | n+1=>by
    have h1:=ac3 hc n
    have h2:=ac5 q (n:Int) hc 5 (mvs q c n)
    unfold mvs
    omega
theorem br5 (i k:Int) {n:Nat} (l:List af_):∀ m,n≤m→(∀ j:Nat,n≤j→j<m→q (i,(k,(j:Int)))=false)→mvK q i k m l=mvK q i k n l
  | 0, h, _ => by obtain rfl : n = 0 := by omega
                  rfl
  | m+1,h,hf=>by
    rcases l5_ m n with hm | hm
    · obtain rfl:n=m+1:=by omega
      rfl
    · show cond (q (i,(k,(m:Int)))) _ (mvK q i k m l)=_
      rw[hf m hm (by omega),a2_]
      exact br5 i k l m hm λj a b=>hf j a (by omega)
theorem br7 (i:Int) {c d:Nat→Nat} (K:Nat) (l:List af_) (hc:∀ k,k<K→c k≤d k) (hf:∀ k,k<K→∀ j:Nat,c k≤j→j<d k→q (i,((k:Int),(j:Int)))=false):∀ k,k≤K→mvJ q i d k l=mvJ q i c k l
  | 0,_=>rfl
  | k+1,hk=>by
    unfold mvJ
    rw[br7 i K l hc hf k (by omega)]
    exact br5 q i (k:Int) _ (d k) (hc k (by omega)) (hf k (by omega))
theorem br4 {c d:Nat→Nat} (hc:∀ k,k<5→c k≤d k) (hf:∀ i k,k<5→∀ j:Nat,c k≤j→j<d k→q (i,((k:Int),(j:Int)))=false):∀ n,mvs q d n=mvs q c n
  | 0=>rfl
  | n+1=>by
    unfold mvs
    rw[br4 hc hf n]
    exact br7 q (n:Int) 5 _ hc (hf (n:Int)) 5 (c3_ _)
end
def ap2 (r:ae_) (k:Nat):Nat:=[0,r.2.2.2.1.length,r.2.2.1.length,r.2.2.1.length,r.2.2.2.2.1.length].getD k 0
def tf_ (k:Nat):Nat:=match k with
  | 0=>0
  | _+1=>24
theorem at5 (a b c d:Nat):∀ {k:Nat},k<5→decide ((k:Int)<(([0,(a:Int),(b:Int),(c:Int),(d:Int)]:List Int).length:Int))=true∧at? [0,(a:Int),(b:Int),(c:Int),(d:Int)] (k:Int)=some ((([0,a,b,c,d]:List Nat).getD k 0:Nat):Int)
  | 0,_=>⟨rfl,rfl⟩
  | 1,_=>⟨rfl,rfl⟩
  | 2,_=>⟨rfl,rfl⟩
  | 3,_=>⟨rfl,rfl⟩
  | 4,_=>⟨rfl,rfl⟩
  | _+5,h=>absurd h (by omega)
theorem cnt_le {r:ae_} (ok:OkR r):∀ k,ap2 r k≤tf_ k:=by
  have hm:=ok.many
  unfold ad1 at hm
  simp only[c0_,p6_] at hm
  intro k
  match k with
  | 0=>exact c3_ _
  | 1=>show r.2.2.2.1.length≤24;omega
  | 2=>show r.2.2.1.length≤24;omega
  | 3=>show r.2.2.1.length≤24;omega
  | 4=>show r.2.2.2.2.1.length≤24;omega
  | k+5=>exact l7_ _
theorem af9:∀ k,tf_ k≤24
  | 0=>l7_ _
  | _+1=>c3_ _
theorem ao2 {α:Type} {l:List α} {j:Nat} (h:l.length≤j):at? l (j:Int)=none:=by
  rw[bd5]
  exact b9_ h
theorem lgl_out {r:ae_} {s:ai_} (hv:VS r s) (i:Int) {k:Nat} (hk:k<5) {j:Nat} (hj:ap2 r k≤j):lgl r s (i,((k:Int),(j:Int)))=false:=by
  unfold lgl
  match k,hk with
  | 0,_ =>
    show (_&&false)=false
    rw[g0_]
  | 1,_ =>
    show (_&&(at? r.2.2.2.1 (j:Int)).elim false _)=false
    rw[ao2 (show r.2.2.2.1.length≤j from hj)]
    exact g0_ _
  | 2,_ =>
    show (_&&(at? r.2.2.1 (j:Int)).elim false _)=false
    rw[ao2 (show r.2.2.1.length≤j from hj)]
    exact g0_ _
  | 3,_ =>
    show (_&&(at? s.2.1 (j:Int)).elim false _)=false
    have hl:=hv.l2
    have hj:r.2.2.1.length≤j:=hj
    rw[ao2 (show s.2.1.length≤j by omega)]
    exact g0_ _
  | 4,_ =>
    show (_&&(at? r.2.2.2.2.1 (j:Int)).elim false _)=false
    rw[ao2 (show r.2.2.2.2.1.length≤j from hj)]
    exact g0_ _
  | k+5,h=>exact absurd h (by omega)
def lmv (r:ae_) (s:ai_):List af_:=mvs (lgl r s) (ap2 r) r.2.2.2.2.2.2.1.toNat
theorem bf4 {r:ae_} (h:SmR r) (h0:cy_ r=0) {s:ai_} (hv:VS r s):fc_ r s=some (lmv r s,(0,())):=by
  have ok:=bq_ h0
  obtain⟨m1,m2,m3⟩:=py_ h ok hv
  have hpy:=ce_.1 ok.py
  obtain⟨P,hP⟩:∃ P:Nat,r.2.2.2.2.2.2.1=(P:Int):=⟨_,(Int.toNat_of_nonneg (by omega)).symm⟩
  have hc:∀ k,ap2 r k≤24:=λk=>c6_ (cnt_le ok k) (af9 k)
  unfold fc_ lmv
  rw[ev_ h,a0_,gy_ h0 hv]
  simp only[show ((0:Int) != 0)=false from rfl,a2_,av_ m1,av_ m2,av_ m3,a0_,hP,b8_]
  refine pu_ P (λi=>((i:Int),((),((mvs (lgl r s) (ap2 r) i,()),())))) rfl (λi hi => ?_) (by simp only[dnl,a2_];rfl) rfl
  simp only[dlt hi,a5_]
  have l1:=ac3 (lgl r s) hc i
  refine pu_ 5 (λk=>((k:Int),((),((mvJ (lgl r s) (i:Int) (ap2 r) k (mvs (lgl r s) (ap2 r) i),()),())))) rfl (λk hk => ?_) rfl ?_
  · have l2:=ac5 (lgl r s) (i:Int) hc k (mvs (lgl r s) (ap2 r) i)
    obtain⟨a1,a2⟩:=at5 r.2.2.2.1.length r.2.2.1.length r.2.2.1.length r.2.2.2.2.1.length hk
    simp only[a1,a2,a5_,a0_]
    refine pu_ (ap2 r k) (λj=>((j:Int),((),((mvK (lgl r s) (i:Int) (k:Int) j (mvJ (lgl r s) (i:Int) (ap2 r) k (mvs (lgl r s) (ap2 r) i)),()),())))) rfl (λj hj => ?_) (by exact congrArg (λb=>cond b _ _) (dnl (ap2 r k))) ?_
    · have l3:=ac4 (lgl r s) (i:Int) (k:Int) j (mvJ (lgl r s) (i:Int) (ap2 r) k (mvs (lgl r s) (ap2 r) i))
      have hk24:=hc k
      have hp:=cf_ (x:=((i:Int),((k:Int),(j:Int)))) (show Sm (mvK (lgl r s) (i:Int) (k:Int) j (mvJ (lgl r s) (i:Int) (ap2 r) k (mvs (lgl r s) (ap2 r) i))).length by show _≤1000000000;omega)
      have hd:decide ((j:Int)<((([0,r.2.2.2.1.length,r.2.2.1.length,r.2.2.1.length,r.2.2.2.2.1.length]:List Nat).getD k 0:Nat):Int))=true:=dlt hj
      simp only[hd,a5_,show ((r,(s.1,(s.2.1,s.2.2))):hb_)=(r,s) from rfl,vo_ h ok hv,a0_,ba_ (show Sm j by show j≤1000000000;omega),mvK]
      cases hq:lgl r s ((i:Int),((k:Int),(j:Int))) with
      | true=>simp only[a5_,hp,a0_]
      | false=>simp only[a2_,a0_]
    · simp only[ba_ (show Sm k by show k≤1000000000;omega)]
      rfl
  · simp only[ba_ (show Sm i by show i≤1000000000;omega)]
    rfl
theorem uf_ {r:ae_} (h:SmR r) (ok:OkR r) {s:ai_} (hv:VS r s):eo_ r s=some (lmv r s,()):=by
  have hpy:=ce_.1 ok.py
  obtain⟨P,hP⟩:∃ P:Nat,r.2.2.2.2.2.2.1=(P:Int):=⟨_,(Int.toNat_of_nonneg (by omega)).symm⟩
  have hc:=af9
  have hE:lmv r s=mvs (lgl r s) tf_ P:=by
    unfold lmv
    rw[hP,b8_]
    exact (br4 (lgl r s) (λk _=>cnt_le ok k) (λi k hk j a _=>lgl_out hv i hk a) P).symm
  unfold eo_
  rw[hE]
  simp only[hP]
  refine pu_ P (λi=>(mvs (lgl r s) tf_ i,((i:Int),()))) rfl (λi hi => ?_) (by simp only[dnl,a2_];rfl) rfl
  simp only[dlt hi,a5_]
  have l1:=ac3 (lgl r s) hc i
  refine pu_ 4 (λk=>(mvJ (lgl r s) (i:Int) tf_ (k+1) (mvs (lgl r s) tf_ i),(((k+1:Nat):Int),()))) rfl (λk hk => ?_) rfl ?_
  · have l2:=ac5 (lgl r s) (i:Int) hc (k+1) (mvs (lgl r s) tf_ i)
    simp only[show decide (((k+1:Nat):Int)≤4)=true from b5_ (by omega),a5_]
    refine pu_ 24 (λj=>(mvK (lgl r s) (i:Int) ((k+1:Nat):Int) j (mvJ (lgl r s) (i:Int) tf_ (k+1) (mvs (lgl r s) tf_ i)),((j:Int),()))) rfl (λj hj => ?_) rfl ?_
    · have l3:=ac4 (lgl r s) (i:Int) ((k+1:Nat):Int) j (mvJ (lgl r s) (i:Int) tf_ (k+1) (mvs (lgl r s) tf_ i))
      have hp:=cf_ (x:=((i:Int),(((k+1:Nat):Int),(j:Int)))) (show Sm (mvK (lgl r s) (i:Int) ((k+1:Nat):Int) j (mvJ (lgl r s) (i:Int) tf_ (k+1) (mvs (lgl r s) tf_ i))).length by show _≤1000000000;omega)
      simp only[show decide ((j:Int)<24)=true from b5_ (by omega),a5_,ar3 h ok hv,a0_,ba_ (show Sm j by show j≤1000000000;omega),mvK]
      cases hq:lgl r s ((i:Int),(((k+1:Nat):Int),(j:Int))) with
      | true=>simp only[a5_,hp,a0_]
      | false=>simp only[a2_,a0_]
    · simp only[ba_ (show Sm (k+1) by show k+1≤1000000000;omega)]
      rfl
  · simp only[ba_ (show Sm i by show i≤1000000000;omega)]
    rfl
end
section
set_option maxRecDepth 10000
theorem bi2 {α υ:Type} (l:List α) (hl:Sm l.length) (q:α→Bool) {body:(Int×(Int×Unit))→Option ((Int×(Int×Unit))⊕(Int×Unit))} {K:(Int×Unit)→Option υ} {x:Option υ}
    (hq:∀ (i:Nat) y,l[i]?=some y→body (-1,((i:Int),()))=some (.inl (cond (q y) (i:Int) (-1),(w64 ((i:Int)+1),()))))
    (he:body (-1,((l.length:Int),()))=some (.inr (-1,())))
    (hx:∀ i j:Nat,body ((i:Int),((j:Int),()))=some (.inr ((i:Int),())))
    (hk:∀ n:Int,((n = -1∧l.find? q=none)∨∃ (i:Nat) (y:α),n=(i:Int)∧l[i]?=some y∧l.find? q=some y)→K (n,())=x) :
    (ag_ body (-1,(0,()))).bind K=x:=by
  have gen:∀ (k i:Nat),i+k=l.length→∃ n:Int,ag_ body (-1,((i:Int),()))=some (n,())∧((n = -1∧(l.drop i).find? q=none)∨∃ (j:Nat) (y:α),n=(j:Int)∧l[j]?=some y∧(l.drop i).find? q=some y):=by
    intro k
    induction k with
    | zero =>
      intro i hi
      obtain rfl:i=l.length:=by omega
      exact⟨-1,br_ he,.inl ⟨rfl,by rw[o6_];rfl⟩⟩
    | succ k ih =>
      intro i hi
      have hil:i<l.length:=by omega
      obtain⟨y,hy⟩:=bd_ hil
      have hd:l.drop i=y::l.drop (i+1):=by
        rw[j1_ hil]
        rw[a7_ hil] at hy
        rw[a6_ hy]
      have hb:=hq i y hy
      rw[ba_ (show Sm i by unfold Sm at hl ⊢; omega)] at hb
      cases hqy:q y with
      | true =>
        rw[hqy] at hb
        exact⟨(i:Int),bo_ hb (br_ (hx i (i+1))),.inr ⟨i,y,rfl,hy,by rw[hd,List.find?_cons_of_pos hqy]⟩⟩
      | false =>
        rw[hqy] at hb
        obtain⟨n,e,c⟩:=ih (i+1) (by omega)
        refine⟨n,bo_ hb e,?_⟩
        rw[hd,List.find?_cons_of_neg (by rw[hqy];decide)]
        exact c
  obtain⟨n,e,c⟩:=gen l.length 0 (by omega)
  have e:ag_ body (-1,(0,()))=some (n,()):=e
  rw[e,a0_]
  exact hk n c
theorem az2 {r:ae_} (h:SmR r) (ok:OkR r) {σ ρ:Type} (F:Nat→List Int→σ) (G E:List Int→ρ) {body:σ→Option (σ⊕ρ)}
    (hb:∀ (i:Nat) th,i<101→VT r th→body (F i th)=some (match fstA r th with
      | none=>.inr (G th)
      | some y=>.inl (F (i+1) (th.set y.2.1.toNat y.2.2))))
    (he:∀ th,body (F 101 th)=some (.inr (E th))) :
    ∀ (n i:Nat) (th:List Int),i+n=101→VT r th→∃ z,ag_ body (F i th)=some z∧match stl r n th with
      | some th'=>z=G th'∧VT r th'
      | none=>∃ w,z=E w
  | 0,i,th,hi,hv=>by
    obtain rfl:i=101:=by omega
    exact⟨_,br_ (he th),th,rfl⟩
  | n+1,i,th,hi,hv=>by
    have hb1:=hb i th (by omega) hv
    unfold stl
    cases hf:fstA r th with
    | none =>
      rw[hf] at hb1
      exact⟨_,br_ hb1,rfl,hv⟩
    | some y =>
      rw[hf] at hb1
      have hm:y ∈ r.2.2.2.2.2.1:=List.mem_of_find?_eq_some hf
      obtain⟨j,hj⟩:=f8_ hm
      obtain⟨z,ez,hz⟩:=az2 h ok F G E hb he n (i+1) (th.set y.2.1.toNat y.2.2) (by omega) (cb9 h ok hv (ok.au j y hj).1)
      exact⟨z,bo_ hb1 ez,hz⟩
theorem tq_ {r:ae_} (h:SmR r) (ok:OkR r) {s:ai_} (hv:VT r s.1) (m1:Sm s.1.length) (m2:Sm s.2.1.length) (m3:Sm s.2.2.length) :
    gf_ r s=some ((stl r 101 s.1).elim (eS,(false,())) λth=>((th,s.2),(true,()))):=by
  unfold gf_
  simp only[av_ m1,av_ m2,av_ m3,a0_]
  obtain⟨z,ez,hz⟩:=az2 h ok (F:=λi th=>((i:Int),(th,((([]:List Int),(([]:List Int),(([]:List Int),()))),())))) (G:=λth=>(inr ((th,(s.2.1,s.2.2)),(true,())):((List Int)×(((List Int)×((List Int)×((List Int)×Unit)))×Unit))⊕(ai_×(Bool×Unit)))) (E:=λth=>inl (th,(([],([],([],()))),())))
    (body:=(λ(v3:(Int×((List Int)×(((List Int)×((List Int)×((List Int)×Unit)))×Unit)))) =>
 (cond (decide (v3.1≤100))
 ((ag_ (ρ:=(Int×Unit)) (λ(v4:(Int×(Int×Unit))) =>
 (((cond (decide (v4.2.1<(r.2.2.2.2.2.1.length:Int)))
 (some ((decide (v4.1<0)),()))
 (some (false,())))).bind λv5 =>
 (cond v5.1
 ((((at? r.2.2.2.2.2.1 v4.2.1).bind λv6 =>
 ((((bl_ (v3.2.1,(s.2.1,s.2.2)) v6.1).bind λv7 =>
 (cond v7.1
 ((at? v3.2.1 v6.2.1).bind λv8 =>
 ((at? v3.2.1 v6.2.1).bind λv9 =>
 (some ((v9 != v6.2.2),()))))
 (some (false,()))))).bind λv10 =>
 (cond v10.1
 (some (v4.2.1,()))
 (some (v4.1,())))))).bind λv11 =>
 (some (inl (v11.1,((w64 (v4.2.1+1)),())))))
 (some (inr (v4.1,())))))) ((-1),(0,()))).bind λv12 =>
 (cond (decide (v12.1<0))
 (some (inr (inr ((v3.2.1,(s.2.1,s.2.2)),(true,())))))
 ((at? r.2.2.2.2.2.1 v12.1).bind λv13 =>
 ((at? r.2.2.2.2.2.1 v12.1).bind λv14 =>
 ((at? v3.2.1 v13.2.1).bind λv15 =>
 ((at? v3.2.1 v13.2.1).bind λv16 =>
 (some (inl ((w64 (v3.1+1)),((v3.2.1.set v13.2.1.toNat v14.2.2),((v3.2.2.1.1,(v3.2.2.1.2.1,(v3.2.2.1.2.2.1,()))),())))))))))))
 (some (inr (inl (v3.2.1,((v3.2.2.1.1,(v3.2.2.1.2.1,(v3.2.2.1.2.2.1,()))),())))))))) (λi th hi hvt=>by
      simp only[show decide ((i:Int)≤100)=true from b5_ (by omega),a5_]
      have hl:=hvt.1
      refine bi2 r.2.2.2.2.2.1 h.au (λy=>(gi th y.2.1 != y.2.2)&&dl_ th y.1) (λj y hy => ?_) ?_ (λa b => ?_) (λn hc => ?_)
      · obtain⟨g1,g2⟩:=ok.au j y hy
        have hi:=(ml_ h ok g1).1
        obtain⟨c1,c2⟩:=ua_ h.th g2
        simp only[dlt (am_ hy),a5_,show decide ((-1:Int)<0)=true from rfl,a0_,ah_ hy,jb_ (s:=(th,(s.2.1,s.2.2))) (show y.1.length≤1000000000 by omega) (by show InC th.length y.1;rw[hl];exact c1),ol_ hi.1 (show y.2.1<th.length by omega)]
        cases dl_ th y.1 with
        | false=>rw[g0_];rfl
        | true=>cases gi th y.2.1 != y.2.2<;>rfl
      · simp only[dnl,a2_,a0_]
      · simp only[show decide ((a:Int)<0)=false from c1_ (by omega)]
        cases decide ((b:Int)<(r.2.2.2.2.2.1.length:Int))<;>rfl
      · rcases hc with ⟨rfl,hf⟩ | ⟨j,y,rfl,hy,hf⟩
        · rw[show fstA r th=none from hf]
          rfl
        · rw[show fstA r th=some y from hf]
          obtain⟨g1,g2⟩:=ok.au j y hy
          have hi2:=(ml_ h ok g1).1
          simp only[a0_,show decide ((j:Int)<0)=false from c1_ (by omega),a2_,ah_ hy,ol_ hi2.1 (show y.2.1<th.length by omega),ba_ (show Sm i by show _≤1000000000;omega)])
    (λth=>rfl) 101 0 s.1 rfl hv
  refine e4_ (congrArg (λo=>Option.bind o _) ez) ?_
  cases hs:stl r 101 s.1 with
  | none =>
    rw[hs] at hz
    obtain⟨w,rfl⟩:=hz
    rfl
  | some th' =>
    rw[hs] at hz
    obtain⟨rfl,_⟩:=hz
    rfl
noncomputable def mwX (a0:ae_) (a2:af_) (v0 v1 v2:List Int) (v3:Int):Option (List Int×(List Int×(List Int×Unit))) :=
 (cond (a2.2.1==1)
 ((at? a0.2.2.2.1 a2.2.2).bind λv4 =>
 ((at? a0.2.2.2.1 a2.2.2).bind λv5 =>
 ((at? v2 a2.1).bind λv6 =>
 ((at? v2 a2.1).bind λv7 =>
 (some (v0,(v1,((v2.set a2.1.toNat (w64 ((w64 (v4.1+v5.2.1)) - v3))),()))))))))
 (cond (a2.2.1==2)
 ((at? v1 a2.2.2).bind λv8 =>
 ((at? v1 a2.2.2).bind λv9 =>
 (some (v0,((v1.set a2.2.2.toNat (w64 ((-2) - a2.1))),(v2,()))))))
 (cond (a2.2.1==3)
 ((at? v1 a2.2.2).bind λv10 =>
 ((at? v1 a2.2.2).bind λv11 =>
 (some (v0,((v1.set a2.2.2.toNat v3),(v2,()))))))
 (cond (a2.2.1==4)
 ((at? a0.2.2.2.2.1 a2.2.2).bind λv12 =>
 ((ag_ (ρ:=((List Int)×Unit)) (λ(v13:(Int×((List Int)×Unit))) =>
 (cond (decide (v13.1<(v12.2.2.2.2.2.2.1.length:Int)))
 ((at? v12.2.2.2.2.2.2.1 v13.1).bind λv14 =>
 ((at? v13.2.1 v14).bind λv15 =>
 ((at? v13.2.1 v14).bind λv16 =>
 (some (inl ((w64 (v13.1+1)),((v13.2.1.set v14.toNat (-1)),())))))))
 (some (inr (v13.2.1,()))))) (0,(v1,()))).bind λv17 =>
 ((ag_ (ρ:=((List Int)×Unit)) (λ(v18:(Int×((List Int)×Unit))) =>
 (cond (decide (v18.1<(v12.2.2.2.2.2.2.2.length:Int)))
 ((at? v12.2.2.2.2.2.2.2 v18.1).bind λv19 =>
 ((at? v18.2.1 v19).bind λv20 =>
 ((at? v18.2.1 v19).bind λv21 =>
 (some (inl ((w64 (v18.1+1)),((v18.2.1.set v19.toNat (w64 ((-2) - a2.1))),())))))))
 (some (inr (v18.2.1,()))))) (0,(v17.1,()))).bind λv22 =>
 ((ag_ (ρ:=((List Int)×Unit)) (λ(v23:(Int×((List Int)×Unit))) =>
 (cond (decide (v23.1<(v12.2.2.2.2.2.1.length:Int)))
 ((at? v12.2.2.2.2.2.1 v23.1).bind λv24 =>
 ((at? v12.2.2.2.2.2.1 v23.1).bind λv25 =>
 ((at? v23.2.1 v24.1).bind λv26 =>
 ((at? v23.2.1 v24.1).bind λv27 =>
 (some (inl ((w64 (v23.1+1)),((v23.2.1.set v24.1.toNat v25.2),()))))))))
 (some (inr (v23.2.1,()))))) (0,(v0,()))).bind λv28 =>
 (some (v28.1,(v22.1,(v2,()))))))))
 (some (v0,(v1,(v2,()))))))))
theorem dup {α β:Type} (o:Option α) (f:α→α→Option β):(o.bind λa=>o.bind λb=>f a b)=o.bind λa=>f a a:=by cases o<;>rfl
theorem mwX_eq {r:ae_} {m:af_} {th pr py:List Int} {x:Int} (hx:at? py m.1=some x) {z} (h:mvX r m th pr py=some z):mwX r m th pr py x=some z:=by
  unfold mvX at h
  unfold mwX
  cases hk1:m.2.1==1 with
  | true =>
    rw[hk1] at h
    simp only[a5_,hx,a0_] at h ⊢
    cases hw:at? r.2.2.2.1 m.2.2 with
    | none=>rw[hw] at h;cases h
    | some w=>rw[hw] at h;exact h
  | false =>
  rw[hk1] at h
  simp only[a2_] at h ⊢
  cases hk2:m.2.1==2 with
  | true=>rw[hk2] at h;exact h
  | false =>
  rw[hk2] at h
  simp only[a2_] at h ⊢
  cases hk3:m.2.1==3 with
  | true =>
    rw[hk3] at h
    simp only[a5_,hx,a0_] at h ⊢
    exact h
  | false =>
  rw[hk3] at h
  simp only[a2_,dup] at h ⊢
  exact h
theorem tr_ {r:ae_} (h:SmR r) (ok:OkR r) {s:ai_} (hv:VS r s) {m:af_} (hl:lgl r s m=true) :
    gg_ r s m=some ((ya_ r s m).elim (eS,(false,())) λt=>(t,(true,()))):=by
  obtain⟨m1,m2,m3⟩:=py_ h ok hv
  obtain⟨pj,px,hpj,hp,e2⟩:=bt3 m3 hl
  have hv2:=VS_mv h ok hv hl
  obtain⟨n1,n2,n3⟩:=py_ h ok hv2
  unfold gg_
  simp only[av_ m1,av_ m2,av_ m3,a0_]
  refine e4_ (congrArg (λo=>Option.bind o _) e2) ?_
  rw[a0_]
  refine e4_ (congrArg (λo=>Option.bind o _) (mwX_eq e2 (cr2 h ok hv hl))) ?_
  rw[a0_]
  simp only
  rw[tq_ (s:=((mvP r s m).1,((mvP r s m).2.1,(mvP r s m).2.2))) h ok ⟨hv2.l1,hv2.th⟩ n1 n2 n3,a0_]
  unfold ya_
  cases stl r 101 (mvP r s m).1<;>rfl
theorem aj0 {r:ae_} (h:SmR r) (h0:cy_ r=0) {s:ai_} (hv:VS r s) :
    ia_ r s=some ((stl r 101 s.1).elim (eS,(27,())) λth=>((th,s.2),(0,()))):=by
  have ok:=bq_ h0
  obtain⟨m1,m2,m3⟩:=py_ h ok hv
  unfold ia_
  rw[ug_ h,a0_,gy_ h0 hv]
  simp only[show ((0:Int) != 0)=false from rfl,a2_]
  rw[tq_ h ok ⟨hv.l1,hv.th⟩ m1 m2 m3,a0_]
  cases stl r 101 s.1<;>rfl
def bi4 (r:ae_):ai_:=(r.2.1.map (·.2.2.2),(r.2.2.1.map (·.2.1),List.replicate r.2.2.2.2.2.2.1.toNat 0))
theorem av0 {r:ae_} (h:SmR r) (h0:cy_ r=0):VS r (bi4 r):=by
  have ok:=bq_ h0
  have hpy:=ce_.1 ok.py
  have hth:=h.th
  refine⟨d6_ _,d6_ _,?_,λi n hn => ?_,λi p hp => ?_,λi p hp => ?_⟩
  · show ((List.replicate _ (0:Int)).length:Int)=_
    rw[f2_]
    omega
  · have hn:(r.2.1.map (·.2.2.2))[i]?=some n:=hn
    rw[d8_] at hn
    obtain⟨x,hx,rfl⟩:=f5_.1 hn
    have hk:=ok.th i x hx
    unfold bk7 at hk
    simp only[a1_] at hk
    have hi:=am_ hx
    unfold ng_
    rw[ah_ hx,a1_]
    exact⟨ce_.2 (by rw[fy_ (by omega) (by omega)];omega),hk.2.2.2⟩
  · have hp:(r.2.2.1.map (·.2.1))[i]?=some p:=hp
    rw[d8_] at hp
    obtain⟨x,hx,rfl⟩:=f5_.1 hp
    have hk:=(ok.pr i x hx).1
    unfold ch5 at hk
    simp only[a1_,c8_] at hk
    rw[cr8 h ok.py,c8_,c8_]
    rcases hk.2 with hk | hk
    · exact .inl hk
    · exact .inr (.inl hk)
  · have hp:(List.replicate r.2.2.2.2.2.2.1.toNat (0:Int))[i]?=some p:=hp
    rw[h5_] at hp
    split at hp
    · obtain rfl:=a6_ hp
      have hpl:=h.pl
      have hne:r.1.length≠0:=λe=>ok.ne (n5_.1 e)
      unfold rw_
      exact ce_.2 (by rw[fy_ (by omega) (by omega)];omega)
    · cases hp
def begS (r:ae_):Option ai_:=(stl r 101 (bi4 r).1).map λth=>(th,(bi4 r).2)
theorem begS_VS {r:ae_} (h:SmR r) (h0:cy_ r=0) {t:ai_} (ht:begS r=some t):VS r t:=by
  have ok:=bq_ h0
  have hv:=av0 h h0
  unfold begS at ht
  obtain⟨th,hs,rfl⟩:=f5_.1 ht
  obtain⟨z,ez,hz⟩:=nh_ h ok (pr:=(bi4 r).2.1) (py:=(bi4 r).2.2) 101 0 (bi4 r).1 rfl ⟨hv.l1,hv.th⟩
  rw[hs] at hz
  exact⟨hz.2.1,hv.l2,hv.l3,hz.2.2,hv.pr,hv.py⟩
def ag9 (r:ae_):ai_×(Int×Unit):=cond (cy_ r != 0) (eS,(cy_ r,())) ((begS r).elim (eS,(27,())) λs=>(s,(0,())))
theorem aq4 {r:ae_} (h:SmR r):ii_ r=some (ag9 r):=by
  rw[ch0]
  unfold rbegX ag9
  rw[sq_ h,a0_]
  cases hr:cy_ r != 0 with
  | true=>rfl
  | false =>
  have h0:cy_ r=0:=by simpa using hr
  have ok:=bq_ h0
  have hpy:=ce_.1 ok.py
  have hv:=av0 h h0
  obtain⟨m1,m2,m3⟩:=py_ h ok hv
  simp only[a2_]
  have hplayers:mk? (α:=Int) r.2.2.2.2.2.2.1 0=some (List.replicate r.2.2.2.2.2.2.1.toNat 0):=rs_ (by omega) (by omega)
  rw[hplayers,a0_,aw5 h,a0_,ax9 h,a0_]
  simp only
  refine e4_ (congrArg (λo=>Option.bind o _) (av_ m1)) ?_
  rw[a0_]
  refine e4_ (congrArg (λo=>Option.bind o _) (av_ m2)) ?_
  rw[a0_]
  refine e4_ (congrArg (λo=>Option.bind o _) (av_ m3)) ?_
  rw[a0_]
  obtain⟨z,ez,hz⟩:=nh_ h ok (pr:=(bi4 r).2.1) (py:=(bi4 r).2.2) 101 0 (bi4 r).1 rfl ⟨hv.l1,hv.th⟩
  refine e4_ (congrArg (λo=>Option.bind (Option.bind o _) _) ez) ?_
  unfold begS
  cases hs:stl r 101 (bi4 r).1 with
  | none =>
    rw[hs] at hz
    obtain⟨w,rfl⟩:=hz
    rfl
  | some th' =>
    rw[hs] at hz
    obtain⟨rfl,_⟩:=hz
    rfl
theorem aj1 {r:ae_} (h:SmR r):ji_ r=some (ag9 r):=by
  unfold ji_ ag9
  rw[qi_ h,a0_]
  cases hr:cy_ r != 0 with
  | true=>rfl
  | false =>
  have h0:cy_ r=0:=by simpa using hr
  have ok:=bq_ h0
  have hpy:=ce_.1 ok.py
  have hv:=av0 h h0
  simp only[a2_]
  have hplayers:mk? (α:=Int) r.2.2.2.2.2.2.1 0=some (List.replicate r.2.2.2.2.2.2.1.toNat 0):=rs_ (by omega) (by omega)
  rw[hplayers,a0_]
  refine e4_ (congrArg (λo=>Option.bind o _) (aw5 h)) ?_
  rw[a0_]
  refine e4_ (congrArg (λo=>Option.bind o _) (ax9 h)) ?_
  rw[a0_]
  refine e4_ (congrArg (λo=>Option.bind o _) (aj0 h h0 hv)) ?_
  unfold begS
  show ((some ((stl r 101 (bi4 r).1).elim (eS,(27,())) λth=>((th,(bi4 r).2),((0:Int),())))).bind λv10=>some (v10.1,(v10.2.1,())))=_
  cases stl r 101 (bi4 r).1<;>rfl
end
section
set_option maxRecDepth 10000
theorem lo_ {σ ρ υ:Type} (n:Nat) (Inv:Nat→σ→Prop) {body:σ→Option (σ⊕ρ)} {z0:σ} {K:ρ→Option υ} {x:Option υ} (h0:Inv 0 z0)
    (hs:∀ j z,j<n→Inv j z→∃ z',body z=some (.inl z')∧Inv (j+1) z') (he:∀ z,Inv n z→∃ r,body z=some (.inr r)∧K r=x):(ag_ body z0).bind K=x:=by
  have gen:∀ (k i:Nat) (z:σ),i+k=n→Inv i z→∃ r,ag_ body z=some r∧K r=x:=by
    intro k
    induction k with
    | zero =>
      intro i z hi hz
      obtain rfl:i=n:=by omega
      obtain⟨r,e,hr⟩:=he z hz
      exact⟨r,br_ e,hr⟩
    | succ k ih =>
      intro i z hi hz
      obtain⟨z',e,hz'⟩:=hs i z (by omega) hz
      obtain⟨r,er,hr⟩:=ih (i+1) z' (by omega) hz'
      exact⟨r,bo_ e er,hr⟩
  obtain⟨r,e,hr⟩:=gen n 0 z0 (by omega) h0
  rw[e,a0_]
  exact hr
theorem vw_ {s:ai_} (m1:Sm s.1.length) (m2:Sm s.2.1.length) (m3:Sm s.2.2.length):fo_ s=some (s,()):=by
  unfold fo_
  simp only[av_ m1,av_ m2,av_ m3,a0_]
theorem af7 {l:List Int} {j:Nat} {x p:Int} (hx:l[j]?=some x):(l.take (j+1)).contains p=((l.take j).contains p||x==p):=by
  rw[d7_,hx]
  have:(x==p)=(p==x):=k3_.2 (by rw[f4_,f4_];exact eq_comm)
  rw[this,List.contains_eq_any_beq,List.contains_eq_any_beq,List.any_append]
  simp
theorem ys_ {g:ad_} (hg:SmG g) (ok:OkG g) {p:aa_} (hv:VP g p):ij_ g p=some ((p.1,rdN g p.1 p.2),()):=by
  have h0:=ok.room
  have okr:=bq_ h0
  obtain⟨m1,m2,m3⟩:=py_ hg.room okr hv.st
  have hn:=hg.nt
  have hd:=hv.rd
  have hrl:=ss_ (s:=p.1) hd
  have hl1:=hv.st.l1
  unfold ij_
  rw[vw_ m1 m2 m3,a0_,av_ (show Sm p.2.length by show _≤1000000000;omega),a0_]
  refine lo_ g.2.2.2.1.length (λ(i:Nat) (z:Int×(List Bool×Unit))=>∃ d',z=((i:Int),(d',()))∧∀ j,d'[j]?=if j<i then (rdN g p.1 p.2)[j]? else p.2[j]?) ⟨p.2,rfl,λj=>by simp⟩ (λi z hi hz => ?_) (λz hz => ?_)
  · obtain⟨d',rfl,hd'⟩:=hz
    obtain⟨x,hx⟩:=bd_ (l:=g.2.2.2.1) (i:=i) hi
    obtain⟨y,hy⟩:=bd_ (l:=p.2) (i:=i) (by omega)
    have hy':d'[i]?=some y:=by rw[hd' i,if_neg (by omega)];exact hy
    have hr:=bn7 (s:=p.1) hx hy
    obtain⟨c1,c2⟩:=ua_ hg.room.th (ok.nt i x hx).2
    have hH:bl_ p.1 x.2.2.2.1=some (dl_ p.1.1 x.2.2.2.1,()):=jb_ (show x.2.2.2.1.length≤1000000000 by omega) (by show InC p.1.1.length x.2.2.2.1;rw[hl1];exact c1)
    simp only[dlt (am_ hx),a5_,ah_ hx,a0_]
    refine⟨?z',?_,?_⟩
    case z'=>exact (((i+1:Nat):Int),(cond (dl_ p.1.1 x.2.2.2.1&&p.1.2.2.contains x.2.1) (d'.set i true) d',()))
    · refine lo_ p.1.2.2.length (λ(j:Nat) (z:Int×(List Bool×Unit))=>z=((j:Int),(cond (dl_ p.1.1 x.2.2.2.1&&(p.1.2.2.take j).contains x.2.1) (d'.set i true) d',()))) ?_ (λj z hj hz => ?_) (λz hz => ?_)
      · rw[k9_]
        show _=((0:Int),(cond (dl_ p.1.1 x.2.2.2.1&&false) (d'.set i true) d',()))
        rw[g0_]
        rfl
      · subst hz
        obtain⟨a,ha⟩:=bd_ hj
        refine⟨_,?_,rfl⟩
        simp only[dlt hj,a5_,ah_ ha,a0_,ba_ (show Sm j by unfold Sm at m3 ⊢; omega),af7 ha]
        cases hq:a==x.2.1 with
        | false=>simp only[a2_,a0_,h6_]
        | true =>
          simp only[a5_,hH,a0_,n2_,i3_]
          cases hb:dl_ p.1.1 x.2.2.2.1 with
          | false=>simp only[a2_,a0_,e9_]
          | true =>
            simp only[a5_,a0_,c2_]
            cases hc:(p.1.2.2.take j).contains x.2.1 with
            | false=>simp only[a2_,ah_ hy',a0_,b8_]
            | true =>
              have:(d'.set i true)[i]?=some true:=by rw[e3_ (am_ hy')]
              simp only[a5_,ah_ this,a0_,b8_,List.set_set]
      · subst hz
        refine⟨_,by simp only[dnl,a2_];rfl,?_⟩
        simp only[e1_,ba_ (show Sm i by show i≤1000000000;omega)]
    · refine⟨_,rfl,λk => ?_⟩
      unfold rdB at hr
      cases hb:(dl_ p.1.1 x.2.2.2.1&&p.1.2.2.contains x.2.1) with
      | false =>
        rw[hb,h6_] at hr
        rw[a2_,hd' k]
        by_cases hk:k=i
        · subst hk
          rw[if_neg (by omega),if_pos (by omega),hr,hy]
        · by_cases hk2:k<i
          · rw[if_pos hk2,if_pos (by omega)]
          · rw[if_neg hk2,if_neg (by omega)]
      | true =>
        rw[hb,n2_] at hr
        rw[a5_,g1_]
        by_cases hk:i=k
        · subst hk
          rw[if_pos rfl,if_pos (am_ hy'),if_pos (by omega),hr]
        · rw[if_neg hk,hd' k]
          by_cases hk2:k<i
          · rw[if_pos hk2,if_pos (by omega)]
          · rw[if_neg hk2,if_neg (by omega)]
  · obtain⟨d',rfl,hd'⟩:=hz
    simp only[dnl,a2_]
    refine⟨_,rfl,?_⟩
    have:d'=rdN g p.1 p.2:=f1_ λk=>by
      rw[hd' k]
      split
      · rfl
      · rw[b9_ (by omega),b9_ (by omega)]
    simp only[this]
theorem bf8 {g:ad_} (hg:SmG g) (h0:cl_ g=0) {p q:aa_} (hv:VP g p) {m:af_} (hq:stepP g p m=some q):lc_ g p m=some (q,()):=by
  have ok:=dk_ h0
  have okr:=bq_ ok.room
  unfold stepP at hq
  cases hc:(okM g p.2 m&&lgl g.1 p.1 m) with
  | false=>rw[hc] at hq;cases hq
  | true =>
  rw[hc,a5_] at hq
  obtain⟨s,hs,rfl⟩:=f5_.1 hq
  rw[a1_] at hc
  unfold lc_
  rw[tr_ hg.room okr hv.st hc.2,a0_,hs]
  simp only[Option.elim]
  rw[ys_ hg ok (p:=(s,p.2)) ⟨ur_ hg.room ok.room hv.st hc.2 hs,hv.rd⟩]
  rfl
noncomputable def ud_ (g:ad_):aa_×(Int×Unit):=cond (cl_ g != 0) (eP,(cl_ g,())) (cond ((ag9 g.1).2.1 != 0) (eP,((ag9 g.1).2.1,())) (((ag9 g.1).1,rdN g (ag9 g.1).1 (List.replicate g.2.2.2.1.length false)),(0,())))
theorem au8 {r:ae_} (h:SmR r) (he:(ag9 r).2.1=0):VS r (ag9 r).1:=by
  unfold ag9 at he ⊢
  cases hr:cy_ r != 0 with
  | true =>
    rw[hr] at he
    rw[o0_] at hr
    exact absurd he hr
  | false =>
  have h0:cy_ r=0:=by simpa using hr
  rw[hr,a2_] at he
  cases hb:begS r with
  | none =>
    rw[hb] at he
    exact absurd (show (27:Int)=0 from he) (by decide)
  | some t=>exact begS_VS h h0 hb
theorem au9 {g:ad_} (hg:SmG g) (he:(ud_ g).2.1=0):cl_ g=0∧VP g (ud_ g).1:=by
  unfold ud_ at he ⊢
  cases hr:cl_ g != 0 with
  | true =>
    rw[hr] at he
    rw[o0_] at hr
    exact absurd he hr
  | false =>
  rw[hr,a2_] at he
  have h0:cl_ g=0:=by simpa using hr
  cases hb:(ag9 g.1).2.1 != 0 with
  | true =>
    rw[hb] at he
    rw[o0_] at hb
    exact absurd he hb
  | false =>
  have hb:(ag9 g.1).2.1=0:=by simpa using hb
  exact⟨h0,au8 hg.room hb,ss_ f2_⟩
theorem mk_nt {g:ad_} (hg:SmG g):mk? (α:=Bool) (g.2.2.2.1.length:Int) false=some (List.replicate g.2.2.2.1.length false):=by
  have:=hg.nt
  rw[rs_ (by omega) (by omega),b8_]
theorem ai9 {g:ad_} (hg:SmG g):jg_ g=some (ud_ g):=by
  unfold jg_ ud_
  rw[vv_ hg,a0_]
  cases hr:cl_ g != 0 with
  | true=>rfl
  | false =>
  have h0:cl_ g=0:=by simpa using hr
  have ok:=dk_ h0
  simp only[a2_]
  rw[aj1 hg.room,a0_]
  cases hb:(ag9 g.1).2.1 != 0 with
  | true=>rfl
  | false =>
  have hb:(ag9 g.1).2.1=0:=by simpa using hb
  simp only[a2_]
  rw[mk_nt hg,a0_,ys_ hg ok (p:=((ag9 g.1).1,List.replicate g.2.2.2.1.length false)) ⟨au8 hg.room hb,f2_⟩]
  rfl
theorem as1 {g:ad_} (hg:SmG g):lj_ g=some (ud_ g):=by
  rw[ch8]
  unfold pbegX ud_
  rw[yv_ hg,a0_]
  cases hr:cl_ g != 0 with
  | true=>rfl
  | false =>
  have h0:cl_ g=0:=by simpa using hr
  have ok:=dk_ h0
  have hn:=hg.nt
  simp only[a2_]
  rw[aq4 hg.room,a0_]
  cases hb:(ag9 g.1).2.1 != 0 with
  | true=>rfl
  | false =>
  have hb:(ag9 g.1).2.1=0:=by simpa using hb
  have hv:=au8 hg.room hb
  obtain⟨m1,m2,m3⟩:=py_ hg.room (bq_ ok.room) hv
  simp only[a2_]
  rw[mk_nt hg,a0_]
  obtain⟨z,ez,hz⟩:=wb_ hg ok hv (d:=List.replicate g.2.2.2.1.length false) f2_ []
  have hrl:=ss_ (g:=g) (s:=(ag9 g.1).1) (d:=List.replicate g.2.2.2.1.length false) f2_
  rw[ez,a0_,av_ m1,a0_,av_ m2,a0_,av_ m3,a0_,hz,av_ (show Sm (rdN g _ _).length by show _≤1000000000;omega),a0_]
def cd7 (g:ad_) (q:List Nat):List ak_:=q.filterMap λe=>(g.2.2.2.1[e]?).map (·.2.2.2.2)
theorem ar0 {g:ad_} (hg:SmG g) {p:aa_} (hd:p.2.length=g.2.2.2.1.length) (lock:Int) :
    ∃ q:List Nat,hf_ g p lock=some (q.map (λe:Nat=>(e:Int)),())∧q.length≤20∧(∀ e ∈ q,e<g.2.2.2.1.length)∧cd7 g q=bh9 g p.2 lock:=by
  have hn:=hg.nt
  suffices hk:∃ r,hf_ g p lock=some r∧∃ q:List Nat,r=(q.map (λe:Nat=>(e:Int)),())∧q.length≤20∧(∀ e ∈ q,e<g.2.2.2.1.length)∧cd7 g q=bh9 g p.2 lock by
    obtain⟨r,e,q,rfl,h⟩:=hk
    exact⟨q,e,h⟩
  unfold hf_
  have key:∀ (k i:Nat) (q:List Nat),i+k=g.2.2.2.1.length→q.length≤i→(∀ e ∈ q,e<g.2.2.2.1.length)→cd7 g q=((g.2.2.2.1.zip p.2).take i).filterMap (λx=>cond (x.1.2.2.1==lock&&x.2) (some x.1.2.2.2.2) none) →
      ∃ q':List Nat,ag_ (ρ:=((List Int)×Unit)) (λ(v0:((List Int)×(Int×Unit))) =>
 (cond (decide (v0.2.1<(g.2.2.2.1.length:Int)))
 ((((((at? p.2 v0.2.1).bind λv1 =>
 (cond v1
 ((at? g.2.2.2.1 v0.2.1).bind λv2 =>
 (some ((v2.2.2.1==lock),())))
 (some (false,()))))).bind λv3 =>
 (cond v3.1
 ((push? (α:=Int) v0.1 [v0.2.1]).bind λv4 =>
 (some (v4,())))
 (some (v0.1,()))))).bind λv5 =>
 (some (inl (v5.1,((w64 (v0.2.1+1)),())))))
 (some (inr (v0.1,()))))) (q.map (λe:Nat=>(e:Int)),((i:Int),()))=some (q'.map (λe:Nat=>(e:Int)),())∧q'.length≤20∧(∀ e ∈ q',e<g.2.2.2.1.length)∧cd7 g q'=bh9 g p.2 lock:=by
    intro k
    induction k with
    | zero =>
      intro i q hi hq hb hc
      obtain rfl:i=g.2.2.2.1.length:=by omega
      refine⟨q,br_ (by simp only[dnl,a2_]),by omega,hb,?_⟩
      rw[hc,h0_ (by rw[n4_];omega)]
      rfl
    | succ k ih =>
      intro i q hi hq hb hc
      obtain⟨x,hx⟩:=bd_ (l:=g.2.2.2.1) (i:=i) (by omega)
      obtain⟨y,hy⟩:=bd_ (l:=p.2) (i:=i) (by omega)
      have hzip:(g.2.2.2.1.zip p.2)[i]?=some (x,y):=by rw[i1_];exact⟨hx,hy⟩
      have hstep:((g.2.2.2.1.zip p.2).take (i+1)).filterMap (λx=>cond (x.1.2.2.1==lock&&x.2) (some x.1.2.2.2.2) none)=((g.2.2.2.1.zip p.2).take i).filterMap (λx=>cond (x.1.2.2.1==lock&&x.2) (some x.1.2.2.2.2) none)++cond (x.2.2.1==lock&&y) [x.2.2.2.2] []:=by
        rw[d7_,hzip,o5_]
        cases hc:(x.2.2.1==lock&&y) with
        | false=>simp[hc]
        | true=>simp[hc]
      cases hcc:(x.2.2.1==lock&&y) with
      | false =>
        obtain⟨q',e,r1⟩:=ih (i+1) q (by omega) (by omega) hb (by rw[hstep,hcc,a2_,e8_];exact hc)
        refine⟨q',bo_ ?_ e,r1⟩
        simp only[dlt (am_ hx),a5_,ah_ hx,ah_ hy,a0_,ba_ (show Sm i by show i≤1000000000;omega)]
        cases y with
        | false=>rfl
        | true =>
          rw[i3_] at hcc
          simp only[a5_,hcc,a0_,a2_]
      | true =>
        have hcc2:=hcc
        rw[a1_] at hcc2
        obtain⟨h1,rfl⟩:=hcc2
        obtain⟨q',e,r1⟩:=ih (i+1) (q++[i]) (by omega) (by rw[a8_,d5_];omega) (λe he=>by
          rcases b3_.1 he with he | he
          · exact hb e he
          · rw[e7_] at he
            omega) (by
          rw[hstep,hcc,a5_,← hc]
          unfold cd7
          rw[o5_]
          simp[hx])
        refine⟨q',bo_ ?_ e,r1⟩
        simp only[dlt (am_ hx),a5_,ah_ hx,ah_ hy,a0_,ba_ (show Sm i by show i≤1000000000;omega),h1,cf_ (show Sm (q.map (λe:Nat=>(e:Int))).length by rw[d6_];show _≤1000000000;omega),j2_,g6_,List.map_nil]
  obtain⟨q',e,r1⟩:=key g.2.2.2.1.length 0 [] (by omega) (l7_ _) (λe he=>by cases he) rfl
  refine⟨_,?_,q',rfl,r1⟩
  refine e4_ (congrArg (λo=>Option.bind o _) e) rfl
theorem ar1 {g:ad_} {q:List Nat} (hq:q.length≤20) (hb:∀ e ∈ q,e<g.2.2.2.1.length):je_ g (q.map (λe:Nat=>(e:Int)))=some (cd7 g q,()):=by
  unfold je_
  refine lo_ q.length (λ(i:Nat) (z:List ak_×(Int×Unit))=>z=(cd7 g (q.take i),((i:Int),()))) (by rw[k9_];rfl) (λi z hi hz => ?_) (λz hz => ?_)
  · subst hz
    obtain⟨e,he⟩:=bd_ hi
    obtain⟨n,hn⟩:=bd_ (hb e (ax_ he))
    have hm:(q.map (λe:Nat=>(e:Int)))[i]?=some (e:Int):=by rw[d8_,he];rfl
    have hl:(cd7 g (q.take i)).length≤20:=by
      unfold cd7
      refine c6_ (p4_ ..) ?_
      rw[c9_];omega
    refine⟨_,?_,rfl⟩
    simp only[d6_,dlt hi,a5_,ah_ hm,ah_ hn,a0_,cf_ (show Sm _ from c6_ hl (by omega)),ba_ (show Sm i by show i≤1000000000;omega)]
    rw[d7_,he]
    unfold cd7
    rw[o5_]
    simp[hn]
  · subst hz
    refine⟨_,by simp only[d6_,dnl,a2_];rfl,?_⟩
    simp only[e1_]
theorem bf7 {g:ad_} (hg:SmG g) (ok:OkG g) {p:aa_} (hd:p.2.length=g.2.2.2.1.length) {lock:Int} (h0:0≤lock) {l:ab_} (hl:at? g.2.1 lock=some l):lb_ g p lock=some (opn g p.2 lock,()):=by
  obtain⟨_,_,l1⟩:=da_ hl
  obtain⟨q,e,hq,hb,hc⟩:=ar0 hg hd lock
  unfold lb_
  rw[e,a0_]
  unfold ir_
  rw[hl,a0_,ar1 hq hb,a0_,hc,aj3 (ok.lk _ l l1).1 (bc5 hg p.2 lock) (λc hc=>by
    obtain⟨i,n,hn,rfl,rfl⟩:=ag0 hc
    exact bq7 ok hn h0 hl) (λc hc=>by
    obtain⟨i,n,hn,rfl,rfl⟩:=ag0 hc
    exact c6_ (hg.ntn n (ax_ hn)).2.2 (by omega))]
  unfold opn rdC
  rw[c1_ (by omega),hl]
  rfl
theorem ye_ {g:ad_} (hg:SmG g) (h0:cl_ g=0) {p:aa_} (hv:VP g p) {m:af_} (hl:lgl g.1 p.1 m=true):gj_ g p m=some ((stepP g p m).isSome,()):=by
  have ok:=dk_ h0
  have okr:=bq_ ok.room
  have hac:=hg.ac
  unfold gj_ stepP okM
  rw[tr_ hg.room okr hv.st hl,a0_,hl,i3_]
  cases hs:ya_ g.1 p.1 m with
  | none =>
    rw[Option.map_none]
    simp only[Option.elim,g4_,a5_]
    generalize (cond (m.2.1==4) _ true:Bool)=b
    cases b<;>rfl
  | some s =>
  simp only[Option.elim,e5_,a2_,g7_]
  rw[sk_]
  cases hk:m.2.1==4 with
  | false=>rfl
  | true =>
  simp only[e5_,a2_,a5_]
  unfold lgl at hl
  rw[a1_] at hl
  have hl:=hl.2
  have hk':m.2.1=4:=f4_.1 hk
  rw[hk'] at hl
  simp only[show ((4:Int)==1)=false from rfl,show ((4:Int)==2)=false from rfl,show ((4:Int)==3)=false from rfl,show ((4:Int)==4)=true from rfl,a2_,a5_] at hl
  rcases cr_ (l:=g.1.2.2.2.2.1) (by show _≤1000000000;omega) m.2.2 with ⟨f1,f2⟩ | ⟨j,a,hj,ha,f1,f2⟩
  · rw[f2] at hl;cases hl
  · rw[f2]
    simp only[a0_]
    cases hz:decide (a.2.2.1<0) with
    | true =>
      unfold opn
      rw[hz]
      rfl
    | false =>
    have hz':=e2_ hz
    have hlt:=ok.ac j a ha
    obtain⟨l,hl⟩:=bd_ (l:=g.2.1) (i:=a.2.2.1.toNat) (by omega)
    have hl2:at? g.2.1 a.2.2.1=some l:=by rw[show a.2.2.1=((a.2.2.1.toNat:Nat):Int) by omega];exact ah_ hl
    simp only[a2_]
    rw[bf7 hg ok hv.rd (by omega) hl2,a0_]
    cases opn g p.2 a.2.2.1<;>rfl
theorem as7 {q:af_→Bool} {i k:Int} {m:af_}:∀ (n:Nat) (l:List af_),m ∈ mvK q i k n l→m ∈ l∨q m=true
  | 0,l,h=>.inl h
  | n+1,l,h=>by
    unfold mvK at h
    cases hq:q (i,(k,(n:Int))) with
    | false=>rw[hq] at h;exact as7 n l h
    | true =>
      rw[hq,a5_] at h
      rcases b3_.1 h with h | h
      · exact as7 n l h
      · rw[e7_] at h
        exact .inr (by rw[h];exact hq)
theorem br6 {q:af_→Bool} {i:Int} {c:Nat→Nat} {m:af_}:∀ (k:Nat) (l:List af_),m ∈ mvJ q i c k l→m ∈ l∨q m=true
  | 0,l,h=>.inl h
  | k+1,l,h=>(as7 (c k) _ h).elim (λh=>br6 k l h) .inr
theorem br3 {q:af_→Bool} {c:Nat→Nat} {m:af_}:∀ n,m ∈ mvs q c n→q m=true
  | 0,h=>by cases h
  | n+1,h=>(br6 5 _ h).elim (λh=>br3 n h) id
theorem as8 {r:ae_} {s:ai_} {m:af_} (h:m ∈ lmv r s):lgl r s m=true:=br3 _ h
theorem as9 {r:ae_} (ok:OkR r) (s:ai_):(lmv r s).length≤480:=by
  have hpy:=ce_.1 ok.py
  have:=ac3 (lgl r s) (λk=>c6_ (cnt_le ok k) (af9 k)) r.2.2.2.2.2.2.1.toNat
  unfold lmv
  omega
noncomputable def pmv (g:ad_) (p:aa_):List af_:=(lmv g.1 p.1).filter λm=>(stepP g p m).isSome
theorem xc_ {α:Type} {l:List α} {i:Nat} {x:α} (q:α→Bool) (hx:l[i]?=some x):(l.take (i+1)).filter q=cond (q x) ((l.take i).filter q++[x]) ((l.take i).filter q):=by
  rw[d7_,hx,n6_]
  cases hq:q x with
  | true=>simp[hq]
  | false=>simp[hq]
theorem ar2 {g:ad_} (hg:SmG g) (h0:cl_ g=0) {p:aa_} (hv:VP g p):jf_ g p=some (pmv g p,()):=by
  have ok:=dk_ h0
  have okr:=bq_ ok.room
  have hll:=as9 okr p.1
  unfold jf_
  rw[uf_ hg.room okr hv.st,a0_]
  refine lo_ (lmv g.1 p.1).length (λ(i:Nat) (z:List af_×(Int×Unit))=>z=(((lmv g.1 p.1).take i).filter (λm=>(stepP g p m).isSome),((i:Int),()))) (by rw[k9_];rfl) (λi z hi hz => ?_) (λz hz => ?_)
  · subst hz
    obtain⟨m,hm⟩:=bd_ hi
    have hfl:(((lmv g.1 p.1).take i).filter (λm=>(stepP g p m).isSome)).length≤480:=by
      refine c6_ (k8_ ..) ?_
      rw[c9_];omega
    refine⟨_,?_,rfl⟩
    simp only[dlt hi,a5_,ah_ hm,a0_,ye_ hg h0 hv (as8 (ax_ hm)),xc_ _ hm,ba_ (show Sm i by show i≤1000000000;omega)]
    cases (stepP g p m).isSome with
    | false=>rfl
    | true=>simp only[a5_,cf_ (show Sm _ from c6_ hfl (by omega)),a0_]
  · subst hz
    refine⟨_,by simp only[dnl,a2_];rfl,?_⟩
    simp only[e1_]
    rfl
end
section
set_option maxRecDepth 10000
theorem al2 {K V:Type} [DecidableEq K] (m:List (K×V)) (k k':K) (v:V):mget? (fj_ m k v) k'=if k'=k then some v else mget? m k':=by
  induction m with
  | nil=>simp[fj_,mget?]
  | cons x m ih =>
    obtain⟨a,u⟩:=x
    unfold fj_
    by_cases h:k=a
    · subst h
      rw[if_pos rfl]
      unfold mget?
      by_cases h2:k'=k
      · rw[if_pos h2,if_pos h2]
      · rw[if_neg h2,if_neg h2,if_neg h2]
    · rw[if_neg h]
      unfold mget?
      by_cases h2:k'=a
      · rw[if_pos h2,if_pos h2,if_neg (λe=>h (by rw[← e,h2]))]
      · rw[if_neg h2,if_neg h2,ih]
theorem jr_ {K V:Type} [DecidableEq K] (z:V) (m:List (K×V)) (k k':K) (v:V):eh_ z (fj_ m k v) k'=if k'=k then v else eh_ z m k':=by
  unfold eh_
  rw[al2]
  split<;>rfl
noncomputable def cmpX (a0:ad_) (d:List Bool) (mm:List ab_) (lock:Int):Option (List ab_×Unit) :=
 (cond ((eh_ 0 mm lock)==0)
 ((ag_ (abB a0 d lock) ([],([],(0,())))).bind λv18 =>
 ((at? a0.2.1 lock).bind λv19 =>
 ((cz_ v19 v18.2.1).bind λv20 =>
 (((cond (v20.2.1==0)
 (some ((decide (v20.1≤a0.2.2.2.2)),()))
 (some (false,())))).bind λv21 =>
 (cond v21.1
 (some ((fj_ (fj_ mm lock 2) lock 1),()))
 (some ((fj_ mm lock 2),())))))))
 (some (mm,())))
noncomputable def canX (a0:ad_) (a1:aa_) (v2:List Bool) (mm:List ab_) (v5:af_):Option (Bool×(List ab_×Unit)) :=
 (((push? (α:=Bool) [] v2).bind λv6 =>
 (((((cond (v5.2.1==4)
 ((bx_ v5.2.2 0 (w64 ((a0.1.2.2.2.2.1.length:Int) - 1))).bind λv7 =>
 (some (v7.1,())))
 (some (false,())))).bind λv8 =>
 (cond v8.1
 ((at? a0.1.2.2.2.2.1 v5.2.2).bind λv9 =>
 (((cond (decide (v9.2.2.1<0))
 (some (mm,()))
 ((cmpX a0 v2 mm v9.2.2.1).bind λv22 =>
 (some (v22.1,()))))).bind λv23 =>
 (some (v23.1,((fj_ [] v9.2.2.1 (eh_ 0 v23.1 v9.2.2.1)),())))))
 (some (mm,([],())))))).bind λv24 =>
 (((((cond (v5.2.1==4)
 ((bx_ v5.2.2 0 (w64 ((a0.1.2.2.2.2.1.length:Int) - 1))).bind λv25 =>
 (cond v25.1
 ((at? a0.1.2.2.2.2.1 v5.2.2).bind λv26 =>
 (cond (decide (v26.2.2.1<0))
 (some ((!true),(v24.2.1,())))
 ((cmpX a0 v6 v24.2.1 v26.2.2.1).bind λv39 =>
 (some ((!((eh_ 0 v39.1 v26.2.2.1)==1)),(v39.1,()))))))
 (some (false,(v24.2.1,())))))
 (some (false,(v24.2.1,()))))).bind λv40 =>
 (cond v40.1
 (some ((!false),(v6,(v40.2.1,((a1.1.1,(a1.1.2.1,(a1.1.2.2,()))),())))))
 ((fb_ a0.1 a1.1 v5).bind λv41 =>
 (cond (v41.2.1 != 0)
 (some ((!false),(v6,(v40.2.1,((a1.1.1,(a1.1.2.1,(a1.1.2.2,()))),())))))
 ((ag_ (pbgB a0 v41.1) (0,(v6,(v40.2.1,())))).bind λv52 =>
 (some ((!true),(v52.1,(v52.2.1,((v41.1.1,(v41.1.2.1,(v41.1.2.2,()))),()))))))))))).bind λv53 =>
 (cond v53.1
 (some (false,(v24.1,())))
 (some (true,(v24.1,()))))))))
noncomputable def canL (a0:ad_) (a1:aa_):Option (List af_×(Int×Unit)) :=
 ((dz_ a0 a1).bind λv0 =>
 (cond (v0.1 != 0)
 (cond (v0.1 != 0)
 (some ([],(v0.1,())))
 ((fc_ a0.1 a1.1).bind λv1 =>
 (cond (v1.2.1 != 0)
 (some ([],(v1.2.1,())))
 none)))
 ((push? (α:=Bool) [] a1.2).bind λv2 =>
 ((fc_ a0.1 a1.1).bind λv3 =>
 (cond (v3.2.1 != 0)
 (some ([],(v3.2.1,())))
 ((ag_ (ρ:=((List af_)×((List ab_)×Unit))) (λ(v4:((List af_)×(Int×((List ab_)×Unit)))) =>
 (cond (decide (v4.2.1<(v3.1.length:Int)))
 ((((at? v3.1 v4.2.1).bind λv5 =>
 ((canX a0 a1 v2 v4.2.2.1 v5).bind λv54 =>
 (cond v54.1
 ((push? (α:=af_) v4.1 [v5]).bind λv55 =>
 (some (v55,(v54.2.1,()))))
 (some (v4.1,(v54.2.1,()))))))).bind λv56 =>
 (some (inl (v56.1,((w64 (v4.2.1+1)),(v56.2.1,()))))))
 (some (inr (v4.1,(v4.2.2.1,())))))) ([],(0,([],())))).bind λv57 =>
 (some (v57.1,(0,())))))))))
theorem canL_eq:po_=canL:=by
  kernel_rfl
def Mem (g:ad_) (d:List Bool) (mm:List ab_):Prop:=∀ lock,0≤lock→(eh_ 0 mm lock=(0:Int)∨eh_ 0 mm lock=cond (opn g d lock) 1 2)
theorem by7 {g:ad_} (hg:SmG g) (ok:OkG g) {d:List Bool} (hd:d.length=g.2.2.2.1.length) {mm:List ab_} {lock:Int} (hz:0≤lock) {l:ab_} (hl:at? g.2.1 lock=some l)
    (hm:eh_ 0 mm lock=(0:Int)∨eh_ 0 mm lock=cond (opn g d lock) 1 2) :
    ∃ m',cmpX g d mm lock=some (m',())∧eh_ 0 m' lock=cond (opn g d lock) 1 2∧∀ k,k≠lock→eh_ 0 m' k=eh_ 0 mm k:=by
  unfold cmpX
  cases h0:(eh_ 0 mm lock:Int)==0 with
  | false =>
    have h0:eh_ 0 mm lock≠(0:Int):=by simpa using h0
    exact⟨mm,rfl,hm.resolve_left h0,λ_ _=>rfl⟩
  | true =>
    obtain⟨q,e⟩:=cb8 hg hd lock
    have ho:opn g d lock=decide (rdC g d lock l≤g.2.2.2.2):=by
      unfold opn
      rw[c1_ (by omega),hl]
      rfl
    rw[a5_,e]
    simp only[a0_,hl,an1 hg ok d hz hl]
    simp only[show ((0:Int)==0)=true from rfl,a5_,a0_]
    rw[ho]
    cases decide (rdC g d lock l≤g.2.2.2.2) with
    | true=>exact⟨_,rfl,by rw[jr_,if_pos rfl];rfl,λk hk=>by rw[jr_,if_neg hk,jr_,if_neg hk]⟩
    | false=>exact⟨_,rfl,by rw[jr_,if_pos rfl];rfl,λk hk=>by rw[jr_,if_neg hk]⟩
theorem canX_eq {g:ad_} (hg:SmG g) (h0:cl_ g=0) {p:aa_} (hv:VP g p) {m:af_} (hl:lgl g.1 p.1 m=true) {mm:List ab_} (hM:Mem g p.2 mm) :
    ∃ m',canX g p p.2 mm m=some ((stepP g p m).isSome,(m',()))∧Mem g p.2 m':=by
  have ok:=dk_ h0
  have okr:=bq_ ok.room
  have hac:=hg.ac
  have hnt:=hg.nt
  have hrd:=hv.rd
  have fin:∀ (b:Bool) (u:List ab_) (m':List ab_),okM g p.2 m = !b →
      (((((some (b,(u,())):Option (Bool×(List ab_×Unit)))).bind λv40 =>
 (cond v40.1
 (some ((!false),(p.2,(v40.2.1,((p.1.1,(p.1.2.1,(p.1.2.2,()))),())))))
 ((fb_ g.1 p.1 m).bind λv41 =>
 (cond (v41.2.1 != 0)
 (some ((!false),(p.2,(v40.2.1,((p.1.1,(p.1.2.1,(p.1.2.2,()))),())))))
 ((ag_ (pbgB g v41.1) (0,(p.2,(v40.2.1,())))).bind λv52 =>
 (some ((!true),(v52.1,(v52.2.1,((v41.1.1,(v41.1.2.1,(v41.1.2.2,()))),()))))))))))).bind λv53 =>
 (cond v53.1
 (some (false,(m',())))
 (some (true,(m',())))))=some ((stepP g p m).isSome,(m',())):=by
    intro b u m' hb
    unfold stepP
    rw[hb,hl,i3_,a0_]
    cases b with
    | true=>rfl
    | false =>
    simp only[a2_,g4_,a5_]
    rw[ai4 hg.room ok.room hv.st m,a0_,hl,a5_]
    cases hs:ya_ g.1 p.1 m with
    | none=>rfl
    | some s =>
    have hv2:=ur_ hg.room ok.room hv.st hl hs
    obtain⟨z,ez,hz⟩:=wb_ hg ok hv2 hv.rd u
    simp only[Option.elim,show ((0:Int) != 0)=false from rfl,a2_]
    rw[ez,a0_,a0_]
    rfl
  unfold canX
  rw[av_ (show Sm p.2.length by show _≤1000000000;omega),a0_]
  simp only[jy_]
  cases hk:m.2.1==4 with
  | false =>
    refine⟨mm,?_,hM⟩
    simp only[a2_,a0_]
    refine fin false [] mm ?_
    unfold okM
    rw[hk]
    rfl
  | true =>
  simp only[a5_,a0_]
  have hl':=hl
  unfold lgl at hl'
  rw[a1_] at hl'
  have hl':=hl'.2
  have hk':m.2.1=4:=f4_.1 hk
  rw[hk'] at hl'
  simp only[show ((4:Int)==1)=false from rfl,show ((4:Int)==2)=false from rfl,show ((4:Int)==3)=false from rfl,show ((4:Int)==4)=true from rfl,a2_,a5_] at hl'
  rcases cr_ (l:=g.1.2.2.2.2.1) (by show _≤1000000000;omega) m.2.2 with ⟨f1,f2⟩ | ⟨j,a,hj,ha,f1,f2⟩
  · rw[f2] at hl';cases hl'
  · have ho:okM g p.2 m=opn g p.2 a.2.2.1:=by
      unfold okM
      rw[hk,a5_,f2]
      rfl
    simp only[f1,f2,a5_,a0_]
    cases hz:decide (a.2.2.1<0) with
    | true =>
      refine⟨mm,?_,hM⟩
      simp only[a5_,a0_]
      refine fin (!true) _ mm ?_
      rw[ho]
      unfold opn
      rw[hz]
      rfl
    | false =>
      have hz':=e2_ hz
      have hlt:=ok.ac j a ha
      obtain⟨l,hlk⟩:=bd_ (l:=g.2.1) (i:=a.2.2.1.toNat) (by omega)
      have hl2:at? g.2.1 a.2.2.1=some l:=by rw[show a.2.2.1=((a.2.2.1.toNat:Nat):Int) by omega];exact ah_ hlk
      obtain⟨m1,e1,k1,r1⟩:=by7 hg ok hv.rd (mm:=mm) (by omega) hl2 (hM _ (by omega))
      obtain⟨m2,e2,k2,r2⟩:=by7 hg ok hv.rd (mm:=fj_ [] a.2.2.1 (eh_ 0 m1 a.2.2.1)) (by omega) hl2 (.inr (by rw[jr_,if_pos rfl,k1]))
      refine⟨m1,?_,λlock hlock => ?_⟩
      · simp only[a2_,e1,a0_,e2]
        refine fin _ m2 m1 ?_
        rw[ho,k2]
        cases opn g p.2 a.2.2.1<;>rfl
      · by_cases hE:lock=a.2.2.1
        · rw[hE]
          exact .inr k1
        · rw[r1 lock hE]
          exact hM lock hlock
theorem ch7 {g:ad_} (hg:SmG g) (h0:cl_ g=0) {p:aa_} (hv:VP g p):po_ g p=some (pmv g p,(0,())):=by
  have ok:=dk_ h0
  have okr:=bq_ ok.room
  have hll:=as9 okr p.1
  have hnt:=hg.nt
  have hrd:=hv.rd
  rw[canL_eq]
  unfold canL
  rw[vz_ hg h0 hv,a0_]
  simp only[show ((0:Int) != 0)=false from rfl,a2_]
  rw[av_ (show Sm p.2.length by show _≤1000000000;omega),a0_,bf4 hg.room ok.room hv.st,a0_]
  simp only[show ((0:Int) != 0)=false from rfl,a2_]
  refine lo_ (lmv g.1 p.1).length (λ(i:Nat) (z:List af_×(Int×(List ab_×Unit)))=>∃ mm,z=(((lmv g.1 p.1).take i).filter (λm=>(stepP g p m).isSome),((i:Int),(mm,())))∧Mem g p.2 mm) ⟨[],by rw[k9_];rfl,λlock _=>.inl rfl⟩ (λi z hi hz => ?_) (λz hz => ?_)
  · obtain⟨mm,rfl,hM⟩:=hz
    obtain⟨m,hm⟩:=bd_ hi
    have hfl:(((lmv g.1 p.1).take i).filter (λm=>(stepP g p m).isSome)).length≤480:=by
      refine c6_ (k8_ ..) ?_
      rw[c9_];omega
    obtain⟨m',e,hM'⟩:=canX_eq hg h0 hv (as8 (ax_ hm)) hM
    refine⟨_,?_,m',rfl,hM'⟩
    simp only[dlt hi,a5_,ah_ hm,a0_,e,xc_ _ hm,ba_ (show Sm i by show i≤1000000000;omega)]
    cases (stepP g p m).isSome with
    | false=>rfl
    | true=>simp only[a5_,cf_ (show Sm _ from c6_ hfl (by omega)),a0_]
  · obtain⟨mm,rfl,hM⟩:=hz
    refine⟨_,by simp only[dnl,a2_];rfl,?_⟩
    simp only[e1_]
    rfl
end
section
set_option maxRecDepth 10000
theorem tz_ {a b:List UInt8} (h:a.length+b.length≤2147483648):cat? a b=some (a++b):=by
  unfold cat?
  rw[i4_ h]
  rfl
def dval (l:List UInt8):Nat:=l.foldl (λa c=>a * 10+(c.toNat - 48)) 0
theorem dgt {n:Nat} (h:n<10):(UInt8.ofNat (48+n)).toNat=48+n:=by
  rw[UInt8.toNat_ofNat']
  exact k4_ (by omega)
theorem xn_:∀ (k u:Nat),u<10 ^ k→dval (Lib.decDigits u)=u∧(∀ c ∈ Lib.decDigits u,48≤c.toNat∧c.toNat≤57)∧(Lib.decDigits u).length≤k+1
  | 0,u,h=>by
    obtain rfl:u=0:=by simpa using h
    rw[Lib.decDigits]
    exact⟨rfl,λc hc=>by
      simp at hc
      rw[hc]
      exact⟨by decide,by decide⟩,by decide⟩
  | k+1,u,h=>by
    rw[Lib.decDigits]
    by_cases hu:u<10
    · rw[dif_pos hu]
      refine⟨?_,λc hc => ?_,by simp⟩
      · show 0 * 10+((UInt8.ofNat (48+u)).toNat - 48)=u
        rw[dgt hu];omega
      · rw[e7_] at hc
        rw[hc,dgt hu];omega
    · rw[dif_neg hu]
      rw[k1_] at h
      obtain⟨a,b,c⟩:=xn_ k (u / 10) (by omega)
      have hm:u % 10<10:=Nat.mod_lt _ (by decide)
      refine⟨?_,λx hx => ?_,by rw[a8_,d5_];omega⟩
      · unfold dval at a ⊢
        rw[o4_,a]
        show u / 10 * 10+((UInt8.ofNat (48+u % 10)).toNat - 48)=u
        rw[dgt hm];omega
      · rcases b3_.1 hx with hx | hx
        · exact b x hx
        · rw[e7_] at hx
          rw[hx,dgt hm];omega
theorem vy_ (u:Nat):u<10 ^ u:=Nat.lt_pow_self (by decide)
theorem tc_ {u v:Nat} (h:Lib.decDigits u=Lib.decDigits v):u=v:=by
  rw[← (xn_ u u (vy_ u)).1,← (xn_ v v (vy_ v)).1,h]
theorem xo_ {u:Nat}:∀ c ∈ Lib.decDigits u,48≤c.toNat∧c.toNat≤57:=(xn_ u u (vy_ u)).2.1
theorem ad5 {a b:Int} (h:Lib.itoa a=Lib.itoa b):a=b:=by
  unfold Lib.itoa at h
  have hd:∀ {u:Nat} {l:List UInt8},Lib.decDigits u≠45::l:=λ{u l} e=>by
    have:=xo_ (u:=u) 45 (by rw[e];exact d9_ ..)
    have h45:(45:UInt8).toNat=45:=rfl
    omega
  by_cases ha:a<0
  · by_cases hb:b<0
    · rw[if_pos ha,if_pos hb] at h
      have:=tc_ (o7_ h).2
      omega
    · rw[if_pos ha,if_neg hb] at h
      exact absurd h.symm hd
  · by_cases hb:b<0
    · rw[if_neg ha,if_pos hb] at h
      exact absurd h hd
    · rw[if_neg ha,if_neg hb] at h
      have:=tc_ h
      omega
theorem at3 (a:Int):(32:UInt8) ∉ Lib.itoa a:=by
  have hd:∀ {u:Nat},(32:UInt8) ∉ Lib.decDigits u:=λ{u} e=>by
    have:=xo_ _ e
    have h32:(32:UInt8).toNat=32:=rfl
    omega
  unfold Lib.itoa
  split
  · intro h
    rcases d1_.1 h with h | h
    · exact absurd h (by decide)
    · exact hd h
  · exact hd
def gm_ (a:List (List UInt8)):List UInt8:=a.flatMap (· ++ [32])
theorem aw7:∀ {t u r s:List UInt8},(32:UInt8) ∉ t→(32:UInt8) ∉ u→t++32::r=u++32::s→t=u∧r=s
  | [],[],r,s,_,_,h=>⟨rfl,(o7_ h).2⟩
  | [],c::u,r,s,_,hu,h=>absurd (o7_ h).1 λe=>hu (by rw[e];exact d9_ ..)
  | c::t,[],r,s,ht,_,h=>absurd (o7_ h).1 λe=>ht (by rw[e];exact d9_ ..)
  | c::t,d::u,r,s,ht,hu,h=>by
    obtain⟨h1,h2⟩:=o7_ h
    obtain⟨h3,h4⟩:=aw7 (λe=>ht (d3_ _ e)) (λe=>hu (d3_ _ e)) h2
    exact⟨by rw[h1,h3],h4⟩
theorem zw_:∀ {a b:List (List UInt8)},(∀ t ∈ a,(32:UInt8) ∉ t)→(∀ t ∈ b,(32:UInt8) ∉ t)→gm_ a=gm_ b→a=b
  | [],[],_,_,_=>rfl
  | [],t::b,_,_,h=>by
    have:=congrArg List.length h
    simp[gm_] at this
  | t::a,[],_,_,h=>by
    have:=congrArg List.length h
    simp[gm_] at this
  | t::a,u::b,ha,hb,h=>by
    have h:t++32::gm_ a=u++32::gm_ b:=by
      have:∀ (t:List UInt8) (a:List (List UInt8)),gm_ (t::a)=t++32::gm_ a:=λt a=>by simp[gm_]
      rw[this,this] at h
      exact h
    obtain⟨h1,h2⟩:=aw7 (ha t (d9_ ..)) (hb u (d9_ ..)) h
    rw[h1,zw_ (λt h=>ha t (d3_ _ h)) (λt h=>hb t (d3_ _ h)) h2]
theorem kv_ (a b:List (List UInt8)):gm_ (a++b)=gm_ a++gm_ b:=q7_
theorem ou_ {a:List (List UInt8)} {k:Nat} (h:∀ t ∈ a,t.length≤k):(gm_ a).length≤a.length * (k+1):=by
  induction a with
  | nil=>exact l7_ _
  | cons t a ih =>
    have h1:=ih λt ht=>h t (d3_ _ ht)
    have h2:=h t (d9_ ..)
    have h3:gm_ (t::a)=t++32::gm_ a:=by simp[gm_]
    rw[h3,a8_,c4_,c4_,Nat.succ_mul]
    omega
theorem fm_ {α β:Type} {f:α→β}:∀ {a b:List α},(∀ x ∈ a,∀ y ∈ b,f x=f y→x=y)→a.map f=b.map f→a=b
  | [],[],_,_=>rfl
  | [],_::_,_,h=>by cases h
  | _::_,[],_,h=>by cases h
  | x::a,y::b,hi,h=>by
    obtain⟨h1,h2⟩:=o7_ (show f x::a.map f=f y::b.map f from h)
    rw[hi x (d9_ ..) y (d9_ ..) h1,fm_ (λx hx y hy=>hi x (d3_ _ hx) y (d3_ _ hy)) h2]
structure PB (p:aa_):Prop where
  n1:p.1.1.length≤12
  n2:p.1.2.1.length≤10
  n3:p.1.2.2.length≤4
  n4:p.2.length≤20
  b1:∀ x ∈ p.1.1,0≤x∧x≤5
  b2:∀ x ∈ p.1.2.1,-6<x∧x<8
  b3:∀ x ∈ p.1.2.2,0≤x∧x<8
theorem bi7 {g:ad_} (hg:SmG g) (ok:OkG g) {p:aa_} (hv:VP g p):PB p:=by
  have okr:=bq_ ok.room
  have hm:=okr.many
  unfold ad1 at hm
  simp only[c0_,p6_] at hm
  have hpy:=ce_.1 okr.py
  have h1:=hv.st.l1
  have h2:=hv.st.l2
  have h3:=hv.st.l3
  have h4:=hv.rd
  have h5:=hg.nt
  refine⟨by omega,by omega,by omega,by omega,λx hx => ?_,λx hx => ?_,λx hx => ?_⟩
  · obtain⟨i,hi⟩:=f8_ hx
    exact (ml_ hg.room okr (hv.st.th i x hi)).2
  · obtain⟨i,hi⟩:=f8_ hx
    have:=(ad7 hg.room okr).1 (hv.st.pr i x hi)
    omega
  · obtain⟨i,hi⟩:=f8_ hx
    have:=(kz_ hg.room).1 (hv.st.py i x hi)
    omega
def bt (b:Bool):List UInt8:=cond b [116,114,117,101] [102,97,108,115,101]
def ptk (p:aa_):List (List UInt8):=(p.1.1.map Lib.itoa++(p.1.2.1.map Lib.itoa++p.1.2.2.map Lib.itoa))++p.2.map bt
theorem wi_ (l:List Int):ak8 l=gm_ (l.map Lib.itoa):=by
  unfold ak8 gm_
  rw[List.flatMap_map]
  rfl
theorem oc_ {u:Nat} (h:u<10000000000):(Lib.decDigits u).length≤11:=(xn_ 10 u h).2.2
theorem bu8 {x:Int} (h1 : -8≤x) (h2:x≤8):(Lib.itoa x).length≤21:=by
  unfold Lib.itoa
  split
  · have:=oc_ (u:=x.natAbs) (by omega)
    rw[c4_];omega
  · have:=oc_ (u:=x.toNat) (by omega)
    omega
theorem bg4 {p:aa_} (h:p.2.length≤20):lf_ p=some (gm_ (p.2.map bt),()):=by
  unfold lf_
  have hb:∀ b,(bt b).length≤5:=λb=>by cases b<;>decide
  refine lo_ p.2.length (λ(i:Nat) (z:List UInt8×(Int×Unit))=>z=(gm_ ((p.2.take i).map bt),((i:Int),()))) (by rw[k9_];rfl) (λi z hi hz => ?_) (λz hz => ?_)
  · subst hz
    obtain⟨b,hx⟩:=bd_ hi
    have hl:(gm_ ((p.2.take i).map bt)).length≤20 * 6:=by
      refine c6_ (ou_ (k:=5) λt ht => ?_) ?_
      · obtain⟨b,_,rfl⟩:=d0_.1 ht
        exact hb b
      · rw[d6_,c9_]
        omega
    have hf:dv_ b=some (bt b,()):=by cases b<;>rfl
    have hb5:=hb b
    refine⟨_,?_,rfl⟩
    simp only[dlt hi,a5_,ah_ hx,a0_,hf,ba_ (show Sm i by show i≤1000000000;omega)]
    rw[tz_ (show (bt b).length+1≤_ by omega),a0_,tz_ (by rw[a8_,d5_];omega),a0_,d7_,hx]
    simp[gm_]
  · subst hz
    refine⟨_,by simp only[dnl,a2_];rfl,?_⟩
    simp only[e1_]
theorem ww_ {l:List Int} (h:∀ x ∈ l,-8≤x∧x≤8):l.all inI=true:=by
  rw[f0_]
  intro x hx
  have:=h x hx
  unfold inI
  rw[a1_,h1_,h1_]
  omega
theorem ak1 {p:aa_} (h:PB p):kg_ p=some (gm_ (ptk p),()):=by
  have hB1:∀ x ∈ p.1.1,-8≤x∧x≤8:=λx hx=>by have:=h.b1 x hx;omega
  have hB2:∀ x ∈ p.1.2.1,-8≤x∧x≤8:=λx hx=>by have:=h.b2 x hx;omega
  have hB3:∀ x ∈ p.1.2.2,-8≤x∧x≤8:=λx hx=>by have:=h.b3 x hx;omega
  have hE:hc_ [p.1.1,p.1.2.1,p.1.2.2]=gm_ (p.1.1.map Lib.itoa++(p.1.2.1.map Lib.itoa++p.1.2.2.map Lib.itoa)):=by
    rw[kv_,kv_,← wi_,← wi_,← wi_]
    simp[hc_]
  have hlen:∀ {l:List Int} {k:Nat},l.length≤k→(∀ x ∈ l,-8≤x∧x≤8)→(gm_ (l.map Lib.itoa)).length≤k * 22:=λ{l k} hk hb=>by
    refine c6_ (ou_ (k:=21) λt ht => ?_) ?_
    · obtain⟨x,hx,rfl⟩:=d0_.1 ht
      exact bu8 (hb x hx).1 (hb x hx).2
    · rw[d6_]
      exact i9_ _ hk
  have hl:(hc_ [p.1.1,p.1.2.1,p.1.2.2]).length≤1000:=by
    rw[hE,kv_,kv_,a8_,a8_]
    have h1:=hlen h.n1 hB1
    have h2:=hlen h.n2 hB2
    have h3:=hlen h.n3 hB3
    omega
  have hr:(gm_ (p.2.map bt)).length≤20 * 6:=by
    refine c6_ (ou_ (k:=5) λt ht => ?_) ?_
    · obtain⟨b,_,rfl⟩:=d0_.1 ht
      cases b<;>decide
    · rw[d6_]
      have:=h.n4
      omega
  have hn:fg_ [p.1.1,p.1.2.1,p.1.2.2]=some (hc_ [p.1.1,p.1.2.1,p.1.2.2],()):=by
    unfold fg_
    have h1:([p.1.1,p.1.2.1,p.1.2.2].all λl=>l.all inI)=true:=by
      simp[ww_ hB1,ww_ hB2,ww_ hB3]
    rw[h1,i4_ (show _≤2147483648 by omega)]
    rfl
  unfold kg_
  rw[hn,a0_,bg4 h.n4,a0_,tz_ (by show (hc_ _).length+(gm_ (p.2.map bt)).length≤_;omega),a0_]
  unfold ptk
  rw[kv_,← hE]
theorem bt_inj {a b:Bool} (h:bt a=bt b):a=b:=by
  cases a<;>cases b<;>first | rfl | cases h
theorem cq2 (p:aa_):∀ t ∈ ptk p,(32:UInt8) ∉ t:=by
  intro t ht
  unfold ptk at ht
  simp only[b3_,d0_] at ht
  rcases ht with (⟨x,_,rfl⟩ | ⟨x,_,rfl⟩ | ⟨x,_,rfl⟩) | ⟨b,_,rfl⟩
  · exact at3 x
  · exact at3 x
  · exact at3 x
  · cases b<;>decide
def SmL (p q:aa_):Prop:=p.1.1.length=q.1.1.length∧p.1.2.1.length=q.1.2.1.length∧p.1.2.2.length=q.1.2.2.length∧p.2.length=q.2.length
theorem cu5 {g:ad_} {p q:aa_} (hp:VP g p) (hq:VP g q):SmL p q:=by
  have h1:=hp.st.l1
  have h2:=hp.st.l2
  have h3:=hp.st.l3
  have h4:=hp.rd
  have k1:=hq.st.l1
  have k2:=hq.st.l2
  have k3:=hq.st.l3
  have k4:=hq.rd
  exact⟨by omega,by omega,by omega,by omega⟩
theorem tk_ {α:Type} {a b c d:List α} (h:a.length=c.length) (e:a++b=c++d):a=c∧b=d:=List.append_inj e h
theorem bo6 {p q:aa_} (h1:p.1.1=q.1.1) (h2:p.1.2.1=q.1.2.1) (h3:p.1.2.2=q.1.2.2) (h4:p.2=q.2):p=q :=
  Prod.ext (Prod.ext h1 (Prod.ext h2 h3)) h4
theorem ptk_inj {p q:aa_} (hs:SmL p q) (h:gm_ (ptk p)=gm_ (ptk q)):p=q:=by
  obtain⟨s1,s2,s3,s4⟩:=hs
  have h:=zw_ (cq2 p) (cq2 q) h
  unfold ptk at h
  obtain⟨h,e4⟩:=tk_ (by simp only[a8_,d6_];omega) h
  obtain⟨e1,h⟩:=tk_ (by simp only[d6_];omega) h
  obtain⟨e2,e3⟩:=tk_ (by simp only[d6_];omega) h
  exact bo6 (fm_ (λ_ _ _ _=>ad5) e1) (fm_ (λ_ _ _ _=>ad5) e2) (fm_ (λ_ _ _ _=>ad5) e3) (fm_ (λ_ _ _ _=>bt_inj) e4)
def dec (n:Int):List UInt8:=Lib.decDigits n.toNat
theorem sub_dig:∀ {r:Nat},r<10→sub? ([48,49,50,51,52,53,54,55,56,57]:List UInt8) (r:Int) (w64 ((r:Int)+1))=some [UInt8.ofNat (48+r)]
  | 0,_=>rfl
  | 1,_=>rfl
  | 2,_=>rfl
  | 3,_=>rfl
  | 4,_=>rfl
  | 5,_=>rfl
  | 6,_=>rfl
  | 7,_=>rfl
  | 8,_=>rfl
  | 9,_=>rfl
  | _+10,h=>absurd h (by omega)
theorem be2:∀ (k u:Nat),u≤1000000000→u<10 ^ (k+1)→dn_ (k+1) (u:Int)=some (Lib.decDigits u,())
  | k,u,hu,h=>by
    have hm:u % 10<10:=Nat.mod_lt _ (by decide)
    have e1:Int.tmod (u:Int) 10=((u % 10:Nat):Int):=by rw[Int.tmod_eq_emod_of_nonneg (by omega)];omega
    have e2:Int.tdiv (u:Int) 10=((u / 10:Nat):Int):=by rw[Int.tdiv_eq_ediv_of_nonneg (by omega)];omega
    show ((sub? [48,49,50,51,52,53,54,55,56,57] (Int.tmod (u:Int) 10) (w64 ((Int.tmod (u:Int) 10)+1))).bind λv0 =>
 (cond (decide ((u:Int)<10))
 (some (v0,()))
 ((dn_ k (w64 (Int.tdiv (u:Int) 10))).bind λv1 =>
 ((cat? v1.1 v0).bind λv2 =>
 (some (v2,()))))))=_
    rw[e1,sub_dig hm,a0_,e2,fy_ (by omega) (by omega),Lib.decDigits]
    by_cases h10:u<10
    · rw[dif_pos h10,b5_ (show (u:Int)<10 by omega),a5_,k4_ h10]
    · rw[dif_neg h10,c1_ (show ¬ (u:Int)<10 by omega),a2_]
      match k,h with
      | 0,h=>exact absurd h (by simp;omega)
      | k+1,h =>
        rw[k1_] at h
        rw[be2 k (u / 10) (by omega) (by omega),a0_]
        have:=oc_ (u:=u / 10) (by omega)
        rw[tz_ (by show (Lib.decDigits (u / 10)).length+1≤_;omega),a0_]
theorem zv_ {n:Int} (h0:0≤n) (h1:n≤1000000):cb_ n=some (dec n,()):=by
  obtain⟨u,rfl⟩:∃ u:Nat,n=(u:Int):=⟨n.toNat,by omega⟩
  unfold cb_ dec
  rw[b8_]
  exact be2 19 u (by omega) (by omega)
theorem keyL (l:List Int) (h:Int→Int) (acc:List UInt8) (hl:l.length≤20) (ha:acc.length≤100000) (hb:∀ x ∈ l,0≤h x∧h x≤100) {body:(List UInt8×(Int×Unit))→Option ((List UInt8×(Int×Unit))⊕(List UInt8×Unit))} {υ:Type} {K:(List UInt8×Unit)→Option υ} {x:Option υ}
    (hs:∀ (i:Nat) y t,l[i]?=some y→body (t,((i:Int),()))=((cb_ (h y)).bind λv8=>((cat? t v8.1).bind λv9=>((cat? v9 [32]).bind λv10=>(some (inl (v10,((w64 ((i:Int)+1)),()))))))))
    (he:∀ t,body (t,((l.length:Int),()))=some (.inr (t,()))) (hk:K (acc++gm_ (l.map λx=>dec (h x)),())=x):(ag_ body (acc,(0,()))).bind K=x:=by
  refine lo_ l.length (λ(i:Nat) (z:List UInt8×(Int×Unit))=>z=(acc++gm_ ((l.take i).map λx=>dec (h x)),((i:Int),()))) (by rw[k9_,List.map_nil,show gm_ []=[] from rfl,e8_];rfl) (λi z hi hz => ?_) (λz hz => ?_)
  · subst hz
    obtain⟨y,hy⟩:=bd_ hi
    have hlen:(gm_ ((l.take i).map λx=>dec (h x))).length≤20 * 12:=by
      refine c6_ (ou_ (k:=11) λt ht => ?_) ?_
      · obtain⟨x,hx,rfl⟩:=d0_.1 ht
        have:=hb x (l1_ hx)
        exact oc_ (by omega)
      · rw[d6_,c9_]
        omega
    have hyb:=hb y (ax_ hy)
    have hd:(dec (h y)).length≤11:=oc_ (by omega)
    refine⟨_,?_,rfl⟩
    rw[hs i y _ hy,zv_ hyb.1 (by omega),a0_,tz_ (by show (acc++gm_ _).length+(dec (h y)).length≤_;rw[a8_];omega),a0_,tz_ (by show ((acc++gm_ _)++dec (h y)).length+1≤_;rw[a8_,a8_];omega),a0_,ba_ (show Sm i by show i≤1000000000;omega),d7_,hy]
    simp[gm_]
  · subst hz
    refine⟨_,he _,?_⟩
    rw[e1_]
    exact hk
def idx (d:List Bool):List Nat:=(List.range d.length).filter λi=>d[i]?==some true
theorem bv1 {d:List Bool} {i:Nat}:i ∈ idx d↔d[i]?=some true:=by
  unfold idx
  rw[c7_,m1_,f4_]
  exact⟨λh=>h.2,λh=>⟨am_ h,h⟩⟩
theorem idx_inj {d e:List Bool} (hl:d.length=e.length) (h:idx d=idx e):d=e:=by
  refine f1_ λi => ?_
  rcases l5_ i d.length with hi | hi
  · obtain⟨x,hx⟩:=bd_ hi
    obtain⟨y,hy⟩:=bd_ (l:=e) (i:=i) (by omega)
    have hm:i ∈ idx d↔i ∈ idx e:=by rw[h]
    rw[bv1,bv1,hx,hy] at hm
    rw[hx,hy]
    cases x with
    | true=>rw[hm.1 rfl]
    | false =>
      cases y with
      | true=>exact (hm.2 rfl)
      | false=>rfl
  · rw[b9_ hi,b9_ (by omega)]
def rtk (p:aa_):List (List UInt8):=((p.1.1.map (λx=>dec x)++p.1.2.1.map (λx=>dec (w64 (x+10))))++p.1.2.2.map (λx=>dec x))++(idx p.2).map (λi:Nat=>dec (i:Int))
theorem ai7 {p:aa_} (h:PB p):hv_ p=some (gm_ (rtk p),()):=by
  have hlen:∀ {l:List Int} (f:Int→Int),l.length≤20→(∀ x ∈ l,0≤f x∧f x≤100)→(gm_ (l.map λx=>dec (f x))).length≤20 * 12:=λ{l} f hk hb=>by
    refine c6_ (ou_ (k:=11) λt ht => ?_) ?_
    · obtain⟨x,hx,rfl⟩:=d0_.1 ht
      have:=hb x hx
      exact oc_ (by omega)
    · rw[d6_]
      exact i9_ _ hk
  have n1:=h.n1
  have n2:=h.n2
  have n3:=h.n3
  have n4:=h.n4
  have q1:∀ x ∈ p.1.1,0≤x∧x≤100:=λx hx=>by have:=h.b1 x hx;omega
  have q2:∀ x ∈ p.1.2.1,0≤w64 (x+10)∧w64 (x+10)≤100:=λx hx=>by have:=h.b2 x hx;rw[fy_ (by omega) (by omega)];omega
  have q3:∀ x ∈ p.1.2.2,0≤x∧x≤100:=λx hx=>by have:=h.b3 x hx;omega
  have l1:=hlen (l:=p.1.1) (λx=>x) (by omega) q1
  have l2:=hlen (l:=p.1.2.1) (λx=>w64 (x+10)) (by omega) q2
  have l3:=hlen (l:=p.1.2.2) (λx=>x) (by omega) q3
  unfold hv_
  refine keyL p.1.1 (λx=>x) [] (by omega) (by simp) q1 (λi y t hy=>by simp only[dlt (am_ hy),a5_,ah_ hy,a0_]) (λt=>by simp only[dnl,a2_]) ?_
  refine keyL p.1.2.1 (λx=>w64 (x+10)) ([]++_) (by omega) (by rw[h3_];omega) q2 (λi y t hy=>by simp only[dlt (am_ hy),a5_,ah_ hy,a0_]) (λt=>by simp only[dnl,a2_]) ?_
  refine keyL p.1.2.2 (λx=>x) (([]++_)++_) (by omega) (by rw[h3_,a8_];omega) q3 (λi y t hy=>by simp only[dlt (am_ hy),a5_,ah_ hy,a0_]) (λt=>by simp only[dnl,a2_]) ?_
  refine lo_ p.2.length (λ(i:Nat) (z:List UInt8×(Int×Unit))=>z=((([]++gm_ (p.1.1.map λx=>dec x))++gm_ (p.1.2.1.map λx=>dec (w64 (x+10))))++gm_ (p.1.2.2.map λx=>dec x)++gm_ (((List.range i).filter λi=>p.2[i]?==some true).map λi:Nat=>dec (i:Int)),((i:Int),()))) (by rw[List.range_zero,List.filter_nil,List.map_nil,show gm_ []=[] from rfl,e8_];rfl) (λi z hi hz => ?_) (λz hz => ?_)
  · subst hz
    obtain⟨b,hb⟩:=bd_ hi
    have hl4:(gm_ (((List.range i).filter λi=>p.2[i]?==some true).map λi:Nat=>dec (i:Int))).length≤20 * 12:=by
      refine c6_ (ou_ (k:=11) λt ht => ?_) ?_
      · obtain⟨x,hx,rfl⟩:=d0_.1 ht
        have:=m1_.1 (c7_.1 hx).1
        exact oc_ (by omega)
      · refine i9_ _ ?_
        rw[d6_]
        refine c6_ (k8_ ..) ?_
        rw[i5_]
        omega
    have hd:(dec (i:Int)).length≤11:=oc_ (by omega)
    refine⟨_,?_,rfl⟩
    simp only[dlt hi,a5_,ah_ hb,a0_,ba_ (show Sm i by show i≤1000000000;omega)]
    rw[List.range_succ,n6_]
    cases b with
    | false=>simp[hb]
    | true =>
      rw[a5_,zv_ (by omega) (by omega),a0_,tz_ (by simp only[a8_,j3_];omega),a0_,tz_ (by simp only[a8_,j3_,c4_];omega)]
      simp[hb,gm_]
  · subst hz
    refine⟨_,by simp only[dnl,a2_];rfl,?_⟩
    unfold rtk idx
    rw[kv_,kv_,kv_,h3_]
theorem bc3 (x:Int):(32:UInt8) ∉ dec x:=λe=>by
  have:=xo_ _ e
  have h32:(32:UInt8).toNat=32:=rfl
  omega
theorem cp6 (p:aa_):∀ t ∈ rtk p,(32:UInt8) ∉ t:=by
  intro t ht
  unfold rtk at ht
  simp only[b3_,d0_] at ht
  rcases ht with ((⟨x,_,rfl⟩ | ⟨x,_,rfl⟩) | ⟨x,_,rfl⟩) | ⟨b,_,rfl⟩
  · exact bc3 x
  · exact bc3 _
  · exact bc3 x
  · exact bc3 _
theorem rtk_inj {p q:aa_} (hp:PB p) (hq:PB q) (hs:SmL p q) (h:gm_ (rtk p)=gm_ (rtk q)):p=q:=by
  obtain⟨s1,s2,s3,s4⟩:=hs
  have h:=zw_ (cp6 p) (cp6 q) h
  unfold rtk at h
  obtain⟨h,e4⟩:=tk_ (by simp only[a8_,d6_];omega) h
  obtain⟨h,e3⟩:=tk_ (by simp only[a8_,d6_];omega) h
  obtain⟨e1,e2⟩:=tk_ (by simp only[d6_];omega) h
  refine bo6 (fm_ (λx hx y hy e => ?_) e1) (fm_ (λx hx y hy e => ?_) e2) (fm_ (λx hx y hy e => ?_) e3) (idx_inj s4 (fm_ (λx hx y hy e => ?_) e4))
  · have:=tc_ (show Lib.decDigits x.toNat=Lib.decDigits y.toNat from e)
    have:=hp.b1 x hx
    have:=hq.b1 y hy
    omega
  · have:=tc_ (show Lib.decDigits (w64 (x+10)).toNat=Lib.decDigits (w64 (y+10)).toNat from e)
    have:=hp.b2 x hx
    have:=hq.b2 y hy
    rw[fy_ (by omega) (by omega),fy_ (by omega) (by omega)] at *
    omega
  · have:=tc_ (show Lib.decDigits x.toNat=Lib.decDigits y.toNat from e)
    have:=hp.b3 x hx
    have:=hq.b3 y hy
    omega
  · have:=tc_ (show Lib.decDigits (x:Int).toNat=Lib.decDigits (y:Int).toNat from e)
    omega
end
section
set_option maxRecDepth 10000
def wh (ps:List aa_) (q:aa_):Option Nat:=ps.findIdx? (λx=>decide (x=q))
theorem bj3 {ps:List aa_} {q:aa_} {n:Nat} (h:wh ps q=some n):ps[n]?=some q:=by
  unfold wh at h
  obtain⟨hn,h1,_⟩:=List.findIdx?_eq_some_iff_getElem.1 h
  rw[a7_ hn,f3_ h1]
theorem wh_push (ps:List aa_) (q x:aa_):wh (ps++[q]) x=(wh ps x).or (if x=q then some ps.length else none):=by
  unfold wh
  rw[List.findIdx?_append]
  congr 1
  by_cases h:x=q
  · rw[if_pos h]
    simp[h]
  · rw[if_neg h]
    have:¬ q=x:=λe=>h e.symm
    simp[this]
def MI (g:ad_) (key:aa_→List UInt8) (ps:List aa_) (M:List (List UInt8×Int)):Prop:=∀ q,VP g q→mget? M (key q)=(wh ps q).map λn=>(n:Int)
theorem av5 {g:ad_} {key:aa_→List UInt8} (hk:∀ p q,VP g p→VP g q→key p=key q→p=q) {ps:List aa_} {M:List (List UInt8×Int)} (hM:MI g key ps M) {q:aa_} (hq:VP g q) (hw:wh ps q=none) :
    MI g key (ps++[q]) (fj_ M (key q) (ps.length:Int)):=by
  intro x hx
  rw[al2,wh_push]
  by_cases h:x=q
  · subst h
    rw[if_pos rfl,hw,if_pos rfl]
    rfl
  · rw[if_neg (λe=>h (hk x q hx hq e)),if_neg h,hM x hx,Option.or_none]
noncomputable def inn (g:ad_) (p:aa_):List af_→List ac_→List aa_→Option (List ac_×List aa_)
  | [],e,ps=>some (e,ps)
  | m::ms,e,ps=>match wh ps ((stepP g p m).getD eP) with
    | some n=>inn g p ms (e++[(m,(n:Int))]) ps
    | none=>if ps.length=3000 then none else inn g p ms (e++[(m,(ps.length:Int))]) (ps++[(stepP g p m).getD eP])
noncomputable def out (g:ad_):Nat→Nat→List aa_→List (List ac_)→Option (List aa_×List (List ac_))
  | 0,i,ps,es=>some (ps,es)
  | n+1,i,ps,es=>match ps[i]? with
    | none=>some (ps,es)
    | some p=>match inn g p (pmv g p) [] ps with
      | none=>none
      | some (e,ps')=>out g n (i+1) ps' (es++[e])
noncomputable def exG (g:ad_):cj_×(Int×Unit) :=
  cond ((ud_ g).2.1 != 0) (([],[]),((ud_ g).2.1,())) (match out g 3001 0 [(ud_ g).1] [] with
    | none=>(([],[]),(2,()))
    | some (ps,es)=>((ps,es),(0,())))
structure PI (g:ad_) (ps:List aa_):Prop where
  n:ps.length≤3000
  v:∀ x ∈ ps,VP g x
theorem cc2 {g:ad_} {ps:List aa_} (h:PI g ps) {q:aa_} (hq:VP g q) (hn:ps.length≠3000):PI g (ps++[q]):=by
  have:=h.n
  refine⟨by rw[a8_,d5_];omega,λx hx => ?_⟩
  rcases b3_.1 hx with hx | hx
  · exact h.v x hx
  · rw[e7_] at hx
    rw[hx]
    exact hq
theorem pf_ {g:ad_} {p:aa_} {m:af_} (hm:m ∈ pmv g p):∃ q,stepP g p m=some q:=by
  unfold pmv at hm
  exact Option.isSome_iff_exists.1 (c7_.1 hm).2
theorem as0 {g:ad_} (ok:OkG g) (p:aa_):(pmv g p).length≤480:=by
  unfold pmv
  exact c6_ (k8_ ..) (as9 (bq_ ok.room) p.1)
theorem ba3 {g:ad_} (hg:SmG g) (h0:cl_ g=0) {p:aa_} (hv:VP g p):∀ (ms:List af_) (e e':List ac_) (ps ps':List aa_),(∀ m ∈ ms,∃ q,stepP g p m=some q)→PI g ps→inn g p ms e ps=some (e',ps') →
    PI g ps'∧(∃ r,ps'=ps++r)∧((∀ x ∈ e,0≤x.2∧x.2<(ps.length:Int))→∀ x ∈ e',0≤x.2∧x.2<(ps'.length:Int))∧(∀ x ∈ e',x ∈ e∨x.1 ∈ ms)∧e'.length=e.length+ms.length
  | [],e,e',ps,ps',hms,hI,h=>by
    unfold inn at h
    obtain⟨rfl,rfl⟩:=h9_ (a6_ h)
    exact⟨hI,⟨[],(e8_ _).symm⟩,λh=>h,λx hx=>.inl hx,rfl⟩
  | m::ms,e,e',ps,ps',hms,hI,h=>by
    obtain⟨q,hq⟩:=hms m (d9_ ..)
    have hms':∀ m ∈ ms,∃ q,stepP g p m=some q:=λm hm=>hms m (d3_ _ hm)
    have hvq:=zz_ hg h0 hv hq
    unfold inn at h
    rw[hq,f6_] at h
    cases hw:wh ps q with
    | some n =>
      rw[hw] at h
      obtain⟨a,b,c,d,f⟩:=ba3 hg h0 hv ms _ e' ps ps' hms' hI h
      refine⟨a,b,λhe=>c λx hx => ?_,λx hx => ?_,by rw[f,a8_,d5_,c4_];omega⟩
      rotate_left
      · rcases d x hx with hx | hx
        · rcases b3_.1 hx with hx | hx
          · exact .inl hx
          · rw[e7_] at hx
            rw[hx]
            exact .inr (d9_ ..)
        · exact .inr (d3_ _ hx)
      rcases b3_.1 hx with hx | hx
      · exact he x hx
      · rw[e7_] at hx
        have:=am_ (bj3 hw)
        rw[hx]
        exact⟨by show (0:Int)≤(n:Int);omega,by show (n:Int)<_;omega⟩
    | none =>
      rw[hw] at h
      have h:(if ps.length=3000 then none else inn g p ms (e++[(m,(ps.length:Int))]) (ps++[q]))=some (e',ps'):=h
      split at h
      · cases h
      · next hn =>
        obtain⟨a,⟨r,hr⟩,c,d,f⟩:=ba3 hg h0 hv ms _ e' (ps++[q]) ps' hms' (cc2 hI hvq hn) h
        refine⟨a,⟨q::r,by rw[hr,b4_];rfl⟩,λhe=>c λx hx => ?_,λx hx => ?_,by rw[f,a8_,d5_,c4_];omega⟩
        rotate_left
        · rcases d x hx with hx | hx
          · rcases b3_.1 hx with hx | hx
            · exact .inl hx
            · rw[e7_] at hx
              rw[hx]
              exact .inr (d9_ ..)
          · exact .inr (d3_ _ hx)
        have hl:(ps++[q]).length=ps.length+1:=by rw[a8_,d5_]
        rcases b3_.1 hx with hx | hx
        · have:=he x hx
          omega
        · rw[e7_] at hx
          rw[hx]
          exact⟨by show (0:Int)≤(ps.length:Int);omega,by show (ps.length:Int)<_;omega⟩
theorem lgl_num {r:ae_} {s:ai_} {m:af_} (h:lgl r s m=true) (hk:m.2.1=4):m.2.2≠-1:=by
  intro e
  unfold lgl at h
  rw[a1_,hk,e] at h
  have h:=h.2
  simp only[show ((4:Int)==1)=false from rfl,show ((4:Int)==2)=false from rfl,show ((4:Int)==3)=false from rfl,show ((4:Int)==4)=true from rfl,a2_,a5_] at h
  have:at? r.2.2.2.2.1 (-1)=none:=rfl
  rw[this] at h
  cases h
theorem pmv_num {g:ad_} {p:aa_} {m:af_} (hm:m ∈ pmv g p):m.2.1=4→m.2.2≠-1:=by
  unfold pmv at hm
  exact lgl_num (as8 (c7_.1 hm).1)
structure GI (g:ad_) (ps:List aa_) (es:List (List ac_)):Prop where
  pI:PI g ps
  eI:∀ l ∈ es,∀ x ∈ l,(0≤x.2∧x.2<(ps.length:Int))∧(x.1.2.1=4→x.1.2.2≠-1)
  eL:∀ l ∈ es,l.length≤480
theorem cq7 {g:ad_} (hg:SmG g) (h0:cl_ g=0):∀ (n i:Nat) (ps ps':List aa_) (es es':List (List ac_)),i+n=3001→i≤ps.length→es.length=i→GI g ps es→out g n i ps es=some (ps',es')→GI g ps' es'∧es'.length=ps'.length
  | 0,i,ps,ps',es,es',hi,hip,hl,hG,h=>by
    have:=hG.pI.n
    omega
  | n+1,i,ps,ps',es,es',hi,hip,hl,hG,h=>by
    unfold out at h
    cases hp:ps[i]? with
    | none =>
      rw[hp] at h
      obtain⟨rfl,rfl⟩:=h9_ (a6_ h)
      have:=p2_.1 hp
      exact⟨hG,by omega⟩
    | some p =>
      rw[hp] at h
      have hvp:=hG.pI.v p (ax_ hp)
      have hok:=dk_ h0
      cases hin:inn g p (pmv g p) [] ps with
      | none =>
        simp only[hin] at h
        cases h
      | some z =>
        obtain⟨e,ps1⟩:=z
        simp only[hin] at h
        obtain⟨a,⟨r,rfl⟩,c,d,f⟩:=ba3 hg h0 hvp _ _ _ _ _ (λm hm=>pf_ hm) hG.pI hin
        have hpl:=am_ hp
        have hpm:=as0 hok p
        have hll:(ps++r).length=ps.length+r.length:=a8_
        refine cq7 hg h0 n (i+1) _ ps' _ es' (by omega) (by omega) (by rw[a8_,d5_];omega) ⟨a,λl hl x hx => ?_,λl hl => ?_⟩ h
        · rcases b3_.1 hl with hl | hl
          · have:=hG.eI l hl x hx
            exact⟨by omega,this.2⟩
          · rw[e7_] at hl
            rw[hl] at hx
            refine⟨c (λx hx=>by cases hx) x hx,?_⟩
            rcases d x hx with hx | hx
            · cases hx
            · exact pmv_num hx
        · rcases b3_.1 hl with hl | hl
          · exact hG.eL l hl
          · rw[e7_] at hl
            rw[hl,f]
            show 0+_≤480
            omega
theorem ct0 {g:ad_} (hg:SmG g) (he:(exG g).2.1=0):cl_ g=0∧GI g (exG g).1.1 (exG g).1.2∧(exG g).1.2.length=(exG g).1.1.length:=by
  unfold exG at he ⊢
  cases hb:(ud_ g).2.1 != 0 with
  | true =>
    rw[hb] at he
    rw[o0_] at hb
    exact absurd he hb
  | false =>
  rw[hb,a2_] at he
  have hb:(ud_ g).2.1=0:=by simpa using hb
  obtain⟨h0,hv⟩:=au9 hg hb
  cases ho:out g 3001 0 [(ud_ g).1] [] with
  | none =>
    rw[ho] at he
    exact absurd (show (2:Int)=0 from he) (by decide)
  | some z =>
    obtain⟨ps,es⟩:=z
    exact⟨h0,cq7 hg h0 3001 0 _ ps _ es rfl (l7_ _) rfl ⟨⟨by show 1≤3000;decide,λx hx=>by rw[e7_] at hx;rw[hx];exact hv⟩,(λl hl=>by cases hl),(λl hl=>by cases hl)⟩ ho⟩
noncomputable def am1 (key:aa_→List UInt8) (g:ad_) (p:aa_):List af_→List ac_→List aa_→List (List UInt8×Int)→Option (List ac_×(List aa_×List (List UInt8×Int)))
  | [],e,ps,M=>some (e,(ps,M))
  | m::ms,e,ps,M=>match wh ps ((stepP g p m).getD eP) with
    | some n=>am1 key g p ms (e++[(m,(n:Int))]) ps M
    | none=>if ps.length=3000 then none else am1 key g p ms (e++[(m,(ps.length:Int))]) (ps++[(stepP g p m).getD eP]) (fj_ M (key ((stepP g p m).getD eP)) (ps.length:Int))
theorem ad6 (key:aa_→List UInt8) (g:ad_) (p:aa_):∀ ms e ps M,(am1 key g p ms e ps M).map (λz=>(z.1,z.2.1))=inn g p ms e ps
  | [],e,ps,M=>rfl
  | m::ms,e,ps,M=>by
    unfold am1 inn
    cases wh ps ((stepP g p m).getD eP) with
    | some n=>exact ad6 key g p ms _ _ _
    | none =>
      by_cases hn:ps.length=3000
      · simp only[if_pos hn,Option.map_none]
      · simp only[if_neg hn]
        exact ad6 key g p ms _ _ _
section
variable {g:ad_} (hg:SmG g) (h0:cl_ g=0) {key:aa_→List UInt8} (hk:∀ p q,VP g p→VP g q→key p=key q→p=q)
include hg h0 hk
theorem at9 {p:aa_} (hv:VP g p):∀ (ms:List af_) e ps M e' ps' M',(∀ m ∈ ms,∃ q,stepP g p m=some q)→MI g key ps M→am1 key g p ms e ps M=some (e',(ps',M'))→MI g key ps' M'
  | [],e,ps,M,e',ps',M',_,hM,h=>by
    unfold am1 at h
    obtain⟨_,h⟩:=h9_ (a6_ h)
    obtain⟨rfl,rfl⟩:=h9_ h
    exact hM
  | m::ms,e,ps,M,e',ps',M',hms,hM,h=>by
    obtain⟨q,hq⟩:=hms m (d9_ ..)
    have hms':∀ m ∈ ms,∃ q,stepP g p m=some q:=λm hm=>hms m (d3_ _ hm)
    have hvq:=zz_ hg h0 hv hq
    unfold am1 at h
    rw[hq,f6_] at h
    cases hw:wh ps q with
    | some n =>
      rw[hw] at h
      exact at9 hv ms _ _ _ _ _ _ hms' hM h
    | none =>
      rw[hw] at h
      have h:(if ps.length=3000 then none else am1 key g p ms (e++[(m,(ps.length:Int))]) (ps++[q]) (fj_ M (key q) (ps.length:Int)))=some (e',(ps',M')):=h
      split at h
      · cases h
      · exact at9 hv ms _ _ _ _ _ _ hms' (av5 hk hM hvq hw) h
theorem ad2 {p:aa_} (hv:VP g p) {at_:Nat} {σ ρ:Type} (F:List ac_→Nat→List (List UInt8×Int)→List aa_→σ) (G:List ac_→List (List UInt8×Int)→List aa_→ρ) {EE:ρ} {body:σ→Option (σ⊕ρ)} (ms:List af_) (hms:∀ m ∈ ms,∃ q,stepP g p m=some q)
    (hb:∀ i m e M ps q,ms[i]?=some m→stepP g p m=some q→VP g q→mget? M (key q)=(wh ps q).map (λn=>(n:Int))→PI g ps→ps[at_]?=some p→e.length=i →
      body (F e i M ps)=some (match wh ps q with
        | some n=>.inl (F (e++[(m,(n:Int))]) (i+1) M ps)
        | none=>if ps.length=3000 then .inr EE else .inl (F (e++[(m,(ps.length:Int))]) (i+1) (fj_ M (key q) (ps.length:Int)) (ps++[q]))))
    (he:∀ e M ps,body (F e ms.length M ps)=some (.inr (G e M ps))) :
    ∀ (k i:Nat) e M ps,i+k=ms.length→e.length=i→PI g ps→ps[at_]?=some p→MI g key ps M→ag_ body (F e i M ps)=some ((am1 key g p (ms.drop i) e ps M).elim EE λz=>G z.1 z.2.2 z.2.1)
  | 0,i,e,M,ps,hi,hl,hI,hat,hM=>by
    obtain rfl:i=ms.length:=by omega
    rw[o6_]
    exact br_ (he e M ps)
  | k+1,i,e,M,ps,hi,hl,hI,hat,hM=>by
    have hil:i<ms.length:=by omega
    obtain⟨m,hm⟩:=bd_ hil
    obtain⟨q,hq⟩:=hms m (ax_ hm)
    have hvq:=zz_ hg h0 hv hq
    have hd:ms.drop i=m::ms.drop (i+1):=by
      rw[j1_ hil]
      rw[a7_ hil] at hm
      rw[a6_ hm]
    have hbb:=hb i m e M ps q hm hq hvq (hM q hvq) hI hat hl
    rw[hd]
    unfold am1
    rw[hq,f6_]
    cases hw:wh ps q with
    | some n =>
      rw[hw] at hbb
      exact bo_ hbb (ad2 hv F G ms hms hb he k (i+1) (e++[(m,(n:Int))]) M ps (by omega) (by rw[a8_,d5_,hl]) hI hat hM)
    | none =>
      rw[hw] at hbb
      have hbb:body (F e i M ps)=some (if ps.length=3000 then .inr EE else .inl (F (e++[(m,(ps.length:Int))]) (i+1) (fj_ M (key q) (ps.length:Int)) (ps++[q]))):=hbb
      by_cases hn:ps.length=3000
      · rw[if_pos hn] at hbb
        simp only[if_pos hn]
        exact br_ hbb
      · rw[if_neg hn] at hbb
        simp only[if_neg hn]
        exact bo_ hbb (ad2 hv F G ms hms hb he k (i+1) (e++[(m,(ps.length:Int))]) (fj_ M (key q) (ps.length:Int)) (ps++[q]) (by omega) (by rw[a8_,d5_,hl]) (cc2 hI hvq hn) (by rw[b1_ (am_ hat)];exact hat) (av5 hk hM hvq hw))
theorem ao0 {p:aa_} (hv:VP g p) {at_:Nat} {σ ρ υ:Type} (F:List ac_→Nat→List (List UInt8×Int)→List aa_→σ) (G:List ac_→List (List UInt8×Int)→List aa_→ρ) (EE:ρ) {body:σ→Option (σ⊕ρ)} (ms:List af_) (hms:∀ m ∈ ms,∃ q,stepP g p m=some q)
    {M:List (List UInt8×Int)} {ps:List aa_} (hI:PI g ps) (hat:ps[at_]?=some p) (hM:MI g key ps M) {K:ρ→Option υ} {x:Option υ}
    (hb:∀ i m e M ps q,ms[i]?=some m→stepP g p m=some q→VP g q→mget? M (key q)=(wh ps q).map (λn=>(n:Int))→PI g ps→ps[at_]?=some p→e.length=i →
      body (F e i M ps)=some (match wh ps q with
        | some n=>.inl (F (e++[(m,(n:Int))]) (i+1) M ps)
        | none=>if ps.length=3000 then .inr EE else .inl (F (e++[(m,(ps.length:Int))]) (i+1) (fj_ M (key q) (ps.length:Int)) (ps++[q]))))
    (he:∀ e M ps,body (F e ms.length M ps)=some (.inr (G e M ps))) (hx:(am1 key g p ms [] ps M).elim (K EE) (λz=>K (G z.1 z.2.2 z.2.1))=x):(ag_ body (F [] 0 M ps)).bind K=x:=by
  rw[ad2 hg h0 hk hv F G ms hms hb he ms.length 0 [] M ps (by omega) rfl hI hat hM,a0_,← hx]
  rw[List.drop_zero]
  cases am1 key g p ms [] ps M<;>rfl
theorem az3 {σ ρ:Type} (F:Nat→List (List UInt8×Int)→List aa_→List (List ac_)→σ) (G:List (List UInt8×Int)→List aa_→List (List ac_)→ρ) {EE:ρ} {body:σ→Option (σ⊕ρ)}
    (hb:∀ i M ps es p,ps[i]?=some p→VP g p→PI g ps→es.length=i→MI g key ps M→body (F i M ps es)=some ((am1 key g p (pmv g p) [] ps M).elim (.inr EE) λz=>.inl (F (i+1) z.2.2 z.2.1 (es++[z.1]))))
    (he:∀ M ps es,body (F ps.length M ps es)=some (.inr (G M ps es))) :
    ∀ (n i:Nat) M ps es,i+n=3001→i≤ps.length→es.length=i→PI g ps→MI g key ps M→match out g n i ps es with
      | none=>ag_ body (F i M ps es)=some EE
      | some (ps',es')=>∃ M',ag_ body (F i M ps es)=some (G M' ps' es')
  | 0,i,M,ps,es,hi,hip,hl,hI,hM=>by
    have:=hI.n
    omega
  | n+1,i,M,ps,es,hi,hip,hl,hI,hM=>by
    unfold out
    cases hp:ps[i]? with
    | none =>
      have:=p2_.1 hp
      obtain rfl:i=ps.length:=by omega
      exact⟨M,br_ (he M ps es)⟩
    | some p =>
      have hvp:=hI.v p (ax_ hp)
      have hbb:=hb i M ps es p hp hvp hI hl hM
      have hmap:=ad6 key g p (pmv g p) [] ps M
      show (match (match inn g p (pmv g p) [] ps with
            | none=>none
            | some (e,ps')=>out g n (i+1) ps' (es++[e])) with
          | none=>ag_ body (F i M ps es)=some EE
          | some (ps',es')=>∃ M',ag_ body (F i M ps es)=some (G M' ps' es'))
      cases hin:am1 key g p (pmv g p) [] ps M with
      | none =>
        rw[hin] at hbb hmap
        rw[← hmap]
        exact br_ hbb
      | some z =>
        obtain⟨e,ps1,M1⟩:=z
        have hM1:=at9 hg h0 hk hvp _ _ _ _ _ _ _ (λm hm=>pf_ hm) hM hin
        rw[hin] at hbb hmap
        obtain⟨a,⟨r,rfl⟩,_,_,_⟩:=ba3 hg h0 hvp _ _ _ _ _ (λm hm=>pf_ hm) hI hmap.symm
        rw[← hmap]
        have hpl:=am_ hp
        have hll:(ps++r).length=ps.length+r.length:=a8_
        have ih:=az3 F G hb he n (i+1) M1 (ps++r) (es++[e]) (by omega) (by omega) (by rw[a8_,d5_];omega) a hM1
        show (match out g n (i+1) (ps++r) (es++[e]) with
          | none=>ag_ body (F i M ps es)=some EE
          | some (ps',es')=>∃ M',ag_ body (F i M ps es)=some (G M' ps' es'))
        cases ho:out g n (i+1) (ps++r) (es++[e]) with
        | none=>rw[ho] at ih;exact bo_ hbb ih
        | some z =>
          rw[ho] at ih
          obtain⟨M',hz⟩:=ih
          exact⟨M',bo_ hbb hz⟩
theorem bd3 {σ ρ:Type} (F:Nat→List (List UInt8×Int)→List aa_→List (List ac_)→σ) (G:List (List UInt8×Int)→List aa_→List (List ac_)→ρ) (EE:ρ) {body:σ→Option (σ⊕ρ)} {p0:aa_} (hv:VP g p0) {K:ρ→Option (cj_×(Int×Unit))}
    (hb:∀ i M ps es p,ps[i]?=some p→VP g p→PI g ps→es.length=i→MI g key ps M→body (F i M ps es)=some ((am1 key g p (pmv g p) [] ps M).elim (.inr EE) λz=>.inl (F (i+1) z.2.2 z.2.1 (es++[z.1]))))
    (he:∀ M ps es,body (F ps.length M ps es)=some (.inr (G M ps es)))
    (hE:K EE=some (([],[]),(2,()))) (hG:∀ M ps es,K (G M ps es)=some ((ps,es),(0,()))) :
    (ag_ body (F 0 (fj_ [] (key p0) 0) [p0] [])).bind K=some (match out g 3001 0 [p0] [] with
      | none=>(([],[]),(2,()))
      | some (ps,es)=>((ps,es),(0,()))):=by
  have hI:PI g [p0]:=⟨by show 1≤3000;decide,λx hx=>by rw[e7_] at hx;rw[hx];exact hv⟩
  have hM:MI g key [p0] (fj_ [] (key p0) 0):=by
    have:=av5 (ps:=[]) (M:=[]) (q:=p0) hk (λq _=>rfl) hv rfl
    exact this
  have:=az3 hg h0 hk F G hb he 3001 0 (fj_ [] (key p0) 0) [p0] [] rfl (l7_ _) rfl hI hM
  cases ho:out g 3001 0 [p0] [] with
  | none =>
    rw[ho] at this
    rw[this,a0_]
    exact hE
  | some z =>
    obtain⟨ps,es⟩:=z
    rw[ho] at this
    obtain⟨M',hz⟩:=this
    rw[hz,a0_]
    exact hG M' ps es
end
end
section
set_option maxRecDepth 10000
theorem ax3 {g:ad_} (hg:SmG g) (ok:OkG g) (p q:aa_) (hp:VP g p) (hq:VP g q) (h:gm_ (rtk p)=gm_ (rtk q)):p=q:=rtk_inj (bi7 hg ok hp) (bi7 hg ok hq) (cu5 hp hq) h
theorem ay0 {g:ad_} (p q:aa_) (hp:VP g p) (hq:VP g q) (h:gm_ (ptk p)=gm_ (ptk q)):p=q:=ptk_inj (cu5 hp hq) h
theorem rj_ {g:ad_} (hg:SmG g):dw_ g=some (exG g):=by
  unfold dw_ exG
  rw[ai9 hg,a0_]
  cases hb:(ud_ g).2.1 != 0 with
  | true=>rfl
  | false =>
  have hb:(ud_ g).2.1=0:=by simpa using hb
  obtain⟨h0,hv⟩:=au9 hg hb
  have ok:=dk_ h0
  simp only[a2_]
  rw[ai7 (bi7 hg ok hv),a0_]
  refine bd3 hg h0 (key:=λq=>gm_ (rtk q)) (ax3 hg ok) (λi M ps es=>((i:Int),(M,(([],([],())),((ps,(es,())),()))))) (λM ps es=>inl (M,(([],([],())),((ps,(es,())),())))) (inr (([],[]),(2,()))) hv (λi M ps es p hp hvp hI hl hM => ?_) (λM ps es=>by simp only[dnl,a2_]) rfl (λM ps es=>rfl)
  have hi:=am_ hp
  have hn:=hI.n
  have hml:=as0 ok p
  simp only[dlt hi,a5_,ah_ hp,a0_]
  rw[ar2 hg h0 hvp,a0_]
  refine ao0 hg h0 (key:=λq=>gm_ (rtk q)) (ax3 hg ok) hvp (at_:=i) (λe j M ps=>(e,((j:Int),(M,(([],([],())),((ps,()),())))))) (λe M ps=>inl (e,(M,(([],([],())),((ps,()),()))))) (inr (inr (inr (([],[]),(2,()))))) (pmv g p) (λm hm=>pf_ hm) hI hp hM (λj m e M ps q hm hq hvq hMq hI hat hl => ?_) (λe M ps=>by simp only[dnl,a2_]) ?_
  · have hj:=am_ hm
    have hn:=hI.n
    have hkq:=ai7 (bi7 hg ok hvq)
    simp only[dlt hj,a5_,ah_ hm,ah_ hat,a0_,bf8 hg h0 hvp hq,hkq]
    cases hw:wh ps q with
    | some n =>
      rw[hw] at hMq
      have e1:bg9 M (gm_ (rtk q))=true:=by unfold bg9;rw[hMq];rfl
      have e2:eh_ 0 M (gm_ (rtk q))=(n:Int):=by unfold eh_;rw[hMq];rfl
      simp only[e1,e2,e5_,a2_,a0_,cd_,ah_ hm,cf_ (show Sm e.length by show _≤1000000000;omega),ba_ (show Sm j by show _≤1000000000;omega)]
    | none =>
      rw[hw] at hMq
      have e1:bg9 M (gm_ (rtk q))=false:=by unfold bg9;rw[hMq];rfl
      simp only[e1,g4_,a5_]
      by_cases hc:ps.length=3000
      · have:((ps.length:Int)==3000)=true:=by rw[hc];rfl
        simp only[this,a5_,a0_,cd_,if_pos hc]
      · have:((ps.length:Int)==3000)=false:=by rw[o8_];omega
        simp only[this,a2_,a0_,cd_,if_neg hc,cf_ (show Sm ps.length by show _≤1000000000;omega),cf_ (show Sm e.length by show _≤1000000000;omega),ba_ (show Sm j by show _≤1000000000;omega),ah_ hm]
  · cases hin:am1 (λq=>gm_ (rtk q)) g p (pmv g p) [] ps M with
    | none=>rfl
    | some z =>
      simp only[Option.elim,cd_,cf_ (show Sm es.length by show _≤1000000000;omega),a0_,ba_ (show Sm i by show _≤1000000000;omega)]
theorem rn_ {g:ad_} (hg:SmG g):dx_ g=some (exG g):=by
  unfold dx_ exG
  rw[as1 hg,a0_]
  cases hb:(ud_ g).2.1 != 0 with
  | true=>rfl
  | false =>
  have hb:(ud_ g).2.1=0:=by simpa using hb
  obtain⟨h0,hv⟩:=au9 hg hb
  have ok:=dk_ h0
  simp only[a2_]
  rw[ak1 (bi7 hg ok hv),a0_,a0_]
  refine bd3 hg h0 (key:=λq=>gm_ (ptk q)) ay0 (λi M ps es=>((i:Int),(M,(([],([],())),((ps,(es,())),()))))) (λM ps es=>inl (M,(([],([],())),((ps,(es,())),())))) (inr (([],[]),(2,()))) hv (λi M ps es p hp hvp hI hl hM => ?_) (λM ps es=>by simp only[dnl,a2_]) rfl (λM ps es=>rfl)
  have hi:=am_ hp
  have hn:=hI.n
  have hml:=as0 ok p
  simp only[dlt hi,a5_,ah_ hp,a0_]
  rw[ch7 hg h0 hvp,a0_]
  simp only[show ((0:Int) != 0)=false from rfl,a2_]
  refine ao0 hg h0 (key:=λq=>gm_ (ptk q)) ay0 hvp (at_:=i) (λe j M ps=>(e,((j:Int),(M,(([],([],())),((ps,()),())))))) (λe M ps=>inl (e,(M,(([],([],())),((ps,()),()))))) (inr (inr (inr (([],[]),(2,()))))) (pmv g p) (λm hm=>pf_ hm) hI hp hM (λj m e M ps q hm hq hvq hMq hI hat hl => ?_) (λe M ps=>by simp only[dnl,a2_]) ?_
  · have hj:=am_ hm
    have hn:=hI.n
    have hkq:=ak1 (bi7 hg ok hvq)
    have hstep:ki_ g p m=some (q,(0,())):=by rw[bo8 hg h0 hvp m,hq];rfl
    simp only[dlt hj,a5_,ah_ hm,ah_ hat,a0_,hstep,hkq,show ((0:Int) != 0)=false from rfl,a2_]
    cases hw:wh ps q with
    | some n =>
      rw[hw] at hMq
      have e1:bg9 M (gm_ (ptk q))=true:=by unfold bg9;rw[hMq];rfl
      have e2:eh_ 0 M (gm_ (ptk q))=(n:Int):=by unfold eh_;rw[hMq];rfl
      simp only[e1,e2,a5_,e5_,a2_,a0_,cf_ (show Sm e.length by show _≤1000000000;omega),ba_ (show Sm j by show _≤1000000000;omega)]
    | none =>
      rw[hw] at hMq
      have e1:bg9 M (gm_ (ptk q))=false:=by unfold bg9;rw[hMq];rfl
      simp only[e1,a2_]
      by_cases hc:ps.length=3000
      · have:((ps.length:Int)==3000)=true:=by rw[hc];rfl
        simp only[this,a5_,a0_,g4_,if_pos hc]
      · have:((ps.length:Int)==3000)=false:=by rw[o8_];omega
        simp only[this,a2_,a0_,e5_,if_neg hc,cf_ (show Sm ps.length by show _≤1000000000;omega),cf_ (show Sm e.length by show _≤1000000000;omega),ba_ (show Sm j by show _≤1000000000;omega)]
  · cases hin:am1 (λq=>gm_ (ptk q)) g p (pmv g p) [] ps M with
    | none=>rfl
    | some z =>
      simp only[Option.elim,cd_,cf_ (show Sm es.length by show _≤1000000000;omega),a0_,ba_ (show Sm i by show _≤1000000000;omega)]
end
section
set_option maxRecDepth 10000
structure LC (es:List (List ac_)) (fin:Nat→Bool) (a:List Int):Prop where
  lo:∀ (i:Nat) (v:Int),a[i]?=some v→-1≤v
  z:∀ (i:Nat) (v:Int),a[i]?=some v→(v=0↔fin i=true)
  dn:∀ (i k:Nat),a[i]?=some ((k+1:Nat):Int)→∃ l x,es[i]?=some l∧x ∈ l∧at? a x.2=some (k:Int)
  up:∀ (i:Nat) (l:List ac_) (x:ac_) (k:Nat),es[i]?=some l→x ∈ l→at? a x.2=some (k:Int)→∃ v,a[i]?=some v∧0≤v∧v≤(k:Int)+1
theorem cc4 {es:List (List ac_)} {fin:Nat→Bool} {a b:List Int} (ha:LC es fin a) (hb:LC es fin b) (hl:a.length=b.length) (k:Nat) (ih:∀ j,j<k→∀ i:Nat,a[i]?=some (j:Int)↔b[i]?=some (j:Int)) (i:Nat) (h:a[i]?=some (k:Int)):b[i]?=some (k:Int):=by
  obtain⟨w,hw⟩:=bd_ (l:=b) (i:=i) (by have:=am_ h;omega)
  match k with
  | 0 =>
    have h1:=(ha.z i _ h).1 rfl
    have h2:=(hb.z i w hw).2 h1
    rw[hw,h2]
    rfl
  | k+1 =>
    obtain⟨l,x,hl',hx,hat⟩:=ha.dn i k h
    obtain⟨q1,q2,q3⟩:=da_ hat
    have h3:=(ih k (by omega) _).1 q3
    have h4:at? b x.2=some (k:Int):=by
      rw[show x.2=((x.2.toNat:Nat):Int) by omega]
      exact ah_ h3
    obtain⟨v,e,v0,v1⟩:=hb.up i l x k hl' hx h4
    rw[hw] at e
    obtain rfl:=a6_ e
    rcases Int.lt_or_eq_of_le v1 with hlt | heq
    · exfalso
      obtain⟨n,rfl⟩:∃ n:Nat,w=(n:Int):=⟨w.toNat,by omega⟩
      have:=(ih n (by omega) i).2 hw
      rw[h] at this
      have:=a6_ this
      omega
    · rw[hw,heq]
      rfl
theorem cc3 {es:List (List ac_)} {fin:Nat→Bool} {a b:List Int} (ha:LC es fin a) (hb:LC es fin b) (hl:a.length=b.length):a=b:=by
  have key:∀ k i:Nat,a[i]?=some (k:Int)↔b[i]?=some (k:Int):=by
    intro k
    induction k using Nat.strongRecOn with
    | _ k ih =>
      intro i
      exact⟨cc4 ha hb hl k ih i,cc4 hb ha hl.symm k (λj hj i=>(ih j hj i).symm) i⟩
  refine f1_ λi => ?_
  rcases l5_ i a.length with hi | hi
  · obtain⟨v,hv⟩:=bd_ hi
    obtain⟨w,hw⟩:=bd_ (l:=b) (i:=i) (by omega)
    have h1:=ha.lo i v hv
    have h2:=hb.lo i w hw
    rw[hv,hw]
    by_cases hv0:0≤v
    · obtain⟨n,rfl⟩:∃ n:Nat,v=(n:Int):=⟨v.toNat,by omega⟩
      have:=(key n i).1 hv
      rw[hw] at this
      exact this.symm
    · by_cases hw0:0≤w
      · obtain⟨n,rfl⟩:∃ n:Nat,w=(n:Int):=⟨w.toNat,by omega⟩
        have:=(key n i).2 hw
        rw[hv] at this
        exact this
      · rw[show v = -1 by omega,show w = -1 by omega]
  · rw[b9_ hi,b9_ (by omega)]
def ty_ (g:ad_) (ps:List aa_) (i:Nat):Bool:=match ps[i]? with
  | some p=>dl_ p.1.1 g.1.2.2.2.2.2.2.2
  | none=>false
theorem bx1 {g:ad_} {ps:List aa_} {i:Nat} {p:aa_} (h:ps[i]?=some p):ty_ g ps i=dl_ p.1.1 g.1.2.2.2.2.2.2.2:=by
  unfold ty_
  rw[h]
def xe_ (g:ad_) (ps:List aa_):List Int:=ps.map λp=>cond (dl_ p.1.1 g.1.2.2.2.2.2.2.2) 0 (-1)
theorem qs_ {g:ad_} {ps:List aa_} {i:Nat} {v:Int} (h:(xe_ g ps)[i]?=some v):(v=0∧ty_ g ps i=true)∨(v = -1∧ty_ g ps i=false):=by
  unfold xe_ at h
  rw[d8_] at h
  obtain⟨p,hp,rfl⟩:=f5_.1 h
  rw[bx1 hp]
  cases dl_ p.1.1 g.1.2.2.2.2.2.2.2 with
  | true=>exact .inl ⟨rfl,rfl⟩
  | false=>exact .inr ⟨rfl,rfl⟩
def mp_ (a:List Int):Nat:=a.countP λv=>decide (v<0)
theorem br1 (a:List Int):mp_ a≤a.length:=j4_
theorem ay9:∀ {a:List Int} {i:Nat} {v w:Int},a[i]?=some v→v<0→0≤w→mp_ (a.set i w)+1=mp_ a
  | x::a,0,v,w,h,hv,hw=>by
    obtain rfl:x=v:=a6_ h
    unfold mp_
    rw[List.set_cons_zero,i2_,i2_,b5_ hv,c1_ (by omega)]
    simp
  | x::a,i+1,v,w,h,hv,hw=>by
    have:=ay9 (a:=a) (i:=i) h hv hw
    unfold mp_ at this ⊢
    rw[List.set_cons_succ,i2_,i2_]
    omega
  | [],i,v,w,h,_,_=>by simp at h
end
end Go.Proofs.YtgeehfnbhbibeaaGreatDoor.Rx
