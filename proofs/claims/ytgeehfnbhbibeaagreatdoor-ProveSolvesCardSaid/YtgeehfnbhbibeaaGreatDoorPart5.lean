/- A part of the proof: what the functions of the program compute, shown over the model. -/
import Derived.KernelRfl
import Derived.Test.YtgeehfnbhbibeaaGreatDoorPart4
set_option linter.unusedSectionVars false
set_option linter.unusedVariables false
set_option linter.unusedSimpArgs false
namespace Go.Proofs.YtgeehfnbhbibeaaGreatDoor.Rx
open Go Pad Rex Go.Proofs Go.Proofs.Tryz Sum
section
set_option maxRecDepth 100000
set_option maxHeartbeats 0
noncomputable def jw_ (a0:ae_):Option (ai_×Int×Unit) :=
 ((fu_ a0).bind λv0 =>
 (cond (v0.1 != 0)
 (some (([],([],[])),(v0.1,())))
 ((mk? (α:=Int) a0.2.2.2.2.2.2.1 0).bind λv1 =>
 ((ag_ (ρ:=(((List Int)×Unit)×Unit)) (λ(v2:(Int×(((List Int)×Unit)×Unit))) =>
 (cond (decide (v2.1<(a0.2.1.length:Int)))
 ((at? a0.2.1 v2.1).bind λv3 =>
 ((push? (α:=Int) v2.2.1.1 [v3.2.2.2]).bind λv4 =>
 (some (inl ((w64 (v2.1+1)),((v4,()),()))))))
 (some (inr ((v2.2.1.1,()),()))))) (0,(([],()),()))).bind λv5 =>
 ((ag_ (ρ:=(((List Int)×Unit)×Unit)) (λ(v6:(Int×(((List Int)×Unit)×Unit))) =>
 (cond (decide (v6.1<(a0.2.2.1.length:Int)))
 ((at? a0.2.2.1 v6.1).bind λv7 =>
 ((push? (α:=Int) v6.2.1.1 [v7.2.1]).bind λv8 =>
 (some (inl ((w64 (v6.1+1)),((v8,()),()))))))
 (some (inr ((v6.2.1.1,()),()))))) (0,(([],()),()))).bind λv9 =>
 ((ik_ a0 (v5.1.1,(v9.1.1,v1))).bind λv10 =>
 (some (v10.1,(v10.2.1,())))))))))
theorem x_92:av_ (P:=prog) (cxC [c_52,c_121] []) (.p .z (.p .z (.p .z (.p .z (.p (.p .z (.lp [.v 6 .int] [] [.b (.s 5) [.row .int 3,.keep,.keep]] 0 .z)) (.p (.p .z (.lp [.v 7 .int] [] [.b (.s 5) [.keep,.row .int 3,.keep]] 2 .z)) .z)))))) 92 [ao_] [ar_,.int]=λx=>jw_ x.1:=by kernel_rfl
noncomputable def c_92:Con prog:=aw_ _ _ 92 [ao_] [ar_,.int] _ x_92
noncomputable def lm_ (a0:ad_) (a1:aa_) (a2:Int):Option (Bool×Unit) :=
 ((hp_ a0 a1 a2).bind λv0 =>
 ((jd_ a0 a2 v0.1).bind λv1 =>
 (some ((decide (v1.1≤a0.2.2.2.2)),()))))
theorem x_124:av_ (P:=prog) (cxC [c_160,c_161] []) (.p .z (.p (.q [] .z .z) .z)) 124 [an_,aj_,.int] [.bool]=λx=>lm_ x.1 x.2.1 x.2.2.1:=by kernel_rfl
noncomputable def c_124:Con prog:=aw_ _ _ 124 [an_,aj_,.int] [.bool] _ x_124
noncomputable def hf_ (a0:ad_):Option (Int×Unit) :=
 ((fk_ a0.1).bind λv0 =>
 (cond (v0.1 != 0)
 (some (v0.1,()))
 (((cond (decide (8<(a0.2.1.length:Int)))
 (some (true,()))
 (some ((decide (16<(a0.2.2.2.1.length:Int))),())))).bind λv1 =>
 (cond v1.1
 (some (2,()))
 ((ag_ (ρ:=(Unit⊕(Int×Unit))) (λ(v2:(Int×Unit)) =>
 (cond (decide (v2.1<(a0.2.1.length:Int)))
 ((at? a0.2.1 v2.1).bind λv3 =>
 ((el_ v3).bind λv4 =>
 (cond (v4.1 != 0)
 (some (inr (inr (v4.1,()))))
 (some (inl ((w64 (v2.1+1)),()))))))
 (some (inr (inl ()))))) (0,())).bind λv5 =>
 (cj_ v5 (λv6=>(cond ((a0.2.2.1.length:Int) != (a0.2.1.length:Int))
 (some (12,()))
 ((ag_ (ρ:=(Unit⊕(Int×Unit))) (λ(v8:(Int×Unit)) =>
 (cond (decide (v8.1<(a0.2.1.length:Int)))
 ((at? a0.2.1 v8.1).bind λv9 =>
 ((at? a0.2.2.1 v8.1).bind λv10 =>
 ((ed_ v9 v10).bind λv11 =>
 (cond (v11.1 != 0)
 (some (inr (inr (12,()))))
 (some (inl ((w64 (v8.1+1)),())))))))
 (some (inr (inl ()))))) (0,())).bind λv12 =>
 (cj_ v12 (λv13=>((ag_ (ρ:=(Unit⊕(Int×Unit))) (λ(v15:(Int×Unit)) =>
 (cond (decide (v15.1<(a0.1.2.2.2.2.1.length:Int)))
 ((at? a0.1.2.2.2.2.1 v15.1).bind λv16 =>
 (cond (decide ((a0.2.1.length:Int)≤v16.2.2.1))
 (some (inr (inr (26,()))))
 (some (inl ((w64 (v15.1+1)),())))))
 (some (inr (inl ()))))) (0,())).bind λv17 =>
 (cj_ v17 (λv18=>((ag_ (ρ:=(Unit⊕(Int×Unit))) (λ(v20:(Int×Unit)) =>
 (cond (decide (v20.1<(a0.2.2.2.1.length:Int)))
 ((at? a0.2.2.2.1 v20.1).bind λv21 =>
 ((lr_ a0 v20.1 v21).bind λv22 =>
 (cond (!v22.1)
 (some (inr (inr (40,()))))
 ((lq_ a0.1 v21.2.2.2.1).bind λv23 =>
 (cond (!v23.1)
 (some (inr (inr (25,()))))
 (some (inl ((w64 (v20.1+1)),()))))))))
 (some (inr (inl ()))))) (0,())).bind λv24 =>
 (cj_ v24 (λv25=>((ca_ a0.2.2.2.2 1 100).bind λv27 =>
 (cond (!v27.1)
 (some (1,()))
 (some (0,())))))
 (λv26=>(some v26)))))
 (λv19=>(some v19)))))
 (λv14=>(some v14))))))
 (λv7=>(some v7))))))))
theorem x_100:av_ (P:=prog) (cxC [c_131,cw0,c_133,c_134,c_135,ci0] []) (.p .z (.p .z (.p (.j0 [.v 28 .bool] .z .z) (.p (.p .z (.ls [.v 32 .int] [] [] 0 .z)) (.p .z (.p (.p .z (.ls [.v 52 .int] [] [] 2 .z)) (.p (.p .z (.ls [.v 70 .int] [] [] 4 .z)) (.p (.p .z (.ls [.v 84 .int] [] [] 6 .z)) .z)))))))) 100 [an_] [.int]=λx=>hf_ x.1:=by kernel_rfl
noncomputable def c_100:Con prog:=aw_ _ _ 100 [an_] [.int] _ x_100
end
section
set_option maxRecDepth 100000
set_option maxHeartbeats 0
noncomputable def ju_ (a0:ad_):Option (aa_×Int×Unit) :=
 ((hq_ a0).bind λv0 =>
 (cond (v0.1 != 0)
 (some ((([],([],[])),[]),(v0.1,())))
 ((jw_ a0.1).bind λv1 =>
 (cond (v1.2.1 != 0)
 (some ((([],([],[])),[]),(v1.2.1,())))
 ((mk? (α:=Bool) (a0.2.2.2.1.length:Int) false).bind λv2 =>
 ((ix_ a0 (v1.1,v2)).bind λv3 =>
 (some (v3.1,(0,())))))))))
theorem x_58:av_ (P:=prog) (cxC [c_24,c_92,c_93] []) .z 58 [an_] [aj_,.int]=λx=>ju_ x.1:=by kernel_rfl
noncomputable def c_58:Con prog:=aw_ _ _ 58 [an_] [aj_,.int] _ x_58
noncomputable def gr_ (a0:ad_) (a1:aa_) (a2:af_):Option (Bool×Unit) :=
 ((gm_ a0.1 a1.1 a2).bind λv0 =>
 (cond (!v0.2.1)
 (some (false,()))
 (cond (a2.2.1 != 4)
 (some (true,()))
 ((at? a0.1.2.2.2.2.1 a2.2.2).bind λv1 =>
 (cond (decide (v1.2.2.1<0))
 (some (true,()))
 ((at? a0.1.2.2.2.2.1 a2.2.2).bind λv2 =>
 ((lm_ a0 a1 v2.2.2.1).bind λv3 =>
 (some (v3.1,())))))))))
theorem x_96:av_ (P:=prog) (cxC [c_97,c_124] []) (.p .z (.p .z (.p .z (.p (.q [] .z .z) .z)))) 96 [an_,aj_,ap_] [.bool]=λx=>gr_ x.1 x.2.1 x.2.2.1:=by kernel_rfl
noncomputable def c_96:Con prog:=aw_ _ _ 96 [an_,aj_,ap_] [.bool] _ x_96
noncomputable def ls_ (a0:ad_):Option (aa_×Int×Unit) :=
 ((hf_ a0).bind λv0 =>
 (cond (v0.1 != 0)
 (some ((([],([],[])),[]),(v0.1,())))
 ((iu_ a0.1).bind λv1 =>
 (cond (v1.2.1 != 0)
 (some ((([],([],[])),[]),(v1.2.1,())))
 ((mk? (α:=Bool) (a0.2.2.2.1.length:Int) false).bind λv2 =>
 ((ag_ (ρ:=((List Bool)×((List ac_)×Unit))) (λ(v3:(Int×((List Bool)×((List ac_)×Unit)))) =>
 (cond (decide (v3.1<(a0.2.2.2.1.length:Int)))
 ((((at? a0.2.2.2.1 v3.1).bind λv4 =>
 ((fj_ a0.1 v1.1 v4.2.2.2.1).bind λv5 =>
 (((cond v5.1
 ((bj_ v1.1.2.2 v4.2.1).bind λv6 =>
 (cond v6.1
 ((at? v3.2.1 v3.1).bind λv7 =>
 ((at? v3.2.1 v3.1).bind λv8 =>
 (some ((!v8),()))))
 (some (false,()))))
 (some (false,())))).bind λv9 =>
 (cond v9.1
 ((at? v3.2.1 v3.1).bind λv10 =>
 ((at? v3.2.1 v3.1).bind λv11 =>
 (some ((v3.2.1.set v3.1.toNat true),((aa1 v3.2.2.1 v4.2.2.1),())))))
 (some (v3.2.1,(v3.2.2.1,())))))))).bind λv12 =>
 (some (inl ((w64 (v3.1+1)),(v12.1,(v12.2.1,()))))))
 (some (inr (v3.2.1,(v3.2.2.1,())))))) (0,(v2,([],())))).bind λv13 =>
 ((push? (α:=Int) [] v1.1.1).bind λv14 =>
 ((push? (α:=Int) [] v1.1.2.1).bind λv15 =>
 ((push? (α:=Int) [] v1.1.2.2).bind λv16 =>
 ((push? (α:=Bool) [] v13.1).bind λv17 =>
 (some (((v14,(v15,v16)),v17),(0,())))))))))))))
theorem x_69:av_ (P:=prog) (cxI (λk=>cond (Nat.beq k 102) (.p .z (.lp [.v 12 .int] [] [.o (.c (.s 0) 15) .bool,.m (.c (.s 0) 16) .int .int] 0 (.p .z (.p .z (.j0 [.o (.c (.s 0) 15) .bool,.m (.c (.s 0) 16) .int .int] (.p .z (.p .z (.j0 [.v 55 .bool] .z .z))) .z))))) (.z)) (λk=>Nat.beq k 100||Nat.beq k 101||Nat.beq k 138||Nat.beq k 139||Nat.beq k 140||Nat.beq k 141||false) (cxC [c_100,c_101,c_138,cv9] [ym_,cg5]) 3) .z 69 [an_] [aj_,.int]=λx=>ls_ x.1:=by kernel_rfl
noncomputable def c_69:Con prog:=aw_ _ _ 69 [an_] [aj_,.int] _ x_69
noncomputable def ef_ (a0:ad_) (a1:aa_):Option (Int×Unit) :=
 ((hf_ a0).bind λv0 =>
 (cond (v0.1 != 0)
 (some (v0.1,()))
 ((bx_ a0.1 a1.1).bind λv1 =>
 (cond (v1.1 != 0)
 (some (v1.1,()))
 (cond ((a1.2.length:Int) != (a0.2.2.2.1.length:Int))
 (some (28,()))
 (some (0,())))))))
theorem x_144:av_ (P:=prog) (cxC [c_100,ci2] []) .z 144 [an_,aj_] [.int]=λx=>ef_ x.1 x.2.1:=by kernel_rfl
noncomputable def c_144:Con prog:=aw_ _ _ 144 [an_,aj_] [.int] _ x_144
end
section
set_option maxRecDepth 100000
set_option maxHeartbeats 0
noncomputable def jt_ (a0:ad_) (a1:aa_):Option ((List af_)×Unit) :=
 ((eu_ a0.1 a1.1).bind λv0 =>
 ((ag_ (ρ:=((List af_)×Unit)) (λ(v1:((List af_)×(Int×Unit))) =>
 (cond (decide (v1.2.1<(v0.1.length:Int)))
 ((((at? v0.1 v1.2.1).bind λv2 =>
 ((gr_ a0 a1 v2).bind λv3 =>
 (cond v3.1
 ((at? v0.1 v1.2.1).bind λv4 =>
 ((push? (α:=af_) v1.1 [v4]).bind λv5 =>
 (some (v5,()))))
 (some (v1.1,())))))).bind λv6 =>
 (some (inl (v6.1,((w64 (v1.2.1+1)),())))))
 (some (inr (v1.1,()))))) ([],(0,()))).bind λv7 =>
 (some (v7.1,()))))
theorem x_60:av_ (P:=prog) (cxC [c_95,c_96] []) (.p .z (.p .z (.p .z (.p (.p .z (.lp [.r 5 ap_ 61,.v 7 .int] [.r 5 ap_ 61] [] 0 (.p .z (.j0 [.r 5 ap_ 61] (.p (.q [] .z .z) .z) .z)))) .z)))) 60 [an_,aj_] [(.list ap_)]=λx=>jt_ x.1 x.2.1:=by kernel_rfl
noncomputable def c_60:Con prog:=aw_ _ _ 60 [an_,aj_] [(.list ap_)] _ x_60
noncomputable def qe_ (a0:ad_) (a1:aa_):Option ((List af_)×Int×Unit) :=
 ((ef_ a0 a1).bind λv0 =>
 (cond (v0.1 != 0)
 (cond (v0.1 != 0)
 (some ([],(v0.1,())))
 ((fi_ a0.1 a1.1).bind λv1 =>
 (cond (v1.2.1 != 0)
 (some ([],(v1.2.1,())))
 none)))
 ((push? (α:=Bool) [] a1.2).bind λv2 =>
 ((fi_ a0.1 a1.1).bind λv3 =>
 (cond (v3.2.1 != 0)
 (some ([],(v3.2.1,())))
 ((ag_ (ρ:=((List af_)×((List ac_)×Unit))) (λ(v4:((List af_)×(Int×((List ac_)×Unit)))) =>
 (cond (decide (v4.2.1<(v3.1.length:Int)))
 ((((at? v3.1 v4.2.1).bind λv5 =>
 ((((push? (α:=Bool) [] v2).bind λv6 =>
 (((((cond (v5.2.1==4)
 ((ca_ v5.2.2 0 (w64 ((a0.1.2.2.2.2.1.length:Int) - 1))).bind λv7 =>
 (some (v7.1,())))
 (some (false,())))).bind λv8 =>
 (cond v8.1
 ((at? a0.1.2.2.2.2.1 v5.2.2).bind λv9 =>
 (((cond (decide (v9.2.2.1<0))
 (some (v4.2.2.1,()))
 (((cond ((ei_ 0 v4.2.2.1 v9.2.2.1)==0)
 ((ag_ (ρ:=((List Int)×((List ak_)×Unit))) (λ(v10:((List Int)×((List ak_)×(Int×Unit)))) =>
 (cond (decide (v10.2.2.1<(a0.2.2.2.1.length:Int)))
 ((((at? a0.2.2.2.1 v10.2.2.1).bind λv11 =>
 (((cond (v11.2.2.1==v9.2.2.1)
 ((at? v2 v10.2.2.1).bind λv12 =>
 ((at? v2 v10.2.2.1).bind λv13 =>
 (some (v13,()))))
 (some (false,())))).bind λv14 =>
 (cond v14.1
 ((push? (α:=Int) v10.1 [v10.2.2.1]).bind λv15 =>
 ((push? (α:=ak_) v10.2.1 [v11.2.2.2.2]).bind λv16 =>
 (some (v15,(v16,())))))
 (some (v10.1,(v10.2.1,()))))))).bind λv17 =>
 (some (inl (v17.1,(v17.2.1,((w64 (v10.2.2.1+1)),()))))))
 (some (inr (v10.1,(v10.2.1,())))))) ([],([],(0,())))).bind λv18 =>
 ((at? a0.2.1 v9.2.2.1).bind λv19 =>
 ((da_ v19 v18.2.1).bind λv20 =>
 (((cond (v20.2.1==0)
 (some ((decide (v20.1≤a0.2.2.2.2)),()))
 (some (false,())))).bind λv21 =>
 (cond v21.1
 (some ((gi_ (gi_ v4.2.2.1 v9.2.2.1 2) v9.2.2.1 1),()))
 (some ((gi_ v4.2.2.1 v9.2.2.1 2),())))))))
 (some (v4.2.2.1,())))).bind λv22 =>
 (some (v22.1,()))))).bind λv23 =>
 (some (v23.1,((gi_ [] v9.2.2.1 (ei_ 0 v23.1 v9.2.2.1)),())))))
 (some (v4.2.2.1,([],())))))).bind λv24 =>
 (((((cond (v5.2.1==4)
 ((ca_ v5.2.2 0 (w64 ((a0.1.2.2.2.2.1.length:Int) - 1))).bind λv25 =>
 (cond v25.1
 ((at? a0.1.2.2.2.2.1 v5.2.2).bind λv26 =>
 (cond (decide (v26.2.2.1<0))
 (some ((!true),(v24.2.1,())))
 (((cond ((ei_ 0 v24.2.1 v26.2.2.1)==0)
 ((ag_ (ρ:=((List Int)×((List ak_)×Unit))) (λ(v27:((List Int)×((List ak_)×(Int×Unit)))) =>
 (cond (decide (v27.2.2.1<(a0.2.2.2.1.length:Int)))
 ((((at? a0.2.2.2.1 v27.2.2.1).bind λv28 =>
 (((cond (v28.2.2.1==v26.2.2.1)
 ((at? v6 v27.2.2.1).bind λv29 =>
 ((at? v6 v27.2.2.1).bind λv30 =>
 (some (v30,()))))
 (some (false,())))).bind λv31 =>
 (cond v31.1
 ((push? (α:=Int) v27.1 [v27.2.2.1]).bind λv32 =>
 ((push? (α:=ak_) v27.2.1 [v28.2.2.2.2]).bind λv33 =>
 (some (v32,(v33,())))))
 (some (v27.1,(v27.2.1,()))))))).bind λv34 =>
 (some (inl (v34.1,(v34.2.1,((w64 (v27.2.2.1+1)),()))))))
 (some (inr (v27.1,(v27.2.1,())))))) ([],([],(0,())))).bind λv35 =>
 ((at? a0.2.1 v26.2.2.1).bind λv36 =>
 ((da_ v36 v35.2.1).bind λv37 =>
 (((cond (v37.2.1==0)
 (some ((decide (v37.1≤a0.2.2.2.2)),()))
 (some (false,())))).bind λv38 =>
 (cond v38.1
 (some ((gi_ (gi_ v24.2.1 v26.2.2.1 2) v26.2.2.1 1),()))
 (some ((gi_ v24.2.1 v26.2.2.1 2),())))))))
 (some (v24.2.1,())))).bind λv39 =>
 (some ((!((ei_ 0 v39.1 v26.2.2.1)==1)),(v39.1,()))))))
 (some (false,(v24.2.1,())))))
 (some (false,(v24.2.1,()))))).bind λv40 =>
 (cond v40.1
 (some ((!false),(v6,(v40.2.1,((a1.1.1,(a1.1.2.1,(a1.1.2.2,()))),())))))
 ((fh_ a0.1 a1.1 v5).bind λv41 =>
 (cond (v41.2.1 != 0)
 (some ((!false),(v6,(v40.2.1,((a1.1.1,(a1.1.2.1,(a1.1.2.2,()))),())))))
 ((ag_ (ρ:=((List Bool)×((List ac_)×Unit))) (λ(v42:(Int×((List Bool)×((List ac_)×Unit)))) =>
 (cond (decide (v42.1<(a0.2.2.2.1.length:Int)))
 ((((at? a0.2.2.2.1 v42.1).bind λv43 =>
 ((fj_ a0.1 v41.1 v43.2.2.2.1).bind λv44 =>
 (((cond v44.1
 ((bj_ v41.1.2.2 v43.2.1).bind λv45 =>
 (cond v45.1
 ((at? v42.2.1 v42.1).bind λv46 =>
 ((at? v42.2.1 v42.1).bind λv47 =>
 (some ((!v47),()))))
 (some (false,()))))
 (some (false,())))).bind λv48 =>
 (cond v48.1
 ((at? v42.2.1 v42.1).bind λv49 =>
 ((at? v42.2.1 v42.1).bind λv50 =>
 (some ((v42.2.1.set v42.1.toNat true),((aa1 v42.2.2.1 v43.2.2.1),())))))
 (some (v42.2.1,(v42.2.2.1,())))))))).bind λv51 =>
 (some (inl ((w64 (v42.1+1)),(v51.1,(v51.2.1,()))))))
 (some (inr (v42.2.1,(v42.2.2.1,())))))) (0,(v6,(v40.2.1,())))).bind λv52 =>
 (some ((!true),(v52.1,(v52.2.1,((v41.1.1,(v41.1.2.1,(v41.1.2.2,()))),()))))))))))).bind λv53 =>
 (cond v53.1
 (some (false,(v24.1,())))
 (some (true,(v24.1,())))))))).bind λv54 =>
 (cond v54.1
 ((push? (α:=af_) v4.1 [v5]).bind λv55 =>
 (some (v55,(v54.2.1,()))))
 (some (v4.1,(v54.2.1,()))))))).bind λv56 =>
 (some (inl (v56.1,((w64 (v4.2.1+1)),(v56.2.1,()))))))
 (some (inr (v4.1,(v4.2.2.1,())))))) ([],(0,([],())))).bind λv57 =>
 (some (v57.1,(0,())))))))))
theorem x_71:av_ (P:=prog) (cxI (λk=>cond (Nat.beq k 102) (.p .z (.lp [.v 12 .int] [] [.o (.c (.s 0) 15) .bool,.m (.c (.s 0) 16) .int .int] 0 (.p .z (.p .z (.j0 [.o (.c (.s 0) 15) .bool,.m (.c (.s 0) 16) .int .int] (.p .z (.p .z (.j0 [.v 55 .bool] .z .z))) .z))))) (cond (Nat.beq k 107) (.p .z (.p .z (.j0 [.m (.c (.s 0) 16) .int .int,.m (.s 23) .int .int] (.j0 [.v 41 .bool] .z (.p (.p .z (.j0 [.m (.c (.s 0) 16) .int .int] .z .z)) .z)) (.p (.j0 [.v 70 .bool,.o (.s 21) .bool,.m (.s 23) .int .int,.b (.s 5) [.keep,.keep,.keep,.keep,.keep,.keep,.keep,.keep,.keep,.keep,.keep,.keep,.val (.list .int),.val (.list .int),.val (.list .int),.keep,.keep]] .z .z) .z)))) (cond (Nat.beq k 108) (.p .z (.p (.j0 [.v 38 .bool,.m (.c (.s 0) 16) .int .int] .z .z) .z)) (cond (Nat.beq k 147) (.p .z (.p .z (.j0 [.m (.c (.s 0) 16) .int .int] (.p .z (.p (.p .z (.p .z (.j0 [.v 37 .bool] .z .z))) .z)) .z))) (cond (Nat.beq k 229) (.p .z (.p (.p .z (.lp [.r 6 .int 3,.r 7 aq_ 80,.v 13 .int] [.r 6 .int 3,.r 7 aq_ 80] [] 0 (.p .z (.p .z (.j0 [.r 6 .int 3,.r 7 aq_ 80] (.p .z (.j0 [.v 26 .bool] .z .z)) .z))))) .z)) (.z)))))) (λk=>Nat.beq k 106||Nat.beq k 136||Nat.beq k 138||Nat.beq k 139||Nat.beq k 141||Nat.beq k 144||Nat.beq k 148||Nat.beq k 231||false) (cxC [c_106,ci0,c_138,cv9,c_144,c_148,c_231] [cg5]) 9) (.p .z (.p .z (.p .z (.p .z (.p .z (.p (.p .z (.lp [.r 4 ap_ 61,.v 32 .int] [.r 4 ap_ 61] [.m (.c (.s 6) 16) .int .int] 0 (.p .z (.p .z (.j0 [.r 4 ap_ 61,.m (.c (.s 6) 16) .int .int] (.p .z (.j0 [.v 39 .bool,.m (.c (.s 6) 16) .int .int] .z .z)) .z))))) .z)))))) 71 [an_,aj_] [(.list ap_),.int]=λx=>qe_ x.1 x.2.1:=by kernel_rfl
noncomputable def c_71:Con prog:=aw_ _ _ 71 [an_,aj_] [(.list ap_),.int] _ x_71
noncomputable def kw_ (a0:ad_) (a1:aa_) (a2:af_):Option (aa_×Int×Unit) :=
 ((ef_ a0 a1).bind λv0 =>
 (cond (v0.1 != 0)
 (cond (v0.1 != 0)
 (some ((([],([],[])),[]),(v0.1,())))
 none)
 ((push? (α:=Bool) [] a1.2).bind λv1 =>
 (((((cond (a2.2.1==4)
 ((ca_ a2.2.2 0 (w64 ((a0.1.2.2.2.2.1.length:Int) - 1))).bind λv2 =>
 (cond v2.1
 ((at? a0.1.2.2.2.2.1 a2.2.2).bind λv3 =>
 (cond (decide (v3.2.2.1<0))
 (some ((!true),([],())))
 ((((ag_ (ρ:=((List Int)×((List ak_)×Unit))) (λ(v4:((List Int)×((List ak_)×(Int×Unit)))) =>
 (cond (decide (v4.2.2.1<(a0.2.2.2.1.length:Int)))
 ((((at? a0.2.2.2.1 v4.2.2.1).bind λv5 =>
 (((cond (v5.2.2.1==v3.2.2.1)
 ((at? v1 v4.2.2.1).bind λv6 =>
 ((at? v1 v4.2.2.1).bind λv7 =>
 (some (v7,()))))
 (some (false,())))).bind λv8 =>
 (cond v8.1
 ((push? (α:=Int) v4.1 [v4.2.2.1]).bind λv9 =>
 ((push? (α:=ak_) v4.2.1 [v5.2.2.2.2]).bind λv10 =>
 (some (v9,(v10,())))))
 (some (v4.1,(v4.2.1,()))))))).bind λv11 =>
 (some (inl (v11.1,(v11.2.1,((w64 (v4.2.2.1+1)),()))))))
 (some (inr (v4.1,(v4.2.1,())))))) ([],([],(0,())))).bind λv12 =>
 ((at? a0.2.1 v3.2.2.1).bind λv13 =>
 ((da_ v13 v12.2.1).bind λv14 =>
 (((cond (v14.2.1==0)
 (some ((decide (v14.1≤a0.2.2.2.2)),()))
 (some (false,())))).bind λv15 =>
 (cond v15.1
 (some ((gi_ (gi_ [] v3.2.2.1 2) v3.2.2.1 1),()))
 (some ((gi_ [] v3.2.2.1 2),())))))))).bind λv16 =>
 (some ((!((ei_ 0 v16.1 v3.2.2.1)==1)),(v16.1,()))))))
 (some (false,([],())))))
 (some (false,([],()))))).bind λv17 =>
 (cond v17.1
 (some ((!false),(v1,(v17.2.1,((a1.1.1,(a1.1.2.1,(a1.1.2.2,()))),())))))
 ((fh_ a0.1 a1.1 a2).bind λv18 =>
 (cond (v18.2.1 != 0)
 (some ((!false),(v1,(v17.2.1,((a1.1.1,(a1.1.2.1,(a1.1.2.2,()))),())))))
 ((ag_ (ρ:=((List Bool)×((List ac_)×Unit))) (λ(v19:(Int×((List Bool)×((List ac_)×Unit)))) =>
 (cond (decide (v19.1<(a0.2.2.2.1.length:Int)))
 ((((at? a0.2.2.2.1 v19.1).bind λv20 =>
 ((fj_ a0.1 v18.1 v20.2.2.2.1).bind λv21 =>
 (((cond v21.1
 ((bj_ v18.1.2.2 v20.2.1).bind λv22 =>
 (cond v22.1
 ((at? v19.2.1 v19.1).bind λv23 =>
 ((at? v19.2.1 v19.1).bind λv24 =>
 (some ((!v24),()))))
 (some (false,()))))
 (some (false,())))).bind λv25 =>
 (cond v25.1
 ((at? v19.2.1 v19.1).bind λv26 =>
 ((at? v19.2.1 v19.1).bind λv27 =>
 (some ((v19.2.1.set v19.1.toNat true),((aa1 v19.2.2.1 v20.2.2.1),())))))
 (some (v19.2.1,(v19.2.2.1,())))))))).bind λv28 =>
 (some (inl ((w64 (v19.1+1)),(v28.1,(v28.2.1,()))))))
 (some (inr (v19.2.1,(v19.2.2.1,())))))) (0,(v1,(v17.2.1,())))).bind λv29 =>
 (some ((!true),(v29.1,(v29.2.1,((v18.1.1,(v18.1.2.1,(v18.1.2.2,()))),()))))))))))).bind λv30 =>
 (cond v30.1
 (some ((([],([],[])),[]),(29,())))
 ((push? (α:=Int) [] v30.2.2.2.1.1).bind λv31 =>
 ((push? (α:=Int) [] v30.2.2.2.1.2.1).bind λv32 =>
 ((push? (α:=Int) [] v30.2.2.2.1.2.2.1).bind λv33 =>
 ((push? (α:=Bool) [] v30.2.1).bind λv34 =>
 (some (((v31,(v32,v33)),v34),(0,()))))))))))))
theorem x_72:av_ (P:=prog) (cxI (λk=>cond (Nat.beq k 102) (.p .z (.lp [.v 12 .int] [] [.o (.c (.s 0) 15) .bool,.m (.c (.s 0) 16) .int .int] 0 (.p .z (.p .z (.j0 [.o (.c (.s 0) 15) .bool,.m (.c (.s 0) 16) .int .int] (.p .z (.p .z (.j0 [.v 55 .bool] .z .z))) .z))))) (cond (Nat.beq k 108) (.p .z (.p (.j0 [.v 38 .bool,.m (.c (.s 0) 16) .int .int] .z .z) .z)) (cond (Nat.beq k 147) (.p .z (.p .z (.j0 [.m (.c (.s 0) 16) .int .int] (.p .z (.p (.p .z (.p .z (.j0 [.v 37 .bool] .z .z))) .z)) .z))) (cond (Nat.beq k 229) (.p .z (.p (.p .z (.lp [.r 6 .int 3,.r 7 aq_ 80,.v 13 .int] [.r 6 .int 3,.r 7 aq_ 80] [] 0 (.p .z (.p .z (.j0 [.r 6 .int 3,.r 7 aq_ 80] (.p .z (.j0 [.v 26 .bool] .z .z)) .z))))) .z)) (.z))))) (λk=>Nat.beq k 136||Nat.beq k 138||Nat.beq k 139||Nat.beq k 140||Nat.beq k 141||Nat.beq k 144||Nat.beq k 148||Nat.beq k 231||false) (cxC [ci0,c_138,cv9,c_144,c_148,c_231] [ym_,cg5]) 9) (.p .z (.p .z (.p .z (.p (.j0 [.v 23 .bool,.o (.c (.s 8) 15) .bool,.m (.c (.s 8) 16) .int .int,.b (.s 8) [.keep,.keep,.keep,.keep,.keep,.keep,.keep,.keep,.keep,.keep,.keep,.keep,.val (.list .int),.val (.list .int),.val (.list .int),.keep,.keep]] .z .z) .z)))) 72 [an_,aj_,ap_] [aj_,.int]=λx=>kw_ x.1 x.2.1 x.2.2.1:=by kernel_rfl
noncomputable def c_72:Con prog:=aw_ _ _ 72 [an_,aj_,ap_] [aj_,.int] _ x_72
end
section
set_option maxRecDepth 100000
set_option maxHeartbeats 0
noncomputable def dl_ (a0:ad_):Option (cd_×Int×Unit) :=
 ((ju_ a0).bind λv0 =>
 (cond (v0.2.1 != 0)
 (some (([],[]),(v0.2.1,())))
 ((ih_ v0.1).bind λv1 =>
 ((ag_ (ρ:=(((List ((List UInt8)×Int))×(((List aa_)×((List (List ab_))×Unit))×(((List aa_)×((List (List ab_))×Unit))×Unit)))⊕(cd_×(Int×Unit)))) (λ(v2:(Int×((List ((List UInt8)×Int))×(((List aa_)×((List (List ab_))×Unit))×(((List aa_)×((List (List ab_))×Unit))×Unit))))) =>
 (cond (decide (v2.1<(v2.2.2.2.1.1.length:Int)))
 ((at? v2.2.2.2.1.1 v2.1).bind λv3 =>
 ((at? v2.2.2.2.1.1 v2.1).bind λv4 =>
 ((jt_ a0 v4).bind λv5 =>
 ((ag_ (ρ:=(((List ab_)×((List ((List UInt8)×Int))×(((List aa_)×((List (List ab_))×Unit))×(((List aa_)×Unit)×Unit))))⊕((Int×((List ((List UInt8)×Int))×(((List aa_)×((List (List ab_))×Unit))×(((List aa_)×((List (List ab_))×Unit))×Unit))))⊕(((List ((List UInt8)×Int))×(((List aa_)×((List (List ab_))×Unit))×(((List aa_)×((List (List ab_))×Unit))×Unit)))⊕(cd_×(Int×Unit)))))) (λ(v6:((List ab_)×(Int×((List ((List UInt8)×Int))×(((List aa_)×((List (List ab_))×Unit))×(((List aa_)×Unit)×Unit)))))) =>
 (cond (decide (v6.2.1<(v5.1.length:Int)))
 ((at? v6.2.2.2.2.1.1 v2.1).bind λv7 =>
 ((at? v6.2.2.2.2.1.1 v2.1).bind λv8 =>
 ((at? v5.1 v6.2.1).bind λv9 =>
 ((ln_ a0 v8 v9).bind λv10 =>
 ((ih_ v10.1).bind λv11 =>
 (((cond (!(ak6 v6.2.2.1 v11.1))
 (cond ((v6.2.2.2.2.1.1.length:Int)==3000)
 (some (inr (inr (inr (inr (inr (([],[]),(2,()))))))))
 ((ih_ v10.1).bind λv12 =>
 ((push? (α:=aa_) v6.2.2.2.2.1.1 [v10.1]).bind λv13 =>
 (some (inl ((v6.2.2.2.2.1.1.length:Int),((gi_ v6.2.2.1 v12.1 (v6.2.2.2.2.1.1.length:Int)),((v6.2.2.2.1.1,(v6.2.2.2.1.2.1,())),((v13,()),())))))))))
 (some (inl ((ei_ 0 v6.2.2.1 v11.1),(v6.2.2.1,((v6.2.2.2.1.1,(v6.2.2.2.1.2.1,())),((v6.2.2.2.2.1.1,()),())))))))).bind λv14 =>
 (cj_ v14 (λv15=>((at? v5.1 v6.2.1).bind λv17 =>
 ((push? (α:=ab_) v6.1 [(v17,v15.1)]).bind λv18 =>
 (some (inl (v18,((w64 (v6.2.1+1)),(v15.2.1,((v15.2.2.1.1,(v15.2.2.1.2.1,())),((v15.2.2.2.1.1,()),()))))))))))
 (λv16=>(some v16)))))))))
 (some (inr (inl (v6.1,(v6.2.2.1,((v6.2.2.2.1.1,(v6.2.2.2.1.2.1,())),((v6.2.2.2.2.1.1,()),()))))))))) ([],(0,(v2.2.1,((v2.2.2.1.1,(v2.2.2.1.2.1,())),((v2.2.2.2.1.1,()),())))))).bind λv19 =>
 (cj_ v19 (λv20=>((push? (α:=(List ab_)) v2.2.2.2.1.2.1 [v20.1]).bind λv22 =>
 (some (inl ((w64 (v2.1+1)),(v20.2.1,((v20.2.2.1.1,(v20.2.2.1.2.1,())),((v20.2.2.2.1.1,(v22,())),()))))))))
 (λv21=>(some v21)))))))
 (some (inr (inl (v2.2.1,((v2.2.2.1.1,(v2.2.2.1.2.1,())),((v2.2.2.2.1.1,(v2.2.2.2.1.2.1,())),())))))))) (0,((gi_ [] v1.1 0),(([],([],())),(([v0.1],([],())),()))))).bind λv23 =>
 (cj_ v23 (λv24=>(some ((v24.2.2.1.1,v24.2.2.1.2.1),(0,()))))
 (λv25=>(some v25)))))))
theorem x_25:av_ (P:=prog) (cxC [c_58,c_59,c_60,c_61] []) (.p .z (.p .z (.p .z (.p .z (.p .z (.p (.p .z (.ls [.v 8 .int] [] [.m (.s 7) .str .int,.b (.s 2) [.val (.list aj_),.val (.list (.list ch_))],.b (.s 6) [.row aj_ 97,.row (.list ch_) 59]] 0 (.p .z (.p (.p .z (.p .z (.p (.p .z (.ls [.r 10 ch_ 63,.v 11 .int] [.r 10 ch_ 63] [.m (.s 7) .str .int,.b (.s 2) [.val (.list aj_),.val (.list (.list ch_))],.b (.s 6) [.row aj_ 97,.keep]] 2 (.p .z (.p (.p .z (.p .z (.js [.v 13 .int,.m (.s 7) .str .int,.b (.s 2) [.val (.list aj_),.val (.list (.list ch_))],.b (.s 6) [.row aj_ 97,.keep]] .z .z))) .z)))) .z))) .z)))) .z)))))) 25 [an_] [fb_,.int]=λx=>dl_ x.1:=by kernel_rfl
noncomputable def c_25:Con prog:=aw_ _ _ 25 [an_] [fb_,.int] _ x_25
noncomputable def dm_ (a0:ad_):Option (cd_×Int×Unit) :=
 ((ls_ a0).bind λv0 =>
 (cond (v0.2.1 != 0)
 (some (([],[]),(v0.2.1,())))
 ((((ku_ v0.1).bind λv1 =>
 (some ((gi_ [] v1.1 0),((([]++[v0.1]),()),()))))).bind λv2 =>
 ((ag_ (ρ:=(((List ((List UInt8)×Int))×(((List aa_)×((List (List ab_))×Unit))×(((List aa_)×((List (List ab_))×Unit))×Unit)))⊕(cd_×(Int×Unit)))) (λ(v3:(Int×((List ((List UInt8)×Int))×(((List aa_)×((List (List ab_))×Unit))×(((List aa_)×((List (List ab_))×Unit))×Unit))))) =>
 (cond (decide (v3.1<(v3.2.2.2.1.1.length:Int)))
 ((at? v3.2.2.2.1.1 v3.1).bind λv4 =>
 ((at? v3.2.2.2.1.1 v3.1).bind λv5 =>
 ((qe_ a0 v5).bind λv6 =>
 (cond (v6.2.1 != 0)
 (some (inr (inr (([],[]),(v6.2.1,())))))
 ((ag_ (ρ:=(((List ab_)×((List ((List UInt8)×Int))×(((List aa_)×((List (List ab_))×Unit))×(((List aa_)×Unit)×Unit))))⊕((Int×((List ((List UInt8)×Int))×(((List aa_)×((List (List ab_))×Unit))×(((List aa_)×((List (List ab_))×Unit))×Unit))))⊕(((List ((List UInt8)×Int))×(((List aa_)×((List (List ab_))×Unit))×(((List aa_)×((List (List ab_))×Unit))×Unit)))⊕(cd_×(Int×Unit)))))) (λ(v7:((List ab_)×(Int×((List ((List UInt8)×Int))×(((List aa_)×((List (List ab_))×Unit))×(((List aa_)×Unit)×Unit)))))) =>
 (cond (decide (v7.2.1<(v6.1.length:Int)))
 ((at? v6.1 v7.2.1).bind λv8 =>
 ((at? v7.2.2.2.2.1.1 v3.1).bind λv9 =>
 ((at? v7.2.2.2.2.1.1 v3.1).bind λv10 =>
 ((kw_ a0 v10 v8).bind λv11 =>
 (cond (v11.2.1 != 0)
 (some (inr (inr (inr (inr (([],[]),(v11.2.1,())))))))
 ((((ku_ v11.1).bind λv12 =>
 (cond (ak6 v7.2.2.1 v12.1)
 (some ((ei_ 0 v7.2.2.1 v12.1),(true,(v7.2.2.1,((v7.2.2.2.2.1.1,()),())))))
 (cond ((v7.2.2.2.2.1.1.length:Int)==3000)
 (some (0,(false,(v7.2.2.1,((v7.2.2.2.2.1.1,()),())))))
 ((push? (α:=aa_) v7.2.2.2.2.1.1 [v11.1]).bind λv13 =>
 (some ((v7.2.2.2.2.1.1.length:Int),(true,((gi_ v7.2.2.1 v12.1 (v7.2.2.2.2.1.1.length:Int)),((v13,()),())))))))))).bind λv14 =>
 (cond (!v14.2.1)
 (some (inr (inr (inr (inr (([],[]),(2,())))))))
 ((push? (α:=ab_) v7.1 [(v8,v14.1)]).bind λv15 =>
 (some (inl (v15,((w64 (v7.2.1+1)),(v14.2.2.1,((v7.2.2.2.1.1,(v7.2.2.2.1.2.1,())),((v14.2.2.2.1.1,()),())))))))))))))))
 (some (inr (inl (v7.1,(v7.2.2.1,((v7.2.2.2.1.1,(v7.2.2.2.1.2.1,())),((v7.2.2.2.2.1.1,()),()))))))))) ([],(0,(v3.2.1,((v3.2.2.1.1,(v3.2.2.1.2.1,())),((v3.2.2.2.1.1,()),())))))).bind λv16 =>
 (cj_ v16 (λv17=>((push? (α:=(List ab_)) v3.2.2.2.1.2.1 [v17.1]).bind λv19 =>
 (some (inl ((w64 (v3.1+1)),(v17.2.1,((v17.2.2.1.1,(v17.2.2.1.2.1,())),((v17.2.2.2.1.1,(v19,())),()))))))))
 (λv18=>(some v18))))))))
 (some (inr (inl (v3.2.1,((v3.2.2.1.1,(v3.2.2.1.2.1,())),((v3.2.2.2.1.1,(v3.2.2.2.1.2.1,())),())))))))) (0,(v2.1,(([],([],())),((v2.2.1.1,([],())),()))))).bind λv20 =>
 (cj_ v20 (λv21=>(some ((v21.2.2.1.1,v21.2.2.1.2.1),(0,()))))
 (λv22=>(some v22)))))))
theorem x_37:av_ (P:=prog) (cxI (λk=>.z) (λk=>Nat.beq k 69||Nat.beq k 71||Nat.beq k 72||Nat.beq k 104||false) (cxC [c_69,c_71,c_72,c_104] []) 2) (.p .z (.p .z (.p .z (.p .z (.j0 [.m (.s 26) .str .int,.b (.s 6) [.row aj_ 97,.keep,.keep]] .z (.p (.p .z (.ls [.v 7 .int] [] [.m (.s 26) .str .int,.b (.s 2) [.val (.list aj_),.val (.list (.list ch_))],.b (.s 6) [.row aj_ 97,.row (.list ch_) 59,.keep]] 0 (.p .z (.p (.p .z (.p .z (.p .z (.p (.p .z (.ls [.r 10 ch_ 63,.v 61 .int] [.r 10 ch_ 63] [.m (.s 26) .str .int,.b (.s 2) [.val (.list aj_),.val (.list (.list ch_))],.b (.s 6) [.row aj_ 97,.keep,.keep]] 2 (.p .z (.p .z (.p (.p .z (.p .z (.p .z (.j0 [.v 15 .int,.v 16 .bool,.m (.s 26) .str .int,.b (.s 6) [.row aj_ 97,.keep,.keep]] .z .z)))) .z))))) .z)))) .z)))) .z)))))) 37 [an_] [fb_,.int]=λx=>dm_ x.1:=by kernel_rfl
noncomputable def c_37:Con prog:=aw_ _ _ 37 [an_] [fb_,.int] _ x_37
end
section
set_option maxRecDepth 100000
set_option maxHeartbeats 0
noncomputable def ka_ (a0:ad_):Option (Bool×Unit) :=
 ((((kx_ a0).bind λv0 =>
 (cond v0.1
 (some (true,()))
 ((hq_ a0).bind λv1 =>
 (some ((v1.1 != 0),())))))).bind λv2 =>
 (cond v2.1
 ((kx_ a0).bind λv3 =>
 (some (v3.1,())))
 (((cond (decide (4<(a0.1.1.length:Int)))
 (some (true,()))
 (cond (decide (4<(a0.1.2.1.length:Int)))
 (some (true,()))
 (cond (decide (3<(a0.1.2.2.1.length:Int)))
 (some (true,()))
 (cond (decide (2<a0.1.2.2.2.2.2.2.1))
 (some (true,()))
 (cond (decide (6<(a0.1.2.2.2.2.1.length:Int)))
 (some (true,()))
 (cond (decide (4<(a0.1.2.2.2.2.2.1.length:Int)))
 (some (true,()))
 (cond (decide (5<(a0.2.2.2.1.length:Int)))
 (some (true,()))
 (some ((decide (3<(a0.2.1.length:Int))),())))))))))).bind λv4 =>
 (cond v4.1
 (some (true,()))
 ((dl_ a0).bind λv5 =>
 (cond (v5.2.1==2)
 (some (true,()))
 (some ((decide (200<(v5.1.1.length:Int))),()))))))))
theorem x_7:av_ (P:=prog) (cxC [c_23,c_24,c_25] []) (.p .z (.p .z (.p (.j0 [.v 14 .bool] .z .z) (.p (.j0 [.v 61 .bool] .z .z) .z)))) 7 [an_] [.bool]=λx=>ka_ x.1:=by kernel_rfl
noncomputable def c_7:Con prog:=aw_ _ _ 7 [an_] [.bool] _ x_7
noncomputable def dx_ (a0:ad_):Option ((List af_)×Int×Unit) :=
 ((dm_ a0).bind λv0 =>
 (cond (v0.2.1 != 0)
 (cond (v0.2.1 != 0)
 (some ([],(v0.2.1,())))
 none)
 ((eb_ [(-1)] (v0.1.1.length:Int)).bind λv1 =>
 ((ag_ (ρ:=((List Int)×((List Int)×Unit))) (λ(v2:((List Int)×(Int×((List Int)×Unit)))) =>
 (cond (decide (v2.2.1<(v0.1.1.length:Int)))
 ((((at? v0.1.1 v2.2.1).bind λv3 =>
 ((ig_ a0.1 v3.1).bind λv4 =>
 (((cond (v4.2.1==0)
 (some (v4.1,()))
 (some (false,())))).bind λv5 =>
 (cond v5.1
 ((at? v2.2.2.1 v2.2.1).bind λv6 =>
 ((at? v2.2.2.1 v2.2.1).bind λv7 =>
 ((push? (α:=Int) v2.1 [v2.2.1]).bind λv8 =>
 (some (v8,((v2.2.2.1.set v2.2.1.toNat 0),()))))))
 (some (v2.1,(v2.2.2.1,())))))))).bind λv9 =>
 (some (inl (v9.1,((w64 (v2.2.1+1)),(v9.2.1,()))))))
 (some (inr (v2.1,(v2.2.2.1,())))))) ([],(0,(v1,())))).bind λv10 =>
 ((mk? (α:=(List Int)) (v0.1.1.length:Int) []).bind λv11 =>
 ((ag_ (ρ:=((List (List Int))×Unit)) (λ(v12:(Int×((List (List Int))×Unit))) =>
 (cond (decide (v12.1<(v0.1.2.length:Int)))
 ((at? v0.1.2 v12.1).bind λv13 =>
 ((ag_ (ρ:=((List (List Int))×Unit)) (λ(v14:(Int×((List (List Int))×Unit))) =>
 (cond (decide (v14.1<(v13.length:Int)))
 ((((at? v13 v14.1).bind λv15 =>
 ((at? v14.2.1 v15.2).bind λv16 =>
 ((at? v14.2.1 v15.2).bind λv17 =>
 ((push? (α:=Int) v17 [v12.1]).bind λv18 =>
 ((at? v14.2.1 v15.2).bind λv19 =>
 (cond ((v15.2==v15.2)&&true)
 ((at? v14.2.1 v15.2).bind λv20 =>
 (some ((v14.2.1.set v15.2.toNat v18),())))
 none))))))).bind λv21 =>
 (some (inl ((w64 (v14.1+1)),(v21.1,())))))
 (some (inr (v14.2.1,()))))) (0,(v12.2.1,()))).bind λv22 =>
 (some (inl ((w64 (v12.1+1)),(v22.1,()))))))
 (some (inr (v12.2.1,()))))) (0,(v11,()))).bind λv23 =>
 ((ag_ (ρ:=((List Int)×Unit)) (λ(v24:((List Int)×((List Int)×Unit))) =>
 (cond (decide (0<(v24.1.length:Int)))
 ((at? v24.1 0).bind λv25 =>
 ((at? v24.1 0).bind λv26 =>
 ((sub? v24.1 1 (v24.1.length:Int)).bind λv27 =>
 ((at? v23.1 v26).bind λv28 =>
 ((ag_ (ρ:=((List Int)×((List Int)×Unit))) (λ(v29:((List Int)×(Int×((List Int)×Unit)))) =>
 (cond (decide (v29.2.1<(v28.length:Int)))
 ((((at? v28 v29.2.1).bind λv30 =>
 ((at? v29.2.2.1 v30).bind λv31 =>
 ((at? v29.2.2.1 v30).bind λv32 =>
 (cond (decide (v32<0))
 ((at? v29.2.2.1 v26).bind λv33 =>
 ((at? v29.2.2.1 v26).bind λv34 =>
 ((at? v29.2.2.1 v30).bind λv35 =>
 ((at? v29.2.2.1 v30).bind λv36 =>
 ((push? (α:=Int) v29.1 [v30]).bind λv37 =>
 (some (v37,((v29.2.2.1.set v30.toNat (w64 (v34+1))),()))))))))
 (some (v29.1,(v29.2.2.1,())))))))).bind λv38 =>
 (some (inl (v38.1,((w64 (v29.2.1+1)),(v38.2.1,()))))))
 (some (inr (v29.1,(v29.2.2.1,())))))) (v27,(0,(v24.2.1,())))).bind λv39 =>
 (some (inl (v39.1,(v39.2.1,())))))))))
 (some (inr (v24.2.1,()))))) (v10.1,(v10.2.1,()))).bind λv40 =>
 ((at? v40.1 0).bind λv41 =>
 ((at? v40.1 0).bind λv42 =>
 (cond (decide (v42<0))
 (some ([],(50,())))
 ((ag_ (ρ:=(((List af_)×Unit)×Unit)) (λ(v43:(Int×(((List af_)×Unit)×Unit))) =>
 ((at? v40.1 v43.1).bind λv44 =>
 ((at? v40.1 v43.1).bind λv45 =>
 (cond (decide (0<v45))
 ((((at? v0.1.2 v43.1).bind λv46 =>
 ((ag_ (ρ:=(((List Int)×(Unit×(((List af_)×Unit)×Unit)))⊕((List Int)×(((List af_)×Unit)×Unit)))) (λ(v47:(Int×((List Int)×(Unit×(((List af_)×Unit)×Unit))))) =>
 (cond (decide (v47.1<(v46.length:Int)))
 ((at? v46 v47.1).bind λv48 =>
 ((at? v40.1 v48.2).bind λv49 =>
 ((at? v40.1 v48.2).bind λv50 =>
 ((at? v40.1 v43.1).bind λv51 =>
 ((at? v40.1 v43.1).bind λv52 =>
 (cond (v50==(w64 (v52 - 1)))
 ((at? v40.1 v43.1).bind λv53 =>
 ((at? v40.1 v43.1).bind λv54 =>
 (cond (decide (0<v54))
 ((push? (α:=af_) v47.2.2.2.1.1 [v48.1]).bind λv55 =>
 ((at? v47.2.1 0).bind λv56 =>
 (some (inr (inr ((v47.2.1.set (0:Int).toNat v48.2),((v55,()),())))))))
 (some (inl ((w64 (v47.1+1)),(v47.2.1,((),((v47.2.2.2.1.1,()),())))))))))
 (some (inl ((w64 (v47.1+1)),(v47.2.1,((),((v47.2.2.2.1.1,()),()))))))))))))
 (some (inr (inl (v47.2.1,((),((v47.2.2.2.1.1,()),())))))))) (0,([v43.1],((),((v43.2.1.1,()),()))))).bind λv57 =>
 (cj_ v57 (λv58=>(some (v58.1,((v58.2.2.1.1,()),()))))
 (λv59=>(some v59)))))).bind λv60 =>
 ((at? v60.1 0).bind λv61 =>
 (some (inl (v61,((v60.2.1.1,()),()))))))
 (some (inr ((v43.2.1.1,()),()))))))) (0,(([],()),()))).bind λv62 =>
 (some (v62.1.1,(0,()))))))))))))))
theorem x_9:av_ (P:=prog) (cxI (λk=>cond (Nat.beq k 28) (.p .z (.p (.p .z (.lp [.a 3 .int 3] [] [.b (.s 2) [.row ap_ 61]] 0 (.p .z (.j0 [.o (.s 3) .int,.b (.s 2) [.row ap_ 61]] (.p .z (.rf [2,3] .z .z)) .z)))) .z)) (cond (Nat.beq k 63) (.p .z (.p .z (.p .z (.p (.p .z (.lp [.r 8 .int 3,.v 33 .int] [.r 8 .int 3] [.o (.s 27) .int] 0 (.p .z (.p .z (.j0 [.r 8 .int 3,.o (.s 27) .int] (.p .z (.p .z (.j0 [.v 50 .bool] .z .z))) .z))))) (.p .z (.p (.p .z (.lp [.v 69 .int] [] [.g (.s 13) (.list .int)] 2 (.p .z (.p .z (.p (.p .z (.p .z (.lp [.v 76 .int] [] [.g (.s 13) (.list .int)] 4 (.p .z (.p .z (.j0 [.g (.s 13) (.list .int)] .z .z)))))) .z))))) (.q [(.s 13)] (.lp [.r 8 .int 3] [] [.o (.s 27) .int] 6 (.p .z (.p .z (.p .z (.p .z (.lp [.r 8 .int 3,.v 110 .int] [.r 8 .int 3] [.o (.s 27) .int] 8 (.p .z (.p .z (.j0 [.r 8 .int 3,.o (.s 27) .int] .z .z))))))))) .z))))))) (cond (Nat.beq k 67) (.p .z (.ls [.v 15 .int] [] [.o (.y (.s 0) 3) .int,.y (.s 0),.b (.y (.s 0) 2) [.row ap_ 61]] 0 (.p .z (.p .z (.p (.p .z (.p (.sp 38 41) .z)) .z))))) (.z)))) (λk=>Nat.beq k 37||Nat.beq k 64||Nat.beq k 98||Nat.beq k 99||false) (cxR [rp_98] [c_37,c_64,c_99] []) 8) .z 9 [an_] [(.list ap_),.int]=λx=>dx_ x.1:=by kernel_rfl
noncomputable def c_9:Con prog:=aw_ _ _ 9 [an_] [(.list ap_),.int] _ x_9
noncomputable def jp_ (a0:ad_):Option ((List af_)×Int×Unit) :=
 ((dl_ a0).bind λv0 =>
 (cond (v0.2.1 != 0)
 (some ([],(v0.2.1,())))
 ((bz_ a0 v0.1 (-1)).bind λv1 =>
 ((iv_ v0.1 v1.1 (-1)).bind λv2 =>
 (cond (!v2.2.1)
 (some ([],(50,())))
 (some (v2.1,(0,()))))))))
theorem x_11:av_ (P:=prog) (cxC [c_25,c_31,c_32] []) .z 11 [an_] [(.list ap_),.int]=λx=>jp_ x.1:=by kernel_rfl
noncomputable def c_11:Con prog:=aw_ _ _ 11 [an_] [(.list ap_),.int] _ x_11
def an_12:An:=.z
def at_12:FuncId→An:=λk=>cond (Nat.beq k 63) (.p .z (.p .z (.p .z (.p (.p .z (.lp [.r 8 .int 3,.v 33 .int] [.r 8 .int 3] [.o (.s 27) .int] 0 (.p .z (.p .z (.j0 [.r 8 .int 3,.o (.s 27) .int] (.p .z (.p .z (.j0 [.v 50 .bool] .z .z))) .z))))) (.p .z (.p (.p .z (.lp [.v 69 .int] [] [.g (.s 13) (.list .int)] 2 (.p .z (.p .z (.p (.p .z (.p .z (.lp [.v 76 .int] [] [.g (.s 13) (.list .int)] 4 (.p .z (.p .z (.j0 [.g (.s 13) (.list .int)] .z .z)))))) .z))))) (.q [(.s 13)] (.lp [.r 8 .int 3] [] [.o (.s 27) .int] 6 (.p .z (.p .z (.p .z (.p .z (.lp [.r 8 .int 3,.v 110 .int] [.r 8 .int 3] [.o (.s 27) .int] 8 (.p .z (.p .z (.j0 [.r 8 .int 3,.o (.s 27) .int] .z .z))))))))) .z))))))) (cond (Nat.beq k 67) (.p .z (.lp [.v 15 .int] [] [.m (.c (.c (.c (.y (.s 0) 3) 0) 1) 0) .int .int,.y (.s 0),.b (.y (.s 0) 5) [.val .int]] 0 (.p .z (.p .z (.p (.p .z (.p (.sp 38 41) .z)) .z))))) (.z))
noncomputable def cs_12:List (Con prog):=[c_37,c_64,c_99]
noncomputable def cl_12:List (Cpy prog):=[]
def sh_33:Shp:=⟨33,[.c (.v .int),.c (.l (.ptr 0 0)),.c (.l (.ptr 1 0)),.c (.l (.ptr 2 0))],[.cells 70 [.l (.ptr 3 0)],.cells 87 [.l (.map 4)],.cells 88 [.l (.fn 5)],.cells 76 [.v (.list aj_),.v (.list (.list ch_)),.v (.clo 64 .unit),.l (.row 6)],.map .int .int false,.fn 33 [] [.l (.ptr 0 0),.l (.ptr 1 0),.l (.ptr 2 0)],.row .int 3 true],[.int],[6]⟩
def dc9:An:=(.p .z (.p .z (.p .z (.p (.p .z (.rf [3,5] .z .z)) .z))))
noncomputable def dc2 (F:((Int×(Unit×(Unit×(Unit×Unit))))×((Unit×Unit)×((Unit×Unit)×((Unit×Unit)×(((List aa_)×((List (List ab_))×(Unit×(Unit×Unit))))×((List (Int×Int))×((Unit×(Unit×(Unit×(Unit×Unit))))×((List Int)×Unit))))))))→Option ((Int×Unit)×(Unit×(Unit×(Unit×(Unit×((List (Int×Int))×(Unit×(Unit×Unit))))))))) (ok:EOk prog sh_33.k (Er sh_33 F)):Cx prog:=cxI at_12 (λk=>Nat.beq k 33||Nat.beq k 37||Nat.beq k 64||Nat.beq k 98||Nat.beq k 99||false) (cxE [⟨sh_33,F,ok⟩] (cxR [rp_98] cs_12 cl_12)) 7
noncomputable def g_33 (ec_:((Int×(Unit×(Unit×(Unit×Unit))))×((Unit×Unit)×((Unit×Unit)×((Unit×Unit)×(((List aa_)×((List (List ab_))×(Unit×(Unit×Unit))))×((List (Int×Int))×((Unit×(Unit×(Unit×(Unit×Unit))))×((List Int)×Unit))))))))→Option ((Int×Unit)×(Unit×(Unit×(Unit×(Unit×((List (Int×Int))×(Unit×(Unit×Unit))))))))) (d:((Int×(Unit×(Unit×(Unit×Unit))))×((Unit×Unit)×((Unit×Unit)×((Unit×Unit)×(((List aa_)×((List (List ab_))×(Unit×(Unit×Unit))))×((List (Int×Int))×((Unit×(Unit×(Unit×(Unit×Unit))))×((List Int)×Unit))))))))):Option ((Int×Unit)×(Unit×(Unit×(Unit×(Unit×((List (Int×Int))×(Unit×(Unit×Unit)))))))) :=
 ((at? d.2.2.2.2.2.2.2.1 d.1.1).bind λv0 =>
 ((at? d.2.2.2.2.2.2.2.1 d.1.1).bind λv1 =>
 (cond (v1==0)
 (some ((1,()),((),((),((),((),(d.2.2.2.2.2.1,((),((),())))))))))
 (cond (ak6 d.2.2.2.2.2.1 d.1.1)
 (some (((ei_ 0 d.2.2.2.2.2.1 d.1.1),()),((),((),((),((),(d.2.2.2.2.2.1,((),((),())))))))))
 ((at? d.2.2.2.2.1.2.1 d.1.1).bind λv2 =>
 ((ag_ (ρ:=((List ac_)×(Unit×((Int×Unit)×Unit)))) (λ(v3:(Int×((List ac_)×(Unit×((Int×Unit)×Unit))))) =>
 (cond (decide (v3.1<(v2.length:Int)))
 ((at? v2 v3.1).bind λv4 =>
 ((at? d.2.2.2.2.2.2.2.1 v4.2).bind λv5 =>
 ((at? d.2.2.2.2.2.2.2.1 v4.2).bind λv6 =>
 ((at? d.2.2.2.2.2.2.2.1 d.1.1).bind λv7 =>
 ((at? d.2.2.2.2.2.2.2.1 d.1.1).bind λv8 =>
 (cond (v6==(w64 (v8 - 1)))
 ((at? d.2.2.2.2.2.2.2.1 d.1.1).bind λv9 =>
 ((at? d.2.2.2.2.2.2.2.1 d.1.1).bind λv10 =>
 (cond (decide (0<v10))
 ((ec_ ((v4.2,((),((),((),())))),(((),()),(((),()),(((),()),((d.2.2.2.2.1.1,(d.2.2.2.2.1.2.1,(d.2.2.2.2.1.2.2.1,((),())))),(v3.2.1,(((),((),((),((),())))),(d.2.2.2.2.2.2.2.1,()))))))))).bind λv11 =>
 (some (inl ((w64 (v3.1+1)),(v11.2.2.2.2.2.1,((),(((zf_ (w64 (v3.2.2.2.1.1+v11.1.1)) 1099511627776),()),())))))))
 (some (inl ((w64 (v3.1+1)),(v3.2.1,((),((v3.2.2.2.1.1,()),())))))))))
 (some (inl ((w64 (v3.1+1)),(v3.2.1,((),((v3.2.2.2.1.1,()),()))))))))))))
 (some (inr (v3.2.1,((),((v3.2.2.2.1.1,()),()))))))) (0,(d.2.2.2.2.2.1,((),((0,()),()))))).bind λv12 =>
 (some ((v12.2.2.1.1,()),((),((),((),((),((gi_ v12.1 d.1.1 v12.2.2.1.1),((),((),())))))))))))))))
theorem xr_33:(λ(F:((Int×(Unit×(Unit×(Unit×Unit))))×((Unit×Unit)×((Unit×Unit)×((Unit×Unit)×(((List aa_)×((List (List ab_))×(Unit×(Unit×Unit))))×((List (Int×Int))×((Unit×(Unit×(Unit×(Unit×Unit))))×((List Int)×Unit))))))))→Option ((Int×Unit)×(Unit×(Unit×(Unit×(Unit×((List (Int×Int))×(Unit×(Unit×Unit))))))))) (ok:EOk prog sh_33.k (Er sh_33 F))=>fxF (dc2 F ok) dc9 sh_33)=λF _=>g_33 F:=by kernel_rfl
noncomputable def ds_:Nat→((Int×(Unit×(Unit×(Unit×Unit))))×((Unit×Unit)×((Unit×Unit)×((Unit×Unit)×(((List aa_)×((List (List ab_))×(Unit×(Unit×Unit))))×((List (Int×Int))×((Unit×(Unit×(Unit×(Unit×Unit))))×((List Int)×Unit))))))))→Option ((Int×Unit)×(Unit×(Unit×(Unit×(Unit×((List (Int×Int))×(Unit×(Unit×Unit))))))))
 | 0=>λ_=>none
 | n+1=>g_33 (ds_ n)
theorem oke_33 (n:Nat):EOk prog sh_33.k (Er sh_33 (ds_ n)):=EOk.fuel (s:=sh_33) (g:=g_33) (F:=ds_) rfl (λ_=>rfl) (cx:=dc2) (an:=dc9) xr_33 n
noncomputable def ec_:((Int×(Unit×(Unit×(Unit×Unit))))×((Unit×Unit)×((Unit×Unit)×((Unit×Unit)×(((List aa_)×((List (List ab_))×(Unit×(Unit×Unit))))×((List (Int×Int))×((Unit×(Unit×(Unit×(Unit×Unit))))×((List Int)×Unit))))))))→Option ((Int×Unit)×(Unit×(Unit×(Unit×(Unit×((List (Int×Int))×(Unit×(Unit×Unit)))))))):=ds_ 3001
noncomputable def e_33:Eff prog:=⟨sh_33,ec_,oke_33 3001⟩
noncomputable def cx_12:Cx prog:=cxI at_12 (λk=>Nat.beq k 33||Nat.beq k 37||Nat.beq k 64||Nat.beq k 98||Nat.beq k 99||false) (cxE [e_33] (cxR [rp_98] cs_12 cl_12)) 7
noncomputable def jz_ (a0:ad_):Option (Int×Int×Unit) :=
 ((dm_ a0).bind λv0 =>
 (cond (v0.2.1 != 0)
 (cond (v0.2.1 != 0)
 (some (0,(v0.2.1,())))
 none)
 ((eb_ [(-1)] (v0.1.1.length:Int)).bind λv1 =>
 ((ag_ (ρ:=((List Int)×((List Int)×Unit))) (λ(v2:((List Int)×(Int×((List Int)×Unit)))) =>
 (cond (decide (v2.2.1<(v0.1.1.length:Int)))
 ((((at? v0.1.1 v2.2.1).bind λv3 =>
 ((ig_ a0.1 v3.1).bind λv4 =>
 (((cond (v4.2.1==0)
 (some (v4.1,()))
 (some (false,())))).bind λv5 =>
 (cond v5.1
 ((at? v2.2.2.1 v2.2.1).bind λv6 =>
 ((at? v2.2.2.1 v2.2.1).bind λv7 =>
 ((push? (α:=Int) v2.1 [v2.2.1]).bind λv8 =>
 (some (v8,((v2.2.2.1.set v2.2.1.toNat 0),()))))))
 (some (v2.1,(v2.2.2.1,())))))))).bind λv9 =>
 (some (inl (v9.1,((w64 (v2.2.1+1)),(v9.2.1,()))))))
 (some (inr (v2.1,(v2.2.2.1,())))))) ([],(0,(v1,())))).bind λv10 =>
 ((mk? (α:=(List Int)) (v0.1.1.length:Int) []).bind λv11 =>
 ((ag_ (ρ:=((List (List Int))×Unit)) (λ(v12:(Int×((List (List Int))×Unit))) =>
 (cond (decide (v12.1<(v0.1.2.length:Int)))
 ((at? v0.1.2 v12.1).bind λv13 =>
 ((ag_ (ρ:=((List (List Int))×Unit)) (λ(v14:(Int×((List (List Int))×Unit))) =>
 (cond (decide (v14.1<(v13.length:Int)))
 ((((at? v13 v14.1).bind λv15 =>
 ((at? v14.2.1 v15.2).bind λv16 =>
 ((at? v14.2.1 v15.2).bind λv17 =>
 ((push? (α:=Int) v17 [v12.1]).bind λv18 =>
 ((at? v14.2.1 v15.2).bind λv19 =>
 (cond ((v15.2==v15.2)&&true)
 ((at? v14.2.1 v15.2).bind λv20 =>
 (some ((v14.2.1.set v15.2.toNat v18),())))
 none))))))).bind λv21 =>
 (some (inl ((w64 (v14.1+1)),(v21.1,())))))
 (some (inr (v14.2.1,()))))) (0,(v12.2.1,()))).bind λv22 =>
 (some (inl ((w64 (v12.1+1)),(v22.1,()))))))
 (some (inr (v12.2.1,()))))) (0,(v11,()))).bind λv23 =>
 ((ag_ (ρ:=((List Int)×Unit)) (λ(v24:((List Int)×((List Int)×Unit))) =>
 (cond (decide (0<(v24.1.length:Int)))
 ((at? v24.1 0).bind λv25 =>
 ((at? v24.1 0).bind λv26 =>
 ((sub? v24.1 1 (v24.1.length:Int)).bind λv27 =>
 ((at? v23.1 v26).bind λv28 =>
 ((ag_ (ρ:=((List Int)×((List Int)×Unit))) (λ(v29:((List Int)×(Int×((List Int)×Unit)))) =>
 (cond (decide (v29.2.1<(v28.length:Int)))
 ((((at? v28 v29.2.1).bind λv30 =>
 ((at? v29.2.2.1 v30).bind λv31 =>
 ((at? v29.2.2.1 v30).bind λv32 =>
 (cond (decide (v32<0))
 ((at? v29.2.2.1 v26).bind λv33 =>
 ((at? v29.2.2.1 v26).bind λv34 =>
 ((at? v29.2.2.1 v30).bind λv35 =>
 ((at? v29.2.2.1 v30).bind λv36 =>
 ((push? (α:=Int) v29.1 [v30]).bind λv37 =>
 (some (v37,((v29.2.2.1.set v30.toNat (w64 (v34+1))),()))))))))
 (some (v29.1,(v29.2.2.1,())))))))).bind λv38 =>
 (some (inl (v38.1,((w64 (v29.2.1+1)),(v38.2.1,()))))))
 (some (inr (v29.1,(v29.2.2.1,())))))) (v27,(0,(v24.2.1,())))).bind λv39 =>
 (some (inl (v39.1,(v39.2.1,())))))))))
 (some (inr (v24.2.1,()))))) (v10.1,(v10.2.1,()))).bind λv40 =>
 ((at? v40.1 0).bind λv41 =>
 ((at? v40.1 0).bind λv42 =>
 (cond (decide (v42<0))
 (some (0,(0,())))
 ((ec_ ((0,((),((),((),())))),(((),()),(((),()),(((),()),((v0.1.1,(v0.1.2,((),((),())))),([],(((),((),((),((),())))),(v40.1,()))))))))).bind λv43 =>
 (some (v43.1.1,(0,()))))))))))))))
theorem x_12:av_ cx_12 an_12 12 [an_] [.int,.int]=λx=>jz_ x.1:=by kernel_rfl
noncomputable def c_12:Con prog:=aw_ _ _ 12 [an_] [.int,.int] _ x_12
noncomputable def jq_ (a0:ad_):Option (Int×Int×Unit) :=
 ((dl_ a0).bind λv0 =>
 (cond (v0.2.1 != 0)
 (some (0,(v0.2.1,())))
 ((bz_ a0 v0.1 (-1)).bind λv1 =>
 ((at? v1.1 0).bind λv2 =>
 (cond (decide (v2<0))
 (some (0,(0,())))
 ((mk? (α:=Int) (v1.1.length:Int) 0).bind λv3 =>
 ((ag_ (ρ:=((List Int)×Unit)) (λ(v4:(Int×((List Int)×Unit))) =>
 ((at? v1.1 0).bind λv5 =>
 (cond (decide (v4.1≤v5))
 ((ag_ (ρ:=((List Int)×Unit)) (λ(v6:(Int×((List Int)×Unit))) =>
 (cond (decide (v6.1<(v1.1.length:Int)))
 ((((at? v1.1 v6.1).bind λv7 =>
 (cond (v7 != v4.1)
 (some (v6.2.1,()))
 (((cond (v4.1==0)
 ((at? v6.2.1 v6.1).bind λv8 =>
 ((at? v6.2.1 v6.1).bind λv9 =>
 (some ((v6.2.1.set v6.1.toNat 1),()))))
 (some (v6.2.1,())))).bind λv10 =>
 ((ag_ (ρ:=((List Int)×Unit)) (λ(v11:(Int×((List Int)×Unit))) =>
 ((((at? v0.1.2 v6.1).bind λv12 =>
 (cond (decide (v11.1<(v12.length:Int)))
 (some ((decide (0<v4.1)),()))
 (some (false,()))))).bind λv13 =>
 (cond v13.1
 ((((at? v0.1.2 v6.1).bind λv14 =>
 ((at? v14 v11.1).bind λv15 =>
 ((at? v1.1 v15.2).bind λv16 =>
 (cond (v16==(w64 (v4.1 - 1)))
 ((at? v11.2.1 v6.1).bind λv17 =>
 ((at? v11.2.1 v6.1).bind λv18 =>
 ((at? v0.1.2 v6.1).bind λv19 =>
 ((at? v19 v11.1).bind λv20 =>
 ((at? v11.2.1 v20.2).bind λv21 =>
 ((at? v11.2.1 v20.2).bind λv22 =>
 ((at? v11.2.1 v6.1).bind λv23 =>
 ((at? v11.2.1 v6.1).bind λv24 =>
 (some ((v11.2.1.set v6.1.toNat (zf_ (w64 (v18+v22)) 1099511627776)),()))))))))))
 (some (v11.2.1,()))))))).bind λv25 =>
 (some (inl ((w64 (v11.1+1)),(v25.1,())))))
 (some (inr (v11.2.1,())))))) (0,(v10.1,()))).bind λv26 =>
 (some (v26.1,()))))))).bind λv27 =>
 (some (inl ((w64 (v6.1+1)),(v27.1,())))))
 (some (inr (v6.2.1,()))))) (0,(v4.2.1,()))).bind λv28 =>
 (some (inl ((w64 (v4.1+1)),(v28.1,())))))
 (some (inr (v4.2.1,())))))) (0,(v3,()))).bind λv29 =>
 ((at? v29.1 0).bind λv30 =>
 ((at? v29.1 0).bind λv31 =>
 (some (v31,(0,()))))))))))))
theorem x_13:av_ (P:=prog) (cxC [c_25,c_32] []) (.p .z (.p .z (.p .z (.p .z (.p .z (.p .z (.p (.p .z (.lp [.v 8 .int] [] [.o (.s 7) .int] 0 (.p .z (.p (.p .z (.lp [.v 9 .int] [] [.o (.s 7) .int] 2 (.p .z (.j0 [.o (.s 7) .int] (.p .z (.j0 [.o (.s 7) .int] .z (.p .z (.lp [.v 10 .int] [] [.o (.s 7) .int] 4 (.p (.j0 [.v 64 .bool] .z .z) (.j0 [.o (.s 7) .int] .z .z)))))) .z)))) .z)))) .z))))))) 13 [an_] [.int,.int]=λx=>jq_ x.1:=by kernel_rfl
noncomputable def c_13:Con prog:=aw_ _ _ 13 [an_] [.int,.int] _ x_13
end
section
set_option maxRecDepth 100000
set_option maxHeartbeats 0
noncomputable def hs_  : Option (Bool×Unit) :=
 ((dx_ (([[104,97,108,108],[118,97,117,108,116]],([([98,111,120],(0,(2,0))),([100,111,111,114],(0,(2,0)))],([([107,101,121],(0,[(0,(1,false))]))],([(0,(1,[(1,(1,false))]))],([([111,112,101,110],(0,(0,([],([],([(0,1)],([],[]))))))),([116,117,114,110],(0,((-1),([0],([],([(1,1)],([0],[])))))))],([],(1,[(1,(1,false))]))))))),([(2,4)],([[3,1]],([([108,101,97,102],(0,(0,([],(2,(0,(1,(4,(0,([],false)))))))))),([98,97,99,107],(0,(0,([(0,(0,false))],(3,(1,(0,(0,(0,([],false)))))))))),([99,97,114,100],(1,((-1),([],(0,(0,(0,(0,(0,([],false))))))))))],1))))).bind λv0 =>
 (cond (v0.2.1==0)
 (cond ((v0.1.length:Int)==3)
 ((at? v0.1 0).bind λv1 =>
 (cond ((v1.1==0)&&((v1.2.1==4)&&(v1.2.2==0)))
 ((at? v0.1 1).bind λv2 =>
 (cond (v2.2.1==2)
 ((at? v0.1 2).bind λv3 =>
 (some ((v3.2.2==1),())))
 (some (false,()))))
 (some (false,()))))
 (some (false,())))
 (some (false,()))))
theorem x_8:av_ (P:=prog) (cxC [c_9,c_26] []) .z 8 [] [.bool]=λx=>hs_:=by kernel_rfl
noncomputable def c_8:Con prog:=aw_ _ _ 8 [] [.bool] _ x_8
end
section
set_option maxRecDepth 100000
set_option maxHeartbeats 0
noncomputable def gx_ (a0:ad_):Option (Bool×Unit) :=
 ((ka_ a0).bind λv0 =>
 (cond v0.1
 ((hs_).bind λv1 =>
 (some (v1.1,())))
 ((iz_ a0).bind λv2 =>
 ((dx_ v2.1).bind λv3 =>
 ((jp_ a0).bind λv4 =>
 ((iz_ a0).bind λv5 =>
 ((jz_ v5.1).bind λv6 =>
 ((jq_ a0).bind λv7 =>
 ((fx_ v3.1 v4.1).bind λv8 =>
 (cond v8.1
 (cond (v3.2.1==v4.2.1)
 (cond (v6.1==v7.1)
 (cond (v6.2.1==v7.2.1)
 ((hs_).bind λv9 =>
 (some (v9.1,())))
 (some (false,())))
 (some (false,())))
 (some (false,())))
 (some (false,()))))))))))))
theorem x_3:av_ (P:=prog) (cxC [c_7,c_8,c_9,c_10,c_11,c_12,c_13,c_14] []) .z 3 [an_] [.bool]=λx=>gx_ x.1:=by kernel_rfl
noncomputable def c_3:Con prog:=aw_ _ _ 3 [an_] [.bool] _ x_3
end
end Go.Proofs.YtgeehfnbhbibeaaGreatDoor.Rx
namespace Go.Proofs.YtgeehfnbhbibeaaGreatDoor.Rx
open Go Pad Rex Sum
section
theorem ay_ {α:Type} {l:List α} (h:Sm l.length):push? [] l=some l:=by
 rw[ae4 (by simp only[k3_];omega)]
 rfl
theorem ci_ {α:Type} {l:List α} {x:α} (h:Sm l.length):push? l [x]=some (l++[x]):=ae4 (by simp only[c8_,k3_];omega)
theorem rv_ {α:Type} {l:List α} {i:Nat} {x:α} (h:l[i]?=some x):l.set ((i:Nat):Int).toNat x=l:=by
 show l.set i x=l
 refine f1_ λj => ?_
 rw[g4_]
 split
 ·next e =>
  subst e
  rw[if_pos (am_ h),h]
 ·rfl
theorem st_ (c:List bg_) (h:Sm c.length):cm_ c=some (c,()):=by
 unfold cm_
 rw[ay_ h]
 rfl
theorem aj0 (c:List Int) (h:Sm c.length):dq_ c=some (c,()):=by
 unfold dq_
 rw[ay_ h]
 rfl
theorem pa_ {α τ:Type} {l:List α} (hl:Sm l.length) {body:(Int×(List α×Unit))→Option ((Int×(List α×Unit))⊕(List α×Unit))} {K:(List α×Unit)→Option τ} {x:Option τ}
  (h:∀ (i:Nat) y,l[i]?=some y→body ((i:Int),(l,()))=some (.inl ((w64 ((i:Int)+1)),(l,())))) (e:body ((l.length:Int),(l,()))=some (.inr (l,()))) (hk:K (l,())=x):(ag_ body (0,(l,()))).bind K=x:=by
 refine bn_ l (λ_ _=>none) (λi=>((i:Int),(l,()))) (r0:=(l,())) (λi y hy => ?_) e ?_
 ·have hi:=am_ hy
  rw[h i y hy,az_ (show Sm i by omega)]
 ·have:ge_ (λ(_:Nat) (_:α)=>(none:Option (List α×Unit))) 0 l=none:=(iq_ l 0).2 λ_ _ _=>rfl
  rw[this]
  exact hk
theorem bl9 {r:ae_} (h:SmR r):lo_ r=some (r,()):=by
 unfold lo_
 simp only[ay_ h.pl,ay_ h.th,ay_ h.pr,ay_ h.wy,ay_ h.ac,ay_ h.au,st_ _ h.go,a0_]
 refine pa_ h.pr (λi y hy => ?_) ?_ ?_
 ·have:=h.prn y (ax_ hy)
  simp only[dlt (am_ hy),a5_,ah_ hy,a0_,st_ _ this.2,rv_ hy]
 ·simp only[dnl,a2_]
 refine pa_ h.wy (λi y hy => ?_) ?_ ?_
 ·have:=h.wyn y (ax_ hy)
  simp only[dlt (am_ hy),a5_,ah_ hy,a0_,st_ _ this,rv_ hy]
 ·simp only[dnl,a2_]
 refine pa_ h.ac (λi y hy => ?_) ?_ ?_
 ·obtain⟨h1,h2,h3,h4,h5,h6⟩:=h.acn y (ax_ hy)
  simp only[dlt (am_ hy),a5_,ah_ hy,a0_,st_ _ h3,aj0 _ h2,aj0 _ h5,aj0 _ h6,ay_ h4,rv_ hy]
 ·simp only[dnl,a2_]
 refine pa_ h.au (λi y hy => ?_) ?_ ?_
 ·have:=h.aun y (ax_ hy)
  simp only[dlt (am_ hy),a5_,ah_ hy,a0_,st_ _ this,rv_ hy]
 ·simp only[dnl,a2_]
 rfl
theorem zc_ (c:ak_) (h:Sm c.2.2.2.2.2.1.length):gs_ c=some (c,()):=by
 unfold gs_
 rw[ay_ h]
 rfl
theorem bl7 {g:ad_} (h:SmG g):iz_ g=some (g,()):=by
  have hl:Sm g.2.1.length:=by have:=h.lk;omega
  have hn:Sm g.2.2.2.1.length:=by have:=h.nt;omega
  have hc:Sm g.2.2.1.length:=by have:=h.cd;omega
  unfold iz_
  rw[bl9 h.room]
  simp only[ay_ hl,ay_ hn,a0_]
  have hgo:=kr_ g.2.2.1 (λ_ t x=>t++[x]) (λi t=>((i:Int),((t,()),()))) (λt=>((t,()),())) [] (body:=(λ(v3:(Int×(((List (List Int))×Unit)×Unit))) =>
 (cond (decide (v3.1<(g.2.2.1.length:Int)))
 ((at? g.2.2.1 v3.1).bind λv4 =>
 ((push? (α:=Int) [] v4).bind λv5 =>
 ((push? (α:=(List Int)) v3.2.1.1 [v5]).bind λv6 =>
 (some (inl ((w64 (v3.1+1)),((v6,()),())))))))
 (some (inr ((v3.2.1.1,()),())))))) (λi t=>t=g.2.2.1.take i) (by simp) (λi x t hx ht=>by
    have hi:=am_ hx
    have hx2:Sm x.length:=by have:=h.cdn x (ax_ hx);omega
    have ht2:Sm t.length:=by rw[ht,c7_];omega
    refine⟨?_,?_⟩
    · simp only[dlt hi,a5_,ah_ hx,a0_,ay_ hx2,ci_ ht2,az_ (show Sm i by omega)]
    · rw[ht,d9_,hx]
      rfl) (λt ht=>by simp only[dnl,a2_])
  obtain⟨t,ht,hw⟩:=hgo
  rw[e1_] at ht
  subst ht
  refine e6_ (congrArg (λo=>Option.bind o _) hw) ?_
  rw[a0_]
  refine pa_ hn (λi y hy => ?_) ?_ ?_
  · have hy2:=h.ntn y (ax_ hy)
    simp only[dlt (am_ hy),a5_,ah_ hy,a0_,ay_ (show Sm y.2.2.2.1.length by omega),rv_ hy,zc_ _ (show Sm y.2.2.2.2.2.2.2.2.2.1.length by omega)]
  · simp only[dnl,a2_]
  rfl
end
section
set_option maxRecDepth 10000
theorem ba9 {σ ρ τ:Type} (n:Nat) (F:Nat→τ→σ) (R:τ→ρ) (t0:τ) {body:σ→Option (σ⊕ρ)} (I:Nat→τ→Prop) (h0:I 0 t0)
  (h:∀ i t,i<n→I i t→Tot (body (F i t)) (λr=>∃ t',r = .inl (F (i+1) t')∧I (i+1) t')) (e:∀ t,I n t→body (F n t)=some (.inr (R t))) :
  Tot (ag_ body (F 0 t0)) (λr=>∃ t,r=R t∧I n t):=by
 refine mf_ (λi s=>∃ t,s=F i t∧I i t) _ n 0 (F 0 t0) ⟨t0,rfl,h0⟩ (λj s h1 h2 hs => ?_) (λs hs => ?_)
 ·obtain⟨t,rfl,ht⟩:=hs
  obtain⟨r,hr,t',rfl,ht'⟩:=h j t (by omega) ht
  exact .inl ⟨_,hr,t',rfl,ht'⟩
 ·obtain⟨t,rfl,ht⟩:=hs
  rw[b0_] at ht ⊢
  exact⟨_,e t ht,t,rfl,ht⟩
structure VS (r:ae_) (s:ai_):Prop where
 l1:s.1.length=r.2.1.length
 l2:s.2.1.length=r.2.2.1.length
 l3:(s.2.2.length:Int)=r.2.2.2.2.2.2.1
 th:∀ (i:Nat) n,s.1[i]?=some n→nv_ r.2.1 (i:Int) n=true
 pr:∀ (i:Nat) p,s.2.1[i]?=some p→inR r p=true
 py:∀ (i:Nat) p,s.2.2[i]?=some p→sk_ r p=true
theorem cv3 {r:ae_} {s:ai_} (h:VS r s):ckS r s=0:=by
 unfold ckS
 have hl:ag9 r s=false:=by
  unfold ag9
  have:=h.l1
  have:=h.l2
  have:=h.l3
  simp only[c0_,bne_eq_false_iff_eq]
  omega
 rw[hl,a2_]
 rw[(iq_ s.1 0).2 (λj x hx=>by rw[b0_,h.th j x hx];rfl),j3_]
 rw[(iq_ s.2.1 0).2 (λj x hx=>by rw[h.pr j x hx];rfl),j3_]
 rw[(iq_ s.2.2 0).2 (λj x hx=>by rw[h.py j x hx];rfl),j3_]
theorem mw_ {r:ae_} (h:SmR r) (ok:OkR r) {i n:Int} (hs:nv_ r.2.1 i n=true):(0≤i∧i<r.2.1.length)∧(0≤n∧n≤5):=by
 unfold nv_ at hs
 rw[a1_] at hs
 have hi:=cg_.1 hs.1
 have hth:=h.th
 rw[er_ (by omega) (by omega)] at hi
 obtain⟨t,ht,hg⟩:=cj2 (l:=r.2.1) (i:=i) (by omega) (by omega)
 have h2:=hs.2
 rw[ht] at h2
 have hn:=cg_.1 h2
 have:=ok.th _ _ hg
 unfold bq7 at this
 simp only[a1_] at this
 have h3:=cg_.1 this.2.2.1
 rw[er_ (by omega) (by omega)] at hn
 omega
end
end Go.Proofs.YtgeehfnbhbibeaaGreatDoor.Rx
namespace Go.Proofs.YtgeehfnbhbibeaaGreatDoor.Rx
open Go Pad Rex Go.Proofs Go.Proofs.Tryz Sum
section
set_option maxRecDepth 100000
noncomputable def autB (a0:ae_) (th pr py:List Int):(Int×Unit)→Option ((Int×Unit)⊕(Unit⊕(Int×Unit))) :=
 (λ(v14:(Int×Unit)) =>
 (cond (decide (v14.1<(a0.2.2.2.2.2.1.length:Int)))
 ((at? a0.2.2.2.2.2.1 v14.1).bind λv15 =>
 ((((at? th v15.2.1).bind λv16 =>
 ((at? th v15.2.1).bind λv17 =>
 (cond (v17 != v15.2.2)
 ((bb_ (a0,(th,(pr,py))) v15.1).bind λv18 =>
 (some (v18.1,())))
 (some (false,())))))).bind λv19 =>
 (cond v19.1
 (some (inr (inr (v14.1,()))))
 (some (inl ((w64 (v14.1+1)),()))))))
 (some (inr (inl ())))))
noncomputable def setB (a0:ae_) (v11 v12:List Int):(Int×((List Int)×Unit))→Option ((Int×((List Int)×Unit))⊕(((List Int)×Unit)⊕(Bool×((List Int)×Unit)))) :=
 (λ(v13:(Int×((List Int)×Unit))) =>
 (cond (decide (v13.1<101))
 ((((ag_ (ρ:=(Unit⊕(Int×Unit))) (autB a0 v13.2.1 v11 v12) (0,())).bind λv20 =>
 (cj_ v20 (λv21=>(some ((-1),())))
 (λv22=>(some v22))))).bind λv23 =>
 (cond (decide (v23.1<0))
 (some (inr (inr ((!true),(v13.2.1,())))))
 ((at? a0.2.2.2.2.2.1 v23.1).bind λv24 =>
 ((at? a0.2.2.2.2.2.1 v23.1).bind λv25 =>
 ((at? v13.2.1 v24.2.1).bind λv26 =>
 ((at? v13.2.1 v24.2.1).bind λv27 =>
 (some (inl ((w64 (v13.1+1)),((v13.2.1.set v24.2.1.toNat v25.2.2),()))))))))))
 (some (inr (inl (v13.2.1,()))))))
noncomputable def thgB (a0:ae_):(Int×(((List Int)×Unit)×Unit))→Option ((Int×(((List Int)×Unit)×Unit))⊕(((List Int)×Unit)×Unit)) :=
 (λ(v2:(Int×(((List Int)×Unit)×Unit))) =>
 (cond (decide (v2.1<(a0.2.1.length:Int)))
 ((at? a0.2.1 v2.1).bind λv3 =>
 ((push? (α:=Int) v2.2.1.1 [v3.2.2.2]).bind λv4 =>
 (some (inl ((w64 (v2.1+1)),((v4,()),()))))))
 (some (inr ((v2.2.1.1,()),())))))
noncomputable def prpB (a0:ae_):(Int×(((List Int)×Unit)×Unit))→Option ((Int×(((List Int)×Unit)×Unit))⊕(((List Int)×Unit)×Unit)) :=
 (λ(v6:(Int×(((List Int)×Unit)×Unit))) =>
 (cond (decide (v6.1<(a0.2.2.1.length:Int)))
 ((at? a0.2.2.1 v6.1).bind λv7 =>
 ((push? (α:=Int) v6.2.1.1 [v7.2.1]).bind λv8 =>
 (some (inl ((w64 (v6.1+1)),((v8,()),()))))))
 (some (inr ((v6.2.1.1,()),())))))
noncomputable def rbegX (a0:ae_):Option (ai_×(Int×Unit)) :=
 ((fk_ a0).bind λv0 =>
 (cond (v0.1 != 0)
 (some (([],([],[])),(v0.1,())))
 ((mk? (α:=Int) a0.2.2.2.2.2.2.1 0).bind λv1 =>
 ((ag_ (ρ:=(((List Int)×Unit)×Unit)) (thgB a0) (0,(([],()),()))).bind λv5 =>
 ((ag_ (ρ:=(((List Int)×Unit)×Unit)) (prpB a0) (0,(([],()),()))).bind λv9 =>
 ((push? (α:=Int) [] v5.1.1).bind λv10 =>
 ((push? (α:=Int) [] v9.1.1).bind λv11 =>
 ((push? (α:=Int) [] v1).bind λv12 =>
 ((((ag_ (ρ:=(((List Int)×Unit)⊕(Bool×((List Int)×Unit)))) (setB a0 v11 v12) (0,(v10,()))).bind λv28 =>
 (cj_ v28 (λv29=>(some ((!false),(v29.1,()))))
 (λv30=>(some v30))))).bind λv31 =>
 (cond v31.1
 (some (([],([],[])),(27,())))
 (some ((v31.2.1,(v11,v12)),(0,())))))))))))))
theorem cp3:iu_=rbegX:=by kernel_rfl
end
end Go.Proofs.YtgeehfnbhbibeaaGreatDoor.Rx
namespace Go.Proofs.YtgeehfnbhbibeaaGreatDoor.Rx
open Go Pad Rex Sum
section
set_option maxRecDepth 10000
def VT (r:ae_) (th:List Int):Prop:=th.length=r.2.1.length∧∀ (i:Nat) n,th[i]?=some n→nv_ r.2.1 (i:Int) n=true
theorem ck0 {r:ae_} (h:SmR r) (ok:OkR r) {th:List Int} (hv:VT r th) {i n:Int} (hs:nv_ r.2.1 i n=true):VT r (th.set i.toNat n):=by
 refine⟨by rw[f3_];exact hv.1,λj m hj => ?_⟩
 have hi:=(mw_ h ok hs).1
 rw[g4_] at hj
 split at hj
 ·next e =>
  split at hj
  ·obtain rfl:=a6_ hj
   rw[show (j:Int)=i by omega]
   exact hs
  ·cases hj
 ·exact hv.2 j m hj
theorem bb0 {r:ae_} (h:SmR r):ag_ (thgB r) (0,(([],()),()))=some ((r.2.1.map (·.2.2.2),()),()):=by
 have hth:=h.th
 obtain⟨z,hz,q,rfl,hq⟩:=ba9 r.2.1.length (λi (q:List Int)=>((i:Int),((q,()),()))) (λq=>((q,()),())) [] (body:=thgB r) (λi q=>q=(r.2.1.take i).map (·.2.2.2)) rfl (λi q hi hq=>by
  obtain⟨x,hx⟩:=bd_ hi
  have hq2:Sm q.length:=by rw[hq,d6_,c7_];omega
  refine⟨_,?_,q++[x.2.2.2],rfl,?_⟩
  ·unfold thgB
   simp only[dlt hi,a5_,ah_ hx,a0_,ci_ hq2,az_ (show Sm i by omega)]
  ·rw[d9_,hx,hq,i9_]
   rfl) (λq hq=>by
  unfold thgB
  simp only[dnl,a2_])
 rw[e1_] at hq
 subst hq
 exact hz
theorem bc8 {r:ae_} (h:SmR r):ag_ (prpB r) (0,(([],()),()))=some ((r.2.2.1.map (·.2.1),()),()):=by
 have hth:=h.pr
 obtain⟨z,hz,q,rfl,hq⟩:=ba9 r.2.2.1.length (λi (q:List Int)=>((i:Int),((q,()),()))) (λq=>((q,()),())) [] (body:=prpB r) (λi q=>q=(r.2.2.1.take i).map (·.2.1)) rfl (λi q hi hq=>by
  obtain⟨x,hx⟩:=bd_ hi
  have hq2:Sm q.length:=by rw[hq,d6_,c7_];omega
  refine⟨_,?_,q++[x.2.1],rfl,?_⟩
  ·unfold prpB
   simp only[dlt hi,a5_,ah_ hx,a0_,ci_ hq2,az_ (show Sm i by omega)]
  ·rw[d9_,hx,hq,i9_]
   rfl) (λq hq=>by
  unfold prpB
  simp only[dnl,a2_])
 rw[e1_] at hq
 subst hq
 exact hz
end
end Go.Proofs.YtgeehfnbhbibeaaGreatDoor.Rx
namespace Go.Proofs.YtgeehfnbhbibeaaGreatDoor.Rx
open Go Pad Rex Go.Proofs Go.Proofs.Tryz Sum
section
set_option maxRecDepth 100000
noncomputable def pbgB (a0:ad_) (s:ai_):(Int×((List Bool)×((List ac_)×Unit)))→Option ((Int×((List Bool)×((List ac_)×Unit)))⊕((List Bool)×((List ac_)×Unit))) :=
 (λ(v3:(Int×((List Bool)×((List ac_)×Unit)))) =>
 (cond (decide (v3.1<(a0.2.2.2.1.length:Int)))
 ((((at? a0.2.2.2.1 v3.1).bind λv4 =>
 ((fj_ a0.1 s v4.2.2.2.1).bind λv5 =>
 (((cond v5.1
 ((bj_ s.2.2 v4.2.1).bind λv6 =>
 (cond v6.1
 ((at? v3.2.1 v3.1).bind λv7 =>
 ((at? v3.2.1 v3.1).bind λv8 =>
 (some ((!v8),()))))
 (some (false,()))))
 (some (false,())))).bind λv9 =>
 (cond v9.1
 ((at? v3.2.1 v3.1).bind λv10 =>
 ((at? v3.2.1 v3.1).bind λv11 =>
 (some ((v3.2.1.set v3.1.toNat true),((aa1 v3.2.2.1 v4.2.2.1),())))))
 (some (v3.2.1,(v3.2.2.1,())))))))).bind λv12 =>
 (some (inl ((w64 (v3.1+1)),(v12.1,(v12.2.1,()))))))
 (some (inr (v3.2.1,(v3.2.2.1,()))))))
noncomputable def pbegX (a0:ad_):Option (aa_×(Int×Unit)) :=
 ((hf_ a0).bind λv0 =>
 (cond (v0.1 != 0)
 (some ((([],([],[])),[]),(v0.1,())))
 ((iu_ a0.1).bind λv1 =>
 (cond (v1.2.1 != 0)
 (some ((([],([],[])),[]),(v1.2.1,())))
 ((mk? (α:=Bool) (a0.2.2.2.1.length:Int) false).bind λv2 =>
 ((ag_ (ρ:=((List Bool)×((List ac_)×Unit))) (pbgB a0 v1.1) (0,(v2,([],())))).bind λv13 =>
 ((push? (α:=Int) [] v1.1.1).bind λv14 =>
 ((push? (α:=Int) [] v1.1.2.1).bind λv15 =>
 ((push? (α:=Int) [] v1.1.2.2).bind λv16 =>
 ((push? (α:=Bool) [] v13.1).bind λv17 =>
 (some (((v14,(v15,v16)),v17),(0,())))))))))))))
theorem cq1:ls_=pbegX:=by kernel_rfl
end
end Go.Proofs.YtgeehfnbhbibeaaGreatDoor.Rx
namespace Go.Proofs.YtgeehfnbhbibeaaGreatDoor.Rx
open Go Pad Rex Sum
section
set_option maxRecDepth 10000
theorem qn_ {r:ae_} (h:SmR r) (ok:OkR r) {s:ai_} (hv:VS r s):Sm s.1.length∧Sm s.2.1.length∧Sm s.2.2.length:=by
 have:=cg_.1 ok.py
 have h1:=hv.l1
 have h2:=hv.l2
 have h3:=hv.l3
 have:=h.th
 have:=h.pr
 refine⟨by show s.1.length≤1000000000;omega,by show s.2.1.length≤1000000000;omega,by show s.2.2.length≤1000000000;omega⟩
theorem hh_ {r:ae_} {s:ai_} (h0:cz_ r=0) (hv:VS r s):nl_ r s=0:=by
 unfold nl_
 rw[h0]
 exact cv3 hv
end
section
theorem lu_ (a b c:Int):bv_ a b c=some (wi a b c,()):=bj9 a b c
theorem nz_ (a b c:Int):bk_ a b c=some (wi a b c,()):=bj9 a b c
def okL (l:ac_):Bool:=wi l.1 1 4&&wi l.2 2 10
structure Lk (l:ac_):Prop where
 w1:1≤l.1
 w2:l.1≤4
 s1:2≤l.2
 s2:l.2≤10
theorem oe_ {l:ac_}:okL l=true↔Lk l:=by
 unfold okL
 rw[a1_,cg_,cg_]
 exact⟨λh=>⟨h.1.1,h.1.2,h.2.1,h.2.2⟩,λh=>⟨⟨h.w1,h.w2⟩,h.s1,h.s2⟩⟩
theorem li_ (l:ac_):ek_ l=some (if okL l then 0 else 10,()):=by
 unfold ek_ okL
 simp only[nz_,a0_]
 cases wi l.1 1 4<;>cases wi l.2 2 10<;>rfl
theorem lv_ (l:ac_):el_ l=some (if okL l then 0 else 10,()):=by
 unfold el_ okL
 simp only[lu_,a0_]
 cases wi l.1 1 4<;>cases wi l.2 2 10<;>rfl
def dc_ (l:ac_) (c:List Int):Bool:=decide ((c.length:Int)=l.1)&&c.all λn=>wi n 0 (l.2 - 1)
theorem Lk.ws {l:ac_} (h:Lk l):w64 (l.2 - 1)=l.2 - 1:=by have:=h.s1;have:=h.s2;exact ki_ (by omega) (by omega)
theorem Lk.ww {l:ac_} (h:Lk l):w64 (l.1 - 1)=l.1 - 1:=by have:=h.w1;have:=h.w2;exact ki_ (by omega) (by omega)
theorem mq_ {l:ac_} (h:Lk l) (n:Int):co_ l n=some (wi n 0 (l.2 - 1),()):=by
 unfold co_
 rw[lu_,h.ws]
 rfl
theorem vd_ {l:ac_} (h:Lk l) (n:Int):bt_ l n=some (wi n 0 (l.1 - 1),()):=by
 unfold bt_
 rw[lu_,h.ww]
 rfl
theorem all_any {α:Type} (l:List α) (q:α→Bool):(!(l.any λx=>!(q x)))=l.all q:=ug_ l q
theorem um_ {l:ac_} (h:Lk l) (c:List Int):gn_ l c=some (dc_ l c,()):=by
 have w2:=h.w2
 unfold gn_ dc_
 by_cases he:(c.length:Int)=l.1
 ·have hb:((c.length:Int) != l.1)=false:=by simp[he]
  rw[hb,b8_ he,c1_,a2_]
  refine bn_ c (λ_ y=>cond (wi y 0 (l.2 - 1)) none (some (inr (false,()):Unit⊕(Bool×Unit)))) (λi=>((i:Int),())) (r0:=inl ()) (λi y hy => ?_) ?_ ?_
  ·have hi:=am_ hy
   simp only[dlt hi,a5_,ah_ hy,a0_,nz_,h.ws,az_ (show Sm i by unfold Sm;omega)]
   cases wi y 0 (l.2 - 1)<;>rfl
  ·simp only[dnl,a2_]
  ·rw[jl_ (q:=λy=>wi y 0 (l.2 - 1))]
   cases c.all λy=>wi y 0 (l.2 - 1)<;>rfl
 ·have hb:((c.length:Int) != l.1)=true:=by simp[he]
  rw[hb,c2_ he]
  rfl
theorem ou_ {l:ac_} (h:Lk l) (c:List Int):dh_ l c=some (dc_ l c,()):=by
 have w2:=h.w2
 unfold dh_ dc_
 by_cases he:(c.length:Int)=l.1
 ·have hb:((c.length:Int)==l.1)=true:=by simp[he]
  rw[hb,b8_ he,c1_,a5_,ow_ (l:=c) (by unfold Sm;omega) (λn=>!(wi n 0 (l.2 - 1))) (λi y hy=>by
   simp only[dlt (am_ hy),a5_,ah_ hy,a0_,mq_ h]
   cases wi y 0 (l.2 - 1)<;>rfl) (by simp only[dnl,a2_]),a0_,all_any]
 ·have hb:((c.length:Int)==l.1)=false:=by simp[he]
  rw[hb,c2_ he]
  rfl
theorem uz_ (l:ac_) (c:List Int):fv_ l c=some (if okL l then (if dc_ l c then 0 else 12) else 10,()):=by
 unfold fv_
 rw[li_,a0_]
 cases h:okL l with
 | true =>
  rw[if_pos rfl,um_ (oe_.1 h)]
  cases dc_ l c<;>rfl
 | false=>rfl
theorem nq_ (l:ac_) (c:List Int):ed_ l c=some (if okL l then (if dc_ l c then 0 else 12) else 10,()):=by
 unfold ed_ ht_
 rw[lv_,a0_]
 cases h:okL l with
 | true =>
  have hl:=oe_.1 h
  have:=ow_ (l:=[c]) (by unfold Sm;simp) (λc=>!(dc_ l c)) (body:=λ(v1:(Int×Unit)) =>
   (cond (decide (v1.1<(([c]:List (List Int)).length:Int)))
   ((at? [c] v1.1).bind λv2 =>
   ((dh_ l v2).bind λv3 =>
   (cond (!v3.1)
   (some (inr (inr ((decide (0≤v1.1)),()))))
   (some (inl ((w64 (v1.1+1)),()))))))
   (some (inr (inl ()))))) (λi y hy=>by
   simp only[dlt (am_ hy),a5_,ah_ hy,a0_,ou_ hl]
   cases dc_ l y<;>rfl) (by simp only[dnl,a2_])
  rw[this]
  simp only[q2_,List.any_nil,i4_]
  cases dc_ l c<;>rfl
 | false=>rfl
theorem bs4 {α:Type} [BEq α] [LawfulBEq α] [DecidableEq α] {a b:List α} (ha:Sm a.length) (he:a.length=b.length) {body:(Int×Unit)→Option ((Int×Unit)⊕(Unit⊕(Bool×Unit)))} {K:(Unit⊕(Bool×Unit))→Option (Bool×Unit)}
  (h:∀ (i:Nat) x y,a[i]?=some x→b[i]?=some y→body ((i:Int),())=some (cond (x != y) (.inr (.inr (false,()))) (.inl (w64 ((i:Int)+1),())))) (e:body ((a.length:Int),())=some (.inr (.inl ()))) (k1:K (.inl ())=some (true,())) (k2:K (.inr (false,()))=some (false,())) :
  (ag_ body (0,())).bind K=some (decide (a=b),()):=by
 refine bn_ (a.zip b) (λ_ p=>cond (p.1==p.2) none (some (inr (false,()):Unit⊕(Bool×Unit)))) (λi=>((i:Int),())) (r0:=inl ()) (λi p hp => ?_) ?_ ?_
 ·obtain⟨h1,h2⟩:=h7_.1 hp
  rw[h i p.1 p.2 h1 h2,az_ (show Sm i by have:=am_ h1;unfold Sm at *; omega)]
  cases hq:p.1==p.2<;>simp[bne,hq]
 ·rw[n4_,← he,Nat.min_self]
  exact e
 ·rw[jl_ (q:=λp:α×α=>p.1==p.2)]
  have hk:((a.zip b).all λp=>p.1==p.2)=decide (a=b):=by
   refine k4_.2 ?_
   rw[f2_,g9_]
   constructor
   ·intro hz
    refine f1_ λi => ?_
    by_cases hi:i<a.length
    ·obtain⟨x,hx⟩:=bd_ hi
     obtain⟨y,hy⟩:=bd_ (l:=b) (i:=i) (by omega)
     have:=hz (x,y) (b5_ (h7_.2 ⟨hx,hy⟩))
     rw[hx,hy,show x=y from eq_of_beq this]
    ·rw[b4_ (by omega),b4_ (by omega)]
   ·rintro rfl p hp
    obtain⟨i,hi⟩:=e3_ hp
    obtain⟨h1,h2⟩:=h7_.1 hi
    rw[h1] at h2
    exact f6_.2 (a6_ h2)
  rw[hk]
  cases decide (a=b)
  ·exact k2
  ·exact k1
theorem zd_ {a b:List Int} (ha:Sm a.length):gt_ a b=some (decide (a=b),()):=by
 unfold gt_
 by_cases he:a.length=b.length
 ·have hb:((a.length:Int) != (b.length:Int))=false:=by simp[he]
  rw[hb,a2_]
  refine bs4 ha he (λi x y hx hy => ?_) ?_ rfl rfl
  ·simp only[dlt (am_ hx),a5_,ah_ hx,ah_ hy,a0_]
   cases x != y<;>rfl
  ·simp only[dnl,a2_]
 ·have hb:((a.length:Int) != (b.length:Int))=true:=by simp;omega
  rw[hb,c2_ (λe=>he (by rw[e]))]
  rfl
def dd_ (l:ac_) (c:ak_):Bool :=
 if c.1=1 then wi c.2.1 0 (l.1 - 1)&&(wi c.2.2.2.1 0 (l.2 - 1)&&(c.2.2.1==0&&(c.2.2.2.2.1==0&&decide (c.2.2.2.2.2.1=[]))))
 else if c.1=2 then wi c.2.1 0 (l.1 - 1)&&(wi c.2.2.1 0 (l.1 - 1)&&(decide (c.2.1≤c.2.2.1)&&(wi c.2.2.2.1 0 100&&(c.2.2.2.2.1==0&&decide (c.2.2.2.2.2.1=[])))))
 else if c.1=3∨c.1=4 then wi c.2.1 0 (l.1 - 1)&&(wi c.2.2.1 0 (l.1 - 1)&&(c.2.1 != c.2.2.1&&(c.2.2.2.1==0&&(c.2.2.2.2.1==0&&decide (c.2.2.2.2.2.1=[])))))
 else if c.1=5 then wi c.2.2.2.1 0 (l.2 - 1)&&(wi c.2.2.2.2.1 0 l.1&&(c.2.1==0&&(c.2.2.1==0&&decide (c.2.2.2.2.2.1=[]))))
 else if c.1=6 then dc_ l c.2.2.2.2.2.1&&(wi c.2.2.2.1 0 l.1&&(wi c.2.2.2.2.1 0 l.1&&(c.2.1==0&&c.2.2.1==0)))
 else if c.1=7 then wi c.2.1 0 (l.1 - 1)&&(wi c.2.2.2.1 2 10&&(wi c.2.2.2.2.1 0 (c.2.2.2.1 - 1)&&(c.2.2.1==0&&decide (c.2.2.2.2.2.1=[]))))
 else false
theorem len0 (l:List Int):((l.length:Int)==((([]:List Int)).length:Int))=decide (l=[]):=by cases l<;>simp<;>omega
theorem un_ {l:ac_} (h:Lk l) {c:ak_} (hs:Sm c.2.2.2.2.2.1.length):go_ l c=some (dd_ l c,()):=by
 unfold go_ dd_ je_
 simp only[nz_,um_ h,zd_ hs,a0_,h.ww,h.ws,d8_,a5_]
 by_cases h1:c.1=1
 ·simp only[h1]
  cases wi c.2.1 0 (l.1 - 1)<;>cases wi c.2.2.2.1 0 (l.2 - 1)<;>simp only[a5_,a2_,a0_,d8_,c1_,f0_,Int.reduceBEq,k5_,h8_,Int.reduceEq,n9_,n8_,n3_]<;>cases c.2.2.1==0<;>cases c.2.2.2.2.1==0<;>rfl
 by_cases h2:c.1=2
 ·simp only[h2]
  cases wi c.2.1 0 (l.1 - 1)<;>cases wi c.2.2.1 0 (l.1 - 1)<;>cases decide (c.2.1≤c.2.2.1)<;>cases wi c.2.2.2.1 0 100<;>simp only[a5_,a2_,a0_,d8_,c1_,f0_,Int.reduceBEq,k5_,h8_,Int.reduceEq,n9_,n8_,n3_]<;>cases c.2.2.2.2.1==0<;>rfl
 by_cases h3:c.1=3
 ·simp only[h3]
  cases wi c.2.1 0 (l.1 - 1)<;>cases wi c.2.2.1 0 (l.1 - 1)<;>cases c.2.1 != c.2.2.1<;>simp only[a5_,a2_,a0_,d8_,c1_,f0_,Int.reduceBEq,k5_,h8_,Int.reduceEq,n9_,n8_,n3_]<;>cases c.2.2.2.1==0<;>cases c.2.2.2.2.1==0<;>rfl
 by_cases h4:c.1=4
 ·simp only[h4]
  cases wi c.2.1 0 (l.1 - 1)<;>cases wi c.2.2.1 0 (l.1 - 1)<;>cases c.2.1 != c.2.2.1<;>simp only[a5_,a2_,a0_,d8_,c1_,f0_,Int.reduceBEq,k5_,h8_,Int.reduceEq,n9_,n8_,n3_]<;>cases c.2.2.2.1==0<;>cases c.2.2.2.2.1==0<;>rfl
 by_cases h5:c.1=5
 ·simp only[h5]
  cases wi c.2.2.2.1 0 (l.2 - 1)<;>cases wi c.2.2.2.2.1 0 l.1<;>simp only[a5_,a2_,a0_,d8_,c1_,f0_,Int.reduceBEq,k5_,h8_,Int.reduceEq,n9_,n8_,n3_]<;>cases c.2.1==0<;>cases c.2.2.1==0<;>rfl
 by_cases h6:c.1=6
 ·simp only[h6]
  cases dc_ l c.2.2.2.2.2.1<;>cases wi c.2.2.2.1 0 l.1<;>cases wi c.2.2.2.2.1 0 l.1<;>simp only[a5_,a2_,a0_,d8_,c1_,f0_,Int.reduceBEq,k5_,h8_,Int.reduceEq,n9_,n8_,n3_]<;>cases c.2.1==0<;>cases c.2.2.1==0<;>simp
 by_cases h7:c.1=7
 ·simp only[h7]
  cases wi c.2.1 0 (l.1 - 1)
  ·rfl
  cases hn:wi c.2.2.2.1 2 10
  ·rfl
  have:=cg_.1 hn
  rw[ki_ (n:=c.2.2.2.1 - 1) (by omega) (by omega)]
  cases wi c.2.2.2.2.1 0 (c.2.2.2.1 - 1)<;>simp only[a5_,a2_,a0_,d8_,c1_,f0_,Int.reduceBEq,k5_,h8_,Int.reduceEq,n9_,n8_,n3_]<;>cases c.2.2.1==0<;>rfl
 have b1:(c.1==1)=false:=by simp[h1]
 have b2:(c.1==2)=false:=by simp[h2]
 have b3:(c.1==3)=false:=by simp[h3]
 have b4:(c.1==4)=false:=by simp[h4]
 have b5:(c.1==5)=false:=by simp[h5]
 have b6:(c.1==6)=false:=by simp[h6]
 have b7:(c.1==7)=false:=by simp[h7]
 simp only[b1,b2,b3,b4,b5,b6,b7,h1,h2,h3,h4,h5,h6,h7,a2_,a0_,h8_,n3_]
theorem ov_ {l:ac_} (h:Lk l) (c:ak_):di_ l c=some (dd_ l c,()):=by
 unfold di_ dd_
 simp only[lu_,vd_ h,mq_ h,ou_ h,a0_]
 by_cases h1:c.1=1
 ·simp only[h1]
  cases wi c.2.1 0 (l.1 - 1)<;>cases wi c.2.2.2.1 0 (l.2 - 1)<;>simp only[a5_,a2_,a0_,d8_,c1_,f0_,Int.reduceBEq,k5_,h8_,Int.reduceEq,n9_,n8_,n3_,len0]<;>cases c.2.2.1==0<;>cases c.2.2.2.2.1==0<;>rfl
 by_cases h2:c.1=2
 ·simp only[h2]
  cases wi c.2.1 0 (l.1 - 1)<;>cases wi c.2.2.1 0 (l.1 - 1)<;>cases decide (c.2.1≤c.2.2.1)<;>cases wi c.2.2.2.1 0 100<;>simp only[a5_,a2_,a0_,d8_,c1_,f0_,Int.reduceBEq,k5_,h8_,Int.reduceEq,n9_,n8_,n3_,len0]<;>cases c.2.2.2.2.1==0<;>rfl
 by_cases h3:c.1=3
 ·simp only[h3]
  cases wi c.2.1 0 (l.1 - 1)<;>cases wi c.2.2.1 0 (l.1 - 1)<;>cases c.2.1 != c.2.2.1<;>simp only[a5_,a2_,a0_,d8_,c1_,f0_,Int.reduceBEq,k5_,h8_,Int.reduceEq,n9_,n8_,n3_,len0]<;>cases c.2.2.2.1==0<;>cases c.2.2.2.2.1==0<;>rfl
 by_cases h4:c.1=4
 ·simp only[h4]
  cases wi c.2.1 0 (l.1 - 1)<;>cases wi c.2.2.1 0 (l.1 - 1)<;>cases c.2.1 != c.2.2.1<;>simp only[a5_,a2_,a0_,d8_,c1_,f0_,Int.reduceBEq,k5_,h8_,Int.reduceEq,n9_,n8_,n3_,len0]<;>cases c.2.2.2.1==0<;>cases c.2.2.2.2.1==0<;>rfl
 by_cases h5:c.1=5
 ·simp only[h5]
  cases wi c.2.2.2.1 0 (l.2 - 1)<;>cases wi c.2.2.2.2.1 0 l.1<;>simp only[a5_,a2_,a0_,d8_,c1_,f0_,Int.reduceBEq,k5_,h8_,Int.reduceEq,n9_,n8_,n3_,len0]<;>cases c.2.1==0<;>cases c.2.2.1==0<;>rfl
 by_cases h6:c.1=6
 ·simp only[h6]
  cases dc_ l c.2.2.2.2.2.1<;>cases wi c.2.2.2.1 0 l.1<;>cases wi c.2.2.2.2.1 0 l.1<;>simp only[a5_,a2_,a0_,d8_,c1_,f0_,Int.reduceBEq,k5_,h8_,Int.reduceEq,n9_,n8_,n3_,len0]<;>cases c.2.1==0<;>cases c.2.2.1==0<;>rfl
 by_cases h7:c.1=7
 ·simp only[h7]
  cases wi c.2.1 0 (l.1 - 1)
  ·rfl
  cases hn:wi c.2.2.2.1 2 10
  ·rfl
  have:=cg_.1 hn
  rw[ki_ (n:=c.2.2.2.1 - 1) (by omega) (by omega)]
  cases wi c.2.2.2.2.1 0 (c.2.2.2.1 - 1)<;>simp only[a5_,a2_,a0_,d8_,c1_,f0_,Int.reduceBEq,k5_,h8_,Int.reduceEq,n9_,n8_,n3_,len0]<;>cases c.2.2.1==0<;>rfl
 have b1:(c.1==1)=false:=by simp[h1]
 have b2:(c.1==2)=false:=by simp[h2]
 have b3:(c.1==3)=false:=by simp[h3]
 have b4:(c.1==4)=false:=by simp[h4]
 have b5:(c.1==5)=false:=by simp[h5]
 have b6:(c.1==6)=false:=by simp[h6]
 have b7:(c.1==7)=false:=by simp[h7]
 simp only[b1,b2,b3,b4,b5,b6,b7,h1,h2,h3,h4,h5,h6,h7,a2_,a0_,h8_,n3_]
theorem va_ {l:ac_} (hl:Lk l) {c:ak_} (hs:Sm c.2.2.2.2.2.1.length):fw_ l c=some (cond (dd_ l c) 0 11,()):=by
 unfold fw_
 rw[li_,oe_.2 hl,if_pos rfl,a0_,un_ hl hs]
 cases dd_ l c<;>rfl
theorem ve_ {l:ac_} (hl:Lk l) (c:ak_):ga_ l c=some (cond (dd_ l c) 0 11,()):=by
 unfold ga_
 rw[lv_,oe_.2 hl,if_pos rfl,a0_,ov_ hl]
 cases dd_ l c<;>rfl
end
section
theorem aa7 {α τ σ ρ:Type} (l:List α) (f:τ→α→τ) (F:Nat→τ→σ) (R:τ→ρ) (t0:τ) {body:σ→Option (σ⊕ρ)}
  (h:∀ i x t,l[i]?=some x→body (F i t)=some (.inl (F (i+1) (f t x)))) (e:∀ t,body (F l.length t)=some (.inr (R t))):ag_ body (F 0 t0)=some (R (l.foldl f t0)):=by
 obtain⟨t,h1,h2⟩:=kr_ l (λ_=>f) F R t0 (λi t=>t=(l.take i).foldl f t0) rfl (λi x t hx ht=>⟨h i x t hx,by
  rw[ht,d9_,hx,m4_]
  rfl⟩) (λt _=>e t)
 rw[h2,h1,e1_]
theorem mr_ {α τ σ ρ υ:Type} (l:List α) (f:τ→α→τ) (F:Nat→τ→σ) (R:τ→ρ) (t0:τ) {body:σ→Option (σ⊕ρ)} {K:ρ→Option υ} {x:Option υ}
  (h:∀ i x t,l[i]?=some x→body (F i t)=some (.inl (F (i+1) (f t x)))) (e:∀ t,body (F l.length t)=some (.inr (R t))) (hk:K (R (l.foldl f t0))=x):(ag_ body (F 0 t0)).bind K=x:=by
 rw[aa7 l f F R t0 h e,a0_,hk]
theorem al1 {α β:Type}:∀ (l:List α) (m:List β) (i:Nat),(l.zip m).take i=(l.take i).zip (m.take i)
 | [],m,i=>by simp
 | x::l,[],i=>by cases i<;>simp
 | x::l,y::m,0=>rfl
 | x::l,y::m,i+1=>by simp[al1 l m i]
theorem kf_ {l:ac_} {c:List Int}:dc_ l c=true↔(c.length:Int)=l.1∧∀ n ∈ c,0≤n∧n≤l.2 - 1:=by
 unfold dc_
 rw[a1_,g9_,f2_]
 exact⟨λh=>⟨h.1,λn hn=>cg_.1 (h.2 n hn)⟩,λh=>⟨h.1,λn hn=>cg_.2 (h.2 n hn)⟩⟩
def ab3 (l:List Int) (k:Int):Int:=l.foldl (λs x=>cond (x==k) (w64 (s+1)) s) 0
def cl2 (code guess:List Int):Int:=(code.zip guess).foldl (λs p=>cond (p.1==p.2) (w64 (s+1)) s) 0
def comW (code guess:List Int):Int:=(List.range 10).foldl (λs (k:Nat)=>w64 (s+zf_ (ab3 code k) (ab3 guess k))) 0
theorem ar5 {l:List Int} {j:Nat} {x k:Int} (h:l[j]?=some x):ab3 (l.take (j+1)) k=cond (x==k) (w64 (ab3 (l.take j) k+1)) (ab3 (l.take j) k):=by
 unfold ab3
 rw[d9_,h,m4_]
 rfl
theorem qx_ {l:List Int} {k:Int} (hl:Sm l.length):ej_ l k=some (ab3 l k,()):=by
 unfold ej_ ab3
 refine mr_ l (λs x=>cond (x==k) (w64 (s+1)) s) (λi s=>(s,((i:Int),()))) (λs=>(s,())) 0 (λi x s hx=>by
  have hi:=am_ hx
  simp only[dlt hi,a5_,ah_ hx,a0_,az_ (show Sm i by unfold Sm at *; omega)]
  cases x==k<;>rfl) (λs=>by simp only[dnl,a2_]) rfl
theorem am8 {l:ac_} (hl:Lk l) {code guess:List Int} (hc:dc_ l code=true) (hg:dc_ l guess=true):il_ code guess=some (cl2 code guess,(w64 (comW code guess - cl2 code guess),())):=by
 obtain⟨c1,_⟩:=kf_.1 hc
 obtain⟨g1,_⟩:=kf_.1 hg
 have w2:=hl.w2
 have sc:Sm code.length:=by unfold Sm;omega
 have sg:Sm guess.length:=by unfold Sm;omega
 have hz:(code.zip guess).length=code.length:=by rw[n4_];omega
 unfold il_
 refine mr_ (code.zip guess) (λs p=>cond (p.1==p.2) (w64 (s+1)) s) (λi s=>(s,((i:Int),()))) (λs=>(s,())) 0 (λi p s hp=>by
  obtain⟨h1,h2⟩:=h7_.1 hp
  simp only[dlt (am_ h1),a5_,ah_ h1,ah_ h2,a0_,az_ (show Sm i by have:=am_ h1;unfold Sm at *; omega)]
  cases p.1==p.2<;>rfl) (λs=>by rw[hz];simp only[dnl,a2_]) ?_
 refine mr_ (List.range 10) (λs (k:Nat)=>w64 (s+zf_ (ab3 code k) (ab3 guess k))) (λi s=>(s,((i:Int),()))) (λs=>(s,())) 0 (λi k s hk=>by
  have hi:=am_ hk
  rw[i7_] at hi
  rw[m8_ hi] at hk
  obtain rfl:=a6_ hk
  simp only[show decide ((i:Int)<10)=true from b8_ (by omega),a5_,qx_ sc,qx_ sg,a0_,az_ (show Sm i by unfold Sm;omega)]) (λs=>by
  rw[i7_]
  rfl) rfl
theorem ar2 {l:ac_} (hl:Lk l) {code guess:List Int} (hc:dc_ l code=true) (hg:dc_ l guess=true):im_ code guess=some (cl2 code guess,(w64 (comW code guess - cl2 code guess),())):=by
  obtain⟨c1,c2⟩:=kf_.1 hc
  obtain⟨g1,g2⟩:=kf_.1 hg
  have w2:=hl.w2
  have s2:=hl.s2
  have hz:(code.zip guess).length=code.length:=by rw[n4_];omega
  have tk:∀ i,(code.zip guess).take i=(code.take i).zip (guess.take i):=λi=>al1 _ _ i
  let I:Nat→(Int×(List Int×List Int))→Prop:=λi t=>t.1=cl2 (code.take i) (guess.take i)∧t.2.1.length=10∧t.2.2.length=10∧∀ k:Nat,k<10→t.2.1[k]?=some (ab3 (code.take i) k)∧t.2.2[k]?=some (ab3 (guess.take i) k)
  have h1:=kr_ (code.zip guess) (λ_ (t:Int×(List Int×List Int)) p=>(cond (p.1==p.2) (w64 (t.1+1)) t.1,(t.2.1.set p.1.toNat (w64 ((t.2.1[p.1.toNat]?).getD 0+1)),t.2.2.set p.2.toNat (w64 ((t.2.2[p.2.toNat]?).getD 0+1)))))
    (λi t=>(t.1,((i:Int),(t.2.1,(t.2.2,()))))) (λt=>(t.1,(t.2.1,(t.2.2,())))) (0,([0,0,0,0,0,0,0,0,0,0],[0,0,0,0,0,0,0,0,0,0])) I
    (body:=λ(v0:(Int×(Int×((List Int)×((List Int)×Unit))))) =>
 (cond (decide (v0.2.1<(code.length:Int)))
 ((at? code v0.2.1).bind λv1 =>
 ((((at? guess v0.2.1).bind λv2 =>
 (cond (v1==v2)
 (some ((w64 (v0.1+1)),()))
 (some (v0.1,()))))).bind λv3 =>
 (cond (decide (v1<(10:Int)))
 ((at? v0.2.2.1 v1).bind λv4 =>
 ((at? v0.2.2.1 v1).bind λv5 =>
 (cond (decide (v1<(10:Int)))
 ((at? v0.2.2.1 v1).bind λv6 =>
 ((at? v0.2.2.1 v1).bind λv7 =>
 ((at? guess v0.2.1).bind λv8 =>
 (cond (decide (v8<(10:Int)))
 ((at? v0.2.2.2.1 v8).bind λv9 =>
 ((at? v0.2.2.2.1 v8).bind λv10 =>
 (cond (decide (v8<(10:Int)))
 ((at? v0.2.2.2.1 v8).bind λv11 =>
 ((at? v0.2.2.2.1 v8).bind λv12 =>
 (some (inl (v3.1,((w64 (v0.2.1+1)),((v0.2.2.1.set v1.toNat (w64 (v5+1))),((v0.2.2.2.1.set v8.toNat (w64 (v10+1))),()))))))))
 none)))
 none))))
 none)))
 none)))
 (some (inr (v0.1,(v0.2.2.1,(v0.2.2.2.1,())))))))
    ⟨rfl,rfl,rfl,λk hk=>⟨by
      match k,hk with
      | 0,_ | 1,_ | 2,_ | 3,_ | 4,_ | 5,_ | 6,_ | 7,_ | 8,_ | 9,_=>rfl,by
      match k,hk with
      | 0,_ | 1,_ | 2,_ | 3,_ | 4,_ | 5,_ | 6,_ | 7,_ | 8,_ | 9,_=>rfl⟩⟩ (λi p t hp ht=>by
      obtain⟨x,y⟩:=p
      obtain⟨hx,hy⟩:=h7_.1 hp
      obtain⟨t1,t2,t3,t4⟩:=ht
      have hx':=c2 x (b5_ hx)
      have hy':=g2 y (b5_ hy)
      have ax:at? t.2.1 x=some (ab3 (code.take i) x):=by
        have:=(t4 x.toNat (by omega)).1
        rw[show ((x.toNat:Nat):Int)=x by omega] at this
        unfold at?
        rw[if_pos hx'.1]
        exact this
      have ay:at? t.2.2 y=some (ab3 (guess.take i) y):=by
        have:=(t4 y.toNat (by omega)).2
        rw[show ((y.toNat:Nat):Int)=y by omega] at this
        unfold at?
        rw[if_pos hy'.1]
        exact this
      have gx:t.2.1[x.toNat]?=some (ab3 (code.take i) x):=by
        have:=(t4 x.toNat (by omega)).1
        rwa [show ((x.toNat:Nat):Int)=x by omega] at this
      have gy:t.2.2[y.toNat]?=some (ab3 (guess.take i) y):=by
        have:=(t4 y.toNat (by omega)).2
        rwa [show ((y.toNat:Nat):Int)=y by omega] at this
      refine⟨?_,?_,?_,?_,λk hk => ?_⟩
      · simp only[dlt (am_ hx),a5_,ah_ hx,ah_ hy,a0_,ax,ay,show decide (x<10)=true from b8_ (by omega),show decide (y<10)=true from b8_ (by omega),az_ (show Sm i by have:=am_ hx;unfold Sm;omega),gx,gy,f7_]
        cases x==y<;>rfl
      · show cond (x==y) (w64 (t.1+1)) t.1=cl2 (code.take (i+1)) (guess.take (i+1))
        unfold cl2
        rw[← tk,d9_,hp,m4_,tk,t1]
        rfl
      · simp[t2]
      · simp[t3]
      · obtain⟨q1,q2⟩:=t4 k hk
        constructor
        · show (t.2.1.set x.toNat (w64 ((t.2.1[x.toNat]?).getD 0+1)))[k]?=_
          rw[ar5 hx,gx,f7_,g4_]
          by_cases e:x.toNat=k
          · have e2:x=(k:Int):=by omega
            rw[if_pos e,if_pos (by omega),e2,d8_,a5_]
          · have e2:(x==(k:Int))=false:=by simp;omega
            rw[if_neg e,q1,e2,a2_]
        · show (t.2.2.set y.toNat (w64 ((t.2.2[y.toNat]?).getD 0+1)))[k]?=_
          rw[ar5 hy,gy,f7_,g4_]
          by_cases e:y.toNat=k
          · have e2:y=(k:Int):=by omega
            rw[if_pos e,if_pos (by omega),e2,d8_,a5_]
          · have e2:(y==(k:Int))=false:=by simp;omega
            rw[if_neg e,q2,e2,a2_]) (λt _=>by rw[hz];simp only[dnl,a2_])
  obtain⟨t,⟨t1,t2,t3,t4⟩,h2⟩:=h1
  rw[hz] at t1 t4
  rw[e1_,show guess.take code.length=guess by rw[g8_ (by omega)]] at t1
  unfold im_
  refine (congrArg (λo=>Option.bind o _) h2).trans ?_
  rw[a0_]
  refine mr_ (List.range 10) (λs (k:Nat)=>w64 (s+zf_ (ab3 code k) (ab3 guess k))) (λi s=>(s,((i:Int),()))) (λs=>(s,())) 0 (λi k s hk=>by
    have hi:=am_ hk
    rw[i7_] at hi
    rw[m8_ hi] at hk
    obtain rfl:=a6_ hk
    obtain⟨q1,q2⟩:=t4 i hi
    rw[e1_] at q1
    rw[show guess.take code.length=guess by rw[g8_ (by omega)]] at q2
    simp only[show decide ((i:Int)<10)=true from b8_ (by omega),a5_,ah_ q1,ah_ q2,a0_,az_ (show Sm i by unfold Sm;omega)]) (λs=>by
    rw[i7_]
    rfl) ?_
  rw[t1]
  rfl
end
section
def wx_ (code:List Int) (a b:Int):List Int:=(code.take (b+1).toNat).drop a.toNat
def sumW (l:List Int):Int:=l.foldl (λs x=>w64 (s+x)) 0
def gt0 (code:List Int) (i:Int):Int:=(at? code i).getD 0
def plV (c:ak_) (code:List Int):Bool :=
 cond (c.1==1) (gt0 code c.2.1==c.2.2.2.1) <|
 cond (c.1==2) (sumW (wx_ code c.2.1 c.2.2.1)==c.2.2.2.1) <|
 cond (c.1==3) (decide (gt0 code c.2.1<gt0 code c.2.2.1)) <|
 cond (c.1==4) (gt0 code c.2.1==gt0 code c.2.2.1) <|
 cond (c.1==5) (ab3 code c.2.2.2.1==c.2.2.2.2.1) <|
 cond (c.1==6) (cond (cl2 code c.2.2.2.2.2.1==c.2.2.2.1) (w64 (comW code c.2.2.2.2.2.1 - cl2 code c.2.2.2.2.2.1)==c.2.2.2.2.1) false) <|
 cond (c.1==7) ((gt0 code c.2.1).tmod c.2.2.2.1==c.2.2.2.2.1) false
def tr (c:ak_) (code:List Int):Bool:=plV c code != c.2.2.2.2.2.2
theorem gt0_at {code:List Int} {i x:Int} (h:at? code i=some x):gt0 code i=x:=by unfold gt0;rw[h];rfl
theorem qc_ {l:ac_} (hl:Lk l) {c:ak_} {code:List Int} (hc:dd_ l c=true) (hk:dc_ l code=true):fl_ c code=some (tr c code,())∧fy_ c code=some (tr c code,()):=by
 obtain⟨c1,c2⟩:=kf_.1 hk
 have w1:=hl.w1;have w2:=hl.w2;have s1:=hl.s1;have s2:=hl.s2
 have sc:Sm code.length:=by unfold Sm;omega
 unfold dd_ at hc
 have hat:∀ i,wi i 0 (l.1 - 1)=true→at? code i=some (gt0 code i):=by
  intro i hi
  obtain⟨a,b⟩:=cg_.1 hi
  obtain⟨x,h1⟩:=bd_ (l:=code) (i:=i.toNat) (by omega)
  have h2:at? code i=some x:=by unfold at?; rw[if_pos a];exact h1
  rw[h2,gt0_at h2]
 unfold fl_ fy_ ni_ tr plV
 by_cases h1:c.1=1
 ·simp only[h1,k5_,a1_] at hc
  have hx:=hat _ hc.1
  simp only[h1,hx,d8_,a5_,a0_,and_self]
 have b1:(c.1==1)=false:=by simp[h1]
 simp only[b1,a2_]
 by_cases h2:c.1=2
 ·simp only[h2,k5_,a1_,show ¬ ((2:Int)=1) by omega,h8_] at hc
  obtain⟨hA,hB,hAB,_⟩:=hc
  obtain⟨a1,a2⟩:=cg_.1 hA
  obtain⟨d1,d2⟩:=cg_.1 hB
  have hab:c.2.1≤c.2.2.1:=by simpa using hAB
  have hsub:sub? code c.2.1 (w64 (c.2.2.1+1))=some (wx_ code c.2.1 c.2.2.1):=by
   rw[ki_ (by omega) (by omega)]
   unfold sub? wx_
   rw[if_pos ⟨a1,by omega,by omega⟩]
  have hsl:(wx_ code c.2.1 c.2.2.1).length=(c.2.2.1 - c.2.1+1).toNat:=by
   unfold wx_
   rw[j6_,c7_]
   omega
  have hsg:∀ (j:Nat) x,(wx_ code c.2.1 c.2.2.1)[j]?=some x→at? code (c.2.1+(j:Int))=some x:=by
   intro j x hj
   have hlt:=am_ hj
   unfold wx_ at hj
   rw[List.getElem?_drop,j1_,if_pos (by omega)] at hj
   unfold at?
   rw[if_pos (by omega),show (c.2.1+(j:Int)).toNat=c.2.1.toNat+j by omega]
   exact hj
  simp only[h2,d8_,a5_,hsub,a0_]
  constructor
  ·have:=aa7 (wx_ code c.2.1 c.2.2.1) (λs x=>w64 (s+x)) (λi s=>(s,(c.2.1+(i:Int),()))) (λs=>(s,())) 0 (body:=λ(v1:(Int×(Int×Unit))) =>
    (cond (decide (v1.2.1≤c.2.2.1))
    ((at? code v1.2.1).bind λv2 =>
    (some (inl ((w64 (v1.1+v2)),((w64 (v1.2.1+1)),())))))
    (some (inr (v1.1,()))))) (λi x s hx=>by
    have hi:=am_ hx
    simp only[show decide (c.2.1+(i:Int)≤c.2.2.1)=true from b8_ (by omega),a5_,hsg i x hx,a0_,ki_ (n:=c.2.1+(i:Int)+1) (by omega) (by omega)]
    rw[show c.2.1+(i:Int)+1=c.2.1+((i+1:Nat):Int) by omega]) (λs=>by
    simp only[show decide (c.2.1+((wx_ code c.2.1 c.2.2.1).length:Int)≤c.2.2.1)=false from c2_ (by omega),a2_])
   simp only[Int.natCast_zero,Int.add_zero] at this
   rw[this]
   rfl
  ·refine congrArg (λo=>Option.bind o _) (?_:_=some (sumW (wx_ code c.2.1 c.2.2.1)==c.2.2.2.1,())) |>.trans rfl
   refine mr_ (wx_ code c.2.1 c.2.2.1) (λs x=>w64 (s+x)) (λi s=>(s,((i:Int),()))) (λs=>(s,())) 0 (λi x s hx=>by
    have hi:=am_ hx
    simp only[dlt hi,a5_,ah_ hx,a0_,az_ (show Sm i by unfold Sm;omega)]) (λs=>by simp only[dnl,a2_]) rfl
 have b2:(c.1==2)=false:=by simp[h2]
 simp only[b2,a2_]
 by_cases h3:c.1=3
 ·simp only[h3,k5_,a1_,show ¬ ((3:Int)=1) by omega,show ¬ ((3:Int)=2) by omega,h8_,n8_] at hc
  simp only[h3,hat _ hc.1,hat _ hc.2.1,d8_,a5_,a0_,and_self]
 have b3:(c.1==3)=false:=by simp[h3]
 simp only[b3,a2_]
 by_cases h4:c.1=4
 ·simp only[h4,k5_,a1_,show ¬ ((4:Int)=1) by omega,show ¬ ((4:Int)=2) by omega,h8_,n9_] at hc
  simp only[h4,hat _ hc.1,hat _ hc.2.1,d8_,a5_,a0_,and_self]
 have b4:(c.1==4)=false:=by simp[h4]
 simp only[b4,a2_]
 by_cases h5:c.1=5
 ·have hs:=qx_ (k:=c.2.2.2.1) sc
  simp only[h5,d8_,a5_,hs,a0_,true_and]
  have:=hs
  unfold ej_ at this
  obtain⟨y,h6,h7⟩:=bnd this
  rw[h6]
  have e:y.1=ab3 code c.2.2.2.1:=congrArg Prod.fst (a6_ h7)
  rw[a0_,a0_,e]
 have b5:(c.1==5)=false:=by simp[h5]
 simp only[b5,a2_]
 by_cases h6:c.1=6
 ·simp only[h6,k5_,a1_,show ¬ ((6:Int)=1) by omega,show ¬ ((6:Int)=2) by omega,show ¬ ((6:Int)=3∨(6:Int)=4) by omega,show ¬ ((6:Int)=5) by omega,h8_] at hc
  simp only[h6,d8_,a5_,am8 hl hk hc.1,ar2 hl hk hc.1,a0_]
  cases cl2 code c.2.2.2.2.2.1==c.2.2.2.1<;>exact⟨rfl,rfl⟩
 have b6:(c.1==6)=false:=by simp[h6]
 simp only[b6,a2_]
 by_cases h7:c.1=7
 ·simp only[h7,k5_,a1_,show ¬ ((7:Int)=1) by omega,show ¬ ((7:Int)=2) by omega,show ¬ ((7:Int)=3∨(7:Int)=4) by omega,show ¬ ((7:Int)=5) by omega,show ¬ ((7:Int)=6) by omega,h8_] at hc
  obtain⟨n1,n2⟩:=cg_.1 hc.2.1
  have hm:md (gt0 code c.2.1) c.2.2.2.1=some ((gt0 code c.2.1).tmod c.2.2.2.1):=da0 (by omega)
  simp only[h7,hat _ hc.1,hm,d8_,a5_,a0_,and_self]
 ·simp[h1,h2,h3,h4,h5,h6,h7] at hc
end
section
def ja_ (S:Nat):Nat→List (List Int)
 | 0=>[[]]
 | W+1=>(List.range S).flatMap λ(x:Nat)=>(ja_ S W).map λc=>(x:Int)::c
theorem bg7 {α β:Type} {f:α→List β} {m:Nat}:∀ (l:List α),(∀ x ∈ l,(f x).length=m)→(l.flatMap f).length=l.length * m
 | [],_=>by simp
 | x::l,h=>by
  rw[p8_,a8_,h x (by simp),bg7 l (λy hy=>h y (by simp[hy])),c8_,j5_]
  omega
theorem bg8 {α β:Type} {f:α→List β} {m:Nat}:∀ (l:List α) (q r:Nat) (x:α),(∀ x ∈ l,(f x).length=m)→r<m→l[q]?=some x→(l.flatMap f)[q * m+r]?=(f x)[r]?
 | [],q,r,x,h,hr,hq=>by simp at hq
 | y::l,0,r,x,h,hr,hq=>by
  have e:y=x:=by simpa using hq
  subst e
  rw[p8_,Nat.zero_mul,b0_,b2_ (by rw[h y (by simp)];exact hr)]
 | y::l,q+1,r,x,h,hr,hq=>by
  have hq':l[q]?=some x:=by simpa using hq
  have hl:=h y (by simp)
  rw[p8_,c4_ (by rw[hl,j5_];omega),hl,show (q+1) * m+r - m=q * m+r by rw[j5_];omega]
  exact bg8 l q r x (λz hz=>h z (by simp[hz])) hr hq'
theorem qf_ (S:Nat):∀ W,(ja_ S W).length=S ^ W
 | 0=>rfl
 | W+1=>by
  unfold ja_
  rw[bg7 (m:=S ^ W) _ (λx _=>by rw[d6_,qf_ S W]),i7_,k0_,k8_]
theorem ua_ (S:Nat):∀ W c,c ∈ ja_ S W↔c.length=W∧∀ n ∈ c,0≤n∧n<(S:Int)
 | 0,c=>by
  unfold ja_
  rw[e7_]
  constructor
  ·rintro rfl;exact⟨rfl,by simp⟩
  ·rintro⟨h,_⟩;exact n5_.1 h
 | W+1,c=>by
  unfold ja_
  rw[List.mem_flatMap]
  constructor
  ·rintro⟨x,hx,hc⟩
   obtain⟨d,hd,rfl⟩:=d1_.1 hc
   obtain⟨h1,h2⟩:=(ua_ S W d).1 hd
   have:=m5_.1 hx
   refine⟨by rw[c8_,h1],λn hn => ?_⟩
   rcases d4_.1 hn with rfl | hn
   ·omega
   ·exact h2 n hn
  ·rintro⟨h1,h2⟩
   cases c with
   | nil=>simp at h1
   | cons x c =>
    obtain⟨a,b⟩:=h2 x (by simp)
    refine⟨x.toNat,m5_.2 (by omega),d1_.2 ⟨c,(ua_ S W c).2 ⟨by simpa using h1,λn hn=>h2 n (by simp[hn])⟩,?_⟩⟩
    rw[show ((x.toNat:Nat):Int)=x by omega]
def dig (S:Nat):Nat→Nat→List Int
 | 0,_=>[]
 | W+1,i=>dig S W (i / S)++[((i % S:Nat):Int)]
theorem cg1 (S:Nat):∀ W i,(dig S W i).length=W
 | 0,_=>rfl
 | W+1,i=>by unfold dig;rw[a8_,cg1 S W];rfl
theorem bh6 {S:Nat} (hS:0<S):∀ (W q r:Nat),q<S→r<S ^ W→dig S (W+1) (q * S ^ W+r)=(q:Int)::dig S W r
 | 0,q,r,hq,hr=>by
  have:r=0:=by simpa using hr
  subst this
  simp[dig,k6_ hq]
 | W+1,q,r,hq,hr=>by
  have e1:(q * S ^ (W+1)+r) / S=q * S ^ W+r / S:=by
   rw[k0_,← Nat.mul_assoc,k8_ (q * S ^ W) S,Nat.mul_add_div hS]
  have e2:(q * S ^ (W+1)+r) % S=r % S:=by
   rw[k0_,← Nat.mul_assoc,k8_ (q * S ^ W) S,Nat.mul_add_mod]
  have hr':r / S<S ^ W:=Nat.div_lt_of_lt_mul (by rw[k8_,← k0_];exact hr)
  rw[dig,e1,e2,bh6 hS W q (r / S) hq hr']
  rfl
theorem qg_ {S:Nat} (hS:0<S):∀ (W i:Nat),i<S ^ W→(ja_ S W)[i]?=some (dig S W i)
 | 0,i,h=>by
  have:i=0:=by simpa using h
  subst this;rfl
 | W+1,i,h=>by
  have hP:0<S ^ W:=Nat.pow_pos hS
  have hr:i % S ^ W<S ^ W:=Nat.mod_lt _ hP
  have hq:i / S ^ W<S:=Nat.div_lt_of_lt_mul (by rw[← k0_];exact h)
  have he:i=i / S ^ W * S ^ W+i % S ^ W:=by rw[k8_];exact (Nat.div_add_mod i (S ^ W)).symm
  rw[he,bh6 hS W _ _ hq hr]
  unfold ja_
  rw[bg8 (m:=S ^ W) _ _ _ (i / S ^ W) (λx _=>by rw[d6_,qf_]) hr (by rw[m8_ hq]),d5_,qg_ hS W _ hr]
  rfl
def rdg (l:ac_) (cl:List ak_):List (List Int):=(ja_ l.2.toNat l.1.toNat).filter λc=>cl.all (tr · c)
theorem bh9 {l:ac_} (hl:Lk l) {c:List Int}:c ∈ ja_ l.2.toNat l.1.toNat↔dc_ l c=true:=by
 have:=hl.w1;have:=hl.s1
 rw[ua_,kf_]
 constructor
 ·rintro⟨a,b⟩;exact⟨by omega,λn hn=>by have:=b n hn;omega⟩
 ·rintro⟨a,b⟩;exact⟨by omega,λn hn=>by have:=b n hn;omega⟩
theorem cy7 {l:ac_} (hl:Lk l):l.2.toNat ^ l.1.toNat≤10000:=by
 have:=hl.w1;have:=hl.w2;have:=hl.s1;have:=hl.s2
 have h1:l.2.toNat ^ l.1.toNat≤10 ^ l.1.toNat:=Nat.pow_le_pow_left (by omega) _
 have h2:10 ^ l.1.toNat≤10 ^ 4:=Nat.pow_le_pow_right (by omega) (by omega)
 omega
theorem cj8 (cl:List ak_) (code:List Int):(!(cl.any λc=>!(tr c code)))=cl.all (tr · code):=ug_ cl λc=>tr c code
theorem aw5 {l:ac_} (hl:Lk l) {cl:List ak_} (hn:cl.length≤20) {code:List Int} (hc:∀ c ∈ cl,dd_ l c=true) (hk:dc_ l code=true):∃ r,jx_ cl code=some (r,())∧decide (r<0)=cl.all (tr · code):=by
 obtain⟨n,h1,h2,_⟩:=if_lt (l:=cl) (by unfold Sm;omega) (λc=>!(tr c code)) (body:=λ(v0:(Int×Unit)) =>
  (cond (decide (v0.1<(cl.length:Int)))
  ((at? cl v0.1).bind λv1 =>
  ((fl_ v1 code).bind λv2 =>
  (cond (!v2.1)
  (some (inr (inr (v0.1,()))))
  (some (inl ((w64 (v0.1+1)),()))))))
  (some (inr (inl ()))))) (λi c hi=>by
  simp only[dlt (am_ hi),a5_,ah_ hi,a0_,(qc_ hl (hc c (b5_ hi)) hk).1]
  cases tr c code<;>rfl) (by simp only[dnl,a2_])
 exact⟨n,h1,by rw[h2,cj8]⟩
theorem az1 {l:ac_} (hl:Lk l) {cl:List ak_} (hn:cl.length≤20) {code:List Int} (hc:∀ c ∈ cl,dd_ l c=true) (hk:dc_ l code=true):∃ r,fz_ cl code=some (r,())∧decide (r<0)=cl.all (tr · code):=by
 obtain⟨n,h1,h2,_⟩:=if_lt (l:=cl) (by unfold Sm;omega) (λc=>!(tr c code)) (body:=λ(v0:(Int×Unit)) =>
  (cond (decide (v0.1<(cl.length:Int)))
  ((at? cl v0.1).bind λv1 =>
  ((fy_ v1 code).bind λv2 =>
  (cond (!v2.1)
  (some (inr (inr (v0.1,()))))
  (some (inl ((w64 (v0.1+1)),()))))))
  (some (inr (inl ()))))) (λi c hi=>by
  simp only[dlt (am_ hi),a5_,ah_ hi,a0_,(qc_ hl (hc c (b5_ hi)) hk).2]
  cases tr c code<;>rfl) (by simp only[dnl,a2_])
 exact⟨n,h1,by rw[h2,cj8]⟩
theorem rep_set {p:Nat} {x:Int} {t:List Int}:(List.replicate (p+1) (0:Int)++t).set p x=List.replicate p 0++(x::t):=by
 rw[List.set_append_left _ _ (by rw[f4_];omega),q6_,q4_ _ _ (by rw[f4_];omega),f4_,j9_]
 simp
theorem cu8 {l:ac_} (hl:Lk l) {S:Nat} (hS:l.2=(S:Int)):∀ (p n:Nat) (t:List Int),p≤4→n≤10000→ag_ (ρ:=((List Int)×Unit)) (λ(v4:(Int×(Int×((List Int)×Unit)))) =>
 (cond (decide (0≤v4.2.1))
 ((md v4.1 l.2).bind λv5 =>
 ((at? v4.2.2.1 v4.2.1).bind λv6 =>
 ((at? v4.2.2.1 v4.2.1).bind λv7 =>
 ((dv v4.1 l.2).bind λv8 =>
 (some (inl (v8,((w64 (v4.2.1 - 1)),((v4.2.2.1.set v4.2.1.toNat v5),())))))))))
 (some (inr (v4.2.2.1,()))))) ((n:Int),((p:Int) - 1,(List.replicate p 0++t,())))=some (dig S p n++t,()):=by
  have s1:=hl.s1;have s2:=hl.s2
  intro p
  induction p with
  | zero =>
    intro n t _ _
    refine mg_ ?_
    simp[dig]
  | succ p ih =>
    intro n t hp hn
    have hd:dv (n:Int) l.2=some ((n / S:Nat):Int):=by
      unfold dv
      have:n / S≤n:=Nat.div_le_self n S
      rw[hS,if_neg (by omega),show (n:Int).tdiv (S:Int)=((n / S:Nat):Int) from (Int.ofNat_tdiv ..).symm]
      generalize n / S=q at this
      rw[ki_ (by omega) (by omega)]
    have hm:md (n:Int) l.2=some ((n % S:Nat):Int):=by
      rw[hS,da0 (by omega),show (n:Int).tmod (S:Int)=((n % S:Nat):Int) from (Int.ofNat_tmod ..).symm]
    obtain⟨y,hy⟩:=bd_ (l:=List.replicate (p+1) (0:Int)++t) (i:=p) (by simp;omega)
    have e:((p+1:Nat):Int) - 1=((p:Nat):Int):=by omega
    refine (pf_ (s':=(((n / S:Nat):Int),((p:Int) - 1,(List.replicate p 0++(((n % S:Nat):Int)::t),())))) ?_).trans ?_
    · simp only[e,show decide (0≤(p:Int))=true from b8_ (by omega),a5_,hm,hd,ah_ hy,a0_,b9_,rep_set,ki_ (n:=(p:Int) - 1) (by omega) (by omega)]
    · rw[ih (n / S) _ (by omega) (c9_ (Nat.div_le_self n S) hn)]
      simp[dig]
theorem bu6 {l:ac_} (hl:Lk l) {cl:List ak_} (hn:cl.length≤20) (hc:∀ c ∈ cl,dd_ l c=true):nf_ l cl=some (rdg l cl,()):=by
  have w1:=hl.w1;have w2:=hl.w2;have s1:=hl.s1;have s2:=hl.s2
  obtain⟨W,hW⟩:∃ W:Nat,l.1=(W:Int):=⟨l.1.toNat,by omega⟩
  obtain⟨S,hS⟩:∃ S:Nat,l.2=(S:Int):=⟨l.2.toNat,by omega⟩
  have hpow:S ^ W≤10000:=by have:=cy7 hl;rwa [hW,hS,b9_,b9_] at this
  have hSp:0<S:=by omega
  have hlen:=qf_ S W
  have e1:ag_ (ρ:=(Int×Unit)) (λ(v0:(Int×(Int×Unit))) =>
      (cond (decide (v0.2.1<l.1))
      (some (inl ((w64 (v0.1 * l.2)),((w64 (v0.2.1+1)),()))))
      (some (inr (v0.1,()))))) (1,(0,()))=some (((S ^ W:Nat):Int),()):=by
    obtain⟨t,rfl,h2⟩:=kr_ (List.range W) (λi t x=>t * S) (λi (t:Nat)=>((t:Int),((i:Int),()))) (λt=>((t:Int),())) 1 (λi t=>t=S ^ i) (body:=λ(v0:(Int×(Int×Unit))) =>
      (cond (decide (v0.2.1<l.1))
      (some (inl ((w64 (v0.1 * l.2)),((w64 (v0.2.1+1)),()))))
      (some (inr (v0.1,()))))) rfl (λi x t hi ht=>by
      have hi2:=am_ hi
      rw[i7_] at hi2
      have:S ^ (i+1)≤10000:=c9_ (Nat.pow_le_pow_right hSp (by omega)) hpow
      refine⟨?_,by rw[ht,k0_]⟩
      simp only[show decide ((i:Int)<l.1)=true from b8_ (by omega),a5_,az_ (show Sm i by unfold Sm;omega)]
      rw[hS,← Int.natCast_mul,ht,show S ^ i * S=S ^ (i+1) from (k0_ ..).symm,ki_ (by omega) (by omega)]) (λt _=>by
      rw[i7_]
      simp only[show decide ((W:Int)<l.1)=false from c2_ (by omega),a2_])
    rw[i7_] at h2
    exact h2
  unfold nf_
  refine (congrArg (λo=>Option.bind o _) e1).trans ?_
  rw[a0_]
  obtain⟨t,h1,h2⟩:=kr_ (ja_ S W) (λj t c=>cond (cl.all (tr · c)) (t++[c]) t) (λj (t:List (List Int))=>(t,((j:Int),()))) (λt=>(t,())) [] (λj t=>t=((ja_ S W).take j).filter λc=>cl.all (tr · c)) (body:=λ(v2:((List (List Int))×(Int×Unit))) =>
 (cond (decide (v2.2.1<((S ^ W:Nat):Int)))
 ((((mk? (α:=Int) l.1 0).bind λv3 =>
 ((ag_ (ρ:=((List Int)×Unit)) (λ(v4:(Int×(Int×((List Int)×Unit)))) =>
 (cond (decide (0≤v4.2.1))
 ((md v4.1 l.2).bind λv5 =>
 ((at? v4.2.2.1 v4.2.1).bind λv6 =>
 ((at? v4.2.2.1 v4.2.1).bind λv7 =>
 ((dv v4.1 l.2).bind λv8 =>
 (some (inl (v8,((w64 (v4.2.1 - 1)),((v4.2.2.1.set v4.2.1.toNat v5),())))))))))
 (some (inr (v4.2.2.1,()))))) (v2.2.1,((w64 (l.1 - 1)),(v3,())))).bind λv9 =>
 ((jx_ cl v9.1).bind λv10 =>
 (cond (decide (v10.1<0))
 ((push? (α:=(List Int)) v2.1 [v9.1]).bind λv11 =>
 (some (v11,())))
 (some (v2.1,()))))))).bind λv12 =>
 (some (inl (v12.1,((w64 (v2.2.1+1)),())))))
 (some (inr (v2.1,()))))) rfl (λj c t hj ht=>by
    have hj2:=am_ hj
    rw[hlen] at hj2
    have hg:=qg_ hSp W j hj2
    rw[hj] at hg
    obtain rfl:=a6_ hg
    have hok:dc_ l (dig S W j)=true:=(bh9 hl (c:=dig S W j)).1 (by rw[hW,hS,b9_,b9_];exact b5_ hj)
    obtain⟨r,r1,r2⟩:=aw5 hl hn hc hok
    have hdig:=cu8 hl hS W j [] (by omega) (by omega)
    rw[e9_,e9_] at hdig
    have hb:=k9_ (λc=>cl.all (tr · c)) ((ja_ S W).take j)
    rw[c7_] at hb
    refine⟨?_,?_⟩
    · simp only[show decide ((j:Int)<((S ^ W:Nat):Int))=true from b8_ (by omega),a5_,sf_ (show 0≤l.1 by omega) (show l.1≤2147483648 by omega),a0_,hl.ww,show l.1.toNat=W by omega,az_ (show Sm j by unfold Sm;omega)]
      rw[show l.1 - 1=(W:Int) - 1 by omega]
      have:∀ (K:(List Int×Unit)→Option ((List (List Int)×(Int×Unit))⊕(List (List Int)×Unit))),Option.bind (some (dig S W j,())) K=K (dig S W j,()):=λK=>rfl
      rw[hdig,a0_,r1,a0_,r2]
      cases hp:cl.all (tr · (dig S W j)) with
      | false=>rfl
      | true =>
        rw[a5_,ae4 (by rw[ht];simp only[e0_];omega)]
        rfl
    · rw[ht,d9_,hj,n6_]
      cases hp:cl.all (tr · (dig S W j))<;>simp[hp]) (λt _=>by
    rw[hlen]
    simp only[dnl,a2_])
  refine (congrArg (λo=>Option.bind o _) h2).trans ?_
  rw[a0_,h1,e1_]
  unfold rdg
  rw[hW,hS,b9_,b9_]
end
section
theorem bp3 {σ ρ:Type} {body:σ→Option (σ⊕ρ)} (F:Nat→σ) {n:Nat} {r:ρ} (h:∀ j,j<n→body (F j)=some (.inl (F (j+1)))) (e:body (F n)=some (.inr r)):ag_ body (F 0)=some r:=by
 have:=mf_ (body:=body) (λj s=>s=F j) (λx=>x=r) n 0 (F 0) rfl (λj s _ hj q=>by subst q;exact .inl ⟨_,h j (by omega),rfl⟩) (λs q=>by subst q;rw[b0_];exact⟨_,e,rfl⟩)
 obtain⟨x,h1,rfl⟩:=this
 exact h1
theorem cn8 {p:List Int} {x y:Int} {t:List Int}:(p++x::t).set p.length y=p++y::t:=by
 rw[q4_ _ _ (c3_ _),j9_]
 rfl
theorem ct5 {p:List Int} {x:Int} {t:List Int}:at? (p++x::t) ((p.length:Nat):Int)=some x:=by
 rw[az8,c4_ (c3_ _),j9_]
 rfl
def odoB (l:ac_):(Int×(List Int×Unit))→Option ((Int×(List Int×Unit))⊕(Int×(List Int×Unit))):=(λ(v3:(Int×((List Int)×Unit))) =>
 (((cond (decide (0≤v3.1))
 ((at? v3.2.1 v3.1).bind λv4 =>
 ((at? v3.2.1 v3.1).bind λv5 =>
 (some ((v5==(w64 (l.2 - 1))),()))))
 (some (false,())))).bind λv6 =>
 (cond v6.1
 ((at? v3.2.1 v3.1).bind λv7 =>
 ((at? v3.2.1 v3.1).bind λv8 =>
 (some (inl ((w64 (v3.1 - 1)),((v3.2.1.set v3.1.toNat 0),()))))))
 (some (inr (v3.1,(v3.2.1,())))))))
theorem odo {l:ac_} (hl:Lk l) {S:Nat} (hS:l.2=(S:Int)):∀ (W j k:Nat),W≤4→∃ (i:Int) (c:List Int),
  ag_ (odoB l) ((W:Int) - 1,(dig S W j++List.replicate k 0,()))=some (i,(c,())) ∧
  (j+1=S ^ W→i<0)∧(j+1<S ^ W→0≤i∧∃ x,at? c i=some x∧c.set i.toNat (w64 (x+1))=dig S W (j+1)++List.replicate k 0):=by
 have s1:=hl.s1;have s2:=hl.s2
 intro W
 induction W with
 | zero =>
  intro j k _
  refine⟨_,_,mg_ (r:=((0:Int) - 1,(dig S 0 j++List.replicate k 0,()))) rfl,λ_=>by omega,λh => ?_⟩
  simp at h
 | succ W ih =>
  intro j k hW
  have hd:dig S (W+1) j++List.replicate k 0=dig S W (j / S)++((j % S:Nat):Int)::List.replicate k 0:=by rw[dig,b1_];rfl
  have hlen:=cg1 S W (j / S)
  have hg:at? (dig S W (j / S)++((j % S:Nat):Int)::List.replicate k 0) ((W:Nat):Int)=some ((j % S:Nat):Int):=by
   have:=ct5 (p:=dig S W (j / S)) (x:=((j % S:Nat):Int)) (t:=List.replicate k 0)
   rwa [hlen] at this
  have hse:∀ y:Int,(dig S W (j / S)++((j % S:Nat):Int)::List.replicate k 0).set W y=dig S W (j / S)++y::List.replicate k 0:=λy=>by
   have:=cn8 (p:=dig S W (j / S)) (x:=((j % S:Nat):Int)) (y:=y) (t:=List.replicate k 0)
   rwa [hlen] at this
  have hmod:j % S<S:=Nat.mod_lt _ (by omega)
  have hdm:=Nat.div_add_mod j S
  have hpos:decide (0≤(W:Int))=true:=b8_ (by omega)
  rw[hd,show ((W+1:Nat):Int) - 1=(W:Int) by omega]
  by_cases h9:j % S=S - 1
  ·obtain⟨i,c,e1,e2,e3⟩:=ih (j / S) (k+1) (by omega)
   have hj1:j+1=S * (j / S+1):=by rw[Nat.mul_add,q8_];omega
   have hb:(((j % S:Nat):Int)==w64 (l.2 - 1))=true:=by rw[hl.ws,hS];simp;omega
   refine⟨i,c,?_,λh=>e2 ?_,λh => ?_⟩
   ·rw[← e1]
    refine pf_ ?_
    unfold odoB
    simp only[hpos,a5_,hg,a0_,hb,b9_,hse,ki_ (n:=(W:Int) - 1) (by omega) (by omega)]
    rfl
   ·rw[k0_,k8_] at h
    rw[hj1] at h
    exact Nat.eq_of_mul_eq_mul_left (by omega) h
   ·have:j / S+1<S ^ W:=by
     rw[k0_,k8_,hj1] at h
     exact Nat.lt_of_mul_lt_mul_left h
    obtain⟨f1,x,f2,f3⟩:=e3 this
    refine⟨f1,x,f2,?_⟩
    rw[f3,dig,hj1,Nat.mul_div_cancel_left _ (by omega),Nat.mul_mod_right,b1_]
    rfl
  ·have hb:(((j % S:Nat):Int)==w64 (l.2 - 1))=false:=by rw[hl.ws,hS];simp;omega
   refine⟨_,_,mg_ (r:=((W:Int),(dig S W (j / S)++((j % S:Nat):Int)::List.replicate k 0,()))) (by
    unfold odoB
    simp only[hpos,a5_,hg,a0_,hb,a2_]),λh => ?_,λh=>⟨by omega,_,hg,?_⟩⟩
   ·exfalso
    have:(j+1) % S=0:=by rw[h,k0_];exact Nat.mul_mod_left _ _
    have h2:(j+1) % S=j % S+1:=by rw[Nat.add_mod,k6_ (show 1<S by omega),k6_ (by omega)]
    omega
   ·simp only[b9_]
    rw[hse,ki_ (by omega) (by omega),dig,b1_]
    have h2:(j+1) % S=j % S+1:=by rw[Nat.add_mod,k6_ (show 1<S by omega),k6_ (by omega)]
    have h3:(j+1) / S=j / S:=by
     refine Nat.div_eq_of_lt_le ?_ ?_
     ·rw[k8_];omega
     ·rw[k8_,Nat.mul_add];omega
    rw[h2,h3]
    simp
theorem bh5 (S:Nat):∀ W,List.replicate W (0:Int)=dig S W 0
 | 0=>rfl
 | W+1=>by rw[dig,Nat.zero_div,Nat.zero_mod,← bh5 S W,q6_];rfl
noncomputable def by2 (l:ac_) (n:Int) (c:List Int):Option ((Unit×(Unit×((List Int)×((Int×Unit)×Unit))))⊕((Unit×(Unit×((List Int)×((Int×Unit)×Unit))))⊕(Int×Unit))) :=
 ((ag_ (odoB l) ((w64 (l.1 - 1)),(c,()))).bind λv9 =>
 (cond (decide (v9.1<0))
 (some (inr (inr (n,()))))
 ((at? v9.2.1 v9.1).bind λv10 =>
 ((at? v9.2.1 v9.1).bind λv11 =>
 ((at? v9.2.1 v9.1).bind λv12 =>
 ((at? v9.2.1 v9.1).bind λv13 =>
 (some (inl ((),((),((v9.2.1.set v9.1.toNat (w64 (v11+1))),((n,()),()))))))))))))
noncomputable def cntX (a0:ac_) (a1:List ak_):Option (Int×Unit) :=
 ((mk? (α:=Int) a0.1 0).bind λv0 =>
 ((ag_ (ρ:=((Unit×(Unit×((List Int)×((Int×Unit)×Unit))))⊕(Int×Unit))) (λ(v1:(Unit×(Unit×((List Int)×((Int×Unit)×Unit))))) =>
 ((fz_ a1 v1.2.2.1).bind λv2 =>
 (cond (decide (v2.1<0)) (by2 a0 (w64 (v1.2.2.2.1.1+1)) v1.2.2.1) (by2 a0 v1.2.2.2.1.1 v1.2.2.1)))) ((),((),(v0,((0,()),()))))).bind λv25 =>
 (cj_ v25 (λv26=>(some (v26.2.2.2.1.1,())))
 (λv27=>(some v27)))))
theorem cntX_eq:ex_=cntX:=by kernel_rfl
theorem bm9 {l:ac_} (hl:Lk l) {cl:List ak_} (hn:cl.length≤20) (hc:∀ c ∈ cl,dd_ l c=true):ex_ l cl=some (((rdg l cl).length:Int),()):=by
  have w1:=hl.w1;have w2:=hl.w2;have s1:=hl.s1;have s2:=hl.s2
  obtain⟨W,hW⟩:∃ W:Nat,l.1=(W:Int):=⟨l.1.toNat,by omega⟩
  obtain⟨S,hS⟩:∃ S:Nat,l.2=(S:Int):=⟨l.2.toNat,by omega⟩
  have hpow:S ^ W≤10000:=by have:=cy7 hl;rwa [hW,hS,b9_,b9_] at this
  have hSp:0<S:=by omega
  have hN:0<S ^ W:=Nat.pow_pos hSp
  have hlen:=qf_ S W
  have hok:∀ j,j<S ^ W→dc_ l (dig S W j)=true:=λj hj=>(bh9 hl).1 (by rw[hW,hS,b9_,b9_];exact b5_ (qg_ hSp W j hj))
  let cn:Nat→Nat:=λj=>(((ja_ S W).take j).filter λc=>cl.all (tr · c)).length
  have hcn:∀ j,j<S ^ W→cn j≤j∧cn (j+1)=cond (cl.all (tr · (dig S W j))) (cn j+1) (cn j):=by
    intro j hj
    constructor
    · have hb:=k9_ (λc=>cl.all (tr · c)) ((ja_ S W).take j)
      rw[c7_] at hb
      exact c9_ hb (Nat.min_le_left _ _)
    · show (((ja_ S W).take (j+1)).filter _).length=_
      rw[d9_,qg_ hSp W j hj,n6_,a8_]
      cases hp:cl.all (tr · (dig S W j))<;>simp[hp,cn]
  have step:∀ j,j<S ^ W→∀ m:Int,(j+1<S ^ W→by2 l m (dig S W j)=some (inl ((),((),(dig S W (j+1),((m,()),()))))))∧(j+1=S ^ W→by2 l m (dig S W j)=some (inr (inr (m,())))):=by
    intro j hj m
    obtain⟨i,c,o1,o2,o3⟩:=odo hl hS W j 0 (by omega)
    simp only[List.replicate_zero,e9_] at o1 o3
    rw[← hW,← hl.ww] at o1
    constructor
    · intro h
      obtain⟨p1,x,p2,p3⟩:=o3 h
      unfold by2
      rw[o1,a0_]
      simp only[show decide (i<0)=false from c2_ (by omega),a2_,p2,a0_,p3]
    · intro h
      unfold by2
      rw[o1,a0_]
      simp only[show decide (i<0)=true from b8_ (o2 h),a5_]
  have body:∀ j,j<S ^ W→(((fz_ cl (dig S W j)).bind λv2=>(cond (decide (v2.1<0)) (by2 l (w64 ((cn j:Int)+1)) (dig S W j)) (by2 l (cn j) (dig S W j)))))=by2 l ((cn (j+1):Nat):Int) (dig S W j):=by
    intro j hj
    obtain⟨r,r1,r2⟩:=az1 hl hn hc (hok j hj)
    obtain⟨q1,q2⟩:=hcn j hj
    rw[r1,a0_,r2,q2]
    cases cl.all (tr · (dig S W j)) with
    | false=>rfl
    | true=>rw[a5_,a5_,az_ (show Sm (cn j) by unfold Sm;omega)]
  rw[cntX_eq]
  unfold cntX
  rw[sf_ (by omega) (by omega),a0_,show l.1.toNat=W by omega,bh5 S W]
  have hw:=bp3 (n:=S ^ W - 1) (F:=λj=>((),((),(dig S W j,(((cn j:Int),()),()))))) (r:=inr ((cn (S ^ W):Int),())) (body:=λ(v1:(Unit×(Unit×((List Int)×((Int×Unit)×Unit))))) =>
 ((fz_ cl v1.2.2.1).bind λv2 =>
 (cond (decide (v2.1<0)) (by2 l (w64 (v1.2.2.2.1.1+1)) v1.2.2.1) (by2 l v1.2.2.2.1.1 v1.2.2.1)))) (λj hj=>(body j (by omega)).trans ((step j (by omega) _).1 (by omega))) ((body (S ^ W - 1) (by omega)).trans (by
    rw[show S ^ W - 1+1=S ^ W by omega]
    exact (step (S ^ W - 1) (by omega) _).2 (by omega)))
  refine (congrArg (λo=>Option.bind o _) (show ag_ _ _=_ from hw)).trans ?_
  have e:cn (S ^ W)=(rdg l cl).length:=by
    show (((ja_ S W).take (S ^ W)).filter _).length=_
    rw[← hlen,e1_]
    unfold rdg
    rw[hW,hS,b9_,b9_]
  rw[a0_,← e]
  rfl
theorem tz_ {l:ac_} (hl:Lk l) {cl:List ak_} (hn:cl.length≤20) (hc:∀ c ∈ cl,dd_ l c=true):ey_ l cl=some (0,()):=by
  unfold ey_
  rw[lv_,oe_.2 hl,if_pos rfl,a0_]
  have:=ow_ (l:=cl) (by unfold Sm;omega) (λc=>!(dd_ l c)) (body:=λ(v1:(Int×Unit)) =>
 (cond (decide (v1.1<(cl.length:Int)))
 ((at? cl v1.1).bind λv2 =>
 ((di_ l v2).bind λv3 =>
 (cond (!v3.1)
 (some (inr (inr ((decide (0≤v1.1)),()))))
 (some (inl ((w64 (v1.1+1)),()))))))
 (some (inr (inl ()))))) (λi y hy=>by
    simp only[dlt (am_ hy),a5_,ah_ hy,a0_,ov_ hl]
    cases dd_ l y<;>rfl) (by simp only[dnl,a2_])
  have ha:(cl.any λc=>!(dd_ l c))=false:=by
    rw[List.any_eq_false]
    intro c h
    simp[hc c h]
  rw[ha] at this
  simp only[show decide ((20:Int)<(cl.length:Int))=false from c2_ (by omega),k1_,a2_,this,a0_]
theorem ar4 {l:ac_} (hl:Lk l) {cl:List ak_} (hn:cl.length≤20) (hc:∀ c ∈ cl,dd_ l c=true):da_ l cl=some (((rdg l cl).length:Int),(0,())):=by
 unfold da_
 rw[tz_ hl hn hc,a0_]
 simp only[k1_,a2_,bm9 hl hn hc,a0_]
theorem tg_ {l:ac_} (hl:Lk l) {cl:List ak_} (hn:cl.length≤20) (hc:∀ c ∈ cl,dd_ l c=true) (hs:∀ c ∈ cl,Sm c.2.2.2.2.2.1.length):ew_ l cl=some (0,()):=by
 unfold ew_
 rw[li_,oe_.2 hl,if_pos rfl,a0_]
 simp only[show decide ((20:Int)<(cl.length:Int))=false from c2_ (by omega),k1_,a2_]
 refine bn_ cl (λ_ c=>cond (dd_ l c) none (some (inr (11,()):Unit⊕(Int×Unit)))) (λi=>((i:Int),())) (r0:=inl ()) (λi c hi => ?_) ?_ ?_
 ·simp only[dlt (am_ hi),a5_,ah_ hi,a0_,un_ hl (hs c (b5_ hi)),az_ (show Sm i by have:=am_ hi;unfold Sm;omega)]
  cases dd_ l c<;>rfl
 ·simp only[dnl,a2_]
 ·rw[jl_ (q:=λc=>dd_ l c),f2_.2 hc]
  rfl
theorem am9 {l:ac_} (hl:Lk l) {cl:List ak_} (hn:cl.length≤20) (hc:∀ c ∈ cl,dd_ l c=true) (hs:∀ c ∈ cl,Sm c.2.2.2.2.2.1.length):jy_ l cl=some (((rdg l cl).length:Int),(0,())):=by
 unfold jy_
 rw[tg_ hl hn hc hs,a0_]
 simp only[k1_,a2_,bu6 hl hn hc,a0_]
theorem ar3 {l:ac_} (hl:Lk l) (c:ak_) {k:List Int} (hk:dc_ l k=true):kb_ l c k=some (cond (dd_ l c) (tr c k) false,(cond (dd_ l c) 0 11,())):=by
 unfold kb_
 rw[ve_ hl,a0_]
 cases hc:dd_ l c with
 | false=>rfl
 | true =>
  simp only[a5_,k1_,a2_]
  rw[nq_,oe_.2 hl,if_pos rfl,hk,if_pos rfl,a0_]
  simp only[k1_,a2_,(qc_ hl hc hk).2,a0_]
theorem aw6 {l:ac_} (hl:Lk l) {c:ak_} {k:List Int} (hc:dd_ l c=true) (hk:dc_ l k=true):fl_ c k=some (tr c k,()):=(qc_ hl hc hk).1
end
section
theorem zero_eq:kv_=ll_:=rfl
def clOk (l:ac_) (c:ak_) (k:List Int):Bool:=dd_ l c&&tr c k
end
section
set_option maxRecDepth 10000
def cm1 (c:ak_):Bool:=c.1==0&&(c.2.1==0&&(c.2.2.1==0&&(c.2.2.2.1==0&&(c.2.2.2.2.1==0&&(((c.2.2.2.2.2.1.length:Int)==0)&&!c.2.2.2.2.2.2)))))
theorem ao2 (c:ak_):kv_ c=some (cm1 c,()):=by
 unfold kv_ cm1
 cases c.1==0 with
 | false=>rfl
 | true =>
 cases c.2.1==0 with
 | false=>rfl
 | true =>
 cases c.2.2.1==0 with
 | false=>rfl
 | true =>
 cases c.2.2.2.1==0 with
 | false=>rfl
 | true =>
 cases c.2.2.2.2.1==0 with
 | false=>rfl
 | true=>cases (c.2.2.2.2.2.1.length:Int)==0<;>rfl
theorem bl4 (c:ak_):ll_ c=some (cm1 c,()):=by rw[← zero_eq];exact ao2 c
def twNt (g:ad_) (i:Nat) (n:cq_):Bool:=(g.2.2.2.1.take i).any λy=>y.1==n.1
def cdOk (g:ad_) (i:Nat) (l:ac_):Bool:=match g.2.2.1[i]? with
 | some k=>dc_ l k
 | none=>false
noncomputable def by5 (g:ad_) (i:Nat) (n:cq_):Bool:=okN n.1&&(!(twNt g i n)&&(wi n.2.1 0 (w64 ((g.1.1.length:Int) - 1))&&(wi n.2.2.1 (-1) (w64 ((g.2.1.length:Int) - 1))&&(cond (decide (n.2.2.1<0)) (cm1 n.2.2.2.2) (match at? g.2.1 n.2.2.1,at? g.2.2.1 n.2.2.1 with
 | some l,some k=>clOk l n.2.2.2.2 k
 | _,_=>false)))))
def LkAll (g:ad_):Prop:=∀ (i:Nat) l,g.2.1[i]?=some l→Lk l∧∃ k,g.2.2.1[i]?=some k∧dc_ l k=true
theorem LkAll.at {g:ad_} (hg:SmG g) (h:LkAll g) {i:Int} (h0:¬ i<0) (hw:wi i (-1) (w64 ((g.2.1.length:Int) - 1))=true):∃ l k,at? g.2.1 i=some l∧at? g.2.2.1 i=some k∧Lk l∧dc_ l k=true:=by
 have hlk:=hg.lk
 rw[er_ (by omega) (by omega)] at hw
 have hw:=cg_.1 hw
 obtain⟨l,hl⟩:=bd_ (l:=g.2.1) (i:=i.toNat) (by omega)
 obtain⟨h1,k,hk,h2⟩:=h _ l hl
 have hi:i=((i.toNat:Nat):Int):=by omega
 exact⟨l,k,by rw[hi];exact ah_ hl,by rw[hi];exact ah_ hk,h1,h2⟩
theorem bm5 {g:ad_} (hg:SmG g) (hL:LkAll g) {i:Nat} {n:cq_} (hn:g.2.2.2.1[i]?=some n):lr_ g (i:Int) n=some (by5 g i n,()):=by
 have hi:=am_ hn
 have hs:=hg.nt
 have hnm:=(hg.ntn n (ax_ hn)).1
 have ht:Sm (g.2.2.2.1.take i).length:=by rw[c7_];show _≤1000000000;omega
 unfold lr_
 rw[pm_ (g5_ hi),a0_]
 refine e6_ (congrArg (λo=>Option.bind o _) (ow_ ht (λy=>y.1==n.1) (λk y hy => ?_) ?_)) ?_
 ·simp only[dlt (am_ hy),a5_,ah_ hy,a0_]
  cases y.1==n.1<;>rfl
 ·simp only[dnl,a2_]
 rw[a0_]
 simp only[bw1 (show Sm n.1.length by show _≤1000000000;omega),kn_,a0_]
 unfold by5 okN twNt
 cases okW n.1 with
 | false=>simp only[g2_,f0_];rfl
 | true =>
 by_cases h12:(n.1.length:Int)≤12
 ·rw[b8_ h12,c2_ (by omega:¬ 12<(n.1.length:Int))]
  cases (g.2.2.2.1.take i).any λy=>y.1==n.1 with
  | true=>rfl
  | false =>
  cases wi n.2.1 0 (w64 ((g.1.1.length:Int) - 1)) with
  | false=>rfl
  | true =>
  cases hw:wi n.2.2.1 (-1) (w64 ((g.2.1.length:Int) - 1)) with
  | false=>rfl
  | true =>
  cases hz:decide (n.2.2.1<0) with
  | true=>simp only[ao2];rfl
  | false =>
  obtain⟨l,k,e1,e2,h1,h2⟩:=hL.at hg (d2_ hz) hw
  simp only[e1,e2,e8_,h2_,a2_,a0_,ar3 h1 _ h2,c1_]
  unfold clOk
  cases dd_ l n.2.2.2.2<;>rfl
 ·rw[c2_ h12,b8_ (by omega:12<(n.1.length:Int))]
  rfl
theorem aw0 {g:ad_} (hg:SmG g) (hL:LkAll g) {i:Nat} {n:cq_} (hn:g.2.2.2.1[i]?=some n):jr_ g (i:Int)=some (by5 g i n,()):=by
 have hi:=am_ hn
 have hs:=hg.nt
 have hnm:=(hg.ntn n (ax_ hn)).1
 have hgs:Sm n.2.2.2.2.2.2.2.2.2.1.length:=c9_ (hg.ntn n (ax_ hn)).2.2 (by decide)
 have hle:(g.2.2.2.1.take i).length=i:=by rw[c7_];omega
 unfold jr_
 rw[ah_ hn,a0_]
 refine bn_ (g.2.2.2.1.take i) (λ_ y=>cond (y.1==n.1) (some (inr (false,()):Unit⊕(Bool×Unit))) none) (λi=>((i:Int),())) (r0:=inl ()) (λk y hy => ?_) ?_ ?_
 ·have hk:=am_ hy
  have hy':g.2.2.2.1[k]?=some y:=by
   rw[j1_] at hy
   split at hy
   ·exact hy
   ·cases hy
  simp only[dlt (show k<i by omega),a5_,ah_ hy',a0_,az_ (show Sm k by show _≤1000000000;omega)]
  cases y.1==n.1<;>rfl
 ·rw[hle]
  simp only[dnl,a2_]
 rw[hm_ (q:=λy:cq_=>y.1==n.1)]
 unfold by5 twNt
 cases (g.2.2.2.1.take i).any λy=>y.1==n.1 with
 | true=>simp only[e8_,f0_,g2_];rfl
 | false =>
 simp only[a2_,j3_]
 unfold cj_
 simp only[kl_ (show Sm n.1.length by show _≤1000000000;omega),zs_,a0_]
 cases okN n.1 with
 | false=>rfl
 | true =>
 cases wi n.2.1 0 (w64 ((g.1.1.length:Int) - 1)) with
 | false=>rfl
 | true =>
 cases hw:wi n.2.2.1 (-1) (w64 ((g.2.1.length:Int) - 1)) with
 | false=>rfl
 | true =>
 cases hz:decide (n.2.2.1<0) with
 | true =>
  have hz:=g3_ hz
  have:=cg_.1 hw
  rw[show (n.2.2.1==-1)=true by rw[f6_];omega]
  simp only[bl4]
  rfl
 | false =>
  have hz:=d2_ hz
  obtain⟨l,k,e1,e2,h1,h2⟩:=hL.at hg hz hw
  rw[show (n.2.2.1==-1)=false by rw[l8_];omega]
  simp only[e1,e2,e8_,h2_,a2_,a0_,va_ h1 hgs,c1_]
  unfold clOk
  cases hc:dd_ l n.2.2.2.2 with
  | false=>rfl
  | true =>
   simp only[a5_,show ((0:Int)==0)=true from rfl,aw6 h1 hc h2]
   rfl
noncomputable def cn_ (g:ad_):Int :=
  cond (cz_ g.1 != 0) (cz_ g.1) (cond (decide (8<(g.2.1.length:Int))||decide (16<(g.2.2.2.1.length:Int))) 2
   ((ge_ (λ_ l=>kz_ (okL l) 10) 0 g.2.1).getD
    (cond ((g.2.2.1.length:Int) != (g.2.1.length:Int)) 12
     ((ge_ (λi l=>kz_ (cdOk g i l) 12) 0 g.2.1).getD
      ((ge_ (λ_ (a:cv_)=>kz_ (!(decide ((g.2.1.length:Int)≤a.2.2.1))) 26) 0 g.1.2.2.2.2.1).getD
       ((ge_ (λi n=>sz_ (by5 g i n) 40 (cOk g.1.2.1 n.2.2.2.1) 25) 0 g.2.2.2.1).getD
        (cond (wi g.2.2.2.2 1 100) 0 1)))))))
theorem lw_ {o:Option Int} {K:Unit→Option (Int×Unit)} {k:Int} (h:o=none→K ()=some (k,())):cj_ (left o) K (λy=>some y)=some (o.getD k,()):=by
 cases o with
 | none=>exact h rfl
 | some e=>rfl
theorem ca9 {g:ad_} (h1:ge_ (λ_ l=>kz_ (okL l) 10) 0 g.2.1=none) (h2:ge_ (λi l=>kz_ (cdOk g i l) 12) 0 g.2.1=none):LkAll g:=by
 intro i l hl
 refine⟨oe_.1 (ky_ (de_ h1 hl)),?_⟩
 have:=ky_ (de_ h2 hl)
 unfold cdOk at this
 cases hk:g.2.2.1[i]? with
 | none=>rw[hk] at this;cases this
 | some k=>rw[hk] at this;exact⟨k,rfl,this⟩
theorem mn_of (g:ad_):(cond (decide (8<(g.2.1.length:Int))) (some (true,())) (some ((decide (16<(g.2.2.2.1.length:Int))),())))=some (decide (8<(g.2.1.length:Int))||decide (16<(g.2.2.2.1.length:Int)),()):=by
 cases decide (8<(g.2.1.length:Int))<;>rfl
theorem zu_ {g:ad_} (hg:SmG g):hf_ g=some (cn_ g,()):=by
 have hlk:=hg.lk
 have hac:=hg.ac
 have hnt:=hg.nt
 unfold hf_ cn_
 rw[tf_ hg.room,a0_]
 cases hr:cz_ g.1 != 0 with
 | true=>rfl
 | false =>
 simp only[a2_]
 refine e6_ (congrArg (λo=>Option.bind o _) (mn_of g)) ?_
 rw[a0_]
 cases hm:(decide (8<(g.2.1.length:Int))||decide (16<(g.2.2.2.1.length:Int))) with
 | true=>rfl
 | false =>
 simp only[a2_]
 refine bu_ g.2.1 (λ_ l=>kz_ (okL l) 10) (λi y hy => ?_) ?_ (lw_ λhA => ?_)
 ·have hi:=am_ hy
  simp only[dlt hi,a5_,ah_ hy,a0_,az_ (show Sm i by show _≤1000000000;omega),lv_]
  unfold kz_
  cases okL y<;>rfl
 ·simp only[dnl,a2_]
 cases hcl:((g.2.2.1.length:Int) != (g.2.1.length:Int)) with
 | true=>rfl
 | false =>
 have hcl:(g.2.2.1.length:Int)=(g.2.1.length:Int):=by simpa using hcl
 simp only[a2_]
 refine bu_ g.2.1 (λi l=>kz_ (cdOk g i l) 12) (λi y hy => ?_) ?_ (lw_ λhB => ?_)
 ·have hi:=am_ hy
  obtain⟨k,hk⟩:=bd_ (l:=g.2.2.1) (i:=i) (by omega)
  have hy1:=ky_ (de_ hA hy)
  simp only[dlt hi,a5_,ah_ hy,ah_ hk,a0_,az_ (show Sm i by show _≤1000000000;omega),nq_,hy1]
  unfold kz_ cdOk
  rw[hk]
  simp only
  cases dc_ y k<;>rfl
 ·simp only[dnl,a2_]
 refine bu_ g.1.2.2.2.2.1 (λ_ (a:cv_)=>kz_ (!(decide ((g.2.1.length:Int)≤a.2.2.1))) 26) (λi y hy => ?_) ?_ (lw_ λhC => ?_)
 ·have hi:=am_ hy
  simp only[dlt hi,a5_,ah_ hy,a0_,az_ (show Sm i by show _≤1000000000;omega)]
  unfold kz_
  cases decide ((g.2.1.length:Int)≤y.2.2.1)<;>rfl
 ·simp only[dnl,a2_]
 have hL:=ca9 hA hB
 refine bu_ g.2.2.2.1 (λi n=>sz_ (by5 g i n) 40 (cOk g.1.2.1 n.2.2.2.1) 25) (λi y hy => ?_) ?_ (lw_ λhD => ?_)
 ·have hi:=am_ hy
  simp only[dlt hi,a5_,ah_ hy,a0_,az_ (show Sm i by show _≤1000000000;omega),bm5 hg hL hy,bm4 hg.room.th]
  unfold sz_
  cases by5 g i y with
  | false=>rfl
  | true=>cases cOk g.1.2.1 y.2.2.2.1<;>rfl
 ·simp only[dnl,a2_]
 rw[kn_,a0_]
 cases wi g.2.2.2.2 1 100<;>rfl
theorem wp_ {g:ad_} (hg:SmG g):hq_ g=some (cn_ g,()):=by
 have hlk:=hg.lk
 have hac:=hg.ac
 have hnt:=hg.nt
 unfold hq_ cn_
 rw[qw_ hg.room,a0_]
 cases hr:cz_ g.1 != 0 with
 | true=>rfl
 | false =>
 simp only[a2_]
 refine e6_ (congrArg (λo=>Option.bind o _) (mn_of g)) ?_
 rw[a0_]
 cases hm:(decide (8<(g.2.1.length:Int))||decide (16<(g.2.2.2.1.length:Int))) with
 | true=>rfl
 | false =>
 simp only[a2_]
 refine bu_ g.2.1 (λ_ l=>kz_ (okL l) 10) (λi y hy => ?_) ?_ (lw_ λhA => ?_)
 ·have hi:=am_ hy
  simp only[dlt hi,a5_,ah_ hy,a0_,az_ (show Sm i by show _≤1000000000;omega),li_]
  unfold kz_
  cases okL y<;>rfl
 ·simp only[dnl,a2_]
 cases hcl:((g.2.2.1.length:Int) != (g.2.1.length:Int)) with
 | true=>rfl
 | false =>
 have hcl:(g.2.2.1.length:Int)=(g.2.1.length:Int):=by simpa using hcl
 simp only[a2_]
 refine bu_ g.2.1 (λi l=>kz_ (cdOk g i l) 12) (λi y hy => ?_) ?_ (lw_ λhB => ?_)
 ·have hi:=am_ hy
  obtain⟨k,hk⟩:=bd_ (l:=g.2.2.1) (i:=i) (by omega)
  have hy1:=ky_ (de_ hA hy)
  simp only[dlt (show i<g.2.2.1.length by omega),a5_,ah_ hy,ah_ hk,a0_,az_ (show Sm i by show _≤1000000000;omega),uz_,hy1]
  unfold kz_ cdOk
  rw[hk]
  simp only
  cases dc_ y k<;>rfl
 ·rw[← hcl]
  simp only[dnl,a2_]
 refine bu_ g.1.2.2.2.2.1 (λ_ (a:cv_)=>kz_ (!(decide ((g.2.1.length:Int)≤a.2.2.1))) 26) (λi y hy => ?_) ?_ (lw_ λhC => ?_)
 ·have hi:=am_ hy
  simp only[dlt hi,a5_,ah_ hy,a0_,az_ (show Sm i by show _≤1000000000;omega)]
  unfold kz_
  cases decide ((g.2.1.length:Int)≤y.2.2.1)<;>rfl
 ·simp only[dnl,a2_]
 have hL:=ca9 hA hB
 refine bu_ g.2.2.2.1 (λi n=>sz_ (by5 g i n) 40 (cOk g.1.2.1 n.2.2.2.1) 25) (λi y hy => ?_) ?_ (lw_ λhD => ?_)
 ·have hi:=am_ hy
  have hw:=(hg.ntn y (ax_ hy)).2.1
  simp only[dlt hi,a5_,ah_ hy,a0_,az_ (show Sm i by show _≤1000000000;omega),aw0 hg hL hy,ha_ hg.room.th (show Sm y.2.2.2.1.length by show _≤1000000000;omega)]
  unfold sz_
  cases by5 g i y with
  | false=>rfl
  | true=>cases cOk g.1.2.1 y.2.2.2.1<;>rfl
 ·simp only[dnl,a2_]
 rw[zs_,a0_]
 cases wi g.2.2.2.2 1 100<;>rfl
structure OkG (g:ad_):Prop where
 room:cz_ g.1=0
 n8:g.2.1.length≤8
 n16:g.2.2.2.1.length≤16
 lk:LkAll g
 cd:g.2.2.1.length=g.2.1.length
 ac:∀ (i:Nat) (a:cv_),g.1.2.2.2.2.1[i]?=some a→a.2.2.1<(g.2.1.length:Int)
 nt:∀ (i:Nat) n,g.2.2.2.1[i]?=some n→by5 g i n=true∧cOk g.1.2.1 n.2.2.2.1=true
 tr:wi g.2.2.2.2 1 100=true
theorem dn_ {g:ad_} (h:cn_ g=0):OkG g:=by
 unfold cn_ at h
 cases hr:cz_ g.1 != 0 with
 | true =>
  rw[hr] at h
  rw[o0_] at hr
  exact absurd h hr
 | false =>
 rw[hr,a2_] at h
 cases hm:(decide (8<(g.2.1.length:Int))||decide (16<(g.2.2.2.1.length:Int))) with
 | true=>rw[hm] at h;exact absurd (show (2:Int)=0 from h) (by decide)
 | false =>
 rw[hm,a2_] at h
 rw[c0_] at hm
 have m1:=d2_ hm.1
 have m2:=d2_ hm.2
 obtain⟨hA,h⟩:=gk_ h (kj_ (λi x=>yh_ (by decide)) _ _)
 cases hcl:((g.2.2.1.length:Int) != (g.2.1.length:Int)) with
 | true=>rw[hcl] at h;exact absurd (show (12:Int)=0 from h) (by decide)
 | false =>
 rw[hcl,a2_] at h
 have hcl:(g.2.2.1.length:Int)=(g.2.1.length:Int):=by simpa using hcl
 obtain⟨hB,h⟩:=gk_ h (kj_ (λi x=>yh_ (by decide)) _ _)
 obtain⟨hC,h⟩:=gk_ h (kj_ (λi x=>yh_ (by decide)) _ _)
 obtain⟨hD,h⟩:=gk_ h (kj_ (λi x=>yg_ (by decide) (by decide)) _ _)
 refine⟨by simpa using hr,by omega,by omega,ca9 hA hB,by omega,λi a ha => ?_,λi n hn=>oq_ (de_ hD hn),?_⟩
 ·have:=ky_ (de_ hC ha)
  simpa using this
 ·cases hw:wi g.2.2.2.2 1 100 with
  | true=>rfl
  | false=>rw[hw] at h;exact absurd (show (1:Int)=0 from h) (by decide)
end
section
set_option maxRecDepth 10000
theorem bp_ {σ ρ:Type} {body:σ→Option (σ⊕ρ)} {s t:σ} {r:ρ} (h:body s=some (.inl t)) (e:ag_ body t=some r):ag_ body s=some r:=by
 obtain⟨k,hk⟩:=ia_.1 e
 exact pe_ (k:=k+1) (by rw[ay2 h];exact hk)
theorem bo_ {σ ρ:Type} {body:σ→Option (σ⊕ρ)} {s:σ} {r:ρ} (h:body s=some (.inr r)):ag_ body s=some r:=pe_ (k:=1) (vp_ h)
theorem as1 {α τ σ ρ υ:Type} (l:List α) (f:Nat→τ→α→τ) (F:Nat→τ→σ) (R:τ→ρ) (t0:τ) {body:σ→Option (σ⊕ρ)} (I:Nat→τ→Prop) {K:ρ→Option υ} {x:Option υ} (h0:I 0 t0)
  (h:∀ i x t,l[i]?=some x→I i t→body (F i t)=some (.inl (F (i+1) (f i t x)))∧I (i+1) (f i t x)) (e:∀ t,I l.length t→body (F l.length t)=some (.inr (R t))) (hk:∀ t,I l.length t→K (R t)=x) :
  (ag_ body (F 0 t0)).bind K=x:=by
 obtain⟨t,h1,h2⟩:=kr_ l f F R t0 I h0 h e
 rw[h2,a0_]
 exact hk t h1
theorem cj3 {np:Nat} {l:List Int} (h:ld_ np l=true):∀ x ∈ l,0≤x∧x<(np:Int):=by
 intro x hx
 obtain⟨i,hi⟩:=e3_ hx
 rw[← dc8] at h
 have:=(ad2 l).1 h i x hi
 unfold badQ at this
 rw[c0_] at this
 have h1:wi x 0 ((np:Int) - 1)=true:=by simpa using this.1
 have:=cg_.1 h1
 omega
structure ActIn (r:ae_) (a:cv_):Prop where
 us:∀ p ∈ a.2.2.2.1,0≤p∧p<(r.2.2.1.length:Int)
 sp:∀ p ∈ a.2.2.2.2.2.2.1,0≤p∧p<(r.2.2.1.length:Int)
 br:∀ p ∈ a.2.2.2.2.2.2.2,0≤p∧p<(r.2.2.1.length:Int)
 st:∀ x ∈ a.2.2.2.2.2.1,nv_ r.2.1 x.1 x.2=true
theorem bj5 {r:ae_} {i:Nat} {a:cv_} (h:vf_ r i a=true):ActIn r a:=by
 unfold vf_ at h
 simp only[a1_] at h
 obtain⟨_,_,_,h1,h2,h3,_,_,_,h4⟩:=h
 refine⟨cj3 h1,cj3 h2,cj3 h3,λx hx => ?_⟩
 obtain⟨j,hj⟩:=e3_ hx
 rw[Option.isNone_iff_eq_none] at h4
 have:=de_ h4 hj
 cases hs:ru_ r a.2.2.2.2.2.1 j x with
 | false=>rw[hs] at this;cases this
 | true =>
  unfold ru_ at hs
  rw[a1_] at hs
  exact hs.1
theorem cs_ {α:Type} {l:List α} (hl:Sm l.length) (i:Int):(wi i 0 (w64 ((l.length:Int) - 1))=false∧at? l i=none)∨∃ (j:Nat) (x:α),i=(j:Int)∧l[j]?=some x∧wi i 0 (w64 ((l.length:Int) - 1))=true∧at? l i=some x:=by
 rw[er_ (by omega) (by omega)]
 by_cases h:0≤i∧i<(l.length:Int)
 ·obtain⟨x,hx⟩:=bd_ (l:=l) (i:=i.toNat) (by omega)
  have hi:i=((i.toNat:Nat):Int):=by omega
  exact .inr ⟨i.toNat,x,hi,hx,cg_.2 (by omega),by rw[hi];exact ah_ hx⟩
 ·refine .inl ⟨?_,?_⟩
  ·cases hw:wi i 0 ((l.length:Int) - 1) with
   | false=>rfl
   | true=>have:=cg_.1 hw;omega
  ·unfold at?
   split
   ·exact b4_ (by omega)
   ·rfl
def mb_ (pr:List Int) (h:Int):Nat:=pr.countP (· == h)
theorem vr_ (pr:List Int) (h:Int):mb_ pr h≤pr.length:=l0_
theorem bk3 {t:hk_} (h:Sm t.2.2.1.length) (p:Int):df_ t p=some ((mb_ t.2.2.1 (w64 ((-2) - p)):Int),()):=by
 unfold df_
 refine as1 t.2.2.1 (λ_ (c:Nat) x=>cond (x==w64 ((-2) - p)) (c+1) c) (λi c=>((c:Int),((i:Int),()))) (λc=>((c:Int),())) 0 (λi c=>c=mb_ (t.2.2.1.take i) (w64 ((-2) - p))) rfl (λi x c hx hc => ?_) (λc hc => ?_) (λc hc => ?_)
 ·have hi:=am_ hx
  have hcl:c≤i:=by rw[hc];refine c9_ (vr_ _ _) ?_;rw[c7_];omega
  have hn:mb_ (t.2.2.1.take (i+1)) (w64 ((-2) - p))=cond (x==w64 ((-2) - p)) (c+1) c:=by
   unfold mb_
   rw[d9_,hx,hc,List.countP_append]
   unfold mb_
   cases hq:x==w64 ((-2) - p) with
   | true=>simp[hq]
   | false=>simp[hq]
  refine⟨?_,hn.symm⟩
  simp only[dlt hi,a5_,ah_ hx,a0_,az_ (show Sm i by omega)]
  cases hq:x==w64 ((-2) - p) with
  | true=>simp only[a5_,a0_,az_ (show Sm c by omega)]
  | false=>rfl
 ·simp only[dnl,a2_]
 ·rw[e1_] at hc
  rw[hc]
abbrev hdl (m:af_):Int:=w64 ((-2) - m.1)
def lgl (r:ae_) (s:ai_) (m:af_):Bool :=
  wi m.1 0 (w64 ((s.2.2.length:Int) - 1)) &&
  cond (m.2.1==1) ((at? r.2.2.2.1 m.2.2).elim false λw=>(w.1==gi s.2.2 m.1||w.2.1==gi s.2.2 m.1)&&dp_ s.1 w.2.2)
  (cond (m.2.1==2) ((at? r.2.2.1 m.2.2).elim false λx=>gi s.2.1 m.2.2==gi s.2.2 m.1&&(dp_ s.1 x.2.2&&decide ((mb_ s.2.1 (hdl m):Int)<3)))
  (cond (m.2.1==3) ((at? s.2.1 m.2.2).elim false λp=>p==hdl m)
  (cond (m.2.1==4) ((at? r.2.2.2.2.1 m.2.2).elim false λa=>a.2.1==gi s.2.2 m.1&&((a.2.2.2.1.all λp=>gi s.2.1 p==hdl m)&&(dp_ s.1 a.2.2.2.2.1&&((a.2.2.2.2.2.2.2.all λp=>gi s.2.1 p==-1)&&decide ((mb_ s.2.1 (hdl m):Int) - (a.2.2.2.2.2.2.1.length:Int)+(a.2.2.2.2.2.2.2.length:Int)≤3)))))
   false)))
theorem bj3 {l t:List Int} (hl:Sm l.length) (hi:∀ p ∈ l,0≤p∧p<(t.length:Int)) (h:Int) :
    ((ag_ (ρ:=(Unit⊕(Bool×Unit))) (λ(v15:(Int×Unit)) =>
 (cond (decide (v15.1<(l.length:Int)))
 ((at? l v15.1).bind λv16 =>
 ((at? t v16).bind λv17 =>
 (cond (!(v17==h))
 (some (inr (inr ((decide (0≤v15.1)),()))))
 (some (inl ((w64 (v15.1+1)),()))))))
 (some (inr (inl ()))))) (0,())).bind λv18 =>
 (cj_ v18 (λv19=>(some ((decide ((0:Int)≤(-1))),())))
 (λv20=>(some v20))))=some (!(l.all λp=>gi t p==h),()):=by
  refine e6_ (ow_ hl (λp=>!(gi t p==h)) (λi y hy => ?_) ?_) ?_
  · have:=hi y (ax_ hy)
    simp only[dlt (am_ hy),a5_,ah_ hy,a0_,ms_ this.1 this.2]
    cases gi t y==h<;>rfl
  · simp only[dnl,a2_]
  · rw[← ug_,Bool.not_not]
theorem wh_ {r:ae_} (h:SmR r) (ok:OkR r) {s:ai_} (hv:VS r s) (m:af_):cy_ (r,s) m=some (lgl r s m,()):=by
 obtain⟨m1,m2,m3⟩:=qn_ h ok hv
 have hl1:=hv.l1
 have hl2:=hv.l2
 have hH:∀ {c:List bg_},cOk r.2.1 c=true→bb_ (r,s) c=some (dp_ s.1 c,()):=λ{c} hc=>by
  obtain⟨c1,c2⟩:=ut_ h.th hc
  exact mu_ (t:=(r,s)) (show c.length≤1000000000 by omega) (by show InC s.1.length c;rw[hl1];exact c1)
 have hD:df_ (r,s) m.1=some ((mb_ s.2.1 (hdl m):Int),()):=bk3 (t:=(r,s)) m2 m.1
 have hDl:=vr_ s.2.1 (hdl m)
 unfold cy_ lgl
 simp only[dy_,a0_]
 rcases cs_ m3 m.1 with ⟨e1,_⟩ | ⟨pj,px,hpj,hp,e1,e2⟩
 ·rw[e1];rfl
 ·have eg:gi s.2.2 m.1=px:=mc_ e2
  simp only[e1,e2,eg,e8_,a2_,a0_,c1_]
  cases hk1:m.2.1==1 with
  | true =>
   simp only[a5_]
   rcases cs_ h.wy m.2.2 with ⟨f1,f2⟩ | ⟨j,w,hj,hw,f1,f2⟩
   ·simp only[f1,f2];rfl
   ·simp only[f1,f2,e8_,a2_,a0_,hH (ok.wy j w hw).2]
    show _=some ((w.1==px||w.2.1==px)&&dp_ s.1 w.2.2,())
    cases w.1==px with
    | true=>rfl
    | false=>cases w.2.1==px<;>rfl
  | false =>
  simp only[a2_]
  cases hk2:m.2.1==2 with
  | true =>
   simp only[a5_]
   rcases cs_ m2 m.2.2 with ⟨f1,f2⟩ | ⟨j,p,hj,hp,f1,f2⟩
   ·have f3:at? r.2.2.1 m.2.2=none:=by
     rcases cs_ h.pr m.2.2 with ⟨_,g2⟩ | ⟨j,x,hj,hx,g1,g2⟩
     ·exact g2
     ·rw[← hl2,f1] at g1;cases g1
    simp only[f1,f3,a2_];rfl
   ·obtain⟨x,hx⟩:=bd_ (l:=r.2.2.1) (i:=j) (by have:=am_ hp;omega)
    have f3:at? r.2.2.1 m.2.2=some x:=by rw[hj];exact ah_ hx
    have f4:gi s.2.1 m.2.2=p:=mc_ f2
    simp only[f1,f2,f3,f4,a5_,a0_,hH (ok.pr j x hx).2,hD]
    show _=some (p==px&&(dp_ s.1 x.2.2&&decide ((mb_ s.2.1 (hdl m):Int)<3)),())
    cases p==px with
    | false=>rfl
    | true=>cases dp_ s.1 x.2.2<;>rfl
  | false =>
  simp only[a2_]
  cases hk3:m.2.1==3 with
  | true =>
   simp only[a5_]
   rcases cs_ m2 m.2.2 with ⟨f1,f2⟩ | ⟨j,p,hj,hp,f1,f2⟩
   ·simp only[f1,f2];rfl
   ·simp only[f1,f2,a5_,a0_];rfl
  | false =>
  simp only[a2_]
  cases hk4:m.2.1==4 with
  | false=>rfl
  | true =>
   simp only[a5_]
   rcases cs_ h.ac m.2.2 with ⟨f1,f2⟩ | ⟨j,a,hj,ha,f1,f2⟩
   ·simp only[f1,f2];rfl
   ·obtain⟨oa,oc⟩:=ok.ac j a ha
    have ai:=bj5 oa
    obtain⟨s1,s2,s3,s4,s5,s6⟩:=h.acn a (ax_ ha)
    simp only[f1,f2,e8_,a2_,a0_]
    show _=some (a.2.1==px&&((a.2.2.2.1.all λp=>gi s.2.1 p==hdl m)&&(dp_ s.1 a.2.2.2.2.1&&((a.2.2.2.2.2.2.2.all λp=>gi s.2.1 p==-1)&&decide ((mb_ s.2.1 (hdl m):Int) - (a.2.2.2.2.2.2.1.length:Int)+(a.2.2.2.2.2.2.2.length:Int)≤3)))),())
    cases a.2.1==px with
    | false=>rfl
    | true =>
    simp only[a5_,c1_]
    refine e6_ (congrArg (λo=>Option.bind o _) (bj3 s2 (λp hp=>by have:=ai.us p hp;omega) (hdl m))) ?_
    rw[a0_]
    cases a.2.2.2.1.all λp=>gi s.2.1 p==hdl m with
    | false=>rfl
    | true =>
    simp only[e8_,h2_,a5_,hH oc,a0_,c1_]
    cases dp_ s.1 a.2.2.2.2.1 with
    | false=>rfl
    | true =>
    simp only[a5_,c1_]
    refine e6_ (congrArg (λo=>Option.bind o _) (bj3 s6 (λp hp=>by have:=ai.br p hp;omega) (-1))) ?_
    rw[a0_]
    cases a.2.2.2.2.2.2.2.all λp=>gi s.2.1 p==-1 with
    | false=>rfl
    | true =>
    simp only[e8_,h2_,a5_,hD,a0_,c1_]
    rw[er_ (n:=(mb_ s.2.1 (hdl m):Int) - _) (by omega) (by omega),er_ (by omega) (by omega)]
theorem ac9 {α:Type} (l:List α) (hl:Sm l.length) (ix vl:α→Int) (t:List Int) (hi:∀ x ∈ l,0≤ix x∧ix x<(t.length:Int)) {body:(Int×(List Int×Unit))→Option ((Int×(List Int×Unit))⊕(List Int×Unit))}
  (hb:∀ (i:Nat) (x:α) (t':List Int) (y:Int),l[i]?=some x→at? t' (ix x)=some y→body ((i:Int),(t',()))=some (.inl (w64 ((i:Int)+1),(t'.set (ix x).toNat (vl x),())))) (e:∀ t',body ((l.length:Int),(t',()))=some (.inr (t',()))) :
  ag_ body (0,(t,()))=some (l.foldl (λt x=>t.set (ix x).toNat (vl x)) t,()):=by
 obtain⟨z,⟨_,hz⟩,e⟩:=kr_ l (λ_ t x=>t.set (ix x).toNat (vl x)) (λi t=>((i:Int),(t,()))) (λt=>(t,())) t (body:=body) (λi t'=>t'.length=t.length∧t'=(l.take i).foldl (λt x=>t.set (ix x).toNat (vl x)) t) ⟨rfl,rfl⟩ (λi x t' hx ht=>by
  obtain⟨h1,h2⟩:=ht
  have hil:=am_ hx
  have:=hi x (ax_ hx)
  refine⟨?_,by rw[f3_,h1],?_⟩
  ·rw[hb i x t' _ hx (ms_ this.1 (by omega)),az_ (show Sm i by omega)]
  ·rw[d9_,hx,m4_,← h2]
   rfl) (λt' _=>e t')
 rw[e1_] at hz
 rw[← hz]
 exact e
def mvP (r:ae_) (s:ai_) (m:af_):ai_ :=
  cond (m.2.1==1) ((at? r.2.2.2.1 m.2.2).elim s λw=>(s.1,(s.2.1,s.2.2.set m.1.toNat (w.1+w.2.1 - gi s.2.2 m.1))))
  (cond (m.2.1==2) (s.1,(s.2.1.set m.2.2.toNat (hdl m),s.2.2))
  (cond (m.2.1==3) (s.1,(s.2.1.set m.2.2.toNat (gi s.2.2 m.1),s.2.2))
  (cond (m.2.1==4) ((at? r.2.2.2.2.1 m.2.2).elim s λa=>(a.2.2.2.2.2.1.foldl (λt x=>t.set x.1.toNat x.2) s.1,(a.2.2.2.2.2.2.2.foldl (λt p=>t.set p.toNat (hdl m)) (a.2.2.2.2.2.2.1.foldl (λt p=>t.set p.toNat (-1)) s.2.1),s.2.2)))
   s)))
theorem ys_ {α:Type} {l:List α} {P:α→Prop} (h:∀ (i:Nat) x,l[i]?=some x→P x) {j:Nat} {v:α} (hv:P v):∀ (i:Nat) x,(l.set j v)[i]?=some x→P x:=by
 intro i x hx
 rw[g4_] at hx
 split at hx
 ·split at hx
  ·obtain rfl:=a6_ hx
   exact hv
  ·cases hx
 ·exact h i x hx
theorem oo_ {α τ:Type} {f:τ→α→τ} {P:τ→Prop}:∀ (l:List α) (t:τ),P t→(∀ t x,x ∈ l→P t→P (f t x))→P (l.foldl f t)
 | [],t,h,_=>h
 | x::l,t,h,hf=>oo_ l (f t x) (hf t x (e4_ ..) h) λt y hy=>hf t y (d7_ _ hy)
theorem ac8 {α:Type} (ix vl:α→Int) (l:List α) (t:List Int):(l.foldl (λt x=>t.set (ix x).toNat (vl x)) t).length=t.length :=
 oo_ (P:=λt'=>t'.length=t.length) l t rfl λt' x _ h=>by rw[f3_,h]
theorem lk_ {r:ae_} (h:SmR r) {p:Int}:sk_ r p=true↔0≤p∧p<(r.1.length:Int):=by
 have:=h.pl
 unfold sk_
 rw[cg_,er_ (by omega) (by omega)]
 omega
theorem ah4 {r:ae_} (h:SmR r) (ok:OkR r) {p:Int}:inR r p=true↔(-2) - r.2.2.2.2.2.2.1<p∧p<(r.1.length:Int):=by
 have:=h.pl
 have hp:=cg_.1 ok.py
 unfold inR
 rw[cg_,er_ (n:=(-2) - r.2.2.2.2.2.2.1) (by omega) (by omega),er_ (by omega) (by omega),er_ (by omega) (by omega)]
 omega
theorem pl_pos {r:ae_} (ok:OkR r):0<r.1.length:=by
 have hne:r.1.length≠0:=λe=>ok.ne (n5_.1 e)
 omega
theorem hdl_eq {r:ae_} (ok:OkR r) {s:ai_} (hv:VS r s) {m:af_} {j:Nat} {x:Int} (hj:m.1=(j:Int)) (hx:s.2.2[j]?=some x):hdl m=(-2) - m.1∧m.1<r.2.2.2.2.2.2.1:=by
 have hp:=cg_.1 ok.py
 have:=am_ hx
 have:=hv.l3
 exact⟨er_ (by omega) (by omega),by omega⟩
theorem cb1 {r:ae_} {s:ai_} {m:af_} (m3:Sm s.2.2.length) (hl:lgl r s m=true):∃ (j:Nat) (x:Int),m.1=(j:Int)∧s.2.2[j]?=some x∧at? s.2.2 m.1=some x:=by
 unfold lgl at hl
 rw[a1_] at hl
 rcases cs_ m3 m.1 with ⟨e1,_⟩ | ⟨pj,px,hpj,hp,e1,e2⟩
 ·rw[e1] at hl;cases hl.1
 ·exact⟨pj,px,hpj,hp,e2⟩
theorem VS_mv {r:ae_} (h:SmR r) (ok:OkR r) {s:ai_} (hv:VS r s) {m:af_} (hl:lgl r s m=true):VS r (mvP r s m):=by
 obtain⟨m1,m2,m3⟩:=qn_ h ok hv
 obtain⟨pj,px,hpj,hp,e2⟩:=cb1 m3 hl
 obtain⟨d1,d2⟩:=hdl_eq ok hv hpj hp
 have hpy:=cg_.1 ok.py
 have hpos:=pl_pos ok
 have hhd:inR r (hdl m)=true:=(ah4 h ok).2 (by omega)
 have hm1:inR r (-1)=true:=(ah4 h ok).2 (by omega)
 unfold lgl at hl
 rw[a1_] at hl
 have hl:=hl.2
 have eg:gi s.2.2 m.1=px:=mc_ e2
 have hpx:=hv.py _ _ hp
 unfold mvP
 cases hk1:m.2.1==1 with
 | true =>
  rw[hk1] at hl
  simp only[a5_] at hl ⊢
  cases hw:at? r.2.2.2.1 m.2.2 with
  | none=>exact hv
  | some w =>
   rw[hw] at hl
   have hl:((w.1==gi s.2.2 m.1||w.2.1==gi s.2.2 m.1)&&dp_ s.1 w.2.2)=true:=hl
   rw[a1_,c6_,f6_,f6_] at hl
   rcases cs_ h.wy m.2.2 with ⟨f1,f2⟩ | ⟨j,w',hj,hw',f1,f2⟩
   ·rw[f2] at hw;cases hw
   ·rw[f2] at hw
    obtain rfl:=a6_ hw
    have ow:=(ok.wy j w' hw').1
    unfold cl0 at ow
    simp only[a1_] at ow
    have o1:=(lk_ h).1 ow.1
    have o2:=(lk_ h).1 ow.2.1
    refine⟨hv.l1,hv.l2,by show ((s.2.2.set _ _).length:Int)=_;rw[f3_];exact hv.l3,hv.th,hv.pr,ys_ hv.py ((lk_ h).2 ?_)⟩
    rcases hl.1 with e | e<;>omega
 | false =>
 rw[hk1] at hl
 simp only[a2_] at hl ⊢
 cases hk2:m.2.1==2 with
 | true=>exact⟨hv.l1,by show (s.2.1.set _ _).length=_;rw[f3_];exact hv.l2,hv.l3,hv.th,ys_ hv.pr hhd,hv.py⟩
 | false =>
 rw[hk2] at hl
 simp only[a2_] at hl ⊢
 cases hk3:m.2.1==3 with
 | true =>
  refine⟨hv.l1,by show (s.2.1.set _ _).length=_;rw[f3_];exact hv.l2,hv.l3,hv.th,ys_ hv.pr ?_,hv.py⟩
  rw[eg]
  have:=(lk_ h).1 hpx
  exact (ah4 h ok).2 (by omega)
 | false =>
 rw[hk3] at hl
 simp only[a2_] at hl ⊢
 cases hk4:m.2.1==4 with
 | false=>exact hv
 | true =>
  simp only[a5_]
  rcases cs_ h.ac m.2.2 with ⟨f1,f2⟩ | ⟨j,a,hj,ha,f1,f2⟩
  ·rw[f2];exact hv
  ·rw[f2]
   have ai:=bj5 (ok.ac j a ha).1
   have hth:VT r (a.2.2.2.2.2.1.foldl (λt x=>t.set x.1.toNat x.2) s.1):=oo_ (P:=VT r) _ _ ⟨hv.l1,hv.th⟩ λt x hx ht=>ck0 h ok ht (ai.st x hx)
   have hpr:∀ (i:Nat) p,(a.2.2.2.2.2.2.2.foldl (λt p=>t.set p.toNat (hdl m)) (a.2.2.2.2.2.2.1.foldl (λt p=>t.set p.toNat (-1)) s.2.1))[i]?=some p→inR r p=true:=by
    refine oo_ (P:=λt=>∀ (i:Nat) p,t[i]?=some p→inR r p=true) _ _ ?_ λt x hx ht=>ys_ ht hhd
    exact oo_ (P:=λt=>∀ (i:Nat) p,t[i]?=some p→inR r p=true) _ _ hv.pr λt x hx ht=>ys_ ht hm1
   refine⟨hth.1,?_,hv.l3,hth.2,hpr,hv.py⟩
   show (a.2.2.2.2.2.2.2.foldl (λt p=>t.set p.toNat (hdl m)) (a.2.2.2.2.2.2.1.foldl (λt p=>t.set p.toNat (-1)) s.2.1)).length=_
   rw[ac8 (λp=>p) (λ_=>hdl m),ac8 (λp=>p) (λ_=>-1)]
   exact hv.l2
end
end Go.Proofs.YtgeehfnbhbibeaaGreatDoor.Rx
namespace Go.Proofs.YtgeehfnbhbibeaaGreatDoor.Rx
open Go Pad Rex Go.Proofs Go.Proofs.Tryz Sum
section
set_option maxRecDepth 100000
noncomputable def mvX (a0:ae_) (a2:af_) (v1 v2 v3:List Int):Option (List Int×(List Int×(List Int×Unit))) :=
 (cond (a2.2.1==1)
 ((at? a0.2.2.2.1 a2.2.2).bind λv5 =>
 ((at? v3 a2.1).bind λv6 =>
 ((at? v3 a2.1).bind λv7 =>
 ((at? v3 a2.1).bind λv8 =>
 ((at? v3 a2.1).bind λv9 =>
 (some (v1,(v2,((v3.set a2.1.toNat (w64 ((w64 (v5.1+v5.2.1)) - v7))),())))))))))
 (cond (a2.2.1==2)
 ((at? v2 a2.2.2).bind λv10 =>
 ((at? v2 a2.2.2).bind λv11 =>
 (some (v1,((v2.set a2.2.2.toNat (w64 ((-2) - a2.1))),(v3,()))))))
 (cond (a2.2.1==3)
 ((at? v3 a2.1).bind λv12 =>
 ((at? v3 a2.1).bind λv13 =>
 ((at? v2 a2.2.2).bind λv14 =>
 ((at? v2 a2.2.2).bind λv15 =>
 (some (v1,((v2.set a2.2.2.toNat v13),(v3,()))))))))
 (cond (a2.2.1==4)
 ((at? a0.2.2.2.2.1 a2.2.2).bind λv16 =>
 ((ag_ (ρ:=((List Int)×Unit)) (λ(v17:(Int×((List Int)×Unit))) =>
 (cond (decide (v17.1<(v16.2.2.2.2.2.2.1.length:Int)))
 ((at? v16.2.2.2.2.2.2.1 v17.1).bind λv18 =>
 ((at? v17.2.1 v18).bind λv19 =>
 ((at? v17.2.1 v18).bind λv20 =>
 (some (inl ((w64 (v17.1+1)),((v17.2.1.set v18.toNat (-1)),())))))))
 (some (inr (v17.2.1,()))))) (0,(v2,()))).bind λv21 =>
 ((ag_ (ρ:=((List Int)×Unit)) (λ(v22:(Int×((List Int)×Unit))) =>
 (cond (decide (v22.1<(v16.2.2.2.2.2.2.2.length:Int)))
 ((at? v16.2.2.2.2.2.2.2 v22.1).bind λv23 =>
 ((at? v22.2.1 v23).bind λv24 =>
 ((at? v22.2.1 v23).bind λv25 =>
 (some (inl ((w64 (v22.1+1)),((v22.2.1.set v23.toNat (w64 ((-2) - a2.1))),())))))))
 (some (inr (v22.2.1,()))))) (0,(v21.1,()))).bind λv26 =>
 ((ag_ (ρ:=((List Int)×Unit)) (λ(v27:(Int×((List Int)×Unit))) =>
 (cond (decide (v27.1<(v16.2.2.2.2.2.1.length:Int)))
 ((at? v16.2.2.2.2.2.1 v27.1).bind λv28 =>
 ((at? v27.2.1 v28.1).bind λv29 =>
 ((at? v27.2.1 v28.1).bind λv30 =>
 (some (inl ((w64 (v27.1+1)),((v27.2.1.set v28.1.toNat v28.2),())))))))
 (some (inr (v27.2.1,()))))) (0,(v1,()))).bind λv31 =>
 (some (v31.1,(v26.1,(v3,()))))))))
 (some (v1,(v2,(v3,()))))))))
noncomputable def rstX (a0:ae_) (a1:ai_) (a2:af_):Option (ai_×(Int×Unit)) :=
 ((bx_ a0 a1).bind λv0 =>
 (cond (v0.1 != 0)
 (some (([],([],[])),(v0.1,())))
 ((push? (α:=Int) [] a1.1).bind λv1 =>
 ((push? (α:=Int) [] a1.2.1).bind λv2 =>
 ((push? (α:=Int) [] a1.2.2).bind λv3 =>
 ((cy_ (a0,(v1,(v2,v3))) a2).bind λv4 =>
 (cond (!v4.1)
 (some (([],([],[])),(29,())))
 ((mvX a0 a2 v1 v2 v3).bind λv32 =>
 ((((ag_ (ρ:=(((List Int)×Unit)⊕(Bool×((List Int)×Unit)))) (setB a0 v32.2.1 v32.2.2.1) (0,(v32.1,()))).bind λv48 =>
 (cj_ v48 (λv49=>(some ((!false),(v49.1,()))))
 (λv50=>(some v50))))).bind λv51 =>
 (cond v51.1
 (some (([],([],[])),(27,())))
 (some ((v51.2.1,(v32.2.1,v32.2.2.1)),(0,())))))))))))))
theorem rstX_eq:fh_=rstX:=by kernel_rfl
theorem cz6 {r:ae_} (h:SmR r) (ok:OkR r) {s:ai_} (hv:VS r s) {m:af_} (hl:lgl r s m=true):mvX r m s.1 s.2.1 s.2.2=some ((mvP r s m).1,((mvP r s m).2.1,((mvP r s m).2.2,()))):=by
  obtain⟨m1,m2,m3⟩:=qn_ h ok hv
  have hl1:=hv.l1
  have hl2:=hv.l2
  obtain⟨pj,px,hpj,hp,e2⟩:=cb1 m3 hl
  have eg:gi s.2.2 m.1=px:=mc_ e2
  have hpx:=(lk_ h).1 (hv.py _ _ hp)
  have hpl:=h.pl
  unfold lgl at hl
  rw[a1_] at hl
  have hl:=hl.2
  unfold mvX mvP
  cases hk1:m.2.1==1 with
  | true =>
    rw[hk1] at hl
    simp only[a5_] at hl ⊢
    rcases cs_ h.wy m.2.2 with ⟨f1,f2⟩ | ⟨j,w,hj,hw,f1,f2⟩
    · rw[f2] at hl;cases hl
    · have ow:=(ok.wy j w hw).1
      unfold cl0 at ow
      simp only[a1_] at ow
      have o1:=(lk_ h).1 ow.1
      have o2:=(lk_ h).1 ow.2.1
      simp only[f2,e2,eg,a0_,Option.elim]
      rw[er_ (n:=w.1+w.2.1) (by omega) (by omega),er_ (by omega) (by omega)]
  | false =>
  rw[hk1] at hl
  simp only[a2_] at hl ⊢
  cases hk2:m.2.1==2 with
  | true =>
    rw[hk2] at hl
    simp only[a5_] at hl ⊢
    rcases cs_ h.pr m.2.2 with ⟨f1,f2⟩ | ⟨j,x,hj,hx,f1,f2⟩
    · rw[f2] at hl;cases hl
    · have:=am_ hx
      rw[ms_ (l:=s.2.1) (i:=m.2.2) (by omega) (by omega)]
      rfl
  | false =>
  rw[hk2] at hl
  simp only[a2_] at hl ⊢
  cases hk3:m.2.1==3 with
  | true =>
    rw[hk3] at hl
    simp only[a5_] at hl ⊢
    rcases cs_ m2 m.2.2 with ⟨f1,f2⟩ | ⟨j,x,hj,hx,f1,f2⟩
    · rw[f2] at hl;cases hl
    · simp only[f2,e2,eg,a0_]
  | false =>
  rw[hk3] at hl
  simp only[a2_] at hl ⊢
  cases hk4:m.2.1==4 with
  | false=>rfl
  | true =>
    rw[hk4] at hl
    simp only[a5_] at hl ⊢
    rcases cs_ h.ac m.2.2 with ⟨f1,f2⟩ | ⟨j,a,hj,ha,f1,f2⟩
    · rw[f2] at hl;cases hl
    · have ai:=bj5 (ok.ac j a ha).1
      obtain⟨s1,s2,s3,s4,s5,s6⟩:=h.acn a (ax_ ha)
      simp only[f2,a0_,Option.elim]
      have hA:=ac9 a.2.2.2.2.2.2.1 s5 (λp=>p) (λ_=>-1) s.2.1 (λp hp=>by have:=ai.sp p hp;omega) (body:=(λ(v17:(Int×((List Int)×Unit))) =>
 (cond (decide (v17.1<(a.2.2.2.2.2.2.1.length:Int)))
 ((at? a.2.2.2.2.2.2.1 v17.1).bind λv18 =>
 ((at? v17.2.1 v18).bind λv19 =>
 ((at? v17.2.1 v18).bind λv20 =>
 (some (inl ((w64 (v17.1+1)),((v17.2.1.set v18.toNat (-1)),())))))))
 (some (inr (v17.2.1,())))))) (λi x t' y hx hy=>by simp only[dlt (am_ hx),a5_,ah_ hx,a0_,hy]) (λt'=>by simp only[dnl,a2_])
      rw[hA,a0_]
      have hl3:(a.2.2.2.2.2.2.1.foldl (λt p=>t.set p.toNat (-1)) s.2.1).length=s.2.1.length:=ac8 (λp=>p) (λ_=>-1) _ _
      have hB:=ac9 a.2.2.2.2.2.2.2 s6 (λp=>p) (λ_=>hdl m) (a.2.2.2.2.2.2.1.foldl (λt p=>t.set p.toNat (-1)) s.2.1) (λp hp=>by have:=ai.br p hp;omega) (body:=(λ(v22:(Int×((List Int)×Unit))) =>
 (cond (decide (v22.1<(a.2.2.2.2.2.2.2.length:Int)))
 ((at? a.2.2.2.2.2.2.2 v22.1).bind λv23 =>
 ((at? v22.2.1 v23).bind λv24 =>
 ((at? v22.2.1 v23).bind λv25 =>
 (some (inl ((w64 (v22.1+1)),((v22.2.1.set v23.toNat (w64 ((-2) - m.1))),())))))))
 (some (inr (v22.2.1,())))))) (λi x t' y hx hy=>by simp only[dlt (am_ hx),a5_,ah_ hx,a0_,hy]) (λt'=>by simp only[dnl,a2_])
      simp only
      rw[hB,a0_]
      have hC:=ac9 a.2.2.2.2.2.1 s4 (λx:Int×Int=>x.1) (λx=>x.2) s.1 (λx hx=>by have:=(mw_ h ok (ai.st x hx)).1;omega) (body:=(λ(v27:(Int×((List Int)×Unit))) =>
 (cond (decide (v27.1<(a.2.2.2.2.2.1.length:Int)))
 ((at? a.2.2.2.2.2.1 v27.1).bind λv28 =>
 ((at? v27.2.1 v28.1).bind λv29 =>
 ((at? v27.2.1 v28.1).bind λv30 =>
 (some (inl ((w64 (v27.1+1)),((v27.2.1.set v28.1.toNat v28.2),())))))))
 (some (inr (v27.2.1,())))))) (λi x t' y hx hy=>by simp only[dlt (am_ hx),a5_,ah_ hx,a0_,hy]) (λt'=>by simp only[dnl,a2_])
      rw[hC,a0_]
def fstA (r:ae_) (th:List Int):Option (List bg_×ac_):=r.2.2.2.2.2.1.find? λy=>(gi th y.2.1 != y.2.2)&&dp_ th y.1
def stl (r:ae_):Nat→List Int→Option (List Int)
 | 0,_=>none
 | n+1,th=>match fstA r th with
  | none=>some th
  | some y=>stl r n (th.set y.2.1.toNat y.2.2)
theorem al7 {α ρ:Type} {q:α→Bool} {f:Nat→ρ}:∀ (m:List α) (k:Nat),(ge_ (λi y=>cond (q y) (some (f i)) none) k m=none∧m.find? q=none)∨∃ (i:Nat) (y:α),m[i]?=some y∧m.find? q=some y∧ge_ (λi y=>cond (q y) (some (f i)) none) k m=some (f (k+i))
 | [],_=>.inl ⟨rfl,rfl⟩
 | x::m,k=>by
  unfold ge_
  cases hq:q x with
  | true=>exact .inr ⟨0,x,rfl,by simp[hq],rfl⟩
  | false =>
   rcases al7 (q:=q) (f:=f) m (k+1) with ⟨h1,h2⟩ | ⟨i,y,h1,h2,h3⟩
   ·exact .inl ⟨h1,by simp[hq,h2]⟩
   ·exact .inr ⟨i+1,y,by simpa using h1,by simp[hq,h2],by rw[show k+(i+1)=k+1+i by omega];exact h3⟩
theorem if_find {α:Type} {l:List α} (hl:Sm l.length) (q:α→Bool) {body:(Int×Unit)→Option ((Int×Unit)⊕(Unit⊕(Int×Unit)))}
  (h:∀ (i:Nat) y,l[i]?=some y→body ((i:Int),())=some (cond (q y) (.inr (.inr ((i:Int),()))) (.inl (w64 ((i:Int)+1),())))) (e:body ((l.length:Int),())=some (.inr (.inl ()))) :
  ∃ n:Int,((ag_ body (0,())).bind λv=>cj_ v (λ_=>some ((-1:Int),())) (λw=>some w))=some (n,())∧((n = -1∧l.find? q=none)∨∃ (i:Nat) (y:α),n=(i:Int)∧l[i]?=some y∧l.find? q=some y):=by
 have hrun:=om_ l (λi y=>cond (q y) (some (inr ((i:Int),()):Unit⊕(Int×Unit))) none) (λi=>((i:Int),())) (r0:=inl ()) (body:=body) (λi y hy=>by
  have hi:=am_ hy
  rw[h i y hy,az_ (show Sm i by omega)]
  cases q y<;>rfl) e
 have hr2:ag_ body (0,())=some ((ge_ (λi y=>cond (q y) (some (inr ((i:Int),()):Unit⊕(Int×Unit))) none) 0 l).getD (inl ())):=hrun
 rw[hr2]
 rcases al7 (q:=q) (f:=λi=>(inr ((i:Int),()):Unit⊕(Int×Unit))) l 0 with ⟨h1,h2⟩ | ⟨i,y,h1,h2,h3⟩
 ·exact⟨-1,by rw[h1];rfl,.inl ⟨rfl,h2⟩⟩
 ·exact⟨(i:Int),by rw[h3,b0_];rfl,.inr ⟨i,y,rfl,h1,h2⟩⟩
theorem cw3 {r:ae_} (h:SmR r) (ok:OkR r) {th pr py:List Int} (hv:VT r th) :
  ∃ n:Int,((ag_ (autB r th pr py) (0,())).bind λv=>cj_ v (λ_=>some ((-1:Int),())) (λw=>some w))=some (n,())∧((n = -1∧fstA r th=none)∨∃ (i:Nat) (y:List bg_×ac_),n=(i:Int)∧r.2.2.2.2.2.1[i]?=some y∧fstA r th=some y) :=
 if_find (l:=r.2.2.2.2.2.1) h.au (λy=>(gi th y.2.1 != y.2.2)&&dp_ th y.1) (body:=autB r th pr py) (λi y hy=>by
  obtain⟨g1,g2⟩:=ok.au i y hy
  have hi:=(mw_ h ok g1).1
  obtain⟨c1,c2⟩:=ut_ h.th g2
  have hl:=hv.1
  unfold autB
  have ht:bb_ (r,(th,(pr,py))) y.1=some (dp_ th y.1,()):=mu_ (t:=(r,(th,(pr,py)))) (by omega) (by show InC th.length y.1;rw[hl];exact c1)
  simp only[dlt (am_ hy),a5_,ah_ hy,a0_,ms_ hi.1 (show y.2.1<th.length by omega),ht]
  cases gi th y.2.1 != y.2.2 with
  | false=>rfl
  | true=>cases dp_ th y.1<;>rfl) (by
  unfold autB
  simp only[dnl,a2_])
theorem nw_ {r:ae_} (h:SmR r) (ok:OkR r) {pr py:List Int}:∀ (n i:Nat) (th:List Int),i+n=101→VT r th →
  ∃ z,ag_ (setB r pr py) ((i:Int),(th,()))=some z∧match stl r n th with
   | some th'=>z = .inr (false,(th',()))∧VT r th'
   | none=>∃ w,z = .inl w
 | 0,i,th,hi,hv=>by
  obtain rfl:i=101:=by omega
  exact⟨.inl (th,()),bo_ (by unfold setB;rfl),_,rfl⟩
 | n+1,i,th,hi,hv=>by
  obtain⟨k,e,hc⟩:=cw3 h ok hv (pr:=pr) (py:=py)
  have hd:decide ((i:Int)<101)=true:=b8_ (by omega)
  unfold stl
  rcases hc with ⟨rfl,hf⟩ | ⟨j,y,rfl,hy,hf⟩
  ·rw[hf]
   refine⟨.inr (false,(th,())),bo_ ?_,rfl,hv⟩
   unfold setB
   simp only[hd,a5_]
   refine e6_ (congrArg (λo=>Option.bind o _) e) rfl
  ·rw[hf]
   have g1:=(ok.au j y hy).1
   have hi2:=(mw_ h ok g1).1
   have hl:=hv.1
   obtain⟨z,ez,hz⟩:=nw_ h ok (pr:=pr) (py:=py) n (i+1) (th.set y.2.1.toNat y.2.2) (by omega) (ck0 h ok hv g1)
   refine⟨z,bp_ ?_ ez,hz⟩
   unfold setB
   simp only[hd,a5_]
   refine e6_ (congrArg (λo=>Option.bind o _) e) ?_
   simp only[a0_,show decide ((j:Int)<0)=false from c2_ (by omega),a2_,ah_ hy,ms_ hi2.1 (show y.2.1<th.length by omega),az_ (show Sm i by show _≤1000000000;omega)]
def yy_ (r:ae_) (s:ai_) (m:af_):Option ai_:=(stl r 101 (mvP r s m).1).map λth=>(th,(mvP r s m).2)
abbrev eS:ai_:=([],([],[]))
theorem al9 {r:ae_} (h:SmR r) (h0:cz_ r=0) {s:ai_} (hv:VS r s) (m:af_) :
  fh_ r s m=some (cond (lgl r s m) ((yy_ r s m).elim (eS,(27,())) λt=>(t,(0,()))) (eS,(29,()))):=by
 have ok:=br_ h0
 obtain⟨m1,m2,m3⟩:=qn_ h ok hv
 rw[rstX_eq]
 unfold rstX
 rw[fc_ h,a0_,hh_ h0 hv]
 simp only[show ((0:Int) != 0)=false from rfl,a2_]
 rw[ay_ m1,a0_,ay_ m2,a0_,ay_ m3,a0_]
 refine e6_ (congrArg (λo=>Option.bind o _) (wh_ h ok hv m)) ?_
 rw[a0_]
 cases hl:lgl r s m with
 | false=>rfl
 | true =>
 simp only[e8_,a2_,a5_]
 rw[cz6 h ok hv hl,a0_]
 simp only
 have hv2:=VS_mv h ok hv hl
 obtain⟨z,ez,hz⟩:=nw_ h ok (pr:=(mvP r s m).2.1) (py:=(mvP r s m).2.2) 101 0 (mvP r s m).1 rfl ⟨hv2.l1,hv2.th⟩
 refine e6_ (congrArg (λo=>Option.bind (Option.bind o _) _) ez) ?_
 unfold yy_
 cases hs:stl r 101 (mvP r s m).1 with
 | none =>
  rw[hs] at hz
  obtain⟨w,rfl⟩:=hz
  rfl
 | some th' =>
  rw[hs] at hz
  obtain⟨rfl,_⟩:=hz
  rfl
theorem vi_ {r:ae_} (h:SmR r) (h0:cz_ r=0) {s t:ai_} (hv:VS r s) {m:af_} (hl:lgl r s m=true) (ht:yy_ r s m=some t):VS r t:=by
 have ok:=br_ h0
 have hv2:=VS_mv h ok hv hl
 unfold yy_ at ht
 obtain⟨th,hs,rfl⟩:=f5_.1 ht
 obtain⟨z,ez,hz⟩:=nw_ h ok (pr:=(mvP r s m).2.1) (py:=(mvP r s m).2.2) 101 0 (mvP r s m).1 rfl ⟨hv2.l1,hv2.th⟩
 rw[hs] at hz
 exact⟨hz.2.1,hv2.l2,hv2.l3,hz.2.2,hv2.pr,hv2.py⟩
end
section
set_option maxRecDepth 100000
theorem av0 {r:ae_} (h:SmR r) (h0:cz_ r=0) {s:ai_} (hv:VS r s) {c:List bg_} (hc:cOk r.2.1 c=true):fj_ r s c=some (dp_ s.1 c,(0,())):=by
 have ok:=br_ h0
 obtain⟨m1,m2,m3⟩:=qn_ h ok hv
 unfold fj_
 rw[fc_ h,a0_,hh_ h0 hv]
 simp only[show ((0:Int) != 0)=false from rfl,a2_]
 rw[ke_ h.th,a0_,hc]
 obtain⟨c1,c2⟩:=ut_ h.th hc
 have hl:=hv.l1
 simp only[e8_,a2_]
 rw[ay_ m1,a0_,ay_ m2,a0_,ay_ m3,a0_,mu_ (t:=(r,(s.1,(s.2.1,s.2.2)))) (show c.length≤1000000000 by omega) (by show InC s.1.length c;rw[hl];exact c1)]
 rfl
def rdB (s:ai_) (n:cq_) (b:Bool):Bool:=b||(dp_ s.1 n.2.2.2.1&&s.2.2.contains n.2.1)
def rdN (g:ad_) (s:ai_) (d:List Bool):List Bool:=List.zipWith (rdB s) g.2.2.2.1 d
theorem th_ {g:ad_} {s:ai_} {d:List Bool} (hd:d.length=g.2.2.2.1.length):(rdN g s d).length=g.2.2.2.1.length:=by
 unfold rdN
 rw[List.length_zipWith]
 omega
theorem bu9 {g:ad_} {s:ai_} {d:List Bool} {i:Nat} {n:cq_} {b:Bool} (hn:g.2.2.2.1[i]?=some n) (hb:d[i]?=some b):(rdN g s d)[i]?=some (rdB s n b):=by
 unfold rdN
 rw[List.getElem?_zipWith,hn,hb]
theorem ww_ {g:ad_} (hg:SmG g) (ok:OkG g) {s:ai_} (hv:VS g.1 s) {d:List Bool} (hd:d.length=g.2.2.2.1.length) (m:List ac_) :
  ∃ z,ag_ (pbgB g s) (0,(d,(m,())))=some z∧z.1=rdN g s d:=by
 have h0:=ok.room
 have okr:=br_ h0
 obtain⟨m1,m2,m3⟩:=qn_ hg.room okr hv
 have hn:=hg.nt
 have hrl:=th_ (s:=s) hd
 refine mf_ (λ(i:Nat) (z:Int×(List Bool×(List ac_×Unit)))=>∃ d' m',z=((i:Int),(d',(m',())))∧∀ j,d'[j]?=if j<i then (rdN g s d)[j]? else d[j]?) _ g.2.2.2.1.length 0 _ ⟨d,m,rfl,λj=>by simp⟩ (λj z h1 h2 hz=>.inl ?_) (λz hz => ?_)
 ·obtain⟨d',m',rfl,hd'⟩:=hz
  obtain⟨x,hx⟩:=bd_ (l:=g.2.2.2.1) (i:=j) (by omega)
  obtain⟨y,hy⟩:=bd_ (l:=d) (i:=j) (by omega)
  have hy':d'[j]?=some y:=by rw[hd' j,if_neg (by omega)];exact hy
  have hr:=bu9 (s:=s) hx hy
  have hH:=av0 hg.room h0 hv (ok.nt j x hx).2
  have keep:rdB s x y=y→∀ k,d'[k]?=if k<j+1 then (rdN g s d)[k]? else d[k]?:=λe k=>by
   rw[hd' k]
   by_cases hk:k=j
   ·subst hk
    rw[if_neg (by omega),if_pos (by omega),hr,hy,e]
   ·by_cases hk2:k<j
    ·rw[if_pos hk2,if_pos (by omega)]
    ·rw[if_neg hk2,if_neg (by omega)]
  have turn:rdB s x y=true→∀ k,(d'.set ((j:Int)).toNat true)[k]?=if k<j+1 then (rdN g s d)[k]? else d[k]?:=λe k=>by
   rw[b9_,g4_]
   by_cases hk:j=k
   ·subst hk
    rw[if_pos rfl,if_pos (am_ hy'),if_pos (by omega),hr,e]
   ·rw[if_neg hk,hd' k]
    by_cases hk2:k<j
    ·rw[if_pos hk2,if_pos (by omega)]
    ·rw[if_neg hk2,if_neg (by omega)]
  unfold pbgB
  simp only[dlt (am_ hx),a5_,ah_ hx,ah_ hy',a0_,hH,pc_ m3,az_ (show Sm j by omega)]
  unfold rdB at keep turn
  cases hb:dp_ s.1 x.2.2.2.1 with
  | false=>exact⟨_,rfl,_,_,rfl,keep (by rw[hb];simp)⟩
  | true =>
  cases hc:s.2.2.contains x.2.1 with
  | false =>
   refine⟨_,?_,d',m',rfl,keep (by rw[hc];simp)⟩
   simp only[a5_,a2_,a0_]
  | true =>
  cases y with
  | true=>exact⟨_,rfl,_,_,rfl,keep rfl⟩
  | false=>exact⟨_,rfl,_,_,rfl,turn (by rw[hb,hc];rfl)⟩
 ·obtain⟨d',m',rfl,hd'⟩:=hz
  rw[b0_]
  unfold pbgB
  simp only[dnl,a2_]
  refine⟨_,rfl,f1_ λk => ?_⟩
  rw[hd' k]
  split
  ·rfl
  ·rw[b4_ (by omega),b4_ (by omega)]
def bn7 (g:ad_) (d:List Bool) (lock:Int):List ak_:=(g.2.2.2.1.zip d).filterMap λx=>cond (x.1.2.2.1==lock&&x.2) (some x.1.2.2.2.2) none
theorem aj4 {g:ad_} {d:List Bool} {lock:Int} {c:ak_} (h:c ∈ bn7 g d lock):∃ (i:Nat) (n:cq_),g.2.2.2.1[i]?=some n∧n.2.2.1=lock∧n.2.2.2.2=c:=by
 unfold bn7 at h
 obtain⟨x,hx,he⟩:=List.mem_filterMap.1 h
 obtain⟨i,hi⟩:=e3_ (List.of_mem_zip hx).1
 cases hq:(x.1.2.2.1==lock&&x.2) with
 | false=>rw[hq] at he;cases he
 | true =>
  rw[hq] at he
  rw[a1_,f6_] at hq
  exact⟨i,x.1,hi,hq.1,a6_ he⟩
theorem bi0 {g:ad_} (hg:SmG g) (d:List Bool) (lock:Int):(bn7 g d lock).length≤20:=by
 unfold bn7
 refine c9_ (p7_ ..) ?_
 rw[n4_]
 have:=hg.nt
 omega
theorem by4 {g:ad_} (ok:OkG g) {i:Nat} {n:cq_} (hn:g.2.2.2.1[i]?=some n) {l:ac_} (h0:0≤n.2.2.1) (hl:at? g.2.1 n.2.2.1=some l):dd_ l n.2.2.2.2=true:=by
 have h:=(ok.nt i n hn).1
 unfold by5 at h
 simp only[a1_] at h
 have h5:=h.2.2.2.2
 rw[c2_ (by omega),hl] at h5
 simp only[a2_] at h5
 cases hk:at? g.2.2.1 n.2.2.1 with
 | none=>rw[hk] at h5;cases h5
 | some k =>
  rw[hk] at h5
  have h5:clOk l n.2.2.2.2 k=true:=h5
  unfold clOk at h5
  rw[a1_] at h5
  exact h5.1
noncomputable def rdC (g:ad_) (d:List Bool) (lock:Int) (l:ac_):Int:=((rdg l ((bn7 g d lock))).length:Int)
theorem ar1 {g:ad_} (hg:SmG g) (ok:OkG g) (d:List Bool) {lock:Int} (h0:0≤lock) {l:ac_} (hl:at? g.2.1 lock=some l):da_ l (bn7 g d lock)=some (rdC g d lock l,(0,())):=by
 obtain⟨_,_,l1⟩:=db_ hl
 refine ar4 (ok.lk _ l l1).1 (bi0 hg d lock) λc hc => ?_
 obtain⟨i,n,hn,rfl,rfl⟩:=aj4 hc
 exact by4 ok hn h0 hl
noncomputable def opn (g:ad_) (d:List Bool) (lock:Int):Bool:=cond (decide (lock<0)) true ((at? g.2.1 lock).elim false λl=>decide (rdC g d lock l≤g.2.2.2.2))
noncomputable def abB (a0:ad_) (v1:List Bool) (lock:Int):(List Int×(List ak_×(Int×Unit)))→Option ((List Int×(List ak_×(Int×Unit)))⊕(List Int×(List ak_×Unit))) :=
 (λ(v4:((List Int)×((List ak_)×(Int×Unit)))) =>
 (cond (decide (v4.2.2.1<(a0.2.2.2.1.length:Int)))
 ((((at? a0.2.2.2.1 v4.2.2.1).bind λv5 =>
 (((cond (v5.2.2.1==lock)
 ((at? v1 v4.2.2.1).bind λv6 =>
 ((at? v1 v4.2.2.1).bind λv7 =>
 (some (v7,()))))
 (some (false,())))).bind λv8 =>
 (cond v8.1
 ((push? (α:=Int) v4.1 [v4.2.2.1]).bind λv9 =>
 ((push? (α:=ak_) v4.2.1 [v5.2.2.2.2]).bind λv10 =>
 (some (v9,(v10,())))))
 (some (v4.1,(v4.2.1,()))))))).bind λv11 =>
 (some (inl (v11.1,(v11.2.1,((w64 (v4.2.2.1+1)),()))))))
 (some (inr (v4.1,(v4.2.1,()))))))
theorem cj9 {g:ad_} (hg:SmG g) {d:List Bool} (hd:d.length=g.2.2.2.1.length) (lock:Int):∃ q,ag_ (abB g d lock) ([],([],(0,())))=some (q,(bn7 g d lock,())):=by
 have hn:=hg.nt
 suffices hk:∃ r,ag_ (abB g d lock) ([],([],(0,())))=some r∧∃ q,r=(q,(bn7 g d lock,())) by
  obtain⟨z,ez,q,rfl⟩:=hk
  exact⟨q,ez⟩
 refine mf_ (λ(i:Nat) (z:List Int×(List ak_×(Int×Unit)))=>∃ q,z=(q,(((g.2.2.2.1.zip d).take i).filterMap (λx=>cond (x.1.2.2.1==lock&&x.2) (some x.1.2.2.2.2) none),((i:Int),())))∧q.length≤i) (λw=>∃ q,w=(q,(bn7 g d lock,()))) g.2.2.2.1.length 0 ([],([],(0,()))) ⟨[],rfl,c3_ _⟩ (λj z h1 h2 hz=>.inl ?_) (λz hz => ?_)
 ·obtain⟨q,rfl,hq⟩:=hz
  obtain⟨x,hx⟩:=bd_ (l:=g.2.2.2.1) (i:=j) (by omega)
  obtain⟨y,hy⟩:=bd_ (l:=d) (i:=j) (by omega)
  have hzip:(g.2.2.2.1.zip d)[j]?=some (x,y):=by rw[h7_];exact⟨hx,hy⟩
  have hlen:(((g.2.2.2.1.zip d).take j).filterMap (λx=>cond (x.1.2.2.1==lock&&x.2) (some x.1.2.2.2.2) none)).length≤j:=by
   refine c9_ (p7_ ..) ?_
   rw[c7_];omega
  have hstep:((g.2.2.2.1.zip d).take (j+1)).filterMap (λx=>cond (x.1.2.2.1==lock&&x.2) (some x.1.2.2.2.2) none)=((g.2.2.2.1.zip d).take j).filterMap (λx=>cond (x.1.2.2.1==lock&&x.2) (some x.1.2.2.2.2) none)++cond (x.2.2.1==lock&&y) [x.2.2.2.2] []:=by
   rw[d9_,hzip,o5_]
   cases hc:(x.2.2.1==lock&&y) with
   | false=>simp[hc]
   | true=>simp[hc]
  unfold abB
  simp only[dlt (am_ hx),a5_,ah_ hx,ah_ hy,a0_,az_ (show Sm j by omega)]
  cases h1:x.2.2.1==lock with
  | false =>
   refine⟨_,rfl,q,?_,by omega⟩
   rw[hstep,h1,f0_,a2_,e9_]
  | true =>
  cases y with
  | false =>
   refine⟨_,rfl,q,?_,by omega⟩
   rw[hstep,g2_,a2_,e9_]
  | true =>
   simp only[a5_,a0_,ci_ (show Sm q.length by show _≤1000000000;omega),ci_ (show Sm _ from c9_ hlen (by omega))]
   refine⟨_,rfl,q++[(j:Int)],?_,by rw[a8_,e0_];omega⟩
   rw[hstep,h1,h3_,a5_]
 ·obtain⟨q,rfl,hq⟩:=hz
  rw[b0_]
  unfold abB
  simp only[dnl,a2_]
  refine⟨_,rfl,q,?_⟩
  unfold bn7
  rw[g8_ (by rw[n4_];omega)]
end
section
set_option maxRecDepth 100000
noncomputable def opX (a0:ad_) (v1:List Bool) (a2:af_):Option (Bool×(List ac_×Unit)) :=
 (cond (a2.2.1==4)
 ((ca_ a2.2.2 0 (w64 ((a0.1.2.2.2.2.1.length:Int) - 1))).bind λv2 =>
 (cond v2.1
 ((at? a0.1.2.2.2.2.1 a2.2.2).bind λv3 =>
 (cond (decide (v3.2.2.1<0))
 (some ((!true),([],())))
 ((((ag_ (abB a0 v1 v3.2.2.1) ([],([],(0,())))).bind λv12 =>
 ((at? a0.2.1 v3.2.2.1).bind λv13 =>
 ((da_ v13 v12.2.1).bind λv14 =>
 (((cond (v14.2.1==0)
 (some ((decide (v14.1≤a0.2.2.2.2)),()))
 (some (false,())))).bind λv15 =>
 (cond v15.1
 (some ((gi_ (gi_ [] v3.2.2.1 2) v3.2.2.1 1),()))
 (some ((gi_ [] v3.2.2.1 2),())))))))).bind λv16 =>
 (some ((!((ei_ 0 v16.1 v3.2.2.1)==1)),(v16.1,()))))))
 (some (false,([],())))))
 (some (false,([],()))))
noncomputable def pstX (a0:ad_) (a1:aa_) (a2:af_):Option (aa_×(Int×Unit)) :=
 ((ef_ a0 a1).bind λv0 =>
 (cond (v0.1 != 0)
 (cond (v0.1 != 0)
 (some ((([],([],[])),[]),(v0.1,())))
 none)
 ((push? (α:=Bool) [] a1.2).bind λv1 =>
 ((((opX a0 v1 a2).bind λv17 =>
 (cond v17.1
 (some ((!false),(v1,(v17.2.1,((a1.1.1,(a1.1.2.1,(a1.1.2.2,()))),())))))
 ((fh_ a0.1 a1.1 a2).bind λv18 =>
 (cond (v18.2.1 != 0)
 (some ((!false),(v1,(v17.2.1,((a1.1.1,(a1.1.2.1,(a1.1.2.2,()))),())))))
 ((ag_ (ρ:=((List Bool)×((List ac_)×Unit))) (pbgB a0 v18.1) (0,(v1,(v17.2.1,())))).bind λv29 =>
 (some ((!true),(v29.1,(v29.2.1,((v18.1.1,(v18.1.2.1,(v18.1.2.2,()))),()))))))))))).bind λv30 =>
 (cond v30.1
 (some ((([],([],[])),[]),(29,())))
 ((push? (α:=Int) [] v30.2.2.2.1.1).bind λv31 =>
 ((push? (α:=Int) [] v30.2.2.2.1.2.1).bind λv32 =>
 ((push? (α:=Int) [] v30.2.2.2.1.2.2.1).bind λv33 =>
 ((push? (α:=Bool) [] v30.2.1).bind λv34 =>
 (some (((v31,(v32,v33)),v34),(0,()))))))))))))
theorem pstX_eq:kw_=pstX:=by kernel_rfl
noncomputable def okM (g:ad_) (d:List Bool) (m:af_):Bool:=cond (m.2.1==4) ((at? g.1.2.2.2.2.1 m.2.2).elim true λa=>opn g d a.2.2.1) true
noncomputable def stepP (g:ad_) (p:aa_) (m:af_):Option aa_ :=
 cond (okM g p.2 m&&lgl g.1 p.1 m) ((yy_ g.1 p.1 m).map λs=>(s,rdN g s p.2)) none
abbrev eP:aa_:=(eS,[])
theorem bm6 {g:ad_} (hg:SmG g) (p:aa_):ef_ g p=some (cond (cn_ g != 0) (cn_ g) (cond (nl_ g.1 p.1 != 0) (nl_ g.1 p.1) (cond ((p.2.length:Int) != (g.2.2.2.1.length:Int)) 28 0)),()):=by
 unfold ef_
 rw[zu_ hg,a0_]
 cases cn_ g != 0 with
 | true=>rfl
 | false =>
 simp only[a2_]
 rw[fc_ hg.room,a0_]
 cases nl_ g.1 p.1 != 0 with
 | true=>rfl
 | false =>
 simp only[a2_]
 cases (p.2.length:Int) != (g.2.2.2.1.length:Int)<;>rfl
structure VP (g:ad_) (p:aa_):Prop where
 st:VS g.1 p.1
 rd:p.2.length=g.2.2.2.1.length
theorem wv_ {g:ad_} (hg:SmG g) (h0:cn_ g=0) {p:aa_} (hv:VP g p):ef_ g p=some (0,()):=by
 rw[bm6 hg,h0,hh_ (dn_ h0).room hv.st,hv.rd,show ((g.2.2.2.1.length:Int) != (g.2.2.2.1.length:Int))=false by simp]
 rfl
theorem opX_eq {g:ad_} (hg:SmG g) (ok:OkG g) {d:List Bool} (hd:d.length=g.2.2.2.1.length) (m:af_):∃ x,opX g d m=some (!(okM g d m),(x,())):=by
 have hac:=hg.ac
 unfold opX okM
 cases hk:m.2.1==4 with
 | false=>exact⟨[],rfl⟩
 | true =>
 simp only[a5_,kn_,a0_]
 rcases cs_ (l:=g.1.2.2.2.2.1) (by show _≤1000000000;omega) m.2.2 with ⟨f1,f2⟩ | ⟨j,a,hj,ha,f1,f2⟩
 ·rw[f1,f2];exact⟨[],rfl⟩
 ·rw[f1,f2]
  simp only[a5_,a0_,Option.elim]
  unfold opn
  cases hz:decide (a.2.2.1<0) with
  | true=>exact⟨[],rfl⟩
  | false =>
  have hz:=d2_ hz
  have hlt:=ok.ac j a ha
  obtain⟨l,hl⟩:=bd_ (l:=g.2.1) (i:=a.2.2.1.toNat) (by omega)
  have hl2:at? g.2.1 a.2.2.1=some l:=by rw[show a.2.2.1=((a.2.2.1.toNat:Nat):Int) by omega];exact ah_ hl
  obtain⟨q,e⟩:=cj9 hg hd a.2.2.1
  rw[e]
  simp only[a2_,a0_,hl2,ar1 hg ok d (by omega) hl2,Option.elim]
  simp only[show ((0:Int)==0)=true from rfl,a5_,a0_]
  cases decide (rdC g d a.2.2.1 l≤g.2.2.2.2) with
  | true=>exact⟨_,by simp[gi_,ei_,mget?];rfl⟩
  | false=>exact⟨_,by simp[gi_,ei_,mget?];rfl⟩
theorem bw2 {g:ad_} (hg:SmG g) (h0:cn_ g=0) {p:aa_} (hv:VP g p) (m:af_) :
  kw_ g p m=some ((stepP g p m).elim (eP,(29,())) λq=>(q,(0,()))):=by
 have ok:=dn_ h0
 have hn:=hg.nt
 have hrd:=hv.rd
 rw[pstX_eq]
 unfold pstX
 rw[wv_ hg h0 hv,a0_]
 simp only[show ((0:Int) != 0)=false from rfl,a2_]
 rw[ay_ (show Sm p.2.length by show _≤1000000000;omega),a0_]
 obtain⟨x,ex⟩:=opX_eq hg ok hv.rd m
 rw[ex,a0_]
 unfold stepP
 cases okM g p.2 m with
 | false=>rfl
 | true =>
 simp only[e8_,a2_,c1_]
 rw[al9 hg.room ok.room hv.st m,a0_]
 cases hl:lgl g.1 p.1 m with
 | false=>rfl
 | true =>
 simp only[a5_]
 cases hs:yy_ g.1 p.1 m with
 | none=>rfl
 | some s =>
 have hv2:=vi_ hg.room ok.room hv.st hl hs
 obtain⟨m1,m2,m3⟩:=qn_ hg.room (br_ ok.room) hv2
 have hrl:=th_ (s:=s) hv.rd
 obtain⟨z,ez,hz⟩:=ww_ hg ok hv2 hv.rd x
 simp only[Option.elim,show ((0:Int) != 0)=false from rfl,a2_]
 rw[ez,a0_,a0_]
 simp only[e8_,a2_]
 rw[ay_ m1,a0_,ay_ m2,a0_,ay_ m3,a0_,hz,ay_ (show Sm (rdN g s p.2).length by show _≤1000000000;omega),a0_]
 rfl
theorem ac4 {g:ad_} (hg:SmG g) (h0:cn_ g=0) {p q:aa_} (hv:VP g p) {m:af_} (h:stepP g p m=some q):VP g q:=by
 have ok:=dn_ h0
 unfold stepP at h
 cases hc:(okM g p.2 m&&lgl g.1 p.1 m) with
 | false=>rw[hc] at h;cases h
 | true =>
 rw[hc,a5_] at h
 obtain⟨s,hs,rfl⟩:=f5_.1 h
 rw[a1_] at hc
 exact⟨vi_ hg.room ok.room hv.st hc.2 hs,th_ hv.rd⟩
end
end Go.Proofs.YtgeehfnbhbibeaaGreatDoor.Rx
namespace Go.Proofs.YtgeehfnbhbibeaaGreatDoor.Rx
open Go Pad Rex Sum
section
set_option maxRecDepth 10000
theorem bt2 {r:ae_} (h:SmR r) (h0:cz_ r=0) {s:ai_} (hv:VS r s):ig_ r s=some (dp_ s.1 r.2.2.2.2.2.2.2,(0,())):=by
 have ok:=br_ h0
 obtain⟨m1,m2,m3⟩:=qn_ h ok hv
 unfold ig_
 rw[fc_ h,a0_,hh_ h0 hv]
 simp only[show ((0:Int) != 0)=false from rfl,a2_]
 obtain⟨c1,c2⟩:=ut_ h.th ok.go
 have hl:=hv.l1
 rw[ay_ m1,ay_ m2,ay_ m3]
 simp only[a0_]
 rw[mu_ (t:=(r,(s.1,(s.2.1,s.2.2)))) (show r.2.2.2.2.2.2.2.length≤1000000000 by omega) (by show InC s.1.length r.2.2.2.2.2.2.2;rw[hl];exact c1)]
 rfl
end
section
set_option maxRecDepth 10000
theorem bl8 {s:ai_} (h:Sm s.2.1.length) (p:Int):he_ s p=some ((mb_ s.2.1 (w64 ((-2) - p)):Int),()):=by
 unfold he_
 refine as1 s.2.1 (λ_ (c:Nat) x=>cond (x==w64 ((-2) - p)) (c+1) c) (λi c=>((c:Int),((i:Int),()))) (λc=>((c:Int),())) 0 (λi c=>c=mb_ (s.2.1.take i) (w64 ((-2) - p))) rfl (λi x c hx hc => ?_) (λc hc => ?_) (λc hc => ?_)
 ·have hi:=am_ hx
  have hcl:c≤i:=by rw[hc];refine c9_ (vr_ _ _) ?_;rw[c7_];omega
  have hn:mb_ (s.2.1.take (i+1)) (w64 ((-2) - p))=cond (x==w64 ((-2) - p)) (c+1) c:=by
   unfold mb_
   rw[d9_,hx,hc,List.countP_append]
   unfold mb_
   cases hq:x==w64 ((-2) - p) with
   | true=>simp[hq]
   | false=>simp[hq]
  refine⟨?_,hn.symm⟩
  simp only[dlt hi,a5_,ah_ hx,a0_,az_ (show Sm i by omega)]
  cases hq:x==w64 ((-2) - p) with
  | true=>simp only[a5_,a0_,az_ (show Sm c by omega)]
  | false=>rfl
 ·simp only[dnl,a2_]
 ·rw[e1_] at hc
  rw[hc]
theorem ak0 (a b:Int):(a != b) = !(a==b):=rfl
theorem aw4 {r:ae_} (h:SmR r) (ok:OkR r) {s:ai_} (hv:VS r s) (m:af_):jv_ r s m=some (lgl r s m,()):=by
 obtain⟨m1,m2,m3⟩:=qn_ h ok hv
 have hl1:=hv.l1
 have hl2:=hv.l2
 have hl3:=hv.l3
 have hH:∀ {c:List bg_},cOk r.2.1 c=true→bm_ s c=some (dp_ s.1 c,()):=λ{c} hc=>by
  obtain⟨c1,c2⟩:=ut_ h.th hc
  exact jn_ (show c.length≤1000000000 by omega) (by show InC s.1.length c;rw[hl1];exact c1)
 have hD:he_ s m.1=some ((mb_ s.2.1 (hdl m):Int),()):=bl8 m2 m.1
 have hDl:=vr_ s.2.1 (hdl m)
 unfold jv_ lgl
 rw[← hl3]
 simp only[fp_,a0_]
 rcases cs_ m3 m.1 with ⟨e1,_⟩ | ⟨pj,px,hpj,hp,e1,e2⟩
 ·rw[e1];rfl
 ·have eg:gi s.2.2 m.1=px:=mc_ e2
  simp only[e1,e2,eg,e8_,a2_,a0_,c1_]
  cases hk1:m.2.1==1 with
  | true =>
   simp only[a5_]
   rcases cs_ h.wy m.2.2 with ⟨f1,f2⟩ | ⟨j,w,hj,hw,f1,f2⟩
   ·simp only[f1,f2];rfl
   ·simp only[f1,f2,a5_,a0_,hH (ok.wy j w hw).2]
    show _=some ((w.1==px||w.2.1==px)&&dp_ s.1 w.2.2,())
    cases w.1==px with
    | true=>rfl
    | false=>cases w.2.1==px<;>rfl
  | false =>
  simp only[a2_]
  cases hk2:m.2.1==2 with
  | true =>
   simp only[a5_]
   rcases cs_ h.pr m.2.2 with ⟨f1,f2⟩ | ⟨j,x,hj,hx,f1,f2⟩
   ·simp only[f1,f2];rfl
   ·obtain⟨p,hp⟩:=bd_ (l:=s.2.1) (i:=j) (by have:=am_ hx;omega)
    have f3:at? s.2.1 m.2.2=some p:=by rw[hj];exact ah_ hp
    have f4:gi s.2.1 m.2.2=p:=mc_ f3
    simp only[f1,f2,f3,f4,a5_,a0_,hH (ok.pr j x hx).2,hD]
    show _=some (p==px&&(dp_ s.1 x.2.2&&decide ((mb_ s.2.1 (hdl m):Int)<3)),())
    cases p==px with
    | false=>rfl
    | true=>cases dp_ s.1 x.2.2<;>rfl
  | false =>
  simp only[a2_]
  cases hk3:m.2.1==3 with
  | true =>
   simp only[a5_]
   rcases cs_ m2 m.2.2 with ⟨f1,f2⟩ | ⟨j,p,hj,hp,f1,f2⟩
   ·rw[hl2] at f1
    simp only[f1,f2];rfl
   ·rw[hl2] at f1
    simp only[f1,f2,a5_,a0_];rfl
  | false =>
  simp only[a2_]
  cases hk4:m.2.1==4 with
  | false=>rfl
  | true =>
   simp only[a5_]
   rcases cs_ h.ac m.2.2 with ⟨f1,f2⟩ | ⟨j,a,hj,ha,f1,f2⟩
   ·simp only[f1,f2];rfl
   ·obtain⟨oa,oc⟩:=ok.ac j a ha
    have ai:=bj5 oa
    obtain⟨s1,s2,s3,s4,s5,s6⟩:=h.acn a (ax_ ha)
    simp only[f1,f2,e8_,a2_,a0_]
    show _=some (a.2.1==px&&((a.2.2.2.1.all λp=>gi s.2.1 p==hdl m)&&(dp_ s.1 a.2.2.2.2.1&&((a.2.2.2.2.2.2.2.all λp=>gi s.2.1 p==-1)&&decide ((mb_ s.2.1 (hdl m):Int) - (a.2.2.2.2.2.2.1.length:Int)+(a.2.2.2.2.2.2.2.length:Int)≤3)))),())
    refine bn_ a.2.2.2.1 (λ_ p=>cond (gi s.2.1 p==hdl m) none (some (inr (false,()):Unit⊕(Bool×Unit)))) (λi=>((i:Int),())) (r0:=inl ()) (λi y hy => ?_) ?_ ?_
    ·have:=ai.us y (ax_ hy)
     simp only[dlt (am_ hy),a5_,ah_ hy,a0_,ms_ this.1 (show y<(s.2.1.length:Int) by omega),az_ (show Sm i by have:=am_ hy;omega),ak0]
     cases gi s.2.1 y==hdl m<;>rfl
    ·simp only[dnl,a2_]
    rw[jl_ (q:=λp=>gi s.2.1 p==hdl m)]
    cases a.2.2.2.1.all λp=>gi s.2.1 p==hdl m with
    | false=>simp only[f0_,g2_];rfl
    | true =>
    simp only[a5_,j3_]
    unfold cj_
    refine bn_ a.2.2.2.2.2.2.2 (λ_ p=>cond (gi s.2.1 p==-1) none (some (inr (false,()):Unit⊕(Bool×Unit)))) (λi=>((i:Int),())) (r0:=inl ()) (λi y hy => ?_) ?_ ?_
    ·have:=ai.br y (ax_ hy)
     simp only[dlt (am_ hy),a5_,ah_ hy,a0_,ms_ this.1 (show y<(s.2.1.length:Int) by omega),az_ (show Sm i by have:=am_ hy;omega),ak0]
     cases gi s.2.1 y==-1<;>rfl
    ·simp only[dnl,a2_]
    rw[jl_ (q:=λp=>gi s.2.1 p==-1)]
    cases a.2.2.2.2.2.2.2.all λp=>gi s.2.1 p==-1 with
    | false=>simp only[f0_,g2_];rfl
    | true =>
    simp only[a5_,j3_]
    cases a.2.1==px with
    | false=>rfl
    | true =>
    simp only[a5_,hH oc,a0_,c1_]
    cases dp_ s.1 a.2.2.2.2.1 with
    | false=>rfl
    | true =>
    simp only[a5_,hD,a0_,c1_]
    rw[er_ (n:=(mb_ s.2.1 (hdl m):Int) - _) (by omega) (by omega),er_ (by omega) (by omega)]
end
section
set_option maxRecDepth 10000
theorem run_cnt {σ ρ:Type} (n:Nat) (S:Nat→σ) {body:σ→Option (σ⊕ρ)} {r:ρ} (h:∀ i,i<n→body (S i)=some (.inl (S (i+1)))) (e:body (S n)=some (.inr r)):ag_ body (S 0)=some r:=by
 have gen:∀ (k i:Nat),i+k=n→ag_ body (S i)=some r:=by
  intro k
  induction k with
  | zero =>
   intro i hi
   obtain rfl:i=n:=by omega
   exact bo_ e
  | succ k ih =>
   intro i hi
   exact bp_ (h i (by omega)) (ih (i+1) (by omega))
 exact gen n 0 (by omega)
theorem nm_ {σ ρ υ:Type} (n:Nat) (S:Nat→σ) {body:σ→Option (σ⊕ρ)} {r:ρ} {s0:σ} {K:ρ→Option υ} {x:Option υ} (h0:S 0=s0) (h:∀ i,i<n→body (S i)=some (.inl (S (i+1)))) (e:body (S n)=some (.inr r)) (hk:K r=x):(ag_ body s0).bind K=x:=by
 rw[← h0,run_cnt n S h e,a0_,hk]
section
variable (q:af_→Bool)
def mvK (i k:Int):Nat→List af_→List af_
 | 0,l=>l
 | n+1,l=>cond (q (i,(k,(n:Int)))) (mvK i k n l++[(i,(k,(n:Int)))]) (mvK i k n l)
def mvJ (i:Int) (c:Nat→Nat):Nat→List af_→List af_
 | 0,l=>l
 | k+1,l=>mvK q i (k:Int) (c k) (mvJ i c k l)
def mvs (c:Nat→Nat):Nat→List af_
 | 0=>[]
 | n+1=>mvJ q (n:Int) c 5 (mvs c n)
theorem af7 (i k:Int):∀ n l,(mvK q i k n l).length≤l.length+n
 | 0,l=>c3_ _
 | n+1,l=>by
  have:=af7 i k n l
  unfold mvK
  cases q (i,(k,(n:Int))) with
  | true=>simp only[a5_,a8_,c8_,k3_];omega
  | false=>simp only[a2_];omega
theorem af8 (i:Int) {c:Nat→Nat} (hc:∀ k,c k≤24):∀ k l,(mvJ q i c k l).length≤l.length+k * 24
 | 0,l=>c3_ _
 | k+1,l=>by
  have h1:=af8 i hc k l
  have h2:=af7 q i (k:Int) (c k) (mvJ q i c k l)
  have h3:=hc k
  unfold mvJ
  omega
theorem af6 {c:Nat→Nat} (hc:∀ k,c k≤24):∀ n,(mvs q c n).length≤n * 120
 | 0=>c3_ _
 | n+1=>by
  have h1:=af6 hc n
  have h2:=af8 q (n:Int) hc 5 (mvs q c n)
  unfold mvs
  omega
theorem bz3 (i k:Int) {n:Nat} (l:List af_):∀ m,n≤m→(∀ j:Nat,n≤j→j<m→q (i,(k,(j:Int)))=false)→mvK q i k m l=mvK q i k n l
  | 0, h, _ => by obtain rfl : n = 0 := by omega
                  rfl
  | m+1,h,hf=>by
    rcases l6_ m n with hm | hm
    · obtain rfl:n=m+1:=by omega
      rfl
    · show cond (q (i,(k,(m:Int)))) _ (mvK q i k m l)=_
      rw[hf m hm (by omega),a2_]
      exact bz3 i k l m hm λj a b=>hf j a (by omega)
theorem bz5 (i:Int) {c d:Nat→Nat} (K:Nat) (l:List af_) (hc:∀ k,k<K→c k≤d k) (hf:∀ k,k<K→∀ j:Nat,c k≤j→j<d k→q (i,((k:Int),(j:Int)))=false):∀ k,k≤K→mvJ q i d k l=mvJ q i c k l
 | 0,_=>rfl
 | k+1,hk=>by
  unfold mvJ
  rw[bz5 i K l hc hf k (by omega)]
  exact bz3 q i (k:Int) _ (d k) (hc k (by omega)) (hf k (by omega))
theorem bz2 {c d:Nat→Nat} (hc:∀ k,k<5→c k≤d k) (hf:∀ i k,k<5→∀ j:Nat,c k≤j→j<d k→q (i,((k:Int),(j:Int)))=false):∀ n,mvs q d n=mvs q c n
 | 0=>rfl
 | n+1=>by
  unfold mvs
  rw[bz2 hc hf n]
  exact bz5 q (n:Int) 5 _ hc (hf (n:Int)) 5 (c3_ _)
end
def at7 (r:ae_) (k:Nat):Nat:=[0,r.2.2.2.1.length,r.2.2.1.length,r.2.2.1.length,r.2.2.2.2.1.length].getD k 0
def ub_ (k:Nat):Nat:=match k with
 | 0=>0
 | _+1=>24
theorem at5 (a b c d:Nat):∀ {k:Nat},k<5→decide ((k:Int)<(([0,(a:Int),(b:Int),(c:Int),(d:Int)]:List Int).length:Int))=true∧at? [0,(a:Int),(b:Int),(c:Int),(d:Int)] (k:Int)=some ((([0,a,b,c,d]:List Nat).getD k 0:Nat):Int)
 | 0,_=>⟨rfl,rfl⟩
 | 1,_=>⟨rfl,rfl⟩
 | 2,_=>⟨rfl,rfl⟩
 | 3,_=>⟨rfl,rfl⟩
 | 4,_=>⟨rfl,rfl⟩
 | _+5,h=>absurd h (by omega)
theorem cnt_le {r:ae_} (ok:OkR r):∀ k,at7 r k≤ub_ k:=by
 have hm:=ok.many
 unfold ag7 at hm
 simp only[c0_,p9_] at hm
 intro k
 match k with
 | 0=>exact c3_ _
 | 1=>show r.2.2.2.1.length≤24;omega
 | 2=>show r.2.2.1.length≤24;omega
 | 3=>show r.2.2.1.length≤24;omega
 | 4=>show r.2.2.2.2.1.length≤24;omega
 | k+5=>exact j4_ _
theorem aj3:∀ k,ub_ k≤24
 | 0=>j4_ _
 | _+1=>c3_ _
theorem as2 {α:Type} {l:List α} {j:Nat} (h:l.length≤j):at? l (j:Int)=none:=by
 rw[bj0]
 exact b4_ h
theorem lgl_out {r:ae_} {s:ai_} (hv:VS r s) (i:Int) {k:Nat} (hk:k<5) {j:Nat} (hj:at7 r k≤j):lgl r s (i,((k:Int),(j:Int)))=false:=by
 unfold lgl
 match k,hk with
 | 0,_ =>
  show (_&&false)=false
  rw[g2_]
 | 1,_ =>
  show (_&&(at? r.2.2.2.1 (j:Int)).elim false _)=false
  rw[as2 (show r.2.2.2.1.length≤j from hj)]
  exact g2_ _
 | 2,_ =>
  show (_&&(at? r.2.2.1 (j:Int)).elim false _)=false
  rw[as2 (show r.2.2.1.length≤j from hj)]
  exact g2_ _
 | 3,_ =>
  show (_&&(at? s.2.1 (j:Int)).elim false _)=false
  have hl:=hv.l2
  have hj:r.2.2.1.length≤j:=hj
  rw[as2 (show s.2.1.length≤j by omega)]
  exact g2_ _
 | 4,_ =>
  show (_&&(at? r.2.2.2.2.1 (j:Int)).elim false _)=false
  rw[as2 (show r.2.2.2.2.1.length≤j from hj)]
  exact g2_ _
 | k+5,h=>exact absurd h (by omega)
def lmv (r:ae_) (s:ai_):List af_:=mvs (lgl r s) (at7 r) r.2.2.2.2.2.2.1.toNat
theorem bl1 {r:ae_} (h:SmR r) (h0:cz_ r=0) {s:ai_} (hv:VS r s):fi_ r s=some (lmv r s,(0,())):=by
 have ok:=br_ h0
 obtain⟨m1,m2,m3⟩:=qn_ h ok hv
 have hpy:=cg_.1 ok.py
 obtain⟨P,hP⟩:∃ P:Nat,r.2.2.2.2.2.2.1=(P:Int):=⟨_,(Int.toNat_of_nonneg (by omega)).symm⟩
 have hc:∀ k,at7 r k≤24:=λk=>c9_ (cnt_le ok k) (aj3 k)
 unfold fi_ lmv
 rw[fc_ h,a0_,hh_ h0 hv]
 simp only[show ((0:Int) != 0)=false from rfl,a2_,ay_ m1,ay_ m2,ay_ m3,a0_,hP,b9_]
 refine nm_ P (λi=>((i:Int),((),((mvs (lgl r s) (at7 r) i,()),())))) rfl (λi hi => ?_) (by simp only[dnl,a2_];rfl) rfl
 simp only[dlt hi,a5_]
 have l1:=af6 (lgl r s) hc i
 refine nm_ 5 (λk=>((k:Int),((),((mvJ (lgl r s) (i:Int) (at7 r) k (mvs (lgl r s) (at7 r) i),()),())))) rfl (λk hk => ?_) rfl ?_
 ·have l2:=af8 (lgl r s) (i:Int) hc k (mvs (lgl r s) (at7 r) i)
  obtain⟨a1,a2⟩:=at5 r.2.2.2.1.length r.2.2.1.length r.2.2.1.length r.2.2.2.2.1.length hk
  simp only[a1,a2,a5_,a0_]
  refine nm_ (at7 r k) (λj=>((j:Int),((),((mvK (lgl r s) (i:Int) (k:Int) j (mvJ (lgl r s) (i:Int) (at7 r) k (mvs (lgl r s) (at7 r) i)),()),())))) rfl (λj hj => ?_) (by exact congrArg (λb=>cond b _ _) (dnl (at7 r k))) ?_
  ·have l3:=af7 (lgl r s) (i:Int) (k:Int) j (mvJ (lgl r s) (i:Int) (at7 r) k (mvs (lgl r s) (at7 r) i))
   have hk24:=hc k
   have hp:=ci_ (x:=((i:Int),((k:Int),(j:Int)))) (show Sm (mvK (lgl r s) (i:Int) (k:Int) j (mvJ (lgl r s) (i:Int) (at7 r) k (mvs (lgl r s) (at7 r) i))).length by show _≤1000000000;omega)
   have hd:decide ((j:Int)<((([0,r.2.2.2.1.length,r.2.2.1.length,r.2.2.1.length,r.2.2.2.2.1.length]:List Nat).getD k 0:Nat):Int))=true:=dlt hj
   simp only[hd,a5_,show ((r,(s.1,(s.2.1,s.2.2))):hk_)=(r,s) from rfl,wh_ h ok hv,a0_,az_ (show Sm j by show j≤1000000000;omega),mvK]
   cases hq:lgl r s ((i:Int),((k:Int),(j:Int))) with
   | true=>simp only[a5_,hp,a0_]
   | false=>simp only[a2_,a0_]
  ·simp only[az_ (show Sm k by show k≤1000000000;omega)]
   rfl
 ·simp only[az_ (show Sm i by show i≤1000000000;omega)]
  rfl
theorem ux_ {r:ae_} (h:SmR r) (ok:OkR r) {s:ai_} (hv:VS r s):eu_ r s=some (lmv r s,()):=by
 have hpy:=cg_.1 ok.py
 obtain⟨P,hP⟩:∃ P:Nat,r.2.2.2.2.2.2.1=(P:Int):=⟨_,(Int.toNat_of_nonneg (by omega)).symm⟩
 have hc:=aj3
 have hE:lmv r s=mvs (lgl r s) ub_ P:=by
  unfold lmv
  rw[hP,b9_]
  exact (bz2 (lgl r s) (λk _=>cnt_le ok k) (λi k hk j a _=>lgl_out hv i hk a) P).symm
 unfold eu_
 rw[hE]
 simp only[hP]
 refine nm_ P (λi=>(mvs (lgl r s) ub_ i,((i:Int),()))) rfl (λi hi => ?_) (by simp only[dnl,a2_];rfl) rfl
 simp only[dlt hi,a5_]
 have l1:=af6 (lgl r s) hc i
 refine nm_ 4 (λk=>(mvJ (lgl r s) (i:Int) ub_ (k+1) (mvs (lgl r s) ub_ i),(((k+1:Nat):Int),()))) rfl (λk hk => ?_) rfl ?_
 ·have l2:=af8 (lgl r s) (i:Int) hc (k+1) (mvs (lgl r s) ub_ i)
  simp only[show decide (((k+1:Nat):Int)≤4)=true from b8_ (by omega),a5_]
  refine nm_ 24 (λj=>(mvK (lgl r s) (i:Int) ((k+1:Nat):Int) j (mvJ (lgl r s) (i:Int) ub_ (k+1) (mvs (lgl r s) ub_ i)),((j:Int),()))) rfl (λj hj => ?_) rfl ?_
  ·have l3:=af7 (lgl r s) (i:Int) ((k+1:Nat):Int) j (mvJ (lgl r s) (i:Int) ub_ (k+1) (mvs (lgl r s) ub_ i))
   have hp:=ci_ (x:=((i:Int),(((k+1:Nat):Int),(j:Int)))) (show Sm (mvK (lgl r s) (i:Int) ((k+1:Nat):Int) j (mvJ (lgl r s) (i:Int) ub_ (k+1) (mvs (lgl r s) ub_ i))).length by show _≤1000000000;omega)
   simp only[show decide ((j:Int)<24)=true from b8_ (by omega),a5_,aw4 h ok hv,a0_,az_ (show Sm j by show j≤1000000000;omega),mvK]
   cases hq:lgl r s ((i:Int),(((k+1:Nat):Int),(j:Int))) with
   | true=>simp only[a5_,hp,a0_]
   | false=>simp only[a2_,a0_]
  ·simp only[az_ (show Sm (k+1) by show k+1≤1000000000;omega)]
   rfl
 ·simp only[az_ (show Sm i by show i≤1000000000;omega)]
  rfl
end
section
set_option maxRecDepth 10000
theorem bn9 {α υ:Type} (l:List α) (hl:Sm l.length) (q:α→Bool) {body:(Int×(Int×Unit))→Option ((Int×(Int×Unit))⊕(Int×Unit))} {K:(Int×Unit)→Option υ} {x:Option υ}
  (hq:∀ (i:Nat) y,l[i]?=some y→body (-1,((i:Int),()))=some (.inl (cond (q y) (i:Int) (-1),(w64 ((i:Int)+1),()))))
  (he:body (-1,((l.length:Int),()))=some (.inr (-1,())))
  (hx:∀ i j:Nat,body ((i:Int),((j:Int),()))=some (.inr ((i:Int),())))
  (hk:∀ n:Int,((n = -1∧l.find? q=none)∨∃ (i:Nat) (y:α),n=(i:Int)∧l[i]?=some y∧l.find? q=some y)→K (n,())=x) :
  (ag_ body (-1,(0,()))).bind K=x:=by
 have gen:∀ (k i:Nat),i+k=l.length→∃ n:Int,ag_ body (-1,((i:Int),()))=some (n,())∧((n = -1∧(l.drop i).find? q=none)∨∃ (j:Nat) (y:α),n=(j:Int)∧l[j]?=some y∧(l.drop i).find? q=some y):=by
  intro k
  induction k with
  | zero =>
   intro i hi
   obtain rfl:i=l.length:=by omega
   exact⟨-1,bo_ he,.inl ⟨rfl,by rw[o7_];rfl⟩⟩
  | succ k ih =>
   intro i hi
   have hil:i<l.length:=by omega
   obtain⟨y,hy⟩:=bd_ hil
   have hd:l.drop i=y::l.drop (i+1):=by
    rw[i8_ hil]
    rw[a7_ hil] at hy
    rw[a6_ hy]
   have hb:=hq i y hy
   rw[az_ (show Sm i by unfold Sm at hl ⊢; omega)] at hb
   cases hqy:q y with
   | true =>
    rw[hqy] at hb
    exact⟨(i:Int),bp_ hb (bo_ (hx i (i+1))),.inr ⟨i,y,rfl,hy,by rw[hd,n7_ hqy]⟩⟩
   | false =>
    rw[hqy] at hb
    obtain⟨n,e,c⟩:=ih (i+1) (by omega)
    refine⟨n,bp_ hb e,?_⟩
    rw[hd,m2_ (by rw[hqy];decide)]
    exact c
 obtain⟨n,e,c⟩:=gen l.length 0 (by omega)
 have e:ag_ body (-1,(0,()))=some (n,()):=e
 rw[e,a0_]
 exact hk n c
theorem be4 {r:ae_} (h:SmR r) (ok:OkR r) {σ ρ:Type} (F:Nat→List Int→σ) (G E:List Int→ρ) {body:σ→Option (σ⊕ρ)}
  (hb:∀ (i:Nat) th,i<101→VT r th→body (F i th)=some (match fstA r th with
   | none=>.inr (G th)
   | some y=>.inl (F (i+1) (th.set y.2.1.toNat y.2.2))))
  (he:∀ th,body (F 101 th)=some (.inr (E th))) :
  ∀ (n i:Nat) (th:List Int),i+n=101→VT r th→∃ z,ag_ body (F i th)=some z∧match stl r n th with
   | some th'=>z=G th'∧VT r th'
   | none=>∃ w,z=E w
 | 0,i,th,hi,hv=>by
  obtain rfl:i=101:=by omega
  exact⟨_,bo_ (he th),th,rfl⟩
 | n+1,i,th,hi,hv=>by
  have hb1:=hb i th (by omega) hv
  unfold stl
  cases hf:fstA r th with
  | none =>
   rw[hf] at hb1
   exact⟨_,bo_ hb1,rfl,hv⟩
  | some y =>
   rw[hf] at hb1
   have hm:y ∈ r.2.2.2.2.2.1:=List.mem_of_find?_eq_some hf
   obtain⟨j,hj⟩:=e3_ hm
   obtain⟨z,ez,hz⟩:=be4 h ok F G E hb he n (i+1) (th.set y.2.1.toNat y.2.2) (by omega) (ck0 h ok hv (ok.au j y hj).1)
   exact⟨z,bp_ hb1 ez,hz⟩
theorem uk_ {r:ae_} (h:SmR r) (ok:OkR r) {s:ai_} (hv:VT r s.1) (m1:Sm s.1.length) (m2:Sm s.2.1.length) (m3:Sm s.2.2.length) :
    gl_ r s=some ((stl r 101 s.1).elim (eS,(false,())) λth=>((th,s.2),(true,()))):=by
  unfold gl_
  simp only[ay_ m1,ay_ m2,ay_ m3,a0_]
  obtain⟨z,ez,hz⟩:=be4 h ok (F:=λi th=>((i:Int),(th,((([]:List Int),(([]:List Int),(([]:List Int),()))),())))) (G:=λth=>(inr ((th,(s.2.1,s.2.2)),(true,())):((List Int)×(((List Int)×((List Int)×((List Int)×Unit)))×Unit))⊕(ai_×(Bool×Unit)))) (E:=λth=>inl (th,(([],([],([],()))),())))
    (body:=(λ(v3:(Int×((List Int)×(((List Int)×((List Int)×((List Int)×Unit)))×Unit)))) =>
 (cond (decide (v3.1≤100))
 ((ag_ (ρ:=(Int×Unit)) (λ(v4:(Int×(Int×Unit))) =>
 (((cond (decide (v4.2.1<(r.2.2.2.2.2.1.length:Int)))
 (some ((decide (v4.1<0)),()))
 (some (false,())))).bind λv5 =>
 (cond v5.1
 ((((at? r.2.2.2.2.2.1 v4.2.1).bind λv6 =>
 ((((bm_ (v3.2.1,(s.2.1,s.2.2)) v6.1).bind λv7 =>
 (cond v7.1
 ((at? v3.2.1 v6.2.1).bind λv8 =>
 ((at? v3.2.1 v6.2.1).bind λv9 =>
 (some ((v9 != v6.2.2),()))))
 (some (false,()))))).bind λv10 =>
 (cond v10.1
 (some (v4.2.1,()))
 (some (v4.1,())))))).bind λv11 =>
 (some (inl (v11.1,((w64 (v4.2.1+1)),())))))
 (some (inr (v4.1,())))))) ((-1),(0,()))).bind λv12 =>
 (cond (decide (v12.1<0))
 (some (inr (inr ((v3.2.1,(s.2.1,s.2.2)),(true,())))))
 ((at? r.2.2.2.2.2.1 v12.1).bind λv13 =>
 ((at? r.2.2.2.2.2.1 v12.1).bind λv14 =>
 ((at? v3.2.1 v13.2.1).bind λv15 =>
 ((at? v3.2.1 v13.2.1).bind λv16 =>
 (some (inl ((w64 (v3.1+1)),((v3.2.1.set v13.2.1.toNat v14.2.2),((v3.2.2.1.1,(v3.2.2.1.2.1,(v3.2.2.1.2.2.1,()))),())))))))))))
 (some (inr (inl (v3.2.1,((v3.2.2.1.1,(v3.2.2.1.2.1,(v3.2.2.1.2.2.1,()))),())))))))) (λi th hi hvt=>by
      simp only[show decide ((i:Int)≤100)=true from b8_ (by omega),a5_]
      have hl:=hvt.1
      refine bn9 r.2.2.2.2.2.1 h.au (λy=>(gi th y.2.1 != y.2.2)&&dp_ th y.1) (λj y hy => ?_) ?_ (λa b => ?_) (λn hc => ?_)
      · obtain⟨g1,g2⟩:=ok.au j y hy
        have hi:=(mw_ h ok g1).1
        obtain⟨c1,c2⟩:=ut_ h.th g2
        simp only[dlt (am_ hy),a5_,show decide ((-1:Int)<0)=true from rfl,a0_,ah_ hy,jn_ (s:=(th,(s.2.1,s.2.2))) (show y.1.length≤1000000000 by omega) (by show InC th.length y.1;rw[hl];exact c1),ms_ hi.1 (show y.2.1<th.length by omega)]
        cases dp_ th y.1 with
        | false=>rw[g2_];rfl
        | true=>cases gi th y.2.1 != y.2.2<;>rfl
      · simp only[dnl,a2_,a0_]
      · simp only[show decide ((a:Int)<0)=false from c2_ (by omega)]
        cases decide ((b:Int)<(r.2.2.2.2.2.1.length:Int))<;>rfl
      · rcases hc with ⟨rfl,hf⟩ | ⟨j,y,rfl,hy,hf⟩
        · rw[show fstA r th=none from hf]
          rfl
        · rw[show fstA r th=some y from hf]
          obtain⟨g1,g2⟩:=ok.au j y hy
          have hi2:=(mw_ h ok g1).1
          simp only[a0_,show decide ((j:Int)<0)=false from c2_ (by omega),a2_,ah_ hy,ms_ hi2.1 (show y.2.1<th.length by omega),az_ (show Sm i by show _≤1000000000;omega)])
    (λth=>rfl) 101 0 s.1 rfl hv
  refine e6_ (congrArg (λo=>Option.bind o _) ez) ?_
  cases hs:stl r 101 s.1 with
  | none =>
    rw[hs] at hz
    obtain⟨w,rfl⟩:=hz
    rfl
  | some th' =>
    rw[hs] at hz
    obtain⟨rfl,_⟩:=hz
    rfl
noncomputable def mwX (a0:ae_) (a2:af_) (v0 v1 v2:List Int) (v3:Int):Option (List Int×(List Int×(List Int×Unit))) :=
 (cond (a2.2.1==1)
 ((at? a0.2.2.2.1 a2.2.2).bind λv4 =>
 ((at? a0.2.2.2.1 a2.2.2).bind λv5 =>
 ((at? v2 a2.1).bind λv6 =>
 ((at? v2 a2.1).bind λv7 =>
 (some (v0,(v1,((v2.set a2.1.toNat (w64 ((w64 (v4.1+v5.2.1)) - v3))),()))))))))
 (cond (a2.2.1==2)
 ((at? v1 a2.2.2).bind λv8 =>
 ((at? v1 a2.2.2).bind λv9 =>
 (some (v0,((v1.set a2.2.2.toNat (w64 ((-2) - a2.1))),(v2,()))))))
 (cond (a2.2.1==3)
 ((at? v1 a2.2.2).bind λv10 =>
 ((at? v1 a2.2.2).bind λv11 =>
 (some (v0,((v1.set a2.2.2.toNat v3),(v2,()))))))
 (cond (a2.2.1==4)
 ((at? a0.2.2.2.2.1 a2.2.2).bind λv12 =>
 ((ag_ (ρ:=((List Int)×Unit)) (λ(v13:(Int×((List Int)×Unit))) =>
 (cond (decide (v13.1<(v12.2.2.2.2.2.2.1.length:Int)))
 ((at? v12.2.2.2.2.2.2.1 v13.1).bind λv14 =>
 ((at? v13.2.1 v14).bind λv15 =>
 ((at? v13.2.1 v14).bind λv16 =>
 (some (inl ((w64 (v13.1+1)),((v13.2.1.set v14.toNat (-1)),())))))))
 (some (inr (v13.2.1,()))))) (0,(v1,()))).bind λv17 =>
 ((ag_ (ρ:=((List Int)×Unit)) (λ(v18:(Int×((List Int)×Unit))) =>
 (cond (decide (v18.1<(v12.2.2.2.2.2.2.2.length:Int)))
 ((at? v12.2.2.2.2.2.2.2 v18.1).bind λv19 =>
 ((at? v18.2.1 v19).bind λv20 =>
 ((at? v18.2.1 v19).bind λv21 =>
 (some (inl ((w64 (v18.1+1)),((v18.2.1.set v19.toNat (w64 ((-2) - a2.1))),())))))))
 (some (inr (v18.2.1,()))))) (0,(v17.1,()))).bind λv22 =>
 ((ag_ (ρ:=((List Int)×Unit)) (λ(v23:(Int×((List Int)×Unit))) =>
 (cond (decide (v23.1<(v12.2.2.2.2.2.1.length:Int)))
 ((at? v12.2.2.2.2.2.1 v23.1).bind λv24 =>
 ((at? v12.2.2.2.2.2.1 v23.1).bind λv25 =>
 ((at? v23.2.1 v24.1).bind λv26 =>
 ((at? v23.2.1 v24.1).bind λv27 =>
 (some (inl ((w64 (v23.1+1)),((v23.2.1.set v24.1.toNat v25.2),()))))))))
 (some (inr (v23.2.1,()))))) (0,(v0,()))).bind λv28 =>
 (some (v28.1,(v22.1,(v2,()))))))))
 (some (v0,(v1,(v2,()))))))))
theorem dup {α β:Type} (o:Option α) (f:α→α→Option β):(o.bind λa=>o.bind λb=>f a b)=o.bind λa=>f a a:=by cases o<;>rfl
theorem mwX_eq {r:ae_} {m:af_} {th pr py:List Int} {x:Int} (hx:at? py m.1=some x) {z} (h:mvX r m th pr py=some z):mwX r m th pr py x=some z:=by
 unfold mvX at h
 unfold mwX
 cases hk1:m.2.1==1 with
 | true =>
  rw[hk1] at h
  simp only[a5_,hx,a0_] at h ⊢
  cases hw:at? r.2.2.2.1 m.2.2 with
  | none=>rw[hw] at h;cases h
  | some w=>rw[hw] at h;exact h
 | false =>
 rw[hk1] at h
 simp only[a2_] at h ⊢
 cases hk2:m.2.1==2 with
 | true=>rw[hk2] at h;exact h
 | false =>
 rw[hk2] at h
 simp only[a2_] at h ⊢
 cases hk3:m.2.1==3 with
 | true =>
  rw[hk3] at h
  simp only[a5_,hx,a0_] at h ⊢
  exact h
 | false =>
 rw[hk3] at h
 simp only[a2_,dup] at h ⊢
 exact h
theorem ul_ {r:ae_} (h:SmR r) (ok:OkR r) {s:ai_} (hv:VS r s) {m:af_} (hl:lgl r s m=true) :
  gm_ r s m=some ((yy_ r s m).elim (eS,(false,())) λt=>(t,(true,()))):=by
 obtain⟨m1,m2,m3⟩:=qn_ h ok hv
 obtain⟨pj,px,hpj,hp,e2⟩:=cb1 m3 hl
 have hv2:=VS_mv h ok hv hl
 obtain⟨n1,n2,n3⟩:=qn_ h ok hv2
 unfold gm_
 simp only[ay_ m1,ay_ m2,ay_ m3,a0_]
 refine e6_ (congrArg (λo=>Option.bind o _) e2) ?_
 rw[a0_]
 refine e6_ (congrArg (λo=>Option.bind o _) (mwX_eq e2 (cz6 h ok hv hl))) ?_
 rw[a0_]
 simp only
 rw[uk_ (s:=((mvP r s m).1,((mvP r s m).2.1,(mvP r s m).2.2))) h ok ⟨hv2.l1,hv2.th⟩ n1 n2 n3,a0_]
 unfold yy_
 cases stl r 101 (mvP r s m).1<;>rfl
theorem am6 {r:ae_} (h:SmR r) (h0:cz_ r=0) {s:ai_} (hv:VS r s) :
  ik_ r s=some ((stl r 101 s.1).elim (eS,(27,())) λth=>((th,s.2),(0,()))):=by
 have ok:=br_ h0
 obtain⟨m1,m2,m3⟩:=qn_ h ok hv
 unfold ik_
 rw[uy_ h,a0_,hh_ h0 hv]
 simp only[show ((0:Int) != 0)=false from rfl,a2_]
 rw[uk_ h ok ⟨hv.l1,hv.th⟩ m1 m2 m3,a0_]
 cases stl r 101 s.1<;>rfl
def bo1 (r:ae_):ai_:=(r.2.1.map (·.2.2.2),(r.2.2.1.map (·.2.1),List.replicate r.2.2.2.2.2.2.1.toNat 0))
theorem az6 {r:ae_} (h:SmR r) (h0:cz_ r=0):VS r (bo1 r):=by
 have ok:=br_ h0
 have hpy:=cg_.1 ok.py
 have hth:=h.th
 refine⟨d6_ _,d6_ _,?_,λi n hn => ?_,λi p hp => ?_,λi p hp => ?_⟩
 ·show ((List.replicate _ (0:Int)).length:Int)=_
  rw[f4_]
  omega
 ·have hn:(r.2.1.map (·.2.2.2))[i]?=some n:=hn
  rw[d5_] at hn
  obtain⟨x,hx,rfl⟩:=f5_.1 hn
  have hk:=ok.th i x hx
  unfold bq7 at hk
  simp only[a1_] at hk
  have hi:=am_ hx
  unfold nv_
  rw[ah_ hx,a1_]
  exact⟨cg_.2 (by rw[er_ (by omega) (by omega)];omega),hk.2.2.2⟩
 ·have hp:(r.2.2.1.map (·.2.1))[i]?=some p:=hp
  rw[d5_] at hp
  obtain⟨x,hx,rfl⟩:=f5_.1 hp
  have hk:=(ok.pr i x hx).1
  unfold cp8 at hk
  simp only[a1_,c6_] at hk
  rw[da3 h ok.py,c6_,c6_]
  rcases hk.2 with hk | hk
  ·exact .inl hk
  ·exact .inr (.inl hk)
 ·have hp:(List.replicate r.2.2.2.2.2.2.1.toNat (0:Int))[i]?=some p:=hp
  rw[i2_] at hp
  split at hp
  ·obtain rfl:=a6_ hp
   have hpl:=h.pl
   have hne:r.1.length≠0:=λe=>ok.ne (n5_.1 e)
   unfold sk_
   exact cg_.2 (by rw[er_ (by omega) (by omega)];omega)
  ·cases hp
def begS (r:ae_):Option ai_:=(stl r 101 (bo1 r).1).map λth=>(th,(bo1 r).2)
theorem begS_VS {r:ae_} (h:SmR r) (h0:cz_ r=0) {t:ai_} (ht:begS r=some t):VS r t:=by
 have ok:=br_ h0
 have hv:=az6 h h0
 unfold begS at ht
 obtain⟨th,hs,rfl⟩:=f5_.1 ht
 obtain⟨z,ez,hz⟩:=nw_ h ok (pr:=(bo1 r).2.1) (py:=(bo1 r).2.2) 101 0 (bo1 r).1 rfl ⟨hv.l1,hv.th⟩
 rw[hs] at hz
 exact⟨hz.2.1,hv.l2,hv.l3,hz.2.2,hv.pr,hv.py⟩
def ak2 (r:ae_):ai_×(Int×Unit):=cond (cz_ r != 0) (eS,(cz_ r,())) ((begS r).elim (eS,(27,())) λs=>(s,(0,())))
theorem av3 {r:ae_} (h:SmR r):iu_ r=some (ak2 r):=by
 rw[cp3]
 unfold rbegX ak2
 rw[tf_ h,a0_]
 cases hr:cz_ r != 0 with
 | true=>rfl
 | false =>
 have h0:cz_ r=0:=by simpa using hr
 have ok:=br_ h0
 have hpy:=cg_.1 ok.py
 have hv:=az6 h h0
 obtain⟨m1,m2,m3⟩:=qn_ h ok hv
 simp only[a2_]
 have hplayers:mk? (α:=Int) r.2.2.2.2.2.2.1 0=some (List.replicate r.2.2.2.2.2.2.1.toNat 0):=sf_ (by omega) (by omega)
 rw[hplayers,a0_,bb0 h,a0_,bc8 h,a0_]
 simp only
 refine e6_ (congrArg (λo=>Option.bind o _) (ay_ m1)) ?_
 rw[a0_]
 refine e6_ (congrArg (λo=>Option.bind o _) (ay_ m2)) ?_
 rw[a0_]
 refine e6_ (congrArg (λo=>Option.bind o _) (ay_ m3)) ?_
 rw[a0_]
 obtain⟨z,ez,hz⟩:=nw_ h ok (pr:=(bo1 r).2.1) (py:=(bo1 r).2.2) 101 0 (bo1 r).1 rfl ⟨hv.l1,hv.th⟩
 refine e6_ (congrArg (λo=>Option.bind (Option.bind o _) _) ez) ?_
 unfold begS
 cases hs:stl r 101 (bo1 r).1 with
 | none =>
  rw[hs] at hz
  obtain⟨w,rfl⟩:=hz
  rfl
 | some th' =>
  rw[hs] at hz
  obtain⟨rfl,_⟩:=hz
  rfl
theorem am7 {r:ae_} (h:SmR r):jw_ r=some (ak2 r):=by
 unfold jw_ ak2
 rw[qw_ h,a0_]
 cases hr:cz_ r != 0 with
 | true=>rfl
 | false =>
 have h0:cz_ r=0:=by simpa using hr
 have ok:=br_ h0
 have hpy:=cg_.1 ok.py
 have hv:=az6 h h0
 simp only[a2_]
 have hplayers:mk? (α:=Int) r.2.2.2.2.2.2.1 0=some (List.replicate r.2.2.2.2.2.2.1.toNat 0):=sf_ (by omega) (by omega)
 rw[hplayers,a0_]
 refine e6_ (congrArg (λo=>Option.bind o _) (bb0 h)) ?_
 rw[a0_]
 refine e6_ (congrArg (λo=>Option.bind o _) (bc8 h)) ?_
 rw[a0_]
 refine e6_ (congrArg (λo=>Option.bind o _) (am6 h h0 hv)) ?_
 unfold begS
 show ((some ((stl r 101 (bo1 r).1).elim (eS,(27,())) λth=>((th,(bo1 r).2),((0:Int),())))).bind λv10=>some (v10.1,(v10.2.1,())))=_
 cases stl r 101 (bo1 r).1<;>rfl
end
section
set_option maxRecDepth 10000
theorem lx_ {σ ρ υ:Type} (n:Nat) (Inv:Nat→σ→Prop) {body:σ→Option (σ⊕ρ)} {z0:σ} {K:ρ→Option υ} {x:Option υ} (h0:Inv 0 z0)
  (hs:∀ j z,j<n→Inv j z→∃ z',body z=some (.inl z')∧Inv (j+1) z') (he:∀ z,Inv n z→∃ r,body z=some (.inr r)∧K r=x):(ag_ body z0).bind K=x:=by
 have gen:∀ (k i:Nat) (z:σ),i+k=n→Inv i z→∃ r,ag_ body z=some r∧K r=x:=by
  intro k
  induction k with
  | zero =>
   intro i z hi hz
   obtain rfl:i=n:=by omega
   obtain⟨r,e,hr⟩:=he z hz
   exact⟨r,bo_ e,hr⟩
  | succ k ih =>
   intro i z hi hz
   obtain⟨z',e,hz'⟩:=hs i z (by omega) hz
   obtain⟨r,er,hr⟩:=ih (i+1) z' (by omega) hz'
   exact⟨r,bp_ e er,hr⟩
 obtain⟨r,e,hr⟩:=gen n 0 z0 (by omega) h0
 rw[e,a0_]
 exact hr
theorem wq_ {s:ai_} (m1:Sm s.1.length) (m2:Sm s.2.1.length) (m3:Sm s.2.2.length):ft_ s=some (s,()):=by
 unfold ft_
 simp only[ay_ m1,ay_ m2,ay_ m3,a0_]
theorem aj1 {l:List Int} {j:Nat} {x p:Int} (hx:l[j]?=some x):(l.take (j+1)).contains p=((l.take j).contains p||x==p):=by
 rw[d9_,hx]
 have:(x==p)=(p==x):=k4_.2 (by rw[f6_,f6_];exact eq_comm)
 rw[this,List.contains_eq_any_beq,List.contains_eq_any_beq,List.any_append]
 simp
theorem zr_ {g:ad_} (hg:SmG g) (ok:OkG g) {p:aa_} (hv:VP g p):ix_ g p=some ((p.1,rdN g p.1 p.2),()):=by
 have h0:=ok.room
 have okr:=br_ h0
 obtain⟨m1,m2,m3⟩:=qn_ hg.room okr hv.st
 have hn:=hg.nt
 have hd:=hv.rd
 have hrl:=th_ (s:=p.1) hd
 have hl1:=hv.st.l1
 unfold ix_
 rw[wq_ m1 m2 m3,a0_,ay_ (show Sm p.2.length by show _≤1000000000;omega),a0_]
 refine lx_ g.2.2.2.1.length (λ(i:Nat) (z:Int×(List Bool×Unit))=>∃ d',z=((i:Int),(d',()))∧∀ j,d'[j]?=if j<i then (rdN g p.1 p.2)[j]? else p.2[j]?) ⟨p.2,rfl,λj=>by simp⟩ (λi z hi hz => ?_) (λz hz => ?_)
 ·obtain⟨d',rfl,hd'⟩:=hz
  obtain⟨x,hx⟩:=bd_ (l:=g.2.2.2.1) (i:=i) hi
  obtain⟨y,hy⟩:=bd_ (l:=p.2) (i:=i) (by omega)
  have hy':d'[i]?=some y:=by rw[hd' i,if_neg (by omega)];exact hy
  have hr:=bu9 (s:=p.1) hx hy
  obtain⟨c1,c2⟩:=ut_ hg.room.th (ok.nt i x hx).2
  have hH:bm_ p.1 x.2.2.2.1=some (dp_ p.1.1 x.2.2.2.1,()):=jn_ (show x.2.2.2.1.length≤1000000000 by omega) (by show InC p.1.1.length x.2.2.2.1;rw[hl1];exact c1)
  simp only[dlt (am_ hx),a5_,ah_ hx,a0_]
  refine⟨?z',?_,?_⟩
  case z'=>exact (((i+1:Nat):Int),(cond (dp_ p.1.1 x.2.2.2.1&&p.1.2.2.contains x.2.1) (d'.set i true) d',()))
  ·refine lx_ p.1.2.2.length (λ(j:Nat) (z:Int×(List Bool×Unit))=>z=((j:Int),(cond (dp_ p.1.1 x.2.2.2.1&&(p.1.2.2.take j).contains x.2.1) (d'.set i true) d',()))) ?_ (λj z hj hz => ?_) (λz hz => ?_)
   ·rw[l2_]
    show _=((0:Int),(cond (dp_ p.1.1 x.2.2.2.1&&false) (d'.set i true) d',()))
    rw[g2_]
    rfl
   ·subst hz
    obtain⟨a,ha⟩:=bd_ hj
    refine⟨_,?_,rfl⟩
    simp only[dlt hj,a5_,ah_ ha,a0_,az_ (show Sm j by unfold Sm at m3 ⊢; omega),aj1 ha]
    cases hq:a==x.2.1 with
    | false=>simp only[a2_,a0_,i4_]
    | true =>
     simp only[a5_,hH,a0_,o6_,h3_]
     cases hb:dp_ p.1.1 x.2.2.2.1 with
     | false=>simp only[a2_,a0_,f0_]
     | true =>
      simp only[a5_,a0_,c1_]
      cases hc:(p.1.2.2.take j).contains x.2.1 with
      | false=>simp only[a2_,ah_ hy',a0_,b9_]
      | true =>
       have:(d'.set i true)[i]?=some true:=by rw[e2_ (am_ hy')]
       simp only[a5_,ah_ this,a0_,b9_,List.set_set]
   ·subst hz
    refine⟨_,by simp only[dnl,a2_];rfl,?_⟩
    simp only[e1_,az_ (show Sm i by show i≤1000000000;omega)]
  ·refine⟨_,rfl,λk => ?_⟩
   unfold rdB at hr
   cases hb:(dp_ p.1.1 x.2.2.2.1&&p.1.2.2.contains x.2.1) with
   | false =>
    rw[hb,i4_] at hr
    rw[a2_,hd' k]
    by_cases hk:k=i
    ·subst hk
     rw[if_neg (by omega),if_pos (by omega),hr,hy]
    ·by_cases hk2:k<i
     ·rw[if_pos hk2,if_pos (by omega)]
     ·rw[if_neg hk2,if_neg (by omega)]
   | true =>
    rw[hb,o6_] at hr
    rw[a5_,g4_]
    by_cases hk:i=k
    ·subst hk
     rw[if_pos rfl,if_pos (am_ hy'),if_pos (by omega),hr]
    ·rw[if_neg hk,hd' k]
     by_cases hk2:k<i
     ·rw[if_pos hk2,if_pos (by omega)]
     ·rw[if_neg hk2,if_neg (by omega)]
 ·obtain⟨d',rfl,hd'⟩:=hz
  simp only[dnl,a2_]
  refine⟨_,rfl,?_⟩
  have:d'=rdN g p.1 p.2:=f1_ λk=>by
   rw[hd' k]
   split
   ·rfl
   ·rw[b4_ (by omega),b4_ (by omega)]
  simp only[this]
theorem bl6 {g:ad_} (hg:SmG g) (h0:cn_ g=0) {p q:aa_} (hv:VP g p) {m:af_} (hq:stepP g p m=some q):ln_ g p m=some (q,()):=by
 have ok:=dn_ h0
 have okr:=br_ ok.room
 unfold stepP at hq
 cases hc:(okM g p.2 m&&lgl g.1 p.1 m) with
 | false=>rw[hc] at hq;cases hq
 | true =>
 rw[hc,a5_] at hq
 obtain⟨s,hs,rfl⟩:=f5_.1 hq
 rw[a1_] at hc
 unfold ln_
 rw[ul_ hg.room okr hv.st hc.2,a0_,hs]
 simp only[Option.elim]
 rw[zr_ hg ok (p:=(s,p.2)) ⟨vi_ hg.room ok.room hv.st hc.2 hs,hv.rd⟩]
 rfl
noncomputable def uw_ (g:ad_):aa_×(Int×Unit):=cond (cn_ g != 0) (eP,(cn_ g,())) (cond ((ak2 g.1).2.1 != 0) (eP,((ak2 g.1).2.1,())) (((ak2 g.1).1,rdN g (ak2 g.1).1 (List.replicate g.2.2.2.1.length false)),(0,())))
theorem az4 {r:ae_} (h:SmR r) (he:(ak2 r).2.1=0):VS r (ak2 r).1:=by
 unfold ak2 at he ⊢
 cases hr:cz_ r != 0 with
 | true =>
  rw[hr] at he
  rw[o0_] at hr
  exact absurd he hr
 | false =>
 have h0:cz_ r=0:=by simpa using hr
 rw[hr,a2_] at he
 cases hb:begS r with
 | none =>
  rw[hb] at he
  exact absurd (show (27:Int)=0 from he) (by decide)
 | some t=>exact begS_VS h h0 hb
theorem az5 {g:ad_} (hg:SmG g) (he:(uw_ g).2.1=0):cn_ g=0∧VP g (uw_ g).1:=by
 unfold uw_ at he ⊢
 cases hr:cn_ g != 0 with
 | true =>
  rw[hr] at he
  rw[o0_] at hr
  exact absurd he hr
 | false =>
 rw[hr,a2_] at he
 have h0:cn_ g=0:=by simpa using hr
 cases hb:(ak2 g.1).2.1 != 0 with
 | true =>
  rw[hb] at he
  rw[o0_] at hb
  exact absurd he hb
 | false =>
 have hb:(ak2 g.1).2.1=0:=by simpa using hb
 exact⟨h0,az4 hg.room hb,th_ f4_⟩
theorem mk_nt {g:ad_} (hg:SmG g):mk? (α:=Bool) (g.2.2.2.1.length:Int) false=some (List.replicate g.2.2.2.1.length false):=by
 have:=hg.nt
 rw[sf_ (by omega) (by omega),b9_]
theorem am5 {g:ad_} (hg:SmG g):ju_ g=some (uw_ g):=by
 unfold ju_ uw_
 rw[wp_ hg,a0_]
 cases hr:cn_ g != 0 with
 | true=>rfl
 | false =>
 have h0:cn_ g=0:=by simpa using hr
 have ok:=dn_ h0
 simp only[a2_]
 rw[am7 hg.room,a0_]
 cases hb:(ak2 g.1).2.1 != 0 with
 | true=>rfl
 | false =>
 have hb:(ak2 g.1).2.1=0:=by simpa using hb
 simp only[a2_]
 rw[mk_nt hg,a0_,zr_ hg ok (p:=((ak2 g.1).1,List.replicate g.2.2.2.1.length false)) ⟨az4 hg.room hb,f4_⟩]
 rfl
theorem ax1 {g:ad_} (hg:SmG g):ls_ g=some (uw_ g):=by
 rw[cq1]
 unfold pbegX uw_
 rw[zu_ hg,a0_]
 cases hr:cn_ g != 0 with
 | true=>rfl
 | false =>
 have h0:cn_ g=0:=by simpa using hr
 have ok:=dn_ h0
 have hn:=hg.nt
 simp only[a2_]
 rw[av3 hg.room,a0_]
 cases hb:(ak2 g.1).2.1 != 0 with
 | true=>rfl
 | false =>
 have hb:(ak2 g.1).2.1=0:=by simpa using hb
 have hv:=az4 hg.room hb
 obtain⟨m1,m2,m3⟩:=qn_ hg.room (br_ ok.room) hv
 simp only[a2_]
 rw[mk_nt hg,a0_]
 obtain⟨z,ez,hz⟩:=ww_ hg ok hv (d:=List.replicate g.2.2.2.1.length false) f4_ []
 have hrl:=th_ (g:=g) (s:=(ak2 g.1).1) (d:=List.replicate g.2.2.2.1.length false) f4_
 rw[ez,a0_,ay_ m1,a0_,ay_ m2,a0_,ay_ m3,a0_,hz,ay_ (show Sm (rdN g _ _).length by show _≤1000000000;omega),a0_]
def cl8 (g:ad_) (q:List Nat):List ak_:=q.filterMap λe=>(g.2.2.2.1[e]?).map (·.2.2.2.2)
theorem aw1 {g:ad_} (hg:SmG g) {p:aa_} (hd:p.2.length=g.2.2.2.1.length) (lock:Int) :
    ∃ q:List Nat,hp_ g p lock=some (q.map (λe:Nat=>(e:Int)),())∧q.length≤20∧(∀ e ∈ q,e<g.2.2.2.1.length)∧cl8 g q=bn7 g p.2 lock:=by
  have hn:=hg.nt
  suffices hk:∃ r,hp_ g p lock=some r∧∃ q:List Nat,r=(q.map (λe:Nat=>(e:Int)),())∧q.length≤20∧(∀ e ∈ q,e<g.2.2.2.1.length)∧cl8 g q=bn7 g p.2 lock by
    obtain⟨r,e,q,rfl,h⟩:=hk
    exact⟨q,e,h⟩
  unfold hp_
  have key:∀ (k i:Nat) (q:List Nat),i+k=g.2.2.2.1.length→q.length≤i→(∀ e ∈ q,e<g.2.2.2.1.length)→cl8 g q=((g.2.2.2.1.zip p.2).take i).filterMap (λx=>cond (x.1.2.2.1==lock&&x.2) (some x.1.2.2.2.2) none) →
      ∃ q':List Nat,ag_ (ρ:=((List Int)×Unit)) (λ(v0:((List Int)×(Int×Unit))) =>
 (cond (decide (v0.2.1<(g.2.2.2.1.length:Int)))
 ((((((at? p.2 v0.2.1).bind λv1 =>
 (cond v1
 ((at? g.2.2.2.1 v0.2.1).bind λv2 =>
 (some ((v2.2.2.1==lock),())))
 (some (false,()))))).bind λv3 =>
 (cond v3.1
 ((push? (α:=Int) v0.1 [v0.2.1]).bind λv4 =>
 (some (v4,())))
 (some (v0.1,()))))).bind λv5 =>
 (some (inl (v5.1,((w64 (v0.2.1+1)),())))))
 (some (inr (v0.1,()))))) (q.map (λe:Nat=>(e:Int)),((i:Int),()))=some (q'.map (λe:Nat=>(e:Int)),())∧q'.length≤20∧(∀ e ∈ q',e<g.2.2.2.1.length)∧cl8 g q'=bn7 g p.2 lock:=by
    intro k
    induction k with
    | zero =>
      intro i q hi hq hb hc
      obtain rfl:i=g.2.2.2.1.length:=by omega
      refine⟨q,bo_ (by simp only[dnl,a2_]),by omega,hb,?_⟩
      rw[hc,g8_ (by rw[n4_];omega)]
      rfl
    | succ k ih =>
      intro i q hi hq hb hc
      obtain⟨x,hx⟩:=bd_ (l:=g.2.2.2.1) (i:=i) (by omega)
      obtain⟨y,hy⟩:=bd_ (l:=p.2) (i:=i) (by omega)
      have hzip:(g.2.2.2.1.zip p.2)[i]?=some (x,y):=by rw[h7_];exact⟨hx,hy⟩
      have hstep:((g.2.2.2.1.zip p.2).take (i+1)).filterMap (λx=>cond (x.1.2.2.1==lock&&x.2) (some x.1.2.2.2.2) none)=((g.2.2.2.1.zip p.2).take i).filterMap (λx=>cond (x.1.2.2.1==lock&&x.2) (some x.1.2.2.2.2) none)++cond (x.2.2.1==lock&&y) [x.2.2.2.2] []:=by
        rw[d9_,hzip,o5_]
        cases hc:(x.2.2.1==lock&&y) with
        | false=>simp[hc]
        | true=>simp[hc]
      cases hcc:(x.2.2.1==lock&&y) with
      | false =>
        obtain⟨q',e,r1⟩:=ih (i+1) q (by omega) (by omega) hb (by rw[hstep,hcc,a2_,e9_];exact hc)
        refine⟨q',bp_ ?_ e,r1⟩
        simp only[dlt (am_ hx),a5_,ah_ hx,ah_ hy,a0_,az_ (show Sm i by show i≤1000000000;omega)]
        cases y with
        | false=>rfl
        | true =>
          rw[h3_] at hcc
          simp only[a5_,hcc,a0_,a2_]
      | true =>
        have hcc2:=hcc
        rw[a1_] at hcc2
        obtain⟨h1,rfl⟩:=hcc2
        obtain⟨q',e,r1⟩:=ih (i+1) (q++[i]) (by omega) (by rw[a8_,e0_];omega) (λe he=>by
          rcases b6_.1 he with he | he
          · exact hb e he
          · rw[e7_] at he
            omega) (by
          rw[hstep,hcc,a5_,← hc]
          unfold cl8
          rw[o5_]
          simp[hx])
        refine⟨q',bp_ ?_ e,r1⟩
        simp only[dlt (am_ hx),a5_,ah_ hx,ah_ hy,a0_,az_ (show Sm i by show i≤1000000000;omega),h1,ci_ (show Sm (q.map (λe:Nat=>(e:Int))).length by rw[d6_];show _≤1000000000;omega),i9_,g7_,List.map_nil]
  obtain⟨q',e,r1⟩:=key g.2.2.2.1.length 0 [] (by omega) (j4_ _) (λe he=>by cases he) rfl
  refine⟨_,?_,q',rfl,r1⟩
  refine e6_ (congrArg (λo=>Option.bind o _) e) rfl
theorem aw2 {g:ad_} {q:List Nat} (hq:q.length≤20) (hb:∀ e ∈ q,e<g.2.2.2.1.length):js_ g (q.map (λe:Nat=>(e:Int)))=some (cl8 g q,()):=by
 unfold js_
 refine lx_ q.length (λ(i:Nat) (z:List ak_×(Int×Unit))=>z=(cl8 g (q.take i),((i:Int),()))) (by rw[l2_];rfl) (λi z hi hz => ?_) (λz hz => ?_)
 ·subst hz
  obtain⟨e,he⟩:=bd_ hi
  obtain⟨n,hn⟩:=bd_ (hb e (ax_ he))
  have hm:(q.map (λe:Nat=>(e:Int)))[i]?=some (e:Int):=by rw[d5_,he];rfl
  have hl:(cl8 g (q.take i)).length≤20:=by
   unfold cl8
   refine c9_ (p7_ ..) ?_
   rw[c7_];omega
  refine⟨_,?_,rfl⟩
  simp only[d6_,dlt hi,a5_,ah_ hm,ah_ hn,a0_,ci_ (show Sm _ from c9_ hl (by omega)),az_ (show Sm i by show i≤1000000000;omega)]
  rw[d9_,he]
  unfold cl8
  rw[o5_]
  simp[hn]
 ·subst hz
  refine⟨_,by simp only[d6_,dnl,a2_];rfl,?_⟩
  simp only[e1_]
theorem bl5 {g:ad_} (hg:SmG g) (ok:OkG g) {p:aa_} (hd:p.2.length=g.2.2.2.1.length) {lock:Int} (h0:0≤lock) {l:ac_} (hl:at? g.2.1 lock=some l):lm_ g p lock=some (opn g p.2 lock,()):=by
 obtain⟨_,_,l1⟩:=db_ hl
 obtain⟨q,e,hq,hb,hc⟩:=aw1 hg hd lock
 unfold lm_
 rw[e,a0_]
 unfold jd_
 rw[hl,a0_,aw2 hq hb,a0_,hc,am9 (ok.lk _ l l1).1 (bi0 hg p.2 lock) (λc hc=>by
  obtain⟨i,n,hn,rfl,rfl⟩:=aj4 hc
  exact by4 ok hn h0 hl) (λc hc=>by
  obtain⟨i,n,hn,rfl,rfl⟩:=aj4 hc
  exact c9_ (hg.ntn n (ax_ hn)).2.2 (by omega))]
 unfold opn rdC
 rw[c2_ (by omega),hl]
 rfl
theorem zb_ {g:ad_} (hg:SmG g) (h0:cn_ g=0) {p:aa_} (hv:VP g p) {m:af_} (hl:lgl g.1 p.1 m=true):gr_ g p m=some ((stepP g p m).isSome,()):=by
 have ok:=dn_ h0
 have okr:=br_ ok.room
 have hac:=hg.ac
 unfold gr_ stepP okM
 rw[ul_ hg.room okr hv.st hl,a0_,hl,h3_]
 cases hs:yy_ g.1 p.1 m with
 | none =>
  rw[Option.map_none]
  simp only[Option.elim,h2_,a5_]
  generalize (cond (m.2.1==4) _ true:Bool)=b
  cases b<;>rfl
 | some s =>
 simp only[Option.elim,e8_,a2_,g6_]
 rw[ak0]
 cases hk:m.2.1==4 with
 | false=>rfl
 | true =>
 simp only[e8_,a2_,a5_]
 unfold lgl at hl
 rw[a1_] at hl
 have hl:=hl.2
 have hk':m.2.1=4:=f6_.1 hk
 rw[hk'] at hl
 simp only[show ((4:Int)==1)=false from rfl,show ((4:Int)==2)=false from rfl,show ((4:Int)==3)=false from rfl,show ((4:Int)==4)=true from rfl,a2_,a5_] at hl
 rcases cs_ (l:=g.1.2.2.2.2.1) (by show _≤1000000000;omega) m.2.2 with ⟨f1,f2⟩ | ⟨j,a,hj,ha,f1,f2⟩
 ·rw[f2] at hl;cases hl
 ·rw[f2]
  simp only[a0_]
  cases hz:decide (a.2.2.1<0) with
  | true =>
   unfold opn
   rw[hz]
   rfl
  | false =>
  have hz':=d2_ hz
  have hlt:=ok.ac j a ha
  obtain⟨l,hl⟩:=bd_ (l:=g.2.1) (i:=a.2.2.1.toNat) (by omega)
  have hl2:at? g.2.1 a.2.2.1=some l:=by rw[show a.2.2.1=((a.2.2.1.toNat:Nat):Int) by omega];exact ah_ hl
  simp only[a2_]
  rw[bl5 hg ok hv.rd (by omega) hl2,a0_]
  cases opn g p.2 a.2.2.1<;>rfl
theorem ax6 {q:af_→Bool} {i k:Int} {m:af_}:∀ (n:Nat) (l:List af_),m ∈ mvK q i k n l→m ∈ l∨q m=true
 | 0,l,h=>.inl h
 | n+1,l,h=>by
  unfold mvK at h
  cases hq:q (i,(k,(n:Int))) with
  | false=>rw[hq] at h;exact ax6 n l h
  | true =>
   rw[hq,a5_] at h
   rcases b6_.1 h with h | h
   ·exact ax6 n l h
   ·rw[e7_] at h
    exact .inr (by rw[h];exact hq)
theorem bz4 {q:af_→Bool} {i:Int} {c:Nat→Nat} {m:af_}:∀ (k:Nat) (l:List af_),m ∈ mvJ q i c k l→m ∈ l∨q m=true
 | 0,l,h=>.inl h
 | k+1,l,h=>(ax6 (c k) _ h).elim (λh=>bz4 k l h) .inr
theorem bz1 {q:af_→Bool} {c:Nat→Nat} {m:af_}:∀ n,m ∈ mvs q c n→q m=true
 | 0,h=>by cases h
 | n+1,h=>(bz4 5 _ h).elim (λh=>bz1 n h) id
theorem ax7 {r:ae_} {s:ai_} {m:af_} (h:m ∈ lmv r s):lgl r s m=true:=bz1 _ h
theorem ax8 {r:ae_} (ok:OkR r) (s:ai_):(lmv r s).length≤480:=by
 have hpy:=cg_.1 ok.py
 have:=af6 (lgl r s) (λk=>c9_ (cnt_le ok k) (aj3 k)) r.2.2.2.2.2.2.1.toNat
 unfold lmv
 omega
noncomputable def pmv (g:ad_) (p:aa_):List af_:=(lmv g.1 p.1).filter λm=>(stepP g p m).isSome
theorem xy_ {α:Type} {l:List α} {i:Nat} {x:α} (q:α→Bool) (hx:l[i]?=some x):(l.take (i+1)).filter q=cond (q x) ((l.take i).filter q++[x]) ((l.take i).filter q):=by
 rw[d9_,hx,n6_]
 cases hq:q x with
 | true=>simp[hq]
 | false=>simp[hq]
theorem aw3 {g:ad_} (hg:SmG g) (h0:cn_ g=0) {p:aa_} (hv:VP g p):jt_ g p=some (pmv g p,()):=by
 have ok:=dn_ h0
 have okr:=br_ ok.room
 have hll:=ax8 okr p.1
 unfold jt_
 rw[ux_ hg.room okr hv.st,a0_]
 refine lx_ (lmv g.1 p.1).length (λ(i:Nat) (z:List af_×(Int×Unit))=>z=(((lmv g.1 p.1).take i).filter (λm=>(stepP g p m).isSome),((i:Int),()))) (by rw[l2_];rfl) (λi z hi hz => ?_) (λz hz => ?_)
 ·subst hz
  obtain⟨m,hm⟩:=bd_ hi
  have hfl:(((lmv g.1 p.1).take i).filter (λm=>(stepP g p m).isSome)).length≤480:=by
   refine c9_ (k9_ ..) ?_
   rw[c7_];omega
  refine⟨_,?_,rfl⟩
  simp only[dlt hi,a5_,ah_ hm,a0_,zb_ hg h0 hv (ax7 (ax_ hm)),xy_ _ hm,az_ (show Sm i by show i≤1000000000;omega)]
  cases (stepP g p m).isSome with
  | false=>rfl
  | true=>simp only[a5_,ci_ (show Sm _ from c9_ hfl (by omega)),a0_]
 ·subst hz
  refine⟨_,by simp only[dnl,a2_];rfl,?_⟩
  simp only[e1_]
  rfl
end
section
set_option maxRecDepth 10000
theorem xg_ {K V:Type} [DecidableEq K] (m:List (K×V)) (k k':K) (v:V):mget? (gi_ m k v) k'=if k'=k then some v else mget? m k':=by
 induction m with
 | nil=>simp[gi_,mget?]
 | cons x m ih =>
  obtain⟨a,u⟩:=x
  unfold gi_
  by_cases h:k=a
  ·subst h
   rw[if_pos rfl]
   unfold mget?
   by_cases h2:k'=k
   ·rw[if_pos h2,if_pos h2]
   ·rw[if_neg h2,if_neg h2,if_neg h2]
  ·rw[if_neg h]
   unfold mget?
   by_cases h2:k'=a
   ·rw[if_pos h2,if_pos h2,if_neg (λe=>h (by rw[← e,h2]))]
   ·rw[if_neg h2,if_neg h2,ih]
theorem kg_ {K V:Type} [DecidableEq K] (z:V) (m:List (K×V)) (k k':K) (v:V):ei_ z (gi_ m k v) k'=if k'=k then v else ei_ z m k':=by
 unfold ei_
 rw[xg_]
 split<;>rfl
noncomputable def cmpX (a0:ad_) (d:List Bool) (mm:List ac_) (lock:Int):Option (List ac_×Unit) :=
 (cond ((ei_ 0 mm lock)==0)
 ((ag_ (abB a0 d lock) ([],([],(0,())))).bind λv18 =>
 ((at? a0.2.1 lock).bind λv19 =>
 ((da_ v19 v18.2.1).bind λv20 =>
 (((cond (v20.2.1==0)
 (some ((decide (v20.1≤a0.2.2.2.2)),()))
 (some (false,())))).bind λv21 =>
 (cond v21.1
 (some ((gi_ (gi_ mm lock 2) lock 1),()))
 (some ((gi_ mm lock 2),())))))))
 (some (mm,())))
noncomputable def canX (a0:ad_) (a1:aa_) (v2:List Bool) (mm:List ac_) (v5:af_):Option (Bool×(List ac_×Unit)) :=
 (((push? (α:=Bool) [] v2).bind λv6 =>
 (((((cond (v5.2.1==4)
 ((ca_ v5.2.2 0 (w64 ((a0.1.2.2.2.2.1.length:Int) - 1))).bind λv7 =>
 (some (v7.1,())))
 (some (false,())))).bind λv8 =>
 (cond v8.1
 ((at? a0.1.2.2.2.2.1 v5.2.2).bind λv9 =>
 (((cond (decide (v9.2.2.1<0))
 (some (mm,()))
 ((cmpX a0 v2 mm v9.2.2.1).bind λv22 =>
 (some (v22.1,()))))).bind λv23 =>
 (some (v23.1,((gi_ [] v9.2.2.1 (ei_ 0 v23.1 v9.2.2.1)),())))))
 (some (mm,([],())))))).bind λv24 =>
 (((((cond (v5.2.1==4)
 ((ca_ v5.2.2 0 (w64 ((a0.1.2.2.2.2.1.length:Int) - 1))).bind λv25 =>
 (cond v25.1
 ((at? a0.1.2.2.2.2.1 v5.2.2).bind λv26 =>
 (cond (decide (v26.2.2.1<0))
 (some ((!true),(v24.2.1,())))
 ((cmpX a0 v6 v24.2.1 v26.2.2.1).bind λv39 =>
 (some ((!((ei_ 0 v39.1 v26.2.2.1)==1)),(v39.1,()))))))
 (some (false,(v24.2.1,())))))
 (some (false,(v24.2.1,()))))).bind λv40 =>
 (cond v40.1
 (some ((!false),(v6,(v40.2.1,((a1.1.1,(a1.1.2.1,(a1.1.2.2,()))),())))))
 ((fh_ a0.1 a1.1 v5).bind λv41 =>
 (cond (v41.2.1 != 0)
 (some ((!false),(v6,(v40.2.1,((a1.1.1,(a1.1.2.1,(a1.1.2.2,()))),())))))
 ((ag_ (pbgB a0 v41.1) (0,(v6,(v40.2.1,())))).bind λv52 =>
 (some ((!true),(v52.1,(v52.2.1,((v41.1.1,(v41.1.2.1,(v41.1.2.2,()))),()))))))))))).bind λv53 =>
 (cond v53.1
 (some (false,(v24.1,())))
 (some (true,(v24.1,()))))))))
noncomputable def canL (a0:ad_) (a1:aa_):Option (List af_×(Int×Unit)) :=
 ((ef_ a0 a1).bind λv0 =>
 (cond (v0.1 != 0)
 (cond (v0.1 != 0)
 (some ([],(v0.1,())))
 ((fi_ a0.1 a1.1).bind λv1 =>
 (cond (v1.2.1 != 0)
 (some ([],(v1.2.1,())))
 none)))
 ((push? (α:=Bool) [] a1.2).bind λv2 =>
 ((fi_ a0.1 a1.1).bind λv3 =>
 (cond (v3.2.1 != 0)
 (some ([],(v3.2.1,())))
 ((ag_ (ρ:=((List af_)×((List ac_)×Unit))) (λ(v4:((List af_)×(Int×((List ac_)×Unit)))) =>
 (cond (decide (v4.2.1<(v3.1.length:Int)))
 ((((at? v3.1 v4.2.1).bind λv5 =>
 ((canX a0 a1 v2 v4.2.2.1 v5).bind λv54 =>
 (cond v54.1
 ((push? (α:=af_) v4.1 [v5]).bind λv55 =>
 (some (v55,(v54.2.1,()))))
 (some (v4.1,(v54.2.1,()))))))).bind λv56 =>
 (some (inl (v56.1,((w64 (v4.2.1+1)),(v56.2.1,()))))))
 (some (inr (v4.1,(v4.2.2.1,())))))) ([],(0,([],())))).bind λv57 =>
 (some (v57.1,(0,())))))))))
theorem canL_eq:qe_=canL:=by
 kernel_rfl
def Mem (g:ad_) (d:List Bool) (mm:List ac_):Prop:=∀ lock,0≤lock→(ei_ 0 mm lock=(0:Int)∨ei_ 0 mm lock=cond (opn g d lock) 1 2)
theorem cg9 {g:ad_} (hg:SmG g) (ok:OkG g) {d:List Bool} (hd:d.length=g.2.2.2.1.length) {mm:List ac_} {lock:Int} (hz:0≤lock) {l:ac_} (hl:at? g.2.1 lock=some l)
  (hm:ei_ 0 mm lock=(0:Int)∨ei_ 0 mm lock=cond (opn g d lock) 1 2) :
  ∃ m',cmpX g d mm lock=some (m',())∧ei_ 0 m' lock=cond (opn g d lock) 1 2∧∀ k,k≠lock→ei_ 0 m' k=ei_ 0 mm k:=by
 unfold cmpX
 cases h0:(ei_ 0 mm lock:Int)==0 with
 | false =>
  have h0:ei_ 0 mm lock≠(0:Int):=by simpa using h0
  exact⟨mm,rfl,hm.resolve_left h0,λ_ _=>rfl⟩
 | true =>
  obtain⟨q,e⟩:=cj9 hg hd lock
  have ho:opn g d lock=decide (rdC g d lock l≤g.2.2.2.2):=by
   unfold opn
   rw[c2_ (by omega),hl]
   rfl
  rw[a5_,e]
  simp only[a0_,hl,ar1 hg ok d hz hl]
  simp only[show ((0:Int)==0)=true from rfl,a5_,a0_]
  rw[ho]
  cases decide (rdC g d lock l≤g.2.2.2.2) with
  | true=>exact⟨_,rfl,by rw[kg_,if_pos rfl];rfl,λk hk=>by rw[kg_,if_neg hk,kg_,if_neg hk]⟩
  | false=>exact⟨_,rfl,by rw[kg_,if_pos rfl];rfl,λk hk=>by rw[kg_,if_neg hk]⟩
theorem canX_eq {g:ad_} (hg:SmG g) (h0:cn_ g=0) {p:aa_} (hv:VP g p) {m:af_} (hl:lgl g.1 p.1 m=true) {mm:List ac_} (hM:Mem g p.2 mm) :
    ∃ m',canX g p p.2 mm m=some ((stepP g p m).isSome,(m',()))∧Mem g p.2 m':=by
  have ok:=dn_ h0
  have okr:=br_ ok.room
  have hac:=hg.ac
  have hnt:=hg.nt
  have hrd:=hv.rd
  have fin:∀ (b:Bool) (u:List ac_) (m':List ac_),okM g p.2 m = !b →
      (((((some (b,(u,())):Option (Bool×(List ac_×Unit)))).bind λv40 =>
 (cond v40.1
 (some ((!false),(p.2,(v40.2.1,((p.1.1,(p.1.2.1,(p.1.2.2,()))),())))))
 ((fh_ g.1 p.1 m).bind λv41 =>
 (cond (v41.2.1 != 0)
 (some ((!false),(p.2,(v40.2.1,((p.1.1,(p.1.2.1,(p.1.2.2,()))),())))))
 ((ag_ (pbgB g v41.1) (0,(p.2,(v40.2.1,())))).bind λv52 =>
 (some ((!true),(v52.1,(v52.2.1,((v41.1.1,(v41.1.2.1,(v41.1.2.2,()))),()))))))))))).bind λv53 =>
 (cond v53.1
 (some (false,(m',())))
 (some (true,(m',())))))=some ((stepP g p m).isSome,(m',())):=by
    intro b u m' hb
    unfold stepP
    rw[hb,hl,h3_,a0_]
    cases b with
    | true=>rfl
    | false =>
    simp only[a2_,h2_,a5_]
    rw[al9 hg.room ok.room hv.st m,a0_,hl,a5_]
    cases hs:yy_ g.1 p.1 m with
    | none=>rfl
    | some s =>
    have hv2:=vi_ hg.room ok.room hv.st hl hs
    obtain⟨z,ez,hz⟩:=ww_ hg ok hv2 hv.rd u
    simp only[Option.elim,show ((0:Int) != 0)=false from rfl,a2_]
    rw[ez,a0_,a0_]
    rfl
  unfold canX
  rw[ay_ (show Sm p.2.length by show _≤1000000000;omega),a0_]
  simp only[kn_]
  cases hk:m.2.1==4 with
  | false =>
    refine⟨mm,?_,hM⟩
    simp only[a2_,a0_]
    refine fin false [] mm ?_
    unfold okM
    rw[hk]
    rfl
  | true =>
  simp only[a5_,a0_]
  have hl':=hl
  unfold lgl at hl'
  rw[a1_] at hl'
  have hl':=hl'.2
  have hk':m.2.1=4:=f6_.1 hk
  rw[hk'] at hl'
  simp only[show ((4:Int)==1)=false from rfl,show ((4:Int)==2)=false from rfl,show ((4:Int)==3)=false from rfl,show ((4:Int)==4)=true from rfl,a2_,a5_] at hl'
  rcases cs_ (l:=g.1.2.2.2.2.1) (by show _≤1000000000;omega) m.2.2 with ⟨f1,f2⟩ | ⟨j,a,hj,ha,f1,f2⟩
  · rw[f2] at hl';cases hl'
  · have ho:okM g p.2 m=opn g p.2 a.2.2.1:=by
      unfold okM
      rw[hk,a5_,f2]
      rfl
    simp only[f1,f2,a5_,a0_]
    cases hz:decide (a.2.2.1<0) with
    | true =>
      refine⟨mm,?_,hM⟩
      simp only[a5_,a0_]
      refine fin (!true) _ mm ?_
      rw[ho]
      unfold opn
      rw[hz]
      rfl
    | false =>
      have hz':=d2_ hz
      have hlt:=ok.ac j a ha
      obtain⟨l,hlk⟩:=bd_ (l:=g.2.1) (i:=a.2.2.1.toNat) (by omega)
      have hl2:at? g.2.1 a.2.2.1=some l:=by rw[show a.2.2.1=((a.2.2.1.toNat:Nat):Int) by omega];exact ah_ hlk
      obtain⟨m1,e1,k1,r1⟩:=cg9 hg ok hv.rd (mm:=mm) (by omega) hl2 (hM _ (by omega))
      obtain⟨m2,e2,k2,r2⟩:=cg9 hg ok hv.rd (mm:=gi_ [] a.2.2.1 (ei_ 0 m1 a.2.2.1)) (by omega) hl2 (.inr (by rw[kg_,if_pos rfl,k1]))
      refine⟨m1,?_,λlock hlock => ?_⟩
      · simp only[a2_,e1,a0_,e2]
        refine fin _ m2 m1 ?_
        rw[ho,k2]
        cases opn g p.2 a.2.2.1<;>rfl
      · by_cases hE:lock=a.2.2.1
        · rw[hE]
          exact .inr k1
        · rw[r1 lock hE]
          exact hM lock hlock
theorem cq0 {g:ad_} (hg:SmG g) (h0:cn_ g=0) {p:aa_} (hv:VP g p):qe_ g p=some (pmv g p,(0,())):=by
 have ok:=dn_ h0
 have okr:=br_ ok.room
 have hll:=ax8 okr p.1
 have hnt:=hg.nt
 have hrd:=hv.rd
 rw[canL_eq]
 unfold canL
 rw[wv_ hg h0 hv,a0_]
 simp only[show ((0:Int) != 0)=false from rfl,a2_]
 rw[ay_ (show Sm p.2.length by show _≤1000000000;omega),a0_,bl1 hg.room ok.room hv.st,a0_]
 simp only[show ((0:Int) != 0)=false from rfl,a2_]
 refine lx_ (lmv g.1 p.1).length (λ(i:Nat) (z:List af_×(Int×(List ac_×Unit)))=>∃ mm,z=(((lmv g.1 p.1).take i).filter (λm=>(stepP g p m).isSome),((i:Int),(mm,())))∧Mem g p.2 mm) ⟨[],by rw[l2_];rfl,λlock _=>.inl rfl⟩ (λi z hi hz => ?_) (λz hz => ?_)
 ·obtain⟨mm,rfl,hM⟩:=hz
  obtain⟨m,hm⟩:=bd_ hi
  have hfl:(((lmv g.1 p.1).take i).filter (λm=>(stepP g p m).isSome)).length≤480:=by
   refine c9_ (k9_ ..) ?_
   rw[c7_];omega
  obtain⟨m',e,hM'⟩:=canX_eq hg h0 hv (ax7 (ax_ hm)) hM
  refine⟨_,?_,m',rfl,hM'⟩
  simp only[dlt hi,a5_,ah_ hm,a0_,e,xy_ _ hm,az_ (show Sm i by show i≤1000000000;omega)]
  cases (stepP g p m).isSome with
  | false=>rfl
  | true=>simp only[a5_,ci_ (show Sm _ from c9_ hfl (by omega)),a0_]
 ·obtain⟨mm,rfl,hM⟩:=hz
  refine⟨_,by simp only[dnl,a2_];rfl,?_⟩
  simp only[e1_]
  rfl
end
section
set_option maxRecDepth 10000
theorem us_ {a b:List UInt8} (h:a.length+b.length≤2147483648):cat? a b=some (a++b):=by
 unfold cat?
 rw[i0_ h]
 rfl
def dval (l:List UInt8):Nat:=l.foldl (λa c=>a * 10+(c.toNat - 48)) 0
theorem dgt {n:Nat} (h:n<10):(UInt8.ofNat (48+n)).toNat=48+n:=by
 rw[UInt8.toNat_ofNat']
 exact k6_ (by omega)
theorem yi_:∀ (k u:Nat),u<10 ^ k→dval (Lib.decDigits u)=u∧(∀ c ∈ Lib.decDigits u,48≤c.toNat∧c.toNat≤57)∧(Lib.decDigits u).length≤k+1
 | 0,u,h=>by
  obtain rfl:u=0:=by simpa using h
  rw[Lib.decDigits]
  exact⟨rfl,λc hc=>by
   simp at hc
   rw[hc]
   exact⟨by decide,by decide⟩,by decide⟩
 | k+1,u,h=>by
  rw[Lib.decDigits]
  by_cases hu:u<10
  ·rw[dif_pos hu]
   refine⟨?_,λc hc => ?_,by simp⟩
   ·show 0 * 10+((UInt8.ofNat (48+u)).toNat - 48)=u
    rw[dgt hu];omega
   ·rw[e7_] at hc
    rw[hc,dgt hu];omega
  ·rw[dif_neg hu]
   rw[k0_] at h
   obtain⟨a,b,c⟩:=yi_ k (u / 10) (by omega)
   have hm:u % 10<10:=Nat.mod_lt _ (by decide)
   refine⟨?_,λx hx => ?_,by rw[a8_,e0_];omega⟩
   ·unfold dval at a ⊢
    rw[m4_,a]
    show u / 10 * 10+((UInt8.ofNat (48+u % 10)).toNat - 48)=u
    rw[dgt hm];omega
   ·rcases b6_.1 hx with hx | hx
    ·exact b x hx
    ·rw[e7_] at hx
     rw[hx,dgt hm];omega
theorem wu_ (u:Nat):u<10 ^ u:=Nat.lt_pow_self (by decide)
theorem ty_ {u v:Nat} (h:Lib.decDigits u=Lib.decDigits v):u=v:=by
 rw[← (yi_ u u (wu_ u)).1,← (yi_ v v (wu_ v)).1,h]
theorem yj_ {u:Nat}:∀ c ∈ Lib.decDigits u,48≤c.toNat∧c.toNat≤57:=(yi_ u u (wu_ u)).2.1
theorem ah1 {a b:Int} (h:Lib.itoa a=Lib.itoa b):a=b:=by
 unfold Lib.itoa at h
 have hd:∀ {u:Nat} {l:List UInt8},Lib.decDigits u≠45::l:=λ{u l} e=>by
  have:=yj_ (u:=u) 45 (by rw[e];exact e4_ ..)
  have h45:(45:UInt8).toNat=45:=rfl
  omega
 by_cases ha:a<0
 ·by_cases hb:b<0
  ·rw[if_pos ha,if_pos hb] at h
   have:=ty_ (o9_ h).2
   omega
  ·rw[if_pos ha,if_neg hb] at h
   exact absurd h.symm hd
 ·by_cases hb:b<0
  ·rw[if_neg ha,if_pos hb] at h
   exact absurd h hd
  ·rw[if_neg ha,if_neg hb] at h
   have:=ty_ h
   omega
theorem ay1 (a:Int):(32:UInt8) ∉ Lib.itoa a:=by
 have hd:∀ {u:Nat},(32:UInt8) ∉ Lib.decDigits u:=λ{u} e=>by
  have:=yj_ _ e
  have h32:(32:UInt8).toNat=32:=rfl
  omega
 unfold Lib.itoa
 split
 ·intro h
  rcases d4_.1 h with h | h
  ·exact absurd h (by decide)
  ·exact hd h
 ·exact hd
def gu_ (a:List (List UInt8)):List UInt8:=a.flatMap (· ++ [32])
theorem bb3:∀ {t u r s:List UInt8},(32:UInt8) ∉ t→(32:UInt8) ∉ u→t++32::r=u++32::s→t=u∧r=s
 | [],[],r,s,_,_,h=>⟨rfl,(o9_ h).2⟩
 | [],c::u,r,s,_,hu,h=>absurd (o9_ h).1 λe=>hu (by rw[e];exact e4_ ..)
 | c::t,[],r,s,ht,_,h=>absurd (o9_ h).1 λe=>ht (by rw[e];exact e4_ ..)
 | c::t,d::u,r,s,ht,hu,h=>by
  obtain⟨h1,h2⟩:=o9_ h
  obtain⟨h3,h4⟩:=bb3 (λe=>ht (d7_ _ e)) (λe=>hu (d7_ _ e)) h2
  exact⟨by rw[h1,h3],h4⟩
theorem ac1:∀ {a b:List (List UInt8)},(∀ t ∈ a,(32:UInt8) ∉ t)→(∀ t ∈ b,(32:UInt8) ∉ t)→gu_ a=gu_ b→a=b
 | [],[],_,_,_=>rfl
 | [],t::b,_,_,h=>by
  have:=congrArg List.length h
  simp[gu_] at this
 | t::a,[],_,_,h=>by
  have:=congrArg List.length h
  simp[gu_] at this
 | t::a,u::b,ha,hb,h=>by
  have h:t++32::gu_ a=u++32::gu_ b:=by
   have:∀ (t:List UInt8) (a:List (List UInt8)),gu_ (t::a)=t++32::gu_ a:=λt a=>by simp[gu_]
   rw[this,this] at h
   exact h
  obtain⟨h1,h2⟩:=bb3 (ha t (e4_ ..)) (hb u (e4_ ..)) h
  rw[h1,ac1 (λt h=>ha t (d7_ _ h)) (λt h=>hb t (d7_ _ h)) h2]
theorem lh_ (a b:List (List UInt8)):gu_ (a++b)=gu_ a++gu_ b:=r0_
theorem pi_ {a:List (List UInt8)} {k:Nat} (h:∀ t ∈ a,t.length≤k):(gu_ a).length≤a.length * (k+1):=by
 induction a with
 | nil=>exact j4_ _
 | cons t a ih =>
  have h1:=ih λt ht=>h t (d7_ _ ht)
  have h2:=h t (e4_ ..)
  have h3:gu_ (t::a)=t++32::gu_ a:=by simp[gu_]
  rw[h3,a8_,c8_,c8_,Nat.succ_mul]
  omega
theorem fr_ {α β:Type} {f:α→β}:∀ {a b:List α},(∀ x ∈ a,∀ y ∈ b,f x=f y→x=y)→a.map f=b.map f→a=b
 | [],[],_,_=>rfl
 | [],_::_,_,h=>by cases h
 | _::_,[],_,h=>by cases h
 | x::a,y::b,hi,h=>by
  obtain⟨h1,h2⟩:=o9_ (show f x::a.map f=f y::b.map f from h)
  rw[hi x (e4_ ..) y (e4_ ..) h1,fr_ (λx hx y hy=>hi x (d7_ _ hx) y (d7_ _ hy)) h2]
structure PB (p:aa_):Prop where
 n1:p.1.1.length≤12
 n2:p.1.2.1.length≤10
 n3:p.1.2.2.length≤4
 n4:p.2.length≤20
 b1:∀ x ∈ p.1.1,0≤x∧x≤5
 b2:∀ x ∈ p.1.2.1,-6<x∧x<8
 b3:∀ x ∈ p.1.2.2,0≤x∧x<8
theorem bo3 {g:ad_} (hg:SmG g) (ok:OkG g) {p:aa_} (hv:VP g p):PB p:=by
 have okr:=br_ ok.room
 have hm:=okr.many
 unfold ag7 at hm
 simp only[c0_,p9_] at hm
 have hpy:=cg_.1 okr.py
 have h1:=hv.st.l1
 have h2:=hv.st.l2
 have h3:=hv.st.l3
 have h4:=hv.rd
 have h5:=hg.nt
 refine⟨by omega,by omega,by omega,by omega,λx hx => ?_,λx hx => ?_,λx hx => ?_⟩
 ·obtain⟨i,hi⟩:=e3_ hx
  exact (mw_ hg.room okr (hv.st.th i x hi)).2
 ·obtain⟨i,hi⟩:=e3_ hx
  have:=(ah4 hg.room okr).1 (hv.st.pr i x hi)
  omega
 ·obtain⟨i,hi⟩:=e3_ hx
  have:=(lk_ hg.room).1 (hv.st.py i x hi)
  omega
def bt (b:Bool):List UInt8:=cond b [116,114,117,101] [102,97,108,115,101]
def ptk (p:aa_):List (List UInt8):=(p.1.1.map Lib.itoa++(p.1.2.1.map Lib.itoa++p.1.2.2.map Lib.itoa))++p.2.map bt
theorem xd_ (l:List Int):ao9 l=gu_ (l.map Lib.itoa):=by
 unfold ao9 gu_
 rw[List.flatMap_map]
 rfl
theorem os_ {u:Nat} (h:u<10000000000):(Lib.decDigits u).length≤11:=(yi_ 10 u h).2.2
theorem cc5 {x:Int} (h1 : -8≤x) (h2:x≤8):(Lib.itoa x).length≤21:=by
 unfold Lib.itoa
 split
 ·have:=os_ (u:=x.natAbs) (by omega)
  rw[c8_];omega
 ·have:=os_ (u:=x.toNat) (by omega)
  omega
theorem bm3 {p:aa_} (h:p.2.length≤20):lp_ p=some (gu_ (p.2.map bt),()):=by
 unfold lp_
 have hb:∀ b,(bt b).length≤5:=λb=>by cases b<;>decide
 refine lx_ p.2.length (λ(i:Nat) (z:List UInt8×(Int×Unit))=>z=(gu_ ((p.2.take i).map bt),((i:Int),()))) (by rw[l2_];rfl) (λi z hi hz => ?_) (λz hz => ?_)
 ·subst hz
  obtain⟨b,hx⟩:=bd_ hi
  have hl:(gu_ ((p.2.take i).map bt)).length≤20 * 6:=by
   refine c9_ (pi_ (k:=5) λt ht => ?_) ?_
   ·obtain⟨b,_,rfl⟩:=d1_.1 ht
    exact hb b
   ·rw[d6_,c7_]
    omega
  have hf:dz_ b=some (bt b,()):=by cases b<;>rfl
  have hb5:=hb b
  refine⟨_,?_,rfl⟩
  simp only[dlt hi,a5_,ah_ hx,a0_,hf,az_ (show Sm i by show i≤1000000000;omega)]
  rw[us_ (show (bt b).length+1≤_ by omega),a0_,us_ (by rw[a8_,e0_];omega),a0_,d9_,hx]
  simp[gu_]
 ·subst hz
  refine⟨_,by simp only[dnl,a2_];rfl,?_⟩
  simp only[e1_]
theorem xs_ {l:List Int} (h:∀ x ∈ l,-8≤x∧x≤8):l.all inI=true:=by
 rw[f2_]
 intro x hx
 have:=h x hx
 unfold inI
 rw[a1_,g9_,g9_]
 omega
theorem ao1 {p:aa_} (h:PB p):ku_ p=some (gu_ (ptk p),()):=by
 have hB1:∀ x ∈ p.1.1,-8≤x∧x≤8:=λx hx=>by have:=h.b1 x hx;omega
 have hB2:∀ x ∈ p.1.2.1,-8≤x∧x≤8:=λx hx=>by have:=h.b2 x hx;omega
 have hB3:∀ x ∈ p.1.2.2,-8≤x∧x≤8:=λx hx=>by have:=h.b3 x hx;omega
 have hE:hl_ [p.1.1,p.1.2.1,p.1.2.2]=gu_ (p.1.1.map Lib.itoa++(p.1.2.1.map Lib.itoa++p.1.2.2.map Lib.itoa)):=by
  rw[lh_,lh_,← xd_,← xd_,← xd_]
  simp[hl_]
 have hlen:∀ {l:List Int} {k:Nat},l.length≤k→(∀ x ∈ l,-8≤x∧x≤8)→(gu_ (l.map Lib.itoa)).length≤k * 22:=λ{l k} hk hb=>by
  refine c9_ (pi_ (k:=21) λt ht => ?_) ?_
  ·obtain⟨x,hx,rfl⟩:=d1_.1 ht
   exact cc5 (hb x hx).1 (hb x hx).2
  ·rw[d6_]
   exact i5_ _ hk
 have hl:(hl_ [p.1.1,p.1.2.1,p.1.2.2]).length≤1000:=by
  rw[hE,lh_,lh_,a8_,a8_]
  have h1:=hlen h.n1 hB1
  have h2:=hlen h.n2 hB2
  have h3:=hlen h.n3 hB3
  omega
 have hr:(gu_ (p.2.map bt)).length≤20 * 6:=by
  refine c9_ (pi_ (k:=5) λt ht => ?_) ?_
  ·obtain⟨b,_,rfl⟩:=d1_.1 ht
   cases b<;>decide
  ·rw[d6_]
   have:=h.n4
   omega
 have hn:fm_ [p.1.1,p.1.2.1,p.1.2.2]=some (hl_ [p.1.1,p.1.2.1,p.1.2.2],()):=by
  unfold fm_
  have h1:([p.1.1,p.1.2.1,p.1.2.2].all λl=>l.all inI)=true:=by
   simp[xs_ hB1,xs_ hB2,xs_ hB3]
  rw[h1,i0_ (show _≤2147483648 by omega)]
  rfl
 unfold ku_
 rw[hn,a0_,bm3 h.n4,a0_,us_ (by show (hl_ _).length+(gu_ (p.2.map bt)).length≤_;omega),a0_]
 unfold ptk
 rw[lh_,← hE]
theorem bt_inj {a b:Bool} (h:bt a=bt b):a=b:=by
 cases a<;>cases b<;>first | rfl | cases h
theorem cy6 (p:aa_):∀ t ∈ ptk p,(32:UInt8) ∉ t:=by
 intro t ht
 unfold ptk at ht
 simp only[b6_,d1_] at ht
 rcases ht with (⟨x,_,rfl⟩ | ⟨x,_,rfl⟩ | ⟨x,_,rfl⟩) | ⟨b,_,rfl⟩
 ·exact ay1 x
 ·exact ay1 x
 ·exact ay1 x
 ·cases b<;>decide
def SmL (p q:aa_):Prop:=p.1.1.length=q.1.1.length∧p.1.2.1.length=q.1.2.1.length∧p.1.2.2.length=q.1.2.2.length∧p.2.length=q.2.length
theorem dd1 {g:ad_} {p q:aa_} (hp:VP g p) (hq:VP g q):SmL p q:=by
 have h1:=hp.st.l1
 have h2:=hp.st.l2
 have h3:=hp.st.l3
 have h4:=hp.rd
 have k1:=hq.st.l1
 have k2:=hq.st.l2
 have k3:=hq.st.l3
 have k4:=hq.rd
 exact⟨by omega,by omega,by omega,by omega⟩
theorem uf_ {α:Type} {a b c d:List α} (h:a.length=c.length) (e:a++b=c++d):a=c∧b=d:=List.append_inj e h
theorem bw0 {p q:aa_} (h1:p.1.1=q.1.1) (h2:p.1.2.1=q.1.2.1) (h3:p.1.2.2=q.1.2.2) (h4:p.2=q.2):p=q :=
 Prod.ext (Prod.ext h1 (Prod.ext h2 h3)) h4
theorem ptk_inj {p q:aa_} (hs:SmL p q) (h:gu_ (ptk p)=gu_ (ptk q)):p=q:=by
 obtain⟨s1,s2,s3,s4⟩:=hs
 have h:=ac1 (cy6 p) (cy6 q) h
 unfold ptk at h
 obtain⟨h,e4⟩:=uf_ (by simp only[a8_,d6_];omega) h
 obtain⟨e1,h⟩:=uf_ (by simp only[d6_];omega) h
 obtain⟨e2,e3⟩:=uf_ (by simp only[d6_];omega) h
 exact bw0 (fr_ (λ_ _ _ _=>ah1) e1) (fr_ (λ_ _ _ _=>ah1) e2) (fr_ (λ_ _ _ _=>ah1) e3) (fr_ (λ_ _ _ _=>bt_inj) e4)
def dec (n:Int):List UInt8:=Lib.decDigits n.toNat
theorem sub_dig:∀ {r:Nat},r<10→sub? ([48,49,50,51,52,53,54,55,56,57]:List UInt8) (r:Int) (w64 ((r:Int)+1))=some [UInt8.ofNat (48+r)]
 | 0,_=>rfl
 | 1,_=>rfl
 | 2,_=>rfl
 | 3,_=>rfl
 | 4,_=>rfl
 | 5,_=>rfl
 | 6,_=>rfl
 | 7,_=>rfl
 | 8,_=>rfl
 | 9,_=>rfl
 | _+10,h=>absurd h (by omega)
theorem bj7:∀ (k u:Nat),u≤1000000000→u<10 ^ (k+1)→dr_ (k+1) (u:Int)=some (Lib.decDigits u,())
  | k,u,hu,h=>by
    have hm:u % 10<10:=Nat.mod_lt _ (by decide)
    have e1:Int.tmod (u:Int) 10=((u % 10:Nat):Int):=by rw[Int.tmod_eq_emod_of_nonneg (by omega)];omega
    have e2:Int.tdiv (u:Int) 10=((u / 10:Nat):Int):=by rw[Int.tdiv_eq_ediv_of_nonneg (by omega)];omega
    show ((sub? [48,49,50,51,52,53,54,55,56,57] (Int.tmod (u:Int) 10) (w64 ((Int.tmod (u:Int) 10)+1))).bind λv0 =>
 (cond (decide ((u:Int)<10))
 (some (v0,()))
 ((dr_ k (w64 (Int.tdiv (u:Int) 10))).bind λv1 =>
 ((cat? v1.1 v0).bind λv2 =>
 (some (v2,()))))))=_
    rw[e1,sub_dig hm,a0_,e2,er_ (by omega) (by omega),Lib.decDigits]
    by_cases h10:u<10
    · rw[dif_pos h10,b8_ (show (u:Int)<10 by omega),a5_,k6_ h10]
    · rw[dif_neg h10,c2_ (show ¬ (u:Int)<10 by omega),a2_]
      match k,h with
      | 0,h=>exact absurd h (by simp;omega)
      | k+1,h =>
        rw[k0_] at h
        rw[bj7 k (u / 10) (by omega) (by omega),a0_]
        have:=os_ (u:=u / 10) (by omega)
        rw[us_ (by show (Lib.decDigits (u / 10)).length+1≤_;omega),a0_]
theorem ac0 {n:Int} (h0:0≤n) (h1:n≤1000000):ce_ n=some (dec n,()):=by
 obtain⟨u,rfl⟩:∃ u:Nat,n=(u:Int):=⟨n.toNat,by omega⟩
 unfold ce_ dec
 rw[b9_]
 exact bj7 19 u (by omega) (by omega)
theorem keyL (l:List Int) (h:Int→Int) (acc:List UInt8) (hl:l.length≤20) (ha:acc.length≤100000) (hb:∀ x ∈ l,0≤h x∧h x≤100) {body:(List UInt8×(Int×Unit))→Option ((List UInt8×(Int×Unit))⊕(List UInt8×Unit))} {υ:Type} {K:(List UInt8×Unit)→Option υ} {x:Option υ}
  (hs:∀ (i:Nat) y t,l[i]?=some y→body (t,((i:Int),()))=((ce_ (h y)).bind λv8=>((cat? t v8.1).bind λv9=>((cat? v9 [32]).bind λv10=>(some (inl (v10,((w64 ((i:Int)+1)),()))))))))
  (he:∀ t,body (t,((l.length:Int),()))=some (.inr (t,()))) (hk:K (acc++gu_ (l.map λx=>dec (h x)),())=x):(ag_ body (acc,(0,()))).bind K=x:=by
 refine lx_ l.length (λ(i:Nat) (z:List UInt8×(Int×Unit))=>z=(acc++gu_ ((l.take i).map λx=>dec (h x)),((i:Int),()))) (by rw[l2_,List.map_nil,show gu_ []=[] from rfl,e9_];rfl) (λi z hi hz => ?_) (λz hz => ?_)
 ·subst hz
  obtain⟨y,hy⟩:=bd_ hi
  have hlen:(gu_ ((l.take i).map λx=>dec (h x))).length≤20 * 12:=by
   refine c9_ (pi_ (k:=11) λt ht => ?_) ?_
   ·obtain⟨x,hx,rfl⟩:=d1_.1 ht
    have:=hb x (l4_ hx)
    exact os_ (by omega)
   ·rw[d6_,c7_]
    omega
  have hyb:=hb y (ax_ hy)
  have hd:(dec (h y)).length≤11:=os_ (by omega)
  refine⟨_,?_,rfl⟩
  rw[hs i y _ hy,ac0 hyb.1 (by omega),a0_,us_ (by show (acc++gu_ _).length+(dec (h y)).length≤_;rw[a8_];omega),a0_,us_ (by show ((acc++gu_ _)++dec (h y)).length+1≤_;rw[a8_,a8_];omega),a0_,az_ (show Sm i by show i≤1000000000;omega),d9_,hy]
  simp[gu_]
 ·subst hz
  refine⟨_,he _,?_⟩
  rw[e1_]
  exact hk
def idx (d:List Bool):List Nat:=(List.range d.length).filter λi=>d[i]?==some true
theorem cc8 {d:List Bool} {i:Nat}:i ∈ idx d↔d[i]?=some true:=by
 unfold idx
 rw[c5_,m5_,f6_]
 exact⟨λh=>h.2,λh=>⟨am_ h,h⟩⟩
theorem idx_inj {d e:List Bool} (hl:d.length=e.length) (h:idx d=idx e):d=e:=by
 refine f1_ λi => ?_
 rcases l6_ i d.length with hi | hi
 ·obtain⟨x,hx⟩:=bd_ hi
  obtain⟨y,hy⟩:=bd_ (l:=e) (i:=i) (by omega)
  have hm:i ∈ idx d↔i ∈ idx e:=by rw[h]
  rw[cc8,cc8,hx,hy] at hm
  rw[hx,hy]
  cases x with
  | true=>rw[hm.1 rfl]
  | false =>
   cases y with
   | true=>exact (hm.2 rfl)
   | false=>rfl
 ·rw[b4_ hi,b4_ (by omega)]
def rtk (p:aa_):List (List UInt8):=((p.1.1.map (λx=>dec x)++p.1.2.1.map (λx=>dec (w64 (x+10))))++p.1.2.2.map (λx=>dec x))++(idx p.2).map (λi:Nat=>dec (i:Int))
theorem am3 {p:aa_} (h:PB p):ih_ p=some (gu_ (rtk p),()):=by
 have hlen:∀ {l:List Int} (f:Int→Int),l.length≤20→(∀ x ∈ l,0≤f x∧f x≤100)→(gu_ (l.map λx=>dec (f x))).length≤20 * 12:=λ{l} f hk hb=>by
  refine c9_ (pi_ (k:=11) λt ht => ?_) ?_
  ·obtain⟨x,hx,rfl⟩:=d1_.1 ht
   have:=hb x hx
   exact os_ (by omega)
  ·rw[d6_]
   exact i5_ _ hk
 have n1:=h.n1
 have n2:=h.n2
 have n3:=h.n3
 have n4:=h.n4
 have q1:∀ x ∈ p.1.1,0≤x∧x≤100:=λx hx=>by have:=h.b1 x hx;omega
 have q2:∀ x ∈ p.1.2.1,0≤w64 (x+10)∧w64 (x+10)≤100:=λx hx=>by have:=h.b2 x hx;rw[er_ (by omega) (by omega)];omega
 have q3:∀ x ∈ p.1.2.2,0≤x∧x≤100:=λx hx=>by have:=h.b3 x hx;omega
 have l1:=hlen (l:=p.1.1) (λx=>x) (by omega) q1
 have l2:=hlen (l:=p.1.2.1) (λx=>w64 (x+10)) (by omega) q2
 have l3:=hlen (l:=p.1.2.2) (λx=>x) (by omega) q3
 unfold ih_
 refine keyL p.1.1 (λx=>x) [] (by omega) (by simp) q1 (λi y t hy=>by simp only[dlt (am_ hy),a5_,ah_ hy,a0_]) (λt=>by simp only[dnl,a2_]) ?_
 refine keyL p.1.2.1 (λx=>w64 (x+10)) ([]++_) (by omega) (by rw[h1_];omega) q2 (λi y t hy=>by simp only[dlt (am_ hy),a5_,ah_ hy,a0_]) (λt=>by simp only[dnl,a2_]) ?_
 refine keyL p.1.2.2 (λx=>x) (([]++_)++_) (by omega) (by rw[h1_,a8_];omega) q3 (λi y t hy=>by simp only[dlt (am_ hy),a5_,ah_ hy,a0_]) (λt=>by simp only[dnl,a2_]) ?_
 refine lx_ p.2.length (λ(i:Nat) (z:List UInt8×(Int×Unit))=>z=((([]++gu_ (p.1.1.map λx=>dec x))++gu_ (p.1.2.1.map λx=>dec (w64 (x+10))))++gu_ (p.1.2.2.map λx=>dec x)++gu_ (((List.range i).filter λi=>p.2[i]?==some true).map λi:Nat=>dec (i:Int)),((i:Int),()))) (by rw[List.range_zero,List.filter_nil,List.map_nil,show gu_ []=[] from rfl,e9_];rfl) (λi z hi hz => ?_) (λz hz => ?_)
 ·subst hz
  obtain⟨b,hb⟩:=bd_ hi
  have hl4:(gu_ (((List.range i).filter λi=>p.2[i]?==some true).map λi:Nat=>dec (i:Int))).length≤20 * 12:=by
   refine c9_ (pi_ (k:=11) λt ht => ?_) ?_
   ·obtain⟨x,hx,rfl⟩:=d1_.1 ht
    have:=m5_.1 (c5_.1 hx).1
    exact os_ (by omega)
   ·refine i5_ _ ?_
    rw[d6_]
    refine c9_ (k9_ ..) ?_
    rw[i7_]
    omega
  have hd:(dec (i:Int)).length≤11:=os_ (by omega)
  refine⟨_,?_,rfl⟩
  simp only[dlt hi,a5_,ah_ hb,a0_,az_ (show Sm i by show i≤1000000000;omega)]
  rw[List.range_succ,n6_]
  cases b with
  | false=>simp[hb]
  | true =>
   rw[a5_,ac0 (by omega) (by omega),a0_,us_ (by simp only[a8_,k3_];omega),a0_,us_ (by simp only[a8_,k3_,c8_];omega)]
   simp[hb,gu_]
 ·subst hz
  refine⟨_,by simp only[dnl,a2_];rfl,?_⟩
  unfold rtk idx
  rw[lh_,lh_,lh_,h1_]
theorem bh7 (x:Int):(32:UInt8) ∉ dec x:=λe=>by
 have:=yj_ _ e
 have h32:(32:UInt8).toNat=32:=rfl
 omega
theorem cy0 (p:aa_):∀ t ∈ rtk p,(32:UInt8) ∉ t:=by
 intro t ht
 unfold rtk at ht
 simp only[b6_,d1_] at ht
 rcases ht with ((⟨x,_,rfl⟩ | ⟨x,_,rfl⟩) | ⟨x,_,rfl⟩) | ⟨b,_,rfl⟩
 ·exact bh7 x
 ·exact bh7 _
 ·exact bh7 x
 ·exact bh7 _
theorem rtk_inj {p q:aa_} (hp:PB p) (hq:PB q) (hs:SmL p q) (h:gu_ (rtk p)=gu_ (rtk q)):p=q:=by
 obtain⟨s1,s2,s3,s4⟩:=hs
 have h:=ac1 (cy0 p) (cy0 q) h
 unfold rtk at h
 obtain⟨h,e4⟩:=uf_ (by simp only[a8_,d6_];omega) h
 obtain⟨h,e3⟩:=uf_ (by simp only[a8_,d6_];omega) h
 obtain⟨e1,e2⟩:=uf_ (by simp only[d6_];omega) h
 refine bw0 (fr_ (λx hx y hy e => ?_) e1) (fr_ (λx hx y hy e => ?_) e2) (fr_ (λx hx y hy e => ?_) e3) (idx_inj s4 (fr_ (λx hx y hy e => ?_) e4))
 ·have:=ty_ (show Lib.decDigits x.toNat=Lib.decDigits y.toNat from e)
  have:=hp.b1 x hx
  have:=hq.b1 y hy
  omega
 ·have:=ty_ (show Lib.decDigits (w64 (x+10)).toNat=Lib.decDigits (w64 (y+10)).toNat from e)
  have:=hp.b2 x hx
  have:=hq.b2 y hy
  rw[er_ (by omega) (by omega),er_ (by omega) (by omega)] at *
  omega
 ·have:=ty_ (show Lib.decDigits x.toNat=Lib.decDigits y.toNat from e)
  have:=hp.b3 x hx
  have:=hq.b3 y hy
  omega
 ·have:=ty_ (show Lib.decDigits (x:Int).toNat=Lib.decDigits (y:Int).toNat from e)
  omega
end
section
set_option maxRecDepth 10000
def wh (ps:List aa_) (q:aa_):Option Nat:=ps.findIdx? (λx=>decide (x=q))
theorem bp4 {ps:List aa_} {q:aa_} {n:Nat} (h:wh ps q=some n):ps[n]?=some q:=by
 unfold wh at h
 obtain⟨hn,h1,_⟩:=List.findIdx?_eq_some_iff_getElem.1 h
 rw[a7_ hn,g3_ h1]
theorem wh_push (ps:List aa_) (q x:aa_):wh (ps++[q]) x=(wh ps x).or (if x=q then some ps.length else none):=by
 unfold wh
 rw[List.findIdx?_append]
 congr 1
 by_cases h:x=q
 ·rw[if_pos h]
  simp[h]
 ·rw[if_neg h]
  have:¬ q=x:=λe=>h e.symm
  simp[this]
def MI (g:ad_) (key:aa_→List UInt8) (ps:List aa_) (M:List (List UInt8×Int)):Prop:=∀ q,VP g q→mget? M (key q)=(wh ps q).map λn=>(n:Int)
theorem ba0 {g:ad_} {key:aa_→List UInt8} (hk:∀ p q,VP g p→VP g q→key p=key q→p=q) {ps:List aa_} {M:List (List UInt8×Int)} (hM:MI g key ps M) {q:aa_} (hq:VP g q) (hw:wh ps q=none) :
  MI g key (ps++[q]) (gi_ M (key q) (ps.length:Int)):=by
 intro x hx
 rw[xg_,wh_push]
 by_cases h:x=q
 ·subst h
  rw[if_pos rfl,hw,if_pos rfl]
  rfl
 ·rw[if_neg (λe=>h (hk x q hx hq e)),if_neg h,hM x hx,Option.or_none]
noncomputable def inn (g:ad_) (p:aa_):List af_→List ab_→List aa_→Option (List ab_×List aa_)
 | [],e,ps=>some (e,ps)
 | m::ms,e,ps=>match wh ps ((stepP g p m).getD eP) with
  | some n=>inn g p ms (e++[(m,(n:Int))]) ps
  | none=>if ps.length=3000 then none else inn g p ms (e++[(m,(ps.length:Int))]) (ps++[(stepP g p m).getD eP])
noncomputable def out (g:ad_):Nat→Nat→List aa_→List (List ab_)→Option (List aa_×List (List ab_))
 | 0,i,ps,es=>some (ps,es)
 | n+1,i,ps,es=>match ps[i]? with
  | none=>some (ps,es)
  | some p=>match inn g p (pmv g p) [] ps with
   | none=>none
   | some (e,ps')=>out g n (i+1) ps' (es++[e])
noncomputable def exG (g:ad_):cd_×(Int×Unit) :=
 cond ((uw_ g).2.1 != 0) (([],[]),((uw_ g).2.1,())) (match out g 3001 0 [(uw_ g).1] [] with
  | none=>(([],[]),(2,()))
  | some (ps,es)=>((ps,es),(0,())))
structure PI (g:ad_) (ps:List aa_):Prop where
 n:ps.length≤3000
 v:∀ x ∈ ps,VP g x
theorem ck3 {g:ad_} {ps:List aa_} (h:PI g ps) {q:aa_} (hq:VP g q) (hn:ps.length≠3000):PI g (ps++[q]):=by
 have:=h.n
 refine⟨by rw[a8_,e0_];omega,λx hx => ?_⟩
 rcases b6_.1 hx with hx | hx
 ·exact h.v x hx
 ·rw[e7_] at hx
  rw[hx]
  exact hq
theorem pw_ {g:ad_} {p:aa_} {m:af_} (hm:m ∈ pmv g p):∃ q,stepP g p m=some q:=by
 unfold pmv at hm
 exact Option.isSome_iff_exists.1 (c5_.1 hm).2
theorem ax0 {g:ad_} (ok:OkG g) (p:aa_):(pmv g p).length≤480:=by
 unfold pmv
 exact c9_ (k9_ ..) (ax8 (br_ ok.room) p.1)
theorem bf5 {g:ad_} (hg:SmG g) (h0:cn_ g=0) {p:aa_} (hv:VP g p):∀ (ms:List af_) (e e':List ab_) (ps ps':List aa_),(∀ m ∈ ms,∃ q,stepP g p m=some q)→PI g ps→inn g p ms e ps=some (e',ps') →
  PI g ps'∧(∃ r,ps'=ps++r)∧((∀ x ∈ e,0≤x.2∧x.2<(ps.length:Int))→∀ x ∈ e',0≤x.2∧x.2<(ps'.length:Int))∧(∀ x ∈ e',x ∈ e∨x.1 ∈ ms)∧e'.length=e.length+ms.length
 | [],e,e',ps,ps',hms,hI,h=>by
  unfold inn at h
  obtain⟨rfl,rfl⟩:=h6_ (a6_ h)
  exact⟨hI,⟨[],(e9_ _).symm⟩,λh=>h,λx hx=>.inl hx,rfl⟩
 | m::ms,e,e',ps,ps',hms,hI,h=>by
  obtain⟨q,hq⟩:=hms m (e4_ ..)
  have hms':∀ m ∈ ms,∃ q,stepP g p m=some q:=λm hm=>hms m (d7_ _ hm)
  have hvq:=ac4 hg h0 hv hq
  unfold inn at h
  rw[hq,f7_] at h
  cases hw:wh ps q with
  | some n =>
   rw[hw] at h
   obtain⟨a,b,c,d,f⟩:=bf5 hg h0 hv ms _ e' ps ps' hms' hI h
   refine⟨a,b,λhe=>c λx hx => ?_,λx hx => ?_,by rw[f,a8_,e0_,c8_];omega⟩
   rotate_left
   ·rcases d x hx with hx | hx
    ·rcases b6_.1 hx with hx | hx
     ·exact .inl hx
     ·rw[e7_] at hx
      rw[hx]
      exact .inr (e4_ ..)
    ·exact .inr (d7_ _ hx)
   rcases b6_.1 hx with hx | hx
   ·exact he x hx
   ·rw[e7_] at hx
    have:=am_ (bp4 hw)
    rw[hx]
    exact⟨by show (0:Int)≤(n:Int);omega,by show (n:Int)<_;omega⟩
  | none =>
   rw[hw] at h
   have h:(if ps.length=3000 then none else inn g p ms (e++[(m,(ps.length:Int))]) (ps++[q]))=some (e',ps'):=h
   split at h
   ·cases h
   ·next hn =>
    obtain⟨a,⟨r,hr⟩,c,d,f⟩:=bf5 hg h0 hv ms _ e' (ps++[q]) ps' hms' (ck3 hI hvq hn) h
    refine⟨a,⟨q::r,by rw[hr,b1_];rfl⟩,λhe=>c λx hx => ?_,λx hx => ?_,by rw[f,a8_,e0_,c8_];omega⟩
    rotate_left
    ·rcases d x hx with hx | hx
     ·rcases b6_.1 hx with hx | hx
      ·exact .inl hx
      ·rw[e7_] at hx
       rw[hx]
       exact .inr (e4_ ..)
     ·exact .inr (d7_ _ hx)
    have hl:(ps++[q]).length=ps.length+1:=by rw[a8_,e0_]
    rcases b6_.1 hx with hx | hx
    ·have:=he x hx
     omega
    ·rw[e7_] at hx
     rw[hx]
     exact⟨by show (0:Int)≤(ps.length:Int);omega,by show (ps.length:Int)<_;omega⟩
theorem lgl_num {r:ae_} {s:ai_} {m:af_} (h:lgl r s m=true) (hk:m.2.1=4):m.2.2≠-1:=by
 intro e
 unfold lgl at h
 rw[a1_,hk,e] at h
 have h:=h.2
 simp only[show ((4:Int)==1)=false from rfl,show ((4:Int)==2)=false from rfl,show ((4:Int)==3)=false from rfl,show ((4:Int)==4)=true from rfl,a2_,a5_] at h
 have:at? r.2.2.2.2.1 (-1)=none:=rfl
 rw[this] at h
 cases h
theorem pmv_num {g:ad_} {p:aa_} {m:af_} (hm:m ∈ pmv g p):m.2.1=4→m.2.2≠-1:=by
 unfold pmv at hm
 exact lgl_num (ax7 (c5_.1 hm).1)
structure GI (g:ad_) (ps:List aa_) (es:List (List ab_)):Prop where
 pI:PI g ps
 eI:∀ l ∈ es,∀ x ∈ l,(0≤x.2∧x.2<(ps.length:Int))∧(x.1.2.1=4→x.1.2.2≠-1)
 eL:∀ l ∈ es,l.length≤480
theorem cz1 {g:ad_} (hg:SmG g) (h0:cn_ g=0):∀ (n i:Nat) (ps ps':List aa_) (es es':List (List ab_)),i+n=3001→i≤ps.length→es.length=i→GI g ps es→out g n i ps es=some (ps',es')→GI g ps' es'∧es'.length=ps'.length
 | 0,i,ps,ps',es,es',hi,hip,hl,hG,h=>by
  have:=hG.pI.n
  omega
 | n+1,i,ps,ps',es,es',hi,hip,hl,hG,h=>by
  unfold out at h
  cases hp:ps[i]? with
  | none =>
   rw[hp] at h
   obtain⟨rfl,rfl⟩:=h6_ (a6_ h)
   have:=p5_.1 hp
   exact⟨hG,by omega⟩
  | some p =>
   rw[hp] at h
   have hvp:=hG.pI.v p (ax_ hp)
   have hok:=dn_ h0
   cases hin:inn g p (pmv g p) [] ps with
   | none =>
    simp only[hin] at h
    cases h
   | some z =>
    obtain⟨e,ps1⟩:=z
    simp only[hin] at h
    obtain⟨a,⟨r,rfl⟩,c,d,f⟩:=bf5 hg h0 hvp _ _ _ _ _ (λm hm=>pw_ hm) hG.pI hin
    have hpl:=am_ hp
    have hpm:=ax0 hok p
    have hll:(ps++r).length=ps.length+r.length:=a8_
    refine cz1 hg h0 n (i+1) _ ps' _ es' (by omega) (by omega) (by rw[a8_,e0_];omega) ⟨a,λl hl x hx => ?_,λl hl => ?_⟩ h
    ·rcases b6_.1 hl with hl | hl
     ·have:=hG.eI l hl x hx
      exact⟨by omega,this.2⟩
     ·rw[e7_] at hl
      rw[hl] at hx
      refine⟨c (λx hx=>by cases hx) x hx,?_⟩
      rcases d x hx with hx | hx
      ·cases hx
      ·exact pmv_num hx
    ·rcases b6_.1 hl with hl | hl
     ·exact hG.eL l hl
     ·rw[e7_] at hl
      rw[hl,f]
      show 0+_≤480
      omega
theorem db5 {g:ad_} (hg:SmG g) (he:(exG g).2.1=0):cn_ g=0∧GI g (exG g).1.1 (exG g).1.2∧(exG g).1.2.length=(exG g).1.1.length:=by
 unfold exG at he ⊢
 cases hb:(uw_ g).2.1 != 0 with
 | true =>
  rw[hb] at he
  rw[o0_] at hb
  exact absurd he hb
 | false =>
 rw[hb,a2_] at he
 have hb:(uw_ g).2.1=0:=by simpa using hb
 obtain⟨h0,hv⟩:=az5 hg hb
 cases ho:out g 3001 0 [(uw_ g).1] [] with
 | none =>
  rw[ho] at he
  exact absurd (show (2:Int)=0 from he) (by decide)
 | some z =>
  obtain⟨ps,es⟩:=z
  exact⟨h0,cz1 hg h0 3001 0 _ ps _ es rfl (j4_ _) rfl ⟨⟨by show 1≤3000;decide,λx hx=>by rw[e7_] at hx;rw[hx];exact hv⟩,(λl hl=>by cases hl),(λl hl=>by cases hl)⟩ ho⟩
noncomputable def aq0 (key:aa_→List UInt8) (g:ad_) (p:aa_):List af_→List ab_→List aa_→List (List UInt8×Int)→Option (List ab_×(List aa_×List (List UInt8×Int)))
 | [],e,ps,M=>some (e,(ps,M))
 | m::ms,e,ps,M=>match wh ps ((stepP g p m).getD eP) with
  | some n=>aq0 key g p ms (e++[(m,(n:Int))]) ps M
  | none=>if ps.length=3000 then none else aq0 key g p ms (e++[(m,(ps.length:Int))]) (ps++[(stepP g p m).getD eP]) (gi_ M (key ((stepP g p m).getD eP)) (ps.length:Int))
theorem ah2 (key:aa_→List UInt8) (g:ad_) (p:aa_):∀ ms e ps M,(aq0 key g p ms e ps M).map (λz=>(z.1,z.2.1))=inn g p ms e ps
 | [],e,ps,M=>rfl
 | m::ms,e,ps,M=>by
  unfold aq0 inn
  cases wh ps ((stepP g p m).getD eP) with
  | some n=>exact ah2 key g p ms _ _ _
  | none =>
   by_cases hn:ps.length=3000
   ·simp only[if_pos hn,Option.map_none]
   ·simp only[if_neg hn]
    exact ah2 key g p ms _ _ _
section
variable {g:ad_} (hg:SmG g) (h0:cn_ g=0) {key:aa_→List UInt8} (hk:∀ p q,VP g p→VP g q→key p=key q→p=q)
include hg h0 hk
theorem ay6 {p:aa_} (hv:VP g p):∀ (ms:List af_) e ps M e' ps' M',(∀ m ∈ ms,∃ q,stepP g p m=some q)→MI g key ps M→aq0 key g p ms e ps M=some (e',(ps',M'))→MI g key ps' M'
 | [],e,ps,M,e',ps',M',_,hM,h=>by
  unfold aq0 at h
  obtain⟨_,h⟩:=h6_ (a6_ h)
  obtain⟨rfl,rfl⟩:=h6_ h
  exact hM
 | m::ms,e,ps,M,e',ps',M',hms,hM,h=>by
  obtain⟨q,hq⟩:=hms m (e4_ ..)
  have hms':∀ m ∈ ms,∃ q,stepP g p m=some q:=λm hm=>hms m (d7_ _ hm)
  have hvq:=ac4 hg h0 hv hq
  unfold aq0 at h
  rw[hq,f7_] at h
  cases hw:wh ps q with
  | some n =>
   rw[hw] at h
   exact ay6 hv ms _ _ _ _ _ _ hms' hM h
  | none =>
   rw[hw] at h
   have h:(if ps.length=3000 then none else aq0 key g p ms (e++[(m,(ps.length:Int))]) (ps++[q]) (gi_ M (key q) (ps.length:Int)))=some (e',(ps',M')):=h
   split at h
   ·cases h
   ·exact ay6 hv ms _ _ _ _ _ _ hms' (ba0 hk hM hvq hw) h
theorem ag8 {p:aa_} (hv:VP g p) {at_:Nat} {σ ρ:Type} (F:List ab_→Nat→List (List UInt8×Int)→List aa_→σ) (G:List ab_→List (List UInt8×Int)→List aa_→ρ) {EE:ρ} {body:σ→Option (σ⊕ρ)} (ms:List af_) (hms:∀ m ∈ ms,∃ q,stepP g p m=some q)
  (hb:∀ i m e M ps q,ms[i]?=some m→stepP g p m=some q→VP g q→mget? M (key q)=(wh ps q).map (λn=>(n:Int))→PI g ps→ps[at_]?=some p→e.length=i →
   body (F e i M ps)=some (match wh ps q with
    | some n=>.inl (F (e++[(m,(n:Int))]) (i+1) M ps)
    | none=>if ps.length=3000 then .inr EE else .inl (F (e++[(m,(ps.length:Int))]) (i+1) (gi_ M (key q) (ps.length:Int)) (ps++[q]))))
  (he:∀ e M ps,body (F e ms.length M ps)=some (.inr (G e M ps))) :
  ∀ (k i:Nat) e M ps,i+k=ms.length→e.length=i→PI g ps→ps[at_]?=some p→MI g key ps M→ag_ body (F e i M ps)=some ((aq0 key g p (ms.drop i) e ps M).elim EE λz=>G z.1 z.2.2 z.2.1)
 | 0,i,e,M,ps,hi,hl,hI,hat,hM=>by
  obtain rfl:i=ms.length:=by omega
  rw[o7_]
  exact bo_ (he e M ps)
 | k+1,i,e,M,ps,hi,hl,hI,hat,hM=>by
  have hil:i<ms.length:=by omega
  obtain⟨m,hm⟩:=bd_ hil
  obtain⟨q,hq⟩:=hms m (ax_ hm)
  have hvq:=ac4 hg h0 hv hq
  have hd:ms.drop i=m::ms.drop (i+1):=by
   rw[i8_ hil]
   rw[a7_ hil] at hm
   rw[a6_ hm]
  have hbb:=hb i m e M ps q hm hq hvq (hM q hvq) hI hat hl
  rw[hd]
  unfold aq0
  rw[hq,f7_]
  cases hw:wh ps q with
  | some n =>
   rw[hw] at hbb
   exact bp_ hbb (ag8 hv F G ms hms hb he k (i+1) (e++[(m,(n:Int))]) M ps (by omega) (by rw[a8_,e0_,hl]) hI hat hM)
  | none =>
   rw[hw] at hbb
   have hbb:body (F e i M ps)=some (if ps.length=3000 then .inr EE else .inl (F (e++[(m,(ps.length:Int))]) (i+1) (gi_ M (key q) (ps.length:Int)) (ps++[q]))):=hbb
   by_cases hn:ps.length=3000
   ·rw[if_pos hn] at hbb
    simp only[if_pos hn]
    exact bo_ hbb
   ·rw[if_neg hn] at hbb
    simp only[if_neg hn]
    exact bp_ hbb (ag8 hv F G ms hms hb he k (i+1) (e++[(m,(ps.length:Int))]) (gi_ M (key q) (ps.length:Int)) (ps++[q]) (by omega) (by rw[a8_,e0_,hl]) (ck3 hI hvq hn) (by rw[b2_ (am_ hat)];exact hat) (ba0 hk hM hvq hw))
theorem as0 {p:aa_} (hv:VP g p) {at_:Nat} {σ ρ υ:Type} (F:List ab_→Nat→List (List UInt8×Int)→List aa_→σ) (G:List ab_→List (List UInt8×Int)→List aa_→ρ) (EE:ρ) {body:σ→Option (σ⊕ρ)} (ms:List af_) (hms:∀ m ∈ ms,∃ q,stepP g p m=some q)
  {M:List (List UInt8×Int)} {ps:List aa_} (hI:PI g ps) (hat:ps[at_]?=some p) (hM:MI g key ps M) {K:ρ→Option υ} {x:Option υ}
  (hb:∀ i m e M ps q,ms[i]?=some m→stepP g p m=some q→VP g q→mget? M (key q)=(wh ps q).map (λn=>(n:Int))→PI g ps→ps[at_]?=some p→e.length=i →
   body (F e i M ps)=some (match wh ps q with
    | some n=>.inl (F (e++[(m,(n:Int))]) (i+1) M ps)
    | none=>if ps.length=3000 then .inr EE else .inl (F (e++[(m,(ps.length:Int))]) (i+1) (gi_ M (key q) (ps.length:Int)) (ps++[q]))))
  (he:∀ e M ps,body (F e ms.length M ps)=some (.inr (G e M ps))) (hx:(aq0 key g p ms [] ps M).elim (K EE) (λz=>K (G z.1 z.2.2 z.2.1))=x):(ag_ body (F [] 0 M ps)).bind K=x:=by
 rw[ag8 hg h0 hk hv F G ms hms hb he ms.length 0 [] M ps (by omega) rfl hI hat hM,a0_,← hx]
 rw[List.drop_zero]
 cases aq0 key g p ms [] ps M<;>rfl
theorem be5 {σ ρ:Type} (F:Nat→List (List UInt8×Int)→List aa_→List (List ab_)→σ) (G:List (List UInt8×Int)→List aa_→List (List ab_)→ρ) {EE:ρ} {body:σ→Option (σ⊕ρ)}
    (hb:∀ i M ps es p,ps[i]?=some p→VP g p→PI g ps→es.length=i→MI g key ps M→body (F i M ps es)=some ((aq0 key g p (pmv g p) [] ps M).elim (.inr EE) λz=>.inl (F (i+1) z.2.2 z.2.1 (es++[z.1]))))
    (he:∀ M ps es,body (F ps.length M ps es)=some (.inr (G M ps es))) :
    ∀ (n i:Nat) M ps es,i+n=3001→i≤ps.length→es.length=i→PI g ps→MI g key ps M→match out g n i ps es with
      | none=>ag_ body (F i M ps es)=some EE
      | some (ps',es')=>∃ M',ag_ body (F i M ps es)=some (G M' ps' es')
  | 0,i,M,ps,es,hi,hip,hl,hI,hM=>by
    have:=hI.n
    omega
  | n+1,i,M,ps,es,hi,hip,hl,hI,hM=>by
    unfold out
    cases hp:ps[i]? with
    | none =>
      have:=p5_.1 hp
      obtain rfl:i=ps.length:=by omega
      exact⟨M,bo_ (he M ps es)⟩
    | some p =>
      have hvp:=hI.v p (ax_ hp)
      have hbb:=hb i M ps es p hp hvp hI hl hM
      have hmap:=ah2 key g p (pmv g p) [] ps M
      show (match (match inn g p (pmv g p) [] ps with
            | none=>none
            | some (e,ps')=>out g n (i+1) ps' (es++[e])) with
          | none=>ag_ body (F i M ps es)=some EE
          | some (ps',es')=>∃ M',ag_ body (F i M ps es)=some (G M' ps' es'))
      cases hin:aq0 key g p (pmv g p) [] ps M with
      | none =>
        rw[hin] at hbb hmap
        rw[← hmap]
        exact bo_ hbb
      | some z =>
        obtain⟨e,ps1,M1⟩:=z
        have hM1:=ay6 hg h0 hk hvp _ _ _ _ _ _ _ (λm hm=>pw_ hm) hM hin
        rw[hin] at hbb hmap
        obtain⟨a,⟨r,rfl⟩,_,_,_⟩:=bf5 hg h0 hvp _ _ _ _ _ (λm hm=>pw_ hm) hI hmap.symm
        rw[← hmap]
        have hpl:=am_ hp
        have hll:(ps++r).length=ps.length+r.length:=a8_
        have ih:=be5 F G hb he n (i+1) M1 (ps++r) (es++[e]) (by omega) (by omega) (by rw[a8_,e0_];omega) a hM1
        show (match out g n (i+1) (ps++r) (es++[e]) with
          | none=>ag_ body (F i M ps es)=some EE
          | some (ps',es')=>∃ M',ag_ body (F i M ps es)=some (G M' ps' es'))
        cases ho:out g n (i+1) (ps++r) (es++[e]) with
        | none=>rw[ho] at ih;exact bp_ hbb ih
        | some z =>
          rw[ho] at ih
          obtain⟨M',hz⟩:=ih
          exact⟨M',bp_ hbb hz⟩
theorem bi8 {σ ρ:Type} (F:Nat→List (List UInt8×Int)→List aa_→List (List ab_)→σ) (G:List (List UInt8×Int)→List aa_→List (List ab_)→ρ) (EE:ρ) {body:σ→Option (σ⊕ρ)} {p0:aa_} (hv:VP g p0) {K:ρ→Option (cd_×(Int×Unit))}
  (hb:∀ i M ps es p,ps[i]?=some p→VP g p→PI g ps→es.length=i→MI g key ps M→body (F i M ps es)=some ((aq0 key g p (pmv g p) [] ps M).elim (.inr EE) λz=>.inl (F (i+1) z.2.2 z.2.1 (es++[z.1]))))
  (he:∀ M ps es,body (F ps.length M ps es)=some (.inr (G M ps es)))
  (hE:K EE=some (([],[]),(2,()))) (hG:∀ M ps es,K (G M ps es)=some ((ps,es),(0,()))) :
  (ag_ body (F 0 (gi_ [] (key p0) 0) [p0] [])).bind K=some (match out g 3001 0 [p0] [] with
   | none=>(([],[]),(2,()))
   | some (ps,es)=>((ps,es),(0,()))):=by
 have hI:PI g [p0]:=⟨by show 1≤3000;decide,λx hx=>by rw[e7_] at hx;rw[hx];exact hv⟩
 have hM:MI g key [p0] (gi_ [] (key p0) 0):=by
  have:=ba0 (ps:=[]) (M:=[]) (q:=p0) hk (λq _=>rfl) hv rfl
  exact this
 have:=be5 hg h0 hk F G hb he 3001 0 (gi_ [] (key p0) 0) [p0] [] rfl (j4_ _) rfl hI hM
 cases ho:out g 3001 0 [p0] [] with
 | none =>
  rw[ho] at this
  rw[this,a0_]
  exact hE
 | some z =>
  obtain⟨ps,es⟩:=z
  rw[ho] at this
  obtain⟨M',hz⟩:=this
  rw[hz,a0_]
  exact hG M' ps es
end
end
section
set_option maxRecDepth 10000
theorem bb9 {g:ad_} (hg:SmG g) (ok:OkG g) (p q:aa_) (hp:VP g p) (hq:VP g q) (h:gu_ (rtk p)=gu_ (rtk q)):p=q:=rtk_inj (bo3 hg ok hp) (bo3 hg ok hq) (dd1 hp hq) h
theorem bd0 {g:ad_} (p q:aa_) (hp:VP g p) (hq:VP g q) (h:gu_ (ptk p)=gu_ (ptk q)):p=q:=ptk_inj (dd1 hp hq) h
theorem mx_ {g:ad_} (hg:SmG g):dl_ g=some (exG g):=by
 unfold dl_ exG
 rw[am5 hg,a0_]
 cases hb:(uw_ g).2.1 != 0 with
 | true=>rfl
 | false =>
 have hb:(uw_ g).2.1=0:=by simpa using hb
 obtain⟨h0,hv⟩:=az5 hg hb
 have ok:=dn_ h0
 simp only[a2_]
 rw[am3 (bo3 hg ok hv),a0_]
 refine bi8 hg h0 (key:=λq=>gu_ (rtk q)) (bb9 hg ok) (λi M ps es=>((i:Int),(M,(([],([],())),((ps,(es,())),()))))) (λM ps es=>inl (M,(([],([],())),((ps,(es,())),())))) (inr (([],[]),(2,()))) hv (λi M ps es p hp hvp hI hl hM => ?_) (λM ps es=>by simp only[dnl,a2_]) rfl (λM ps es=>rfl)
 have hi:=am_ hp
 have hn:=hI.n
 have hml:=ax0 ok p
 simp only[dlt hi,a5_,ah_ hp,a0_]
 rw[aw3 hg h0 hvp,a0_]
 refine as0 hg h0 (key:=λq=>gu_ (rtk q)) (bb9 hg ok) hvp (at_:=i) (λe j M ps=>(e,((j:Int),(M,(([],([],())),((ps,()),())))))) (λe M ps=>inl (e,(M,(([],([],())),((ps,()),()))))) (inr (inr (inr (([],[]),(2,()))))) (pmv g p) (λm hm=>pw_ hm) hI hp hM (λj m e M ps q hm hq hvq hMq hI hat hl => ?_) (λe M ps=>by simp only[dnl,a2_]) ?_
 ·have hj:=am_ hm
  have hn:=hI.n
  have hkq:=am3 (bo3 hg ok hvq)
  simp only[dlt hj,a5_,ah_ hm,ah_ hat,a0_,bl6 hg h0 hvp hq,hkq]
  cases hw:wh ps q with
  | some n =>
   rw[hw] at hMq
   have e1:ak6 M (gu_ (rtk q))=true:=by unfold ak6;rw[hMq];rfl
   have e2:ei_ 0 M (gu_ (rtk q))=(n:Int):=by unfold ei_;rw[hMq];rfl
   simp only[e1,e2,e8_,a2_,a0_,cj_,ah_ hm,ci_ (show Sm e.length by show _≤1000000000;omega),az_ (show Sm j by show _≤1000000000;omega)]
  | none =>
   rw[hw] at hMq
   have e1:ak6 M (gu_ (rtk q))=false:=by unfold ak6;rw[hMq];rfl
   simp only[e1,h2_,a5_]
   by_cases hc:ps.length=3000
   ·have:((ps.length:Int)==3000)=true:=by rw[hc];rfl
    simp only[this,a5_,a0_,cj_,if_pos hc]
   ·have:((ps.length:Int)==3000)=false:=by rw[l8_];omega
    simp only[this,a2_,a0_,cj_,if_neg hc,ci_ (show Sm ps.length by show _≤1000000000;omega),ci_ (show Sm e.length by show _≤1000000000;omega),az_ (show Sm j by show _≤1000000000;omega),ah_ hm]
 ·cases hin:aq0 (λq=>gu_ (rtk q)) g p (pmv g p) [] ps M with
  | none=>rfl
  | some z =>
   simp only[Option.elim,cj_,ci_ (show Sm es.length by show _≤1000000000;omega),a0_,az_ (show Sm i by show _≤1000000000;omega)]
theorem sa_ {g:ad_} (hg:SmG g):dm_ g=some (exG g):=by
 unfold dm_ exG
 rw[ax1 hg,a0_]
 cases hb:(uw_ g).2.1 != 0 with
 | true=>rfl
 | false =>
 have hb:(uw_ g).2.1=0:=by simpa using hb
 obtain⟨h0,hv⟩:=az5 hg hb
 have ok:=dn_ h0
 simp only[a2_]
 rw[ao1 (bo3 hg ok hv),a0_,a0_]
 refine bi8 hg h0 (key:=λq=>gu_ (ptk q)) bd0 (λi M ps es=>((i:Int),(M,(([],([],())),((ps,(es,())),()))))) (λM ps es=>inl (M,(([],([],())),((ps,(es,())),())))) (inr (([],[]),(2,()))) hv (λi M ps es p hp hvp hI hl hM => ?_) (λM ps es=>by simp only[dnl,a2_]) rfl (λM ps es=>rfl)
 have hi:=am_ hp
 have hn:=hI.n
 have hml:=ax0 ok p
 simp only[dlt hi,a5_,ah_ hp,a0_]
 rw[cq0 hg h0 hvp,a0_]
 simp only[show ((0:Int) != 0)=false from rfl,a2_]
 refine as0 hg h0 (key:=λq=>gu_ (ptk q)) bd0 hvp (at_:=i) (λe j M ps=>(e,((j:Int),(M,(([],([],())),((ps,()),())))))) (λe M ps=>inl (e,(M,(([],([],())),((ps,()),()))))) (inr (inr (inr (([],[]),(2,()))))) (pmv g p) (λm hm=>pw_ hm) hI hp hM (λj m e M ps q hm hq hvq hMq hI hat hl => ?_) (λe M ps=>by simp only[dnl,a2_]) ?_
 ·have hj:=am_ hm
  have hn:=hI.n
  have hkq:=ao1 (bo3 hg ok hvq)
  have hstep:kw_ g p m=some (q,(0,())):=by rw[bw2 hg h0 hvp m,hq];rfl
  simp only[dlt hj,a5_,ah_ hm,ah_ hat,a0_,hstep,hkq,show ((0:Int) != 0)=false from rfl,a2_]
  cases hw:wh ps q with
  | some n =>
   rw[hw] at hMq
   have e1:ak6 M (gu_ (ptk q))=true:=by unfold ak6;rw[hMq];rfl
   have e2:ei_ 0 M (gu_ (ptk q))=(n:Int):=by unfold ei_;rw[hMq];rfl
   simp only[e1,e2,a5_,e8_,a2_,a0_,ci_ (show Sm e.length by show _≤1000000000;omega),az_ (show Sm j by show _≤1000000000;omega)]
  | none =>
   rw[hw] at hMq
   have e1:ak6 M (gu_ (ptk q))=false:=by unfold ak6;rw[hMq];rfl
   simp only[e1,a2_]
   by_cases hc:ps.length=3000
   ·have:((ps.length:Int)==3000)=true:=by rw[hc];rfl
    simp only[this,a5_,a0_,h2_,if_pos hc]
   ·have:((ps.length:Int)==3000)=false:=by rw[l8_];omega
    simp only[this,a2_,a0_,e8_,if_neg hc,ci_ (show Sm ps.length by show _≤1000000000;omega),ci_ (show Sm e.length by show _≤1000000000;omega),az_ (show Sm j by show _≤1000000000;omega)]
 ·cases hin:aq0 (λq=>gu_ (ptk q)) g p (pmv g p) [] ps M with
  | none=>rfl
  | some z =>
   simp only[Option.elim,cj_,ci_ (show Sm es.length by show _≤1000000000;omega),a0_,az_ (show Sm i by show _≤1000000000;omega)]
end
section
set_option maxRecDepth 10000
structure LC (es:List (List ab_)) (fin:Nat→Bool) (a:List Int):Prop where
 lo:∀ (i:Nat) (v:Int),a[i]?=some v→-1≤v
 z:∀ (i:Nat) (v:Int),a[i]?=some v→(v=0↔fin i=true)
 dn:∀ (i k:Nat),a[i]?=some ((k+1:Nat):Int)→∃ l x,es[i]?=some l∧x ∈ l∧at? a x.2=some (k:Int)
 up:∀ (i:Nat) (l:List ab_) (x:ab_) (k:Nat),es[i]?=some l→x ∈ l→at? a x.2=some (k:Int)→∃ v,a[i]?=some v∧0≤v∧v≤(k:Int)+1
theorem ck4 {es:List (List ab_)} {fin:Nat→Bool} {a b:List Int} (ha:LC es fin a) (hb:LC es fin b) (hl:a.length=b.length) (k:Nat) (ih:∀ j,j<k→∀ i:Nat,a[i]?=some (j:Int)↔b[i]?=some (j:Int)) (i:Nat) (h:a[i]?=some (k:Int)):b[i]?=some (k:Int):=by
 obtain⟨w,hw⟩:=bd_ (l:=b) (i:=i) (by have:=am_ h;omega)
 match k with
 | 0 =>
  have h1:=(ha.z i _ h).1 rfl
  have h2:=(hb.z i w hw).2 h1
  rw[hw,h2]
  rfl
 | k+1 =>
  obtain⟨l,x,hl',hx,hat⟩:=ha.dn i k h
  obtain⟨q1,q2,q3⟩:=db_ hat
  have h3:=(ih k (by omega) _).1 q3
  have h4:at? b x.2=some (k:Int):=by
   rw[show x.2=((x.2.toNat:Nat):Int) by omega]
   exact ah_ h3
  obtain⟨v,e,v0,v1⟩:=hb.up i l x k hl' hx h4
  rw[hw] at e
  obtain rfl:=a6_ e
  rcases Int.lt_or_eq_of_le v1 with hlt | heq
  ·exfalso
   obtain⟨n,rfl⟩:∃ n:Nat,w=(n:Int):=⟨w.toNat,by omega⟩
   have:=(ih n (by omega) i).2 hw
   rw[h] at this
   have:=a6_ this
   omega
  ·rw[hw,heq]
   rfl
theorem ak5 {es:List (List ab_)} {fin:Nat→Bool} {a b:List Int} (ha:LC es fin a) (hb:LC es fin b) (hl:a.length=b.length):a=b:=by
 have key:∀ k i:Nat,a[i]?=some (k:Int)↔b[i]?=some (k:Int):=by
  intro k
  induction k using Nat.strongRecOn with
  | _ k ih =>
   intro i
   exact⟨ck4 ha hb hl k ih i,ck4 hb ha hl.symm k (λj hj i=>(ih j hj i).symm) i⟩
 refine f1_ λi => ?_
 rcases l6_ i a.length with hi | hi
 ·obtain⟨v,hv⟩:=bd_ hi
  obtain⟨w,hw⟩:=bd_ (l:=b) (i:=i) (by omega)
  have h1:=ha.lo i v hv
  have h2:=hb.lo i w hw
  rw[hv,hw]
  by_cases hv0:0≤v
  ·obtain⟨n,rfl⟩:∃ n:Nat,v=(n:Int):=⟨v.toNat,by omega⟩
   have:=(key n i).1 hv
   rw[hw] at this
   exact this.symm
  ·by_cases hw0:0≤w
   ·obtain⟨n,rfl⟩:∃ n:Nat,w=(n:Int):=⟨w.toNat,by omega⟩
    have:=(key n i).2 hw
    rw[hv] at this
    exact this
   ·rw[show v = -1 by omega,show w = -1 by omega]
 ·rw[b4_ hi,b4_ (by omega)]
def ts_ (g:ad_) (ps:List aa_) (i:Nat):Bool:=match ps[i]? with
 | some p=>dp_ p.1.1 g.1.2.2.2.2.2.2.2
 | none=>false
theorem ce7 {g:ad_} {ps:List aa_} {i:Nat} {p:aa_} (h:ps[i]?=some p):ts_ g ps i=dp_ p.1.1 g.1.2.2.2.2.2.2.2:=by
 unfold ts_
 rw[h]
def ya_ (g:ad_) (ps:List aa_):List Int:=ps.map λp=>cond (dp_ p.1.1 g.1.2.2.2.2.2.2.2) 0 (-1)
theorem ri_ {g:ad_} {ps:List aa_} {i:Nat} {v:Int} (h:(ya_ g ps)[i]?=some v):(v=0∧ts_ g ps i=true)∨(v = -1∧ts_ g ps i=false):=by
 unfold ya_ at h
 rw[d5_] at h
 obtain⟨p,hp,rfl⟩:=f5_.1 h
 rw[ce7 hp]
 cases dp_ p.1.1 g.1.2.2.2.2.2.2.2 with
 | true=>exact .inl ⟨rfl,rfl⟩
 | false=>exact .inr ⟨rfl,rfl⟩
def nb_ (a:List Int):Nat:=a.countP λv=>decide (v<0)
theorem by9 (a:List Int):nb_ a≤a.length:=l0_
theorem be1:∀ {a:List Int} {i:Nat} {v w:Int},a[i]?=some v→v<0→0≤w→nb_ (a.set i w)+1=nb_ a
 | x::a,0,v,w,h,hv,hw=>by
  obtain rfl:x=v:=a6_ h
  unfold nb_
  rw[List.set_cons_zero,j7_,j7_,b8_ hv,c2_ (by omega)]
  simp
 | x::a,i+1,v,w,h,hv,hw=>by
  have:=be1 (a:=a) (i:=i) h hv hw
  unfold nb_ at this ⊢
  rw[List.set_cons_succ,j7_,j7_]
  omega
 | [],i,v,w,h,_,_=>by simp at h
end
section
set_option maxRecDepth 10000
def nv (es:List (List ab_)) (a:List Int) (r:Nat) (i:Nat) (v:Int):Int:=cond (decide (v<0)&&(es[i]?.getD []).any (λx=>gi a x.2==(r:Int) - 1)) (r:Int) v
structure RnI (es:List (List ab_)) (fin:Nat→Bool) (r:Nat) (a:List Int):Prop where
 b:∀ (i:Nat) (v:Int),a[i]?=some v→v = -1∨(0≤v∧v+1≤(r:Int))
 z:∀ (i:Nat) (v:Int),a[i]?=some v→(v=0↔fin i=true)
 dn:∀ (i k:Nat),a[i]?=some ((k+1:Nat):Int)→∃ l x,es[i]?=some l∧x ∈ l∧at? a x.2=some (k:Int)
 up:∀ (i:Nat) (l:List ab_) (x:ab_) (k:Nat),es[i]?=some l→x ∈ l→at? a x.2=some (k:Int)→k+2≤r→∃ v,a[i]?=some v∧0≤v∧v≤(k:Int)+1
theorem af0 {es:List (List ab_)} {a:List Int} {r i:Nat} {v:Int} (h:0≤v):nv es a r i v=v:=by
 unfold nv
 rw[c2_ (by omega)]
 rfl
theorem na_ (es:List (List ab_)) (a:List Int) (r i:Nat) (v:Int):nv es a r i v=v∨(nv es a r i v=(r:Int)∧v<0∧∃ l x,es[i]?=some l∧x ∈ l∧gi a x.2=(r:Int) - 1):=by
 unfold nv
 cases hc:(decide (v<0)&&(es[i]?.getD []).any (λx=>gi a x.2==(r:Int) - 1)) with
 | false=>exact .inl rfl
 | true =>
  rw[a1_,g9_,k7_] at hc
  obtain⟨h1,x,hx,hg⟩:=hc
  cases he:es[i]? with
  | none =>
   rw[he] at hx
   cases hx
  | some l =>
   rw[he] at hx
   exact .inr ⟨rfl,h1,l,x,rfl,hx,f6_.1 hg⟩
theorem cj0 {a b:List Int} {f:Nat→Int→Int} (h:∀ j:Nat,b[j]?=(a[j]?).map (f j)) {x v:Int} (hx:at? a x=some v):at? b x=some (f x.toNat v):=by
 obtain⟨q1,q2,q3⟩:=db_ hx
 rw[show x=((x.toNat:Nat):Int) by omega,bj0,h,b9_,q3]
 rfl
theorem cw7 {es:List (List ab_)} {fin:Nat→Bool} {r:Nat} {a b:List Int} (hr:1≤r) (hes:es.length=a.length) (hx:∀ l ∈ es,∀ x ∈ l,0≤x.2∧x.2<(a.length:Int)) (h:RnI es fin r a) (hb:∀ j:Nat,b[j]?=(a[j]?).map (nv es a r j)):RnI es fin (r+1) b:=by
 have back:∀ {i:Nat} {w:Int},b[i]?=some w→∃ v,a[i]?=some v∧w=nv es a r i v:=λ{i w} hw=>by
  rw[hb] at hw
  obtain⟨v,hv,rfl⟩:=f5_.1 hw
  exact⟨v,hv,rfl⟩
 refine⟨λi w hw => ?_,λi w hw => ?_,λi k hk => ?_,λi l x k hl hxl hat hkr => ?_⟩
 ·obtain⟨v,hv,rfl⟩:=back hw
  have:=h.b i v hv
  rcases na_ es a r i v with e | ⟨e,_⟩
  ·rw[e];omega
  ·rw[e];omega
 ·obtain⟨v,hv,rfl⟩:=back hw
  have hz:=h.z i v hv
  rcases na_ es a r i v with e | ⟨e,hneg,_⟩
  ·rw[e];exact hz
  ·rw[e,← hz]
   constructor
   ·intro h;omega
   ·intro h;omega
 ·obtain⟨v,hv,e0⟩:=back hk
  rcases na_ es a r i v with e | ⟨e,hneg,l,x,hl,hxl,hg⟩
  ·rw[e] at e0
   obtain⟨l,x,hl,hxl,hat⟩:=h.dn i k (by rw[hv,← e0])
   exact⟨l,x,hl,hxl,by rw[cj0 hb hat,af0 (by omega)]⟩
  ·rw[e] at e0
   have hb2:=hx l (ax_ hl) x hxl
   have hat:=ms_ (l:=a) hb2.1 hb2.2
   refine⟨l,x,hl,hxl,?_⟩
   rw[cj0 hb hat,af0 (by omega),hg]
   congr 1
   omega
 ·have hb2:=hx l (ax_ hl) x hxl
  have hata:=ms_ (l:=a) hb2.1 hb2.2
  have hatb:=cj0 hb hata
  rw[hat] at hatb
  have hk:=a6_ hatb
  obtain⟨q1,q2,q3⟩:=db_ hata
  have hbnd:=h.b _ _ q3
  have hgk:gi a x.2=(k:Int):=by
   rcases na_ es a r x.2.toNat (gi a x.2) with e | ⟨e,_⟩
   ·rw[← e,← hk]
   ·rw[e] at hk;omega
  obtain⟨v,hv⟩:=bd_ (l:=a) (i:=i) (by have:=am_ hl;omega)
  have hvb:b[i]?=some (nv es a r i v):=by rw[hb,hv];rfl
  by_cases hv0:0≤v
  ·by_cases hkr2:k+2≤r
   ·obtain⟨v',e,r1,r2⟩:=h.up i l x k hl hxl (by rw[hata,hgk]) hkr2
    rw[hv] at e
    obtain rfl:=a6_ e
    exact⟨v,by rw[hvb,af0 hv0],r1,r2⟩
   ·have:=h.b i v hv
    exact⟨v,by rw[hvb,af0 hv0],hv0,by omega⟩
  ·by_cases hkr2:k+2≤r
   ·obtain⟨v',e,r1,r2⟩:=h.up i l x k hl hxl (by rw[hata,hgk]) hkr2
    rw[hv] at e
    obtain rfl:=a6_ e
    exact absurd r1 hv0
   ·have:nv es a r i v=(r:Int):=by
     unfold nv
     rw[b8_ (by omega),hl,c1_]
     rw[show ((some l).getD [])=l from rfl,k7_.2 ⟨x,hxl,by rw[f6_,hgk];omega⟩]
     rfl
    exact⟨_,hvb,by rw[this];omega,by rw[this];omega⟩
theorem RnI_end {es:List (List ab_)} {fin:Nat→Bool} {r:Nat} {a:List Int} (hx:∀ l ∈ es,∀ x ∈ l,0≤x.2∧x.2<(a.length:Int)) (hes:es.length=a.length) (h:RnI es fin r a) (hs:∀ (i:Nat) (v:Int),a[i]?=some v→nv es a r i v=v):LC es fin a:=by
 refine⟨λi v hv=>by have:=h.b i v hv;omega,h.z,h.dn,λi l x k hl hxl hat => ?_⟩
 obtain⟨v,hv⟩:=bd_ (l:=a) (i:=i) (by have:=am_ hl;omega)
 by_cases hkr2:k+2≤r
 ·exact h.up i l x k hl hxl hat hkr2
 ·obtain⟨q1,q2,q3⟩:=db_ hat
  have hb1:=h.b _ _ q3
  have hb2:=h.b _ _ hv
  have hn:=hs i v hv
  by_cases hv0:0≤v
  ·exact⟨v,hv,hv0,by omega⟩
  ·exfalso
   unfold nv at hn
   rw[b8_ (by omega),hl,c1_] at hn
   rw[show ((some l).getD [])=l from rfl,k7_.2 ⟨x,hxl,by rw[f6_,mc_ hat];omega⟩] at hn
   have:(r:Int)=v:=hn
   omega
theorem ck1 {g:ad_} {ps:List aa_} (es:List (List ab_)):RnI es (ts_ g ps) 1 (ya_ g ps):=by
 refine⟨λi v hv => ?_,λi v hv => ?_,λi k hk => ?_,λi l x k _ _ _ hk=>by omega⟩
 ·rcases ri_ hv with ⟨rfl,_⟩ | ⟨rfl,_⟩
  ·exact .inr ⟨by omega,by omega⟩
  ·exact .inl rfl
 ·rcases ri_ hv with ⟨rfl,h⟩ | ⟨rfl,h⟩
  ·exact⟨λ_=>h,λ_=>rfl⟩
  ·rw[h]
   exact⟨λe=>by omega,λe=>by cases e⟩
 ·rcases ri_ hk with ⟨e,_⟩ | ⟨e,_⟩<;>omega
theorem ci7 {l:List ab_} (q:ab_→Bool) {b:List Int} {i:Nat} {v r:Int} (hv:b[i]?=some v) (hr:0≤r) {υ:Type} {body:(Bool×(Int×(List Int×Unit)))→Option ((Bool×(Int×(List Int×Unit)))⊕(Bool×(List Int×Unit)))} {c:Bool} {K:(Bool×(List Int×Unit))→Option υ} {x:Option υ} (hl:Sm l.length)
  (hA:∀ (k:Nat) c b' y,b'[i]?=some y→0≤y→body (c,((k:Int),(b',())))=some (.inr (c,(b',()))))
  (hB:∀ c b',body (c,((l.length:Int),(b',())))=some (.inr (c,(b',()))))
  (hC:∀ (k:Nat) e,l[k]?=some e→v<0→body (c,((k:Int),(b,())))=some (.inl (cond (q e) (true,(w64 ((k:Int)+1),(b.set i r,()))) (c,(w64 ((k:Int)+1),(b,()))))))
  (hk:K (cond (decide (v<0)&&l.any q) (true,(b.set i r,())) (c,(b,())))=x):(ag_ body (c,(0,(b,())))).bind K=x:=by
 by_cases hv0:0≤v
 ·rw[c2_ (by omega)] at hk
  have e0:ag_ body (c,(0,(b,())))=some (c,(b,())):=bo_ (hA 0 c b v hv hv0)
  rw[e0,a0_]
  exact hk
 ·rw[b8_ (by omega),c1_] at hk
  have gen:∀ (m k:Nat),k+m=l.length→ag_ body (c,((k:Int),(b,())))=some (cond ((l.drop k).any q) (true,(b.set i r,())) (c,(b,()))):=by
   intro m
   induction m with
   | zero =>
    intro k hk
    obtain rfl:k=l.length:=by omega
    rw[o7_]
    exact bo_ (hB c b)
   | succ m ih =>
    intro k hk
    have hkl:k<l.length:=by omega
    obtain⟨e,he⟩:=bd_ hkl
    have hd:l.drop k=e::l.drop (k+1):=by
     rw[i8_ hkl]
     rw[a7_ hkl] at he
     rw[a6_ he]
    have h1:=hC k e he (by omega)
    rw[az_ (show Sm k by unfold Sm at hl ⊢; omega)] at h1
    rw[hd,q2_]
    cases hq:q e with
    | true =>
     rw[hq] at h1
     refine bp_ h1 (bo_ (hA (k+1) true (b.set i r) r ?_ hr))
     rw[e2_ (am_ hv)]
    | false =>
     rw[hq] at h1
     exact bp_ h1 (ih (k+1) (by omega))
  have:=gen l.length 0 (by omega)
  rw[List.drop_zero] at this
  have e0:ag_ body (c,(0,(b,())))=some (cond (l.any q) (true,(b.set i r,())) (c,(b,()))):=this
  rw[e0,a0_]
  exact hk
def kp (act:Int) (x:ab_):Bool:=!(x.1.2.1==4&&x.1.2.2==act)
def esF (act:Int) (es:List (List ab_)):List (List ab_):=es.map λl=>l.filter (kp act)
theorem cg0 (x:ab_) (act:Int):iw_ x act=some (!(kp act x),()):=by
 unfold iw_ kp
 cases x.1.2.1==4 with
 | false=>rfl
 | true=>cases x.1.2.2==act<;>rfl
theorem esF_len (act:Int) (es:List (List ab_)):(esF act es).length=es.length:=d6_ _
theorem cf4 {act:Int} {es:List (List ab_)} {i:Nat} {l:List ab_} (h:es[i]?=some l):(esF act es)[i]?=some (l.filter (kp act)):=by
 unfold esF
 rw[d5_,h]
 rfl
theorem cf3 {act:Int} {es:List (List ab_)} {l:List ab_} (h:l ∈ esF act es):∃ l' ∈ es,l=l'.filter (kp act):=by
 obtain⟨l',h1,h2⟩:=d1_.1 h
 exact⟨l',h1,h2.symm⟩
theorem esF_all {es:List (List ab_)} {act:Int} (h:∀ l ∈ es,∀ x ∈ l,x.1.2.1=4→x.1.2.2≠act):esF act es=es:=by
 unfold esF
 refine e6_ (m7_ λl hl => ?_) (List.map_id _)
 refine m9_.2 λx hx => ?_
 unfold kp
 cases hk:x.1.2.1==4 with
 | false=>rfl
 | true =>
  have:=h l hl x hx (f6_.1 hk)
  rw[c1_,k2_,l8_]
  exact this
theorem ue_ {σ ρ υ:Type} (n:Nat) (Inv:Nat→σ→Prop) {body:σ→Option (σ⊕ρ)} {z0:σ} {K:ρ→Option υ} {Q:υ→Prop} (h0:Inv 0 z0)
  (hs:∀ j z,j<n→Inv j z→∃ z',body z=some (.inl z')∧Inv (j+1) z') (he:∀ z,Inv n z→∃ r,body z=some (.inr r)∧∃ y,K r=some y∧Q y):∃ y,(ag_ body z0).bind K=some y∧Q y:=by
 have gen:∀ (k i:Nat) (z:σ),i+k=n→Inv i z→∃ r,ag_ body z=some r∧∃ y,K r=some y∧Q y:=by
  intro k
  induction k with
  | zero =>
   intro i z hi hz
   obtain rfl:i=n:=by omega
   obtain⟨r,e,hr⟩:=he z hz
   exact⟨r,bo_ e,hr⟩
  | succ k ih =>
   intro i z hi hz
   obtain⟨z',e,hz'⟩:=hs i z (by omega) hz
   obtain⟨r,er,hr⟩:=ih (i+1) z' (by omega) hz'
   exact⟨r,bp_ e er,hr⟩
 obtain⟨r,e,hr⟩:=gen n 0 z0 (by omega) h0
 rw[e,a0_]
 exact hr
theorem by8:∀ {a b:List Int},a.length=b.length→(∀ (j:Nat) (v w:Int),a[j]?=some v→b[j]?=some w→w<0→v<0)→(nb_ b≤nb_ a∧((∃ (j:Nat) (v w:Int),a[j]?=some v∧b[j]?=some w∧v<0∧0≤w)→nb_ b<nb_ a))
 | [],[],_,_=>⟨c3_ _,λ⟨j,v,w,h,_⟩=>by simp at h⟩
 | [],_::_,h,_=>by cases h
 | _::_,[],h,_=>by cases h
 | x::a,y::b,h,hm=>by
  obtain⟨h1,h2⟩:=by8 (a:=a) (b:=b) (by simpa using h) λj v w hv hw=>hm (j+1) v w hv hw
  have h3:=hm 0 x y rfl rfl
  have ea:nb_ (x::a)=nb_ a+(if x<0 then 1 else 0):=by unfold nb_;rw[j7_];simp
  have eb:nb_ (y::b)=nb_ b+(if y<0 then 1 else 0):=by unfold nb_;rw[j7_];simp
  rw[ea,eb]
  refine⟨by split<;>split<;>omega,λ⟨j,v,w,hv,hw,hv0,hw0⟩ => ?_⟩
  match j with
  | 0 =>
   obtain rfl:x=v:=a6_ hv
   obtain rfl:y=w:=a6_ hw
   rw[if_pos hv0,if_neg (by omega)]
   omega
  | j+1 =>
   have:=h2 ⟨j,v,w,hv,hw,hv0,hw0⟩
   split<;>split<;>omega
theorem az3 {es:List (List ab_)} {fin:Nat→Bool} {n:Nat} (hn:n≤3000) (hes:es.length=n) (hx:∀ l ∈ es,∀ x ∈ l,0≤x.2∧x.2<(n:Int)) {υ:Type} {body:(Int×(Bool×(List Int×Unit)))→Option ((Int×(Bool×(List Int×Unit)))⊕(List Int×Unit))} {K:(List Int×Unit)→Option υ} {Q:υ→Prop} {a0:List Int}
  (h0:RnI es fin 1 a0) (hl0:a0.length=n)
  (hend:∀ (r:Int) a,body (r,(false,(a,())))=some (.inr (a,())))
  (hstep:∀ (r:Nat) a,1≤r→r≤n+1→a.length=n→RnI es fin r a→∃ y,body ((r:Int),(true,(a,())))=some y∧∃ ch b,y = .inl (((r+1:Nat):Int),(ch,(b,())))∧b.length=n∧(∀ j:Nat,b[j]?=(a[j]?).map (nv es a r j))∧(ch=true↔∃ (j:Nat) (v:Int),a[j]?=some v∧nv es a r j v≠v))
  (hK:∀ D:List Int,D.length=n→LC es fin D→∃ y,K (D,())=some y∧Q y):∃ y,(ag_ body (1,(true,(a0,())))).bind K=some y∧Q y:=by
 have gen:∀ (m:Nat) (r:Nat) (a:List Int),nb_ a=m→1≤r→r+m≤n+1→a.length=n→RnI es fin r a→∃ D,ag_ body ((r:Int),(true,(a,())))=some (D,())∧D.length=n∧LC es fin D:=by
  intro m
  induction m using Nat.strongRecOn with
  | _ m ih =>
   intro r a hm hr hrm hl hR
   obtain⟨y,ey,ch,b,rfl,hb,hbj,hch⟩:=hstep r a hr (by omega) hl hR
   have hR2:=cw7 hr (by omega) (by rw[hl];exact hx) hR hbj
   cases ch with
   | false =>
    refine⟨b,bp_ ey (bo_ (hend _ b)),hb,?_⟩
    have hs:∀ (i:Nat) (v:Int),a[i]?=some v→nv es a r i v=v:=λi v hv=>Classical.byContradiction λhne=>by
     have:=hch.2 ⟨i,v,hv,hne⟩
     cases this
    have hab:a=b:=f1_ λi=>by
     rw[hbj]
     cases hv:a[i]? with
     | none=>rfl
     | some v=>rw[g6_,hs i v hv]
    rw[← hab]
    exact RnI_end (by rw[hl];exact hx) (by omega) hR hs
   | true =>
    obtain⟨j,v,hv,hne⟩:=hch.1 rfl
    have hlt:nb_ b<nb_ a:=by
     refine (by8 (a:=a) (b:=b) (by omega) λj v w hv hw hw0 => ?_).2 ?_
     ·rw[hbj,hv] at hw
      have hw:=a6_ hw
      rcases na_ es a r j v with e | ⟨e,h1,_⟩
      ·rw[e] at hw;omega
      ·exact h1
     ·rcases na_ es a r j v with e | ⟨e,h1,_⟩
      ·exact absurd e hne
      ·exact⟨j,v,nv es a r j v,hv,by rw[hbj,hv];rfl,h1,by rw[e];omega⟩
    obtain⟨D,eD,hD⟩:=ih (nb_ b) (by omega) (r+1) b rfl (by omega) (by omega) hb hR2
    exact⟨D,bp_ ey eD,hD⟩
 have hneg:=by9 a0
 obtain⟨D,eD,hD1,hD2⟩:=gen (nb_ a0) 1 a0 rfl (c3_ _) (by omega) hl0 h0
 have eD:ag_ body (1,(true,(a0,())))=some (D,()):=eD
 rw[eD,a0_]
 exact hK D hD1 hD2
theorem nn_ {g:ad_} (hg:SmG g) (h0:cn_ g=0) {ps:List aa_} {es:List (List ab_)} (hG:GI g ps es) (hes:es.length=ps.length)
  (act:Int):∃ D,bz_ g (ps,es) act=some (D,())∧D.length=ps.length∧LC (esF act es) (ts_ g ps) D:=by
 have ok:=dn_ h0
 have okr:=br_ ok.room
 have hn:=hG.pI.n
 have hgo:=hg.go
 have hx:∀ l ∈ es,∀ x ∈ l,0≤x.2∧x.2<(ps.length:Int):=λl hl x hx=>(hG.eI l hl x hx).1
 have hfin:∀ p ∈ ps,gq_ g p=some (dp_ p.1.1 g.1.2.2.2.2.2.2.2,()):=λp hp=>by
  have hv:=(hG.pI.v p hp).st
  have hl1:=hv.l1
  obtain⟨c1,c2⟩:=ut_ hg.room.th okr.go
  unfold gq_
  rw[jn_ (s:=p.1) (show Sm _ by show _≤1000000000;omega) (by show InC p.1.1.length _;rw[hl1];exact c1)]
  rfl
 have hxF:∀ l ∈ esF act es,∀ x ∈ l,0≤x.2∧x.2<(ps.length:Int):=λl hl x hxl=>by
  obtain⟨l',h1,rfl⟩:=cf3 hl
  exact hx l' h1 x (c5_.1 hxl).1
 have hesF:(esF act es).length=ps.length:=by rw[esF_len,hes]
 suffices hk:∃ D,bz_ g (ps,es) act=some D∧(D.1.length=ps.length∧LC (esF act es) (ts_ g ps) D.1) by
  obtain⟨⟨D,u⟩,e,h⟩:=hk
  exact⟨D,e,h⟩
 unfold bz_
 simp only
 rw[sf_ (by omega) (by omega),a0_,b9_]
 refine ue_ ps.length (λ(i:Nat) (z:Int×(List Int×Unit))=>∃ d:List Int,z=((i:Int),(d,()))∧d.length=ps.length∧∀ j:Nat,j<i→d[j]?=(ya_ g ps)[j]?) ⟨_,rfl,f4_,λj hj=>by omega⟩ (λi z hi hz => ?_) (λz hz => ?_)
 ·obtain⟨d,rfl,hd,hdj⟩:=hz
  obtain⟨p,hp⟩:=bd_ hi
  obtain⟨y,hy⟩:=bd_ (l:=d) (i:=i) (by omega)
  have h2:(d.set i (-1))[i]?=some (-1):=e2_ (by omega)
  have hf0:(ya_ g ps)[i]?=some (cond (dp_ p.1.1 g.1.2.2.2.2.2.2.2) 0 (-1)):=by
   unfold ya_
   rw[d5_,hp]
   rfl
  have fin:∀ v:Int,(ya_ g ps)[i]?=some v→∀ j:Nat,j<i+1→(d.set i v)[j]?=(ya_ g ps)[j]?:=λv hv j hj=>by
   rw[g4_]
   by_cases hij:i=j
   ·rw[if_pos hij,if_pos (by omega),← hij,hv]
   ·rw[if_neg hij,hdj j (by omega)]
  refine⟨(((i+1:Nat):Int),(d.set i (cond (dp_ p.1.1 g.1.2.2.2.2.2.2.2) 0 (-1)),())),?_,_,rfl,by rw[f3_,hd],fin _ hf0⟩
  simp only[hd,dlt hi,a5_,ah_ hp,ah_ hy,a0_,hfin p (ax_ hp),b9_,ah_ h2,az_ (show Sm i by show _≤1000000000;omega),List.set_set]
  cases dp_ p.1.1 g.1.2.2.2.2.2.2.2<;>rfl
 ·obtain⟨d,rfl,hd,hdj⟩:=hz
  have hdd:d=ya_ g ps:=f1_ λj=>by
   rcases l6_ j ps.length with hj | hj
   ·exact hdj j hj
   ·rw[b4_ (by omega),b4_ (by unfold ya_;rw[d6_];omega)]
  subst hdd
  refine⟨_,by simp only[hd,dnl,a2_];rfl,?_⟩
  simp only
  refine az3 (es:=esF act es) (fin:=ts_ g ps) hn hesF hxF (ck1 (esF act es)) hd (λr a=>rfl) (λr a hr hrn hl hR => ?_) (λD hD1 hD2=>⟨_,rfl,hD1,hD2⟩)
  simp only[a5_]
  refine ue_ ps.length (λ(i:Nat) (z:Bool×(Int×(List Int×Unit)))=>∃ (ch:Bool) (b:List Int),z=(ch,((i:Int),(b,())))∧b.length=ps.length∧(∀ j:Nat,b[j]?=if j<i then (a[j]?).map (nv (esF act es) a r j) else a[j]?)∧(ch=true↔∃ (j:Nat) (v:Int),j<i∧a[j]?=some v∧nv (esF act es) a r j v≠v)) ⟨false,a,rfl,hl,λj=>by simp,by simp⟩ (λi z hi hz => ?_) (λz hz => ?_)
  ·obtain⟨ch,b,rfl,hb,hbj,hch⟩:=hz
   obtain⟨row,hrow⟩:=bd_ (l:=es) (i:=i) (by omega)
   obtain⟨v,hv⟩:=bd_ (l:=a) (i:=i) (by omega)
   have hvb:b[i]?=some v:=by rw[hbj,if_neg (by omega),hv]
   have hrl:=hG.eL row (ax_ hrow)
   have hgi:∀ x ∈ row,(gi b x.2==(r:Int) - 1)=(gi a x.2==(r:Int) - 1):=λx hxr=>by
    obtain⟨x0,x1⟩:=hx row (ax_ hrow) x hxr
    obtain⟨u,hu⟩:=bd_ (l:=a) (i:=x.2.toNat) (by omega)
    have ea:gi a x.2=u:=mc_ (by rw[show x.2=((x.2.toNat:Nat):Int) by omega];exact ah_ hu)
    have eb:∀ w,b[x.2.toNat]?=some w→gi b x.2=w:=λw hw=>mc_ (by rw[show x.2=((x.2.toNat:Nat):Int) by omega];exact ah_ hw)
    have hbx:=hbj x.2.toNat
    split at hbx
    ·rw[hu] at hbx
     rw[ea,eb _ hbx]
     rcases na_ (esF act es) a r x.2.toNat u with e | ⟨e,h1,_⟩
     ·rw[e]
     ·rw[e,k4_,f6_,f6_]
      omega
    ·rw[hu] at hbx
     rw[ea,eb _ hbx]
   have hany:row.any (λx=>kp act x&&gi b x.2==(r:Int) - 1)=(row.filter (kp act)).any (λx=>gi a x.2==(r:Int) - 1):=by
    rw[List.any_filter,k4_,k7_,k7_]
    exact⟨λ⟨x,h1,h2⟩=>⟨x,h1,by rw[← hgi x h1];exact h2⟩,λ⟨x,h1,h2⟩=>⟨x,h1,by rw[hgi x h1];exact h2⟩⟩
   have hnv:nv (esF act es) a r i v=cond (decide (v<0)&&row.any (λx=>kp act x&&gi b x.2==(r:Int) - 1)) (r:Int) v:=by
    unfold nv
    rw[cf4 hrow,hany]
    rfl
   refine⟨(cond (decide (v<0)&&row.any (λx=>kp act x&&gi b x.2==(r:Int) - 1)) true ch,(((i+1:Nat):Int),(cond (decide (v<0)&&row.any (λx=>kp act x&&gi b x.2==(r:Int) - 1)) (b.set i (r:Int)) b,()))),?_,_,_,rfl,?_,λj => ?_,?_⟩
   ·simp only[hb,dlt hi,a5_]
    refine ci7 (l:=row) (λx=>kp act x&&gi b x.2==(r:Int) - 1) (r:=(r:Int)) hvb (by omega) (by show _≤1000000000;omega) (λk c b' y hy hy0 => ?_) (λc b' => ?_) (λk e he hv0 => ?_) ?_
    ·simp only[ah_ hrow,a0_,ah_ hy,c2_ (show ¬ y<0 by omega)]
     cases decide ((k:Int)<(row.length:Int))<;>rfl
    ·simp only[ah_ hrow,a0_,dnl,a2_]
    ·obtain⟨x0,x1⟩:=hx row (ax_ hrow) e (ax_ he)
     simp only[ah_ hrow,a0_,dlt (am_ he),a5_,ah_ hvb,b8_ hv0,ah_ he,ms_ (l:=b) x0 (by omega),cg0,er_ (n:=(r:Int) - 1) (by omega) (by omega),b9_]
     cases gi b e.2==(r:Int) - 1<;>cases kp act e<;>rfl
    ·simp only[az_ (show Sm i by show _≤1000000000;omega)]
     cases (decide (v<0)&&row.any (λx=>kp act x&&gi b x.2==(r:Int) - 1))<;>rfl
   ·cases (decide (v<0)&&row.any (λx=>kp act x&&gi b x.2==(r:Int) - 1)) with
    | true=>simp only[a5_,f3_,hb]
    | false=>exact hb
   ·rcases o2_ j i with hj | hj | hj
    ·rw[if_pos (by omega)]
     have:=hbj j
     rw[if_pos hj] at this
     cases (decide (v<0)&&row.any (λx=>kp act x&&gi b x.2==(r:Int) - 1)) with
     | true=>rw[a5_,b3_ (by omega),this]
     | false=>exact this
    ·subst hj
     rw[if_pos (by omega),hv,g6_,hnv]
     cases (decide (v<0)&&row.any (λx=>kp act x&&gi b x.2==(r:Int) - 1)) with
     | true=>rw[a5_,a5_,e2_ (by omega)]
     | false=>exact hvb
    ·rw[if_neg (by omega)]
     have:=hbj j
     rw[if_neg (by omega)] at this
     cases (decide (v<0)&&row.any (λx=>kp act x&&gi b x.2==(r:Int) - 1)) with
     | true=>rw[a5_,b3_ (by omega),this]
     | false=>exact this
   ·cases hc:(decide (v<0)&&row.any (λx=>kp act x&&gi b x.2==(r:Int) - 1)) with
    | true =>
     rw[hc] at hnv
     rw[a1_,g9_] at hc
     exact⟨λ_=>⟨i,v,by omega,hv,by rw[hnv];show (r:Int)≠v;omega⟩,λ_=>rfl⟩
    | false =>
     rw[hc] at hnv
     rw[a2_,hch]
     constructor
     ·rintro⟨j,w,h1,h2⟩
      exact⟨j,w,by omega,h2⟩
     ·rintro⟨j,w,h1,h2,h3⟩
      rcases l6_ j i with hj | hj
      ·exact⟨j,w,hj,h2,h3⟩
      ·obtain rfl:j=i:=by omega
       rw[hv] at h2
       obtain rfl:=a6_ h2
       exact absurd hnv h3
  ·obtain⟨ch,b,rfl,hb,hbj,hch⟩:=hz
   refine⟨_,by simp only[hb,dnl,a2_];rfl,?_⟩
   refine⟨_,rfl,ch,b,by simp only[az_ (show Sm r by show _≤1000000000;omega)],hb,λj => ?_,?_⟩
   ·rw[hbj]
    split
    ·rfl
    ·rw[b4_ (by omega)]
     rfl
   ·rw[hch]
    constructor
    ·rintro⟨j,w,_,h2⟩
     exact⟨j,w,h2⟩
    ·rintro⟨j,w,h2,h3⟩
     exact⟨j,w,by have:=am_ h2;omega,h2,h3⟩
end
section
set_option maxRecDepth 10000
def BkI (es:List (List ab_)) (n i:Nat) (bk:List (List Int)):Prop :=
 bk.length=n∧∀ (t:Nat) l,bk[t]?=some l→l.length≤i * 480∧∀ y:Int,y ∈ l↔∃ j:Nat,j<i∧y=(j:Int)∧∃ row,es[j]?=some row∧∃ x ∈ row,x.2=(t:Int)
theorem BkI_all {es:List (List ab_)} {n:Nat} {bk:List (List Int)} (h:BkI es n es.length bk) {t:Nat} {l:List Int} (hl:bk[t]?=some l) (y:Int):y ∈ l↔∃ j:Nat,y=(j:Int)∧∃ row,es[j]?=some row∧∃ x ∈ row,x.2=(t:Int):=by
 rw[(h.2 t l hl).2 y]
 exact⟨λ⟨j,_,h⟩=>⟨j,h⟩,λ⟨j,h1,row,h2,h3⟩=>⟨j,am_ h2,h1,row,h2,h3⟩⟩
structure BI (es:List (List ab_)) (fin:Nat→Bool) (n:Nat) (near far:List Int):Prop where
 len:far.length=n
 lo:∀ (i:Nat) (v:Int),far[i]?=some v→-1≤v
 z:∀ (i:Nat) (v:Int),far[i]?=some v→(v=0↔fin i=true)
 dn:∀ (i k:Nat),far[i]?=some ((k+1:Nat):Int)→∃ l x,es[i]?=some l∧x ∈ l∧at? far x.2=some (k:Int)
 nr:∀ x ∈ near,∃ v,at? far x=some v∧0≤v
 pw:near.Pairwise (λx y=>gi far x≤gi far y)
 top:∀ x ∈ near,∀ (i:Nat) (v:Int),far[i]?=some v→v≤gi far x+1
 up:∀ (i:Nat) (l:List ab_) (x:ab_) (k:Nat),es[i]?=some l→x ∈ l→at? far x.2=some (k:Int)→x.2 ∉ near→∃ v,far[i]?=some v∧0≤v∧v≤(k:Int)+1
 bd:∀ (i:Nat) (v:Int),far[i]?=some v→v+(nb_ far:Int)≤(n:Int)
 ms:near.length+nb_ far≤n
theorem BI_end {es:List (List ab_)} {fin:Nat→Bool} {n:Nat} {far:List Int} (h:BI es fin n [] far):LC es fin far :=
 ⟨h.lo,h.z,h.dn,λi l x k hl hx hat=>h.up i l x k hl hx hat (λh=>by cases h)⟩
structure AI (bs:List Int) (d:Int) (far:List Int) (b:Nat) (pu far':List Int):Prop where
 len:far'.length=far.length
 keep:∀ (i:Nat) (v:Int),far[i]?=some v→0≤v→far'[i]?=some v
 neg:∀ (i:Nat) (v:Int),far[i]?=some v→v<0→far'[i]?=some v∨(far'[i]?=some (d+1)∧(i:Int) ∈ pu∧(i:Int) ∈ bs)
 pI:∀ x ∈ pu,at? far' x=some (d+1)∧∃ w,at? far x=some w∧w<0
 done:∀ y ∈ bs.take b,∃ v,at? far' y=some v∧0≤v
 ms:nb_ far'+pu.length=nb_ far
theorem cx2 (bs:List Int) (d:Int) (far:List Int):AI bs d far 0 [] far :=
 ⟨rfl,λ_ _ h _=>h,λ_ _ h _=>.inl h,λ_ h=>(by cases h),λy h=>by rw[l2_] at h; (cases h),rfl⟩
theorem qm_ {α:Type} {a:List α} {x:Int} {v:α} (h:at? a x=some v):∃ i:Nat,x=(i:Int)∧a[i]?=some v:=by
 obtain⟨q1,q2,q3⟩:=db_ h
 exact⟨x.toNat,by omega,q3⟩
theorem AI_skip {bs:List Int} {d:Int} {far:List Int} {b:Nat} {pu far':List Int} (h:AI bs d far b pu far') {y v:Int} (hy:bs[b]?=some y) (hv:at? far' y=some v) (hv0:0≤v):AI bs d far (b+1) pu far':=by
 refine⟨h.len,h.keep,h.neg,h.pI,λz hz => ?_,h.ms⟩
 rw[d9_,hy] at hz
 rcases b6_.1 hz with hz | hz
 ·exact h.done z hz
 ·have:z=y:=by simpa using hz
  rw[this]
  exact⟨v,hv,hv0⟩
theorem AI_add {bs:List Int} {d:Int} (hd:0≤d) {far:List Int} {b:Nat} {pu far':List Int} (h:AI bs d far b pu far') {y v:Int} (hy:bs[b]?=some y) (hv:at? far' y=some v) (hv0:v<0):AI bs d far (b+1) (pu++[y]) (far'.set y.toNat (d+1)):=by
 obtain⟨i,rfl,hi⟩:=qm_ hv
 rw[b9_]
 have hlt:=am_ hi
 have hself:(far'.set i (d+1))[i]?=some (d+1):=e2_ hlt
 have hfi:∃ w,far[i]?=some w∧w<0:=by
  obtain⟨w,hw⟩:=bd_ (l:=far) (i:=i) (by have:=h.len;omega)
  refine⟨w,hw,Classical.byContradiction λhc => ?_⟩
  have:=h.keep i w hw (by omega)
  rw[hi] at this
  have:=a6_ this
  omega
 have hat:∀ {x w:Int},at? far' x=some w→0≤w→at? (far'.set i (d+1)) x=some w:=λ{x w} hx hw=>by
  obtain⟨j,rfl,hj⟩:=qm_ hx
  refine ah_ ?_
  by_cases hij:i=j
  ·subst hij
   rw[hi] at hj
   have:=a6_ hj
   omega
  ·rw[b3_ hij]
   exact hj
 refine⟨by rw[f3_,h.len],λj w hw hw0 => ?_,λj w hw hw0 => ?_,λx hx => ?_,λz hz => ?_,?_⟩
 ·have:=h.keep j w hw hw0
  by_cases hij:i=j
  ·subst hij
   rw[hi] at this
   have:=a6_ this
   omega
  ·rw[b3_ hij]
   exact this
 ·by_cases hij:i=j
  ·subst hij
   exact .inr ⟨hself,o4_ _ (e7_.2 rfl),ax_ hy⟩
  ·rw[b3_ hij]
   rcases h.neg j w hw hw0 with h1 | ⟨h1,h2,h3⟩
   ·exact .inl h1
   ·exact .inr ⟨h1,o8_ _ h2,h3⟩
 ·rcases b6_.1 hx with hx | hx
  ·obtain⟨h1,h2⟩:=h.pI x hx
   exact⟨hat h1 (by omega),h2⟩
  ·rw[e7_] at hx
   rw[hx]
   obtain⟨w,hw,hw0⟩:=hfi
   exact⟨ah_ hself,w,ah_ hw,hw0⟩
 ·rw[d9_,hy] at hz
  rcases b6_.1 hz with hz | hz
  ·obtain⟨w,h1,h2⟩:=h.done z hz
   exact⟨w,hat h1 h2,h2⟩
  ·have:z=(i:Int):=by simpa using hz
   rw[this]
   exact⟨d+1,ah_ hself,by omega⟩
 ·have:=be1 hi hv0 (show (0:Int)≤d+1 by omega)
  have:=h.ms
  rw[a8_,e0_]
  omega
theorem BI_step {es:List (List ab_)} {fin:Nat→Bool} {n:Nat} (hes:es.length=n) (hx:∀ l ∈ es,∀ x ∈ l,0≤x.2∧x.2<(n:Int)) {h:Int} {tl far:List Int} (I:BI es fin n (h::tl) far) {bs:List Int} {d:Int} (hd:at? far h=some d)
  (hbs:∀ y:Int,y ∈ bs↔∃ j:Nat,y=(j:Int)∧∃ row,es[j]?=some row∧∃ x ∈ row,x.2=h) {pu far':List Int} (A:AI bs d far bs.length pu far'):BI es fin n (tl++pu) far':=by
 have hd0:0≤d:=by
  obtain⟨v,h1,h2⟩:=I.nr h (e4_ ..)
  rw[hd] at h1
  have:=a6_ h1
  omega
 have hgd:gi far h=d:=mc_ hd
 have hms:=A.ms
 have cs:∀ (i:Nat) (v:Int),far'[i]?=some v→far[i]?=some v∨(v=d+1∧(i:Int) ∈ pu∧(i:Int) ∈ bs∧1≤pu.length∧∃ w,far[i]?=some w∧w<0):=λi v hv=>by
  obtain⟨w,hw⟩:=bd_ (l:=far) (i:=i) (by have:=am_ hv;have:=A.len;omega)
  by_cases hw0:0≤w
  ·have:=A.keep i w hw hw0
   rw[hv] at this
   rw[a6_ this]
   exact .inl hw
  ·rcases A.neg i w hw (by omega) with h1 | ⟨h1,h2,h3⟩
   ·rw[hv] at h1
    rw[a6_ h1]
    exact .inl hw
   ·rw[hv] at h1
    have hne:1≤pu.length:=by
     cases pu with
     | nil=>cases h2
     | cons _ _=>simp
    exact .inr ⟨a6_ h1,h2,h3,hne,w,hw,by omega⟩
 have keepA:∀ {x v:Int},at? far x=some v→0≤v→at? far' x=some v:=λ{x v} hx hv=>by
  obtain⟨i,rfl,hi⟩:=qm_ hx
  exact ah_ (A.keep i v hi hv)
 have gk:∀ x ∈ tl,gi far' x=gi far x:=λx hx=>by
  obtain⟨v,h1,h2⟩:=I.nr x (d7_ _ hx)
  rw[mc_ h1,mc_ (keepA h1 h2)]
 have gp:∀ x ∈ pu,gi far' x=d+1:=λx hx=>mc_ (A.pI x hx).1
 have htop:=I.top h (e4_ ..)
 rw[hgd] at htop
 obtain⟨pw1,pw2⟩:=List.pairwise_cons.1 I.pw
 have htl:∀ x ∈ tl,gi far x≤d+1:=λx hx=>by
  obtain⟨v,h1,h2⟩:=I.nr x (d7_ _ hx)
  obtain⟨i,_,hi⟩:=qm_ h1
  rw[mc_ h1]
  exact htop i v hi
 have hle:∀ (i:Nat) (v:Int),far'[i]?=some v→v≤d+1:=λi v hv=>by
  rcases cs i v hv with h1 | ⟨h1,_⟩
  ·exact htop i v h1
  ·omega
 refine⟨by rw[A.len,I.len],λi v hv => ?_,λi v hv => ?_,λi k hk => ?_,λx hx => ?_,?_,λx hx i v hv => ?_,λi l x k hl hxl hat hnn => ?_,λi v hv => ?_,?_⟩
 ·rcases cs i v hv with h1 | ⟨h1,_⟩
  ·exact I.lo i v h1
  ·omega
 ·rcases cs i v hv with h1 | ⟨h1,_,_,_,w,hw,hw0⟩
  ·exact I.z i v h1
  ·have:=I.z i w hw
   rw[← this]
   constructor
   ·intro e;omega
   ·intro e;omega
 ·rcases cs i _ hk with h1 | ⟨h1,h2,h3,_⟩
  ·obtain⟨l,x,a1,a2,a3⟩:=I.dn i k h1
   exact⟨l,x,a1,a2,keepA a3 (by omega)⟩
  ·obtain⟨j,hj,row,hrow,x,hxr,hxe⟩:=(hbs _).1 h3
   obtain rfl:i=j:=by omega
   refine⟨row,x,hrow,hxr,?_⟩
   rw[hxe,show (k:Int)=d by omega]
   exact keepA hd hd0
 ·rcases b6_.1 hx with hx | hx
  ·obtain⟨v,h1,h2⟩:=I.nr x (d7_ _ hx)
   exact⟨v,keepA h1 h2,h2⟩
  ·exact⟨d+1,(A.pI x hx).1,by omega⟩
 ·refine List.pairwise_append.2 ⟨?_,?_,λx hx y hy => ?_⟩
  ·refine List.Pairwise.imp_of_mem (λ{x y} hx hy hr => ?_) pw2
   rw[gk x hx,gk y hy]
   exact hr
  ·refine List.pairwise_of_forall_mem_list (λx hx y hy => ?_)
   rw[gp x hx,gp y hy]
   exact n0_ _
  ·rw[gk x hx,gp y hy]
   exact htl x hx
 ·have h2:=hle i v hv
  rcases b6_.1 hx with hx | hx
  ·rw[gk x hx]
   have:=pw1 x hx
   rw[hgd] at this
   omega
  ·rw[gp x hx]
   omega
 ·have hb:=hx l (ax_ hl) x hxl
  obtain⟨xi,hxi,hxk⟩:=qm_ hat
  obtain⟨w,hw⟩:=bd_ (l:=far') (i:=i) (by have:=am_ hl;have:=A.len;have:=I.len;omega)
  rcases cs xi _ hxk with h1 | ⟨_,h2,_⟩
  ·by_cases hxh:x.2=h
   ·have hm:(i:Int) ∈ bs:=(hbs _).2 ⟨i,rfl,l,hl,x,hxl,hxh⟩
    obtain⟨v,h3,h4⟩:=A.done (i:Int) (by rw[e1_];exact hm)
    have h3:far'[i]?=some v:=by rw[← bj0];exact h3
    refine⟨v,h3,h4,?_⟩
    have:(k:Int)=d:=by
     have:at? far h=some (k:Int):=by rw[← hxh,hxi];exact ah_ h1
     rw[hd] at this
     exact (a6_ this).symm
    have:=hle i v h3
    omega
   ·obtain⟨v,h3,h4,h5⟩:=I.up i l x k hl hxl (by rw[hxi];exact ah_ h1) (λhm=>by
     rcases d4_.1 hm with hm | hm
     ·exact hxh hm
     ·exact hnn (o8_ _ hm))
    exact⟨v,A.keep i v h3 h4,h4,h5⟩
  ·exact absurd (o4_ _ (by rw[hxi];exact h2)) hnn
 ·rcases cs i v hv with h1 | ⟨h1,_,_,h4,_⟩
  ·have:=I.bd i v h1
   omega
  ·obtain⟨hi,_,hh⟩:=qm_ hd
   have:=I.bd hi d hh
   omega
 ·have:=I.ms
  rw[a8_]
  rw[c8_] at this
  omega
theorem bn8 {υ:Type} {body:(List Int×(List Int×Unit))→Option ((List Int×(List Int×Unit))⊕(List Int×Unit))} {K:(List Int×Unit)→Option υ} {Q:υ→Prop} (Inv:List Int→List Int→Prop) (μ:List Int→List Int→Nat)
  (hs:∀ h tl far,Inv (h::tl) far→∃ y,body (h::tl,(far,()))=some y∧∃ near' far',y = .inl (near',(far',()))∧Inv near' far'∧μ near' far'<μ (h::tl) far)
  (he:∀ far,Inv [] far→∃ r,body ([],(far,()))=some (.inr r)∧∃ y,K r=some y∧Q y) {near far:List Int} (hI:Inv near far):∃ y,(ag_ body (near,(far,()))).bind K=some y∧Q y:=by
 have gen:∀ (m:Nat) (near far:List Int),μ near far=m→Inv near far→∃ r,ag_ body (near,(far,()))=some r∧∃ y,K r=some y∧Q y:=by
  intro m
  induction m using Nat.strongRecOn with
  | _ m ih =>
   intro near far hm hI
   cases near with
   | nil =>
    obtain⟨r,e,h⟩:=he far hI
    exact⟨r,bo_ e,h⟩
   | cons h tl =>
    obtain⟨y,ey,near',far',rfl,h1,h2⟩:=hs h tl far hI
    obtain⟨r,er,hr⟩:=ih _ (by omega) near' far' rfl h1
    exact⟨r,bp_ ey er,hr⟩
 obtain⟨r,e,hr⟩:=gen _ near far rfl hI
 rw[e,a0_]
 exact hr
theorem ck2 {n:Nat} (h:n≤1000000):eb_ [-1] (n:Int)=some (List.replicate n (-1)):=by
 show mk? (n:Int) (-1)=_
 rw[sf_ (by omega) (by omega),b9_]
theorem bz0 (x:Int) (a:List Int):nb_ (x::a)=nb_ a+(if x<0 then 1 else 0):=by unfold nb_;rw[j7_];simp
end
end Go.Proofs.YtgeehfnbhbibeaaGreatDoor.Rx
