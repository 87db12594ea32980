/- A part of the proof: what the functions of the program compute, shown over the model. -/
import Derived.KernelRfl
import Derived.Test.YtgeehfnbhbibeaaGreatDoorPart4
set_option linter.unusedSectionVars false
set_option linter.unusedVariables false
set_option linter.unusedSimpArgs false
namespace Go.Proofs.YtgeehfnbhbibeaaGreatDoor.Rx
open Go Pad Rex Go.Proofs Go.Proofs.Tryz Sum
section
set_option maxRecDepth 100000
set_option maxHeartbeats 0
noncomputable def jj_ (a0:ad_) (a1:aa_):Option ((List ag_)×Unit) :=
 ((er_ a0.1 a1.1).bind λv0 =>
 ((af_ (ρ:=((List ag_)×Unit)) (λ(v1:((List ag_)×(Int×Unit))) =>
 (cond (decide (v1.2.1<(v0.1.length:Int)))
 ((((at? v0.1 v1.2.1).bind λv2 =>
 ((gn_ a0 a1 v2).bind λv3 =>
 (cond v3.1
 ((at? v0.1 v1.2.1).bind λv4 =>
 ((push? (α:=ag_) v1.1 [v4]).bind λv5 =>
 (some (v5,()))))
 (some (v1.1,())))))).bind λv6 =>
 (some (inl (v6.1,((w64 (v1.2.1+1)),())))))
 (some (inr (v1.1,()))))) ([],(0,()))).bind λv7 =>
 (some (v7.1,()))))
theorem x_60:aw_ (P:=prog) (cxC [c_95,c_96] []) (.p .z (.p .z (.p .z (.p (.p .z (.lp [.r 5 ar_ 61,.v 7 .int] [.r 5 ar_ 61] [] 0 (.p .z (.j0 [.r 5 ar_ 61] (.p (.q [] .z .z) .z) .z)))) .z)))) 60 [ao_,aj_] [(.list ar_)]=λx=>jj_ x.1 x.2.1:=by kernel_rfl
noncomputable def c_60:Con prog:=ax_ _ _ 60 [ao_,aj_] [(.list ar_)] _ x_60
noncomputable def pw_ (a0:ad_) (a1:aa_):Option ((List ag_)×Int×Unit) :=
 ((ec_ a0 a1).bind λv0 =>
 (cond (v0.1 != 0)
 (cond (v0.1 != 0)
 (some ([],(v0.1,())))
 ((fh_ a0.1 a1.1).bind λv1 =>
 (cond (v1.2.1 != 0)
 (some ([],(v1.2.1,())))
 none)))
 ((push? (α:=Bool) [] a1.2).bind λv2 =>
 ((fh_ a0.1 a1.1).bind λv3 =>
 (cond (v3.2.1 != 0)
 (some ([],(v3.2.1,())))
 ((af_ (ρ:=((List ag_)×((List ab_)×Unit))) (λ(v4:((List ag_)×(Int×((List ab_)×Unit)))) =>
 (cond (decide (v4.2.1<(v3.1.length:Int)))
 ((((at? v3.1 v4.2.1).bind λv5 =>
 ((((push? (α:=Bool) [] v2).bind λv6 =>
 (((((cond (v5.2.1==4)
 ((bz_ v5.2.2 0 (w64 ((a0.1.2.2.2.2.1.length:Int) - 1))).bind λv7 =>
 (some (v7.1,())))
 (some (false,())))).bind λv8 =>
 (cond v8.1
 ((at? a0.1.2.2.2.2.1 v5.2.2).bind λv9 =>
 (((cond (decide (v9.2.2.1<0))
 (some (v4.2.2.1,()))
 (((cond ((ey_ 0 v4.2.2.1 v9.2.2.1)==0)
 ((af_ (ρ:=((List Int)×((List ak_)×Unit))) (λ(v10:((List Int)×((List ak_)×(Int×Unit)))) =>
 (cond (decide (v10.2.2.1<(a0.2.2.2.1.length:Int)))
 ((((at? a0.2.2.2.1 v10.2.2.1).bind λv11 =>
 (((cond (v11.2.2.1==v9.2.2.1)
 ((at? v2 v10.2.2.1).bind λv12 =>
 ((at? v2 v10.2.2.1).bind λv13 =>
 (some (v13,()))))
 (some (false,())))).bind λv14 =>
 (cond v14.1
 ((push? (α:=Int) v10.1 [v10.2.2.1]).bind λv15 =>
 ((push? (α:=ak_) v10.2.1 [v11.2.2.2.2]).bind λv16 =>
 (some (v15,(v16,())))))
 (some (v10.1,(v10.2.1,()))))))).bind λv17 =>
 (some (inl (v17.1,(v17.2.1,((w64 (v10.2.2.1+1)),()))))))
 (some (inr (v10.1,(v10.2.1,())))))) ([],([],(0,())))).bind λv18 =>
 ((at? a0.2.1 v9.2.2.1).bind λv19 =>
 ((db_ v19 v18.2.1).bind λv20 =>
 (((cond (v20.2.1==0)
 (some ((decide (v20.1≤a0.2.2.2.2)),()))
 (some (false,())))).bind λv21 =>
 (cond v21.1
 (some ((ex_ (ex_ v4.2.2.1 v9.2.2.1 2) v9.2.2.1 1),()))
 (some ((ex_ v4.2.2.1 v9.2.2.1 2),())))))))
 (some (v4.2.2.1,())))).bind λv22 =>
 (some (v22.1,()))))).bind λv23 =>
 (some (v23.1,((ex_ [] v9.2.2.1 (ey_ 0 v23.1 v9.2.2.1)),())))))
 (some (v4.2.2.1,([],())))))).bind λv24 =>
 (((((cond (v5.2.1==4)
 ((bz_ v5.2.2 0 (w64 ((a0.1.2.2.2.2.1.length:Int) - 1))).bind λv25 =>
 (cond v25.1
 ((at? a0.1.2.2.2.2.1 v5.2.2).bind λv26 =>
 (cond (decide (v26.2.2.1<0))
 (some ((!true),(v24.2.1,())))
 (((cond ((ey_ 0 v24.2.1 v26.2.2.1)==0)
 ((af_ (ρ:=((List Int)×((List ak_)×Unit))) (λ(v27:((List Int)×((List ak_)×(Int×Unit)))) =>
 (cond (decide (v27.2.2.1<(a0.2.2.2.1.length:Int)))
 ((((at? a0.2.2.2.1 v27.2.2.1).bind λv28 =>
 (((cond (v28.2.2.1==v26.2.2.1)
 ((at? v6 v27.2.2.1).bind λv29 =>
 ((at? v6 v27.2.2.1).bind λv30 =>
 (some (v30,()))))
 (some (false,())))).bind λv31 =>
 (cond v31.1
 ((push? (α:=Int) v27.1 [v27.2.2.1]).bind λv32 =>
 ((push? (α:=ak_) v27.2.1 [v28.2.2.2.2]).bind λv33 =>
 (some (v32,(v33,())))))
 (some (v27.1,(v27.2.1,()))))))).bind λv34 =>
 (some (inl (v34.1,(v34.2.1,((w64 (v27.2.2.1+1)),()))))))
 (some (inr (v27.1,(v27.2.1,())))))) ([],([],(0,())))).bind λv35 =>
 ((at? a0.2.1 v26.2.2.1).bind λv36 =>
 ((db_ v36 v35.2.1).bind λv37 =>
 (((cond (v37.2.1==0)
 (some ((decide (v37.1≤a0.2.2.2.2)),()))
 (some (false,())))).bind λv38 =>
 (cond v38.1
 (some ((ex_ (ex_ v24.2.1 v26.2.2.1 2) v26.2.2.1 1),()))
 (some ((ex_ v24.2.1 v26.2.2.1 2),())))))))
 (some (v24.2.1,())))).bind λv39 =>
 (some ((!((ey_ 0 v39.1 v26.2.2.1)==1)),(v39.1,()))))))
 (some (false,(v24.2.1,())))))
 (some (false,(v24.2.1,()))))).bind λv40 =>
 (cond v40.1
 (some ((!false),(v6,(v40.2.1,((a1.1.1,(a1.1.2.1,(a1.1.2.2,()))),())))))
 ((fg_ a0.1 a1.1 v5).bind λv41 =>
 (cond (v41.2.1 != 0)
 (some ((!false),(v6,(v40.2.1,((a1.1.1,(a1.1.2.1,(a1.1.2.2,()))),())))))
 ((af_ (ρ:=((List Bool)×((List ab_)×Unit))) (λ(v42:(Int×((List Bool)×((List ab_)×Unit)))) =>
 (cond (decide (v42.1<(a0.2.2.2.1.length:Int)))
 ((((at? a0.2.2.2.1 v42.1).bind λv43 =>
 ((fi_ a0.1 v41.1 v43.2.2.2.1).bind λv44 =>
 (((cond v44.1
 ((bj_ v41.1.2.2 v43.2.1).bind λv45 =>
 (cond v45.1
 ((at? v42.2.1 v42.1).bind λv46 =>
 ((at? v42.2.1 v42.1).bind λv47 =>
 (some ((!v47),()))))
 (some (false,()))))
 (some (false,())))).bind λv48 =>
 (cond v48.1
 ((at? v42.2.1 v42.1).bind λv49 =>
 ((at? v42.2.1 v42.1).bind λv50 =>
 (some ((v42.2.1.set v42.1.toNat true),((zg_ v42.2.2.1 v43.2.2.1),())))))
 (some (v42.2.1,(v42.2.2.1,())))))))).bind λv51 =>
 (some (inl ((w64 (v42.1+1)),(v51.1,(v51.2.1,()))))))
 (some (inr (v42.2.1,(v42.2.2.1,())))))) (0,(v6,(v40.2.1,())))).bind λv52 =>
 (some ((!true),(v52.1,(v52.2.1,((v41.1.1,(v41.1.2.1,(v41.1.2.2,()))),()))))))))))).bind λv53 =>
 (cond v53.1
 (some (false,(v24.1,())))
 (some (true,(v24.1,())))))))).bind λv54 =>
 (cond v54.1
 ((push? (α:=ag_) v4.1 [v5]).bind λv55 =>
 (some (v55,(v54.2.1,()))))
 (some (v4.1,(v54.2.1,()))))))).bind λv56 =>
 (some (inl (v56.1,((w64 (v4.2.1+1)),(v56.2.1,()))))))
 (some (inr (v4.1,(v4.2.2.1,())))))) ([],(0,([],())))).bind λv57 =>
 (some (v57.1,(0,())))))))))
theorem x_71:aw_ (P:=prog) (cxI (λk=>cond (Nat.beq k 102) (.p .z (.lp [.v 12 .int] [] [.o (.c (.s 0) 15) .bool,.m (.c (.s 0) 16) .int .int] 0 (.p .z (.p .z (.j0 [.o (.c (.s 0) 15) .bool,.m (.c (.s 0) 16) .int .int] (.p .z (.p .z (.j0 [.v 55 .bool] .z .z))) .z))))) (cond (Nat.beq k 107) (.p .z (.p .z (.j0 [.m (.c (.s 0) 16) .int .int,.m (.s 23) .int .int] (.j0 [.v 41 .bool] .z (.p (.p .z (.j0 [.m (.c (.s 0) 16) .int .int] .z .z)) .z)) (.p (.j0 [.v 70 .bool,.o (.s 21) .bool,.m (.s 23) .int .int,.b (.s 5) [.keep,.keep,.keep,.keep,.keep,.keep,.keep,.keep,.keep,.keep,.keep,.keep,.val (.list .int),.val (.list .int),.val (.list .int),.keep,.keep]] .z .z) .z)))) (cond (Nat.beq k 108) (.p .z (.p (.j0 [.v 38 .bool,.m (.c (.s 0) 16) .int .int] .z .z) .z)) (cond (Nat.beq k 147) (.p .z (.p .z (.j0 [.m (.c (.s 0) 16) .int .int] (.p .z (.p (.p .z (.p .z (.j0 [.v 37 .bool] .z .z))) .z)) .z))) (cond (Nat.beq k 229) (.p .z (.p (.p .z (.lp [.r 6 .int 3,.r 7 ap_ 80,.v 13 .int] [.r 6 .int 3,.r 7 ap_ 80] [] 0 (.p .z (.p .z (.j0 [.r 6 .int 3,.r 7 ap_ 80] (.p .z (.j0 [.v 26 .bool] .z .z)) .z))))) .z)) (.z)))))) (λk=>Nat.beq k 106||Nat.beq k 136||Nat.beq k 138||Nat.beq k 139||Nat.beq k 141||Nat.beq k 144||Nat.beq k 148||Nat.beq k 231||false) (cxC [c_106,cb0,c_138,co6,c_144,c_148,c_231] [bz6]) 9) (.p .z (.p .z (.p .z (.p .z (.p .z (.p (.p .z (.lp [.r 4 ar_ 61,.v 32 .int] [.r 4 ar_ 61] [.m (.c (.s 6) 16) .int .int] 0 (.p .z (.p .z (.j0 [.r 4 ar_ 61,.m (.c (.s 6) 16) .int .int] (.p .z (.j0 [.v 39 .bool,.m (.c (.s 6) 16) .int .int] .z .z)) .z))))) .z)))))) 71 [ao_,aj_] [(.list ar_),.int]=λx=>pw_ x.1 x.2.1:=by kernel_rfl
noncomputable def c_71:Con prog:=ax_ _ _ 71 [ao_,aj_] [(.list ar_),.int] _ x_71
noncomputable def kj_ (a0:ad_) (a1:aa_) (a2:ag_):Option (aa_×Int×Unit) :=
 ((ec_ a0 a1).bind λv0 =>
 (cond (v0.1 != 0)
 (cond (v0.1 != 0)
 (some ((([],([],[])),[]),(v0.1,())))
 none)
 ((push? (α:=Bool) [] a1.2).bind λv1 =>
 (((((cond (a2.2.1==4)
 ((bz_ a2.2.2 0 (w64 ((a0.1.2.2.2.2.1.length:Int) - 1))).bind λv2 =>
 (cond v2.1
 ((at? a0.1.2.2.2.2.1 a2.2.2).bind λv3 =>
 (cond (decide (v3.2.2.1<0))
 (some ((!true),([],())))
 ((((af_ (ρ:=((List Int)×((List ak_)×Unit))) (λ(v4:((List Int)×((List ak_)×(Int×Unit)))) =>
 (cond (decide (v4.2.2.1<(a0.2.2.2.1.length:Int)))
 ((((at? a0.2.2.2.1 v4.2.2.1).bind λv5 =>
 (((cond (v5.2.2.1==v3.2.2.1)
 ((at? v1 v4.2.2.1).bind λv6 =>
 ((at? v1 v4.2.2.1).bind λv7 =>
 (some (v7,()))))
 (some (false,())))).bind λv8 =>
 (cond v8.1
 ((push? (α:=Int) v4.1 [v4.2.2.1]).bind λv9 =>
 ((push? (α:=ak_) v4.2.1 [v5.2.2.2.2]).bind λv10 =>
 (some (v9,(v10,())))))
 (some (v4.1,(v4.2.1,()))))))).bind λv11 =>
 (some (inl (v11.1,(v11.2.1,((w64 (v4.2.2.1+1)),()))))))
 (some (inr (v4.1,(v4.2.1,())))))) ([],([],(0,())))).bind λv12 =>
 ((at? a0.2.1 v3.2.2.1).bind λv13 =>
 ((db_ v13 v12.2.1).bind λv14 =>
 (((cond (v14.2.1==0)
 (some ((decide (v14.1≤a0.2.2.2.2)),()))
 (some (false,())))).bind λv15 =>
 (cond v15.1
 (some ((ex_ (ex_ [] v3.2.2.1 2) v3.2.2.1 1),()))
 (some ((ex_ [] v3.2.2.1 2),())))))))).bind λv16 =>
 (some ((!((ey_ 0 v16.1 v3.2.2.1)==1)),(v16.1,()))))))
 (some (false,([],())))))
 (some (false,([],()))))).bind λv17 =>
 (cond v17.1
 (some ((!false),(v1,(v17.2.1,((a1.1.1,(a1.1.2.1,(a1.1.2.2,()))),())))))
 ((fg_ a0.1 a1.1 a2).bind λv18 =>
 (cond (v18.2.1 != 0)
 (some ((!false),(v1,(v17.2.1,((a1.1.1,(a1.1.2.1,(a1.1.2.2,()))),())))))
 ((af_ (ρ:=((List Bool)×((List ab_)×Unit))) (λ(v19:(Int×((List Bool)×((List ab_)×Unit)))) =>
 (cond (decide (v19.1<(a0.2.2.2.1.length:Int)))
 ((((at? a0.2.2.2.1 v19.1).bind λv20 =>
 ((fi_ a0.1 v18.1 v20.2.2.2.1).bind λv21 =>
 (((cond v21.1
 ((bj_ v18.1.2.2 v20.2.1).bind λv22 =>
 (cond v22.1
 ((at? v19.2.1 v19.1).bind λv23 =>
 ((at? v19.2.1 v19.1).bind λv24 =>
 (some ((!v24),()))))
 (some (false,()))))
 (some (false,())))).bind λv25 =>
 (cond v25.1
 ((at? v19.2.1 v19.1).bind λv26 =>
 ((at? v19.2.1 v19.1).bind λv27 =>
 (some ((v19.2.1.set v19.1.toNat true),((zg_ v19.2.2.1 v20.2.2.1),())))))
 (some (v19.2.1,(v19.2.2.1,())))))))).bind λv28 =>
 (some (inl ((w64 (v19.1+1)),(v28.1,(v28.2.1,()))))))
 (some (inr (v19.2.1,(v19.2.2.1,())))))) (0,(v1,(v17.2.1,())))).bind λv29 =>
 (some ((!true),(v29.1,(v29.2.1,((v18.1.1,(v18.1.2.1,(v18.1.2.2,()))),()))))))))))).bind λv30 =>
 (cond v30.1
 (some ((([],([],[])),[]),(29,())))
 ((push? (α:=Int) [] v30.2.2.2.1.1).bind λv31 =>
 ((push? (α:=Int) [] v30.2.2.2.1.2.1).bind λv32 =>
 ((push? (α:=Int) [] v30.2.2.2.1.2.2.1).bind λv33 =>
 ((push? (α:=Bool) [] v30.2.1).bind λv34 =>
 (some (((v31,(v32,v33)),v34),(0,()))))))))))))
theorem x_72:aw_ (P:=prog) (cxI (λk=>cond (Nat.beq k 102) (.p .z (.lp [.v 12 .int] [] [.o (.c (.s 0) 15) .bool,.m (.c (.s 0) 16) .int .int] 0 (.p .z (.p .z (.j0 [.o (.c (.s 0) 15) .bool,.m (.c (.s 0) 16) .int .int] (.p .z (.p .z (.j0 [.v 55 .bool] .z .z))) .z))))) (cond (Nat.beq k 108) (.p .z (.p (.j0 [.v 38 .bool,.m (.c (.s 0) 16) .int .int] .z .z) .z)) (cond (Nat.beq k 147) (.p .z (.p .z (.j0 [.m (.c (.s 0) 16) .int .int] (.p .z (.p (.p .z (.p .z (.j0 [.v 37 .bool] .z .z))) .z)) .z))) (cond (Nat.beq k 229) (.p .z (.p (.p .z (.lp [.r 6 .int 3,.r 7 ap_ 80,.v 13 .int] [.r 6 .int 3,.r 7 ap_ 80] [] 0 (.p .z (.p .z (.j0 [.r 6 .int 3,.r 7 ap_ 80] (.p .z (.j0 [.v 26 .bool] .z .z)) .z))))) .z)) (.z))))) (λk=>Nat.beq k 136||Nat.beq k 138||Nat.beq k 139||Nat.beq k 140||Nat.beq k 141||Nat.beq k 144||Nat.beq k 148||Nat.beq k 231||false) (cxC [cb0,c_138,co6,c_144,c_148,c_231] [xs_,bz6]) 9) (.p .z (.p .z (.p .z (.p (.j0 [.v 23 .bool,.o (.c (.s 8) 15) .bool,.m (.c (.s 8) 16) .int .int,.b (.s 8) [.keep,.keep,.keep,.keep,.keep,.keep,.keep,.keep,.keep,.keep,.keep,.keep,.val (.list .int),.val (.list .int),.val (.list .int),.keep,.keep]] .z .z) .z)))) 72 [ao_,aj_,ar_] [aj_,.int]=λx=>kj_ x.1 x.2.1 x.2.2.1:=by kernel_rfl
noncomputable def c_72:Con prog:=ax_ _ _ 72 [ao_,aj_,ar_] [aj_,.int] _ x_72
end
section
set_option maxRecDepth 100000
set_option maxHeartbeats 0
noncomputable def dz_ (a0:ad_):Option (cf_×Int×Unit) :=
 ((jk_ a0).bind λv0 =>
 (cond (v0.2.1 != 0)
 (some (([],[]),(v0.2.1,())))
 ((ib_ v0.1).bind λv1 =>
 ((af_ (ρ:=(((List ((List UInt8)×Int))×(((List aa_)×((List (List ac_))×Unit))×(((List aa_)×((List (List ac_))×Unit))×Unit)))⊕(cf_×(Int×Unit)))) (λ(v2:(Int×((List ((List UInt8)×Int))×(((List aa_)×((List (List ac_))×Unit))×(((List aa_)×((List (List ac_))×Unit))×Unit))))) =>
 (cond (decide (v2.1<(v2.2.2.2.1.1.length:Int)))
 ((at? v2.2.2.2.1.1 v2.1).bind λv3 =>
 ((at? v2.2.2.2.1.1 v2.1).bind λv4 =>
 ((jj_ a0 v4).bind λv5 =>
 ((af_ (ρ:=(((List ac_)×((List ((List UInt8)×Int))×(((List aa_)×((List (List ac_))×Unit))×(((List aa_)×Unit)×Unit))))⊕((Int×((List ((List UInt8)×Int))×(((List aa_)×((List (List ac_))×Unit))×(((List aa_)×((List (List ac_))×Unit))×Unit))))⊕(((List ((List UInt8)×Int))×(((List aa_)×((List (List ac_))×Unit))×(((List aa_)×((List (List ac_))×Unit))×Unit)))⊕(cf_×(Int×Unit)))))) (λ(v6:((List ac_)×(Int×((List ((List UInt8)×Int))×(((List aa_)×((List (List ac_))×Unit))×(((List aa_)×Unit)×Unit)))))) =>
 (cond (decide (v6.2.1<(v5.1.length:Int)))
 ((at? v6.2.2.2.2.1.1 v2.1).bind λv7 =>
 ((at? v6.2.2.2.2.1.1 v2.1).bind λv8 =>
 ((at? v5.1 v6.2.1).bind λv9 =>
 ((lc_ a0 v8 v9).bind λv10 =>
 ((ib_ v10.1).bind λv11 =>
 (((cond (!(bi0 v6.2.2.1 v11.1))
 (cond ((v6.2.2.2.2.1.1.length:Int)==3000)
 (some (inr (inr (inr (inr (inr (([],[]),(2,()))))))))
 ((ib_ v10.1).bind λv12 =>
 ((push? (α:=aa_) v6.2.2.2.2.1.1 [v10.1]).bind λv13 =>
 (some (inl ((v6.2.2.2.2.1.1.length:Int),((ex_ v6.2.2.1 v12.1 (v6.2.2.2.2.1.1.length:Int)),((v6.2.2.2.1.1,(v6.2.2.2.1.2.1,())),((v13,()),())))))))))
 (some (inl ((ey_ 0 v6.2.2.1 v11.1),(v6.2.2.1,((v6.2.2.2.1.1,(v6.2.2.2.1.2.1,())),((v6.2.2.2.2.1.1,()),())))))))).bind λv14 =>
 (cg_ v14 (λv15=>((at? v5.1 v6.2.1).bind λv17 =>
 ((push? (α:=ac_) v6.1 [(v17,v15.1)]).bind λv18 =>
 (some (inl (v18,((w64 (v6.2.1+1)),(v15.2.1,((v15.2.2.1.1,(v15.2.2.1.2.1,())),((v15.2.2.2.1.1,()),()))))))))))
 (λv16=>(some v16)))))))))
 (some (inr (inl (v6.1,(v6.2.2.1,((v6.2.2.2.1.1,(v6.2.2.2.1.2.1,())),((v6.2.2.2.2.1.1,()),()))))))))) ([],(0,(v2.2.1,((v2.2.2.1.1,(v2.2.2.1.2.1,())),((v2.2.2.2.1.1,()),())))))).bind λv19 =>
 (cg_ v19 (λv20=>((push? (α:=(List ac_)) v2.2.2.2.1.2.1 [v20.1]).bind λv22 =>
 (some (inl ((w64 (v2.1+1)),(v20.2.1,((v20.2.2.1.1,(v20.2.2.1.2.1,())),((v20.2.2.2.1.1,(v22,())),()))))))))
 (λv21=>(some v21)))))))
 (some (inr (inl (v2.2.1,((v2.2.2.1.1,(v2.2.2.1.2.1,())),((v2.2.2.2.1.1,(v2.2.2.2.1.2.1,())),())))))))) (0,((ex_ [] v1.1 0),(([],([],())),(([v0.1],([],())),()))))).bind λv23 =>
 (cg_ v23 (λv24=>(some ((v24.2.2.1.1,v24.2.2.1.2.1),(0,()))))
 (λv25=>(some v25)))))))
theorem x_25:aw_ (P:=prog) (cxC [c_58,c_59,c_60,c_61] []) (.p .z (.p .z (.p .z (.p .z (.p .z (.p (.p .z (.ls [.v 8 .int] [] [.m (.s 7) .str .int,.b (.s 2) [.val (.list aj_),.val (.list (.list cv_))],.b (.s 6) [.row aj_ 97,.row (.list cv_) 59]] 0 (.p .z (.p (.p .z (.p .z (.p (.p .z (.ls [.r 10 cv_ 63,.v 11 .int] [.r 10 cv_ 63] [.m (.s 7) .str .int,.b (.s 2) [.val (.list aj_),.val (.list (.list cv_))],.b (.s 6) [.row aj_ 97,.keep]] 2 (.p .z (.p (.p .z (.p .z (.js [.v 13 .int,.m (.s 7) .str .int,.b (.s 2) [.val (.list aj_),.val (.list (.list cv_))],.b (.s 6) [.row aj_ 97,.keep]] .z .z))) .z)))) .z))) .z)))) .z)))))) 25 [ao_] [mm_,.int]=λx=>dz_ x.1:=by kernel_rfl
noncomputable def c_25:Con prog:=ax_ _ _ 25 [ao_] [mm_,.int] _ x_25
noncomputable def dn_ (a0:ad_):Option (cf_×Int×Unit) :=
 ((li_ a0).bind λv0 =>
 (cond (v0.2.1 != 0)
 (some (([],[]),(v0.2.1,())))
 ((((kh_ v0.1).bind λv1 =>
 (some ((ex_ [] v1.1 0),((([]++[v0.1]),()),()))))).bind λv2 =>
 ((af_ (ρ:=(((List ((List UInt8)×Int))×(((List aa_)×((List (List ac_))×Unit))×(((List aa_)×((List (List ac_))×Unit))×Unit)))⊕(cf_×(Int×Unit)))) (λ(v3:(Int×((List ((List UInt8)×Int))×(((List aa_)×((List (List ac_))×Unit))×(((List aa_)×((List (List ac_))×Unit))×Unit))))) =>
 (cond (decide (v3.1<(v3.2.2.2.1.1.length:Int)))
 ((at? v3.2.2.2.1.1 v3.1).bind λv4 =>
 ((at? v3.2.2.2.1.1 v3.1).bind λv5 =>
 ((pw_ a0 v5).bind λv6 =>
 (cond (v6.2.1 != 0)
 (some (inr (inr (([],[]),(v6.2.1,())))))
 ((af_ (ρ:=(((List ac_)×((List ((List UInt8)×Int))×(((List aa_)×((List (List ac_))×Unit))×(((List aa_)×Unit)×Unit))))⊕((Int×((List ((List UInt8)×Int))×(((List aa_)×((List (List ac_))×Unit))×(((List aa_)×((List (List ac_))×Unit))×Unit))))⊕(((List ((List UInt8)×Int))×(((List aa_)×((List (List ac_))×Unit))×(((List aa_)×((List (List ac_))×Unit))×Unit)))⊕(cf_×(Int×Unit)))))) (λ(v7:((List ac_)×(Int×((List ((List UInt8)×Int))×(((List aa_)×((List (List ac_))×Unit))×(((List aa_)×Unit)×Unit)))))) =>
 (cond (decide (v7.2.1<(v6.1.length:Int)))
 ((at? v6.1 v7.2.1).bind λv8 =>
 ((at? v7.2.2.2.2.1.1 v3.1).bind λv9 =>
 ((at? v7.2.2.2.2.1.1 v3.1).bind λv10 =>
 ((kj_ a0 v10 v8).bind λv11 =>
 (cond (v11.2.1 != 0)
 (some (inr (inr (inr (inr (([],[]),(v11.2.1,())))))))
 ((((kh_ v11.1).bind λv12 =>
 (cond (bi0 v7.2.2.1 v12.1)
 (some ((ey_ 0 v7.2.2.1 v12.1),(true,(v7.2.2.1,((v7.2.2.2.2.1.1,()),())))))
 (cond ((v7.2.2.2.2.1.1.length:Int)==3000)
 (some (0,(false,(v7.2.2.1,((v7.2.2.2.2.1.1,()),())))))
 ((push? (α:=aa_) v7.2.2.2.2.1.1 [v11.1]).bind λv13 =>
 (some ((v7.2.2.2.2.1.1.length:Int),(true,((ex_ v7.2.2.1 v12.1 (v7.2.2.2.2.1.1.length:Int)),((v13,()),())))))))))).bind λv14 =>
 (cond (!v14.2.1)
 (some (inr (inr (inr (inr (([],[]),(2,())))))))
 ((push? (α:=ac_) v7.1 [(v8,v14.1)]).bind λv15 =>
 (some (inl (v15,((w64 (v7.2.1+1)),(v14.2.2.1,((v7.2.2.2.1.1,(v7.2.2.2.1.2.1,())),((v14.2.2.2.1.1,()),())))))))))))))))
 (some (inr (inl (v7.1,(v7.2.2.1,((v7.2.2.2.1.1,(v7.2.2.2.1.2.1,())),((v7.2.2.2.2.1.1,()),()))))))))) ([],(0,(v3.2.1,((v3.2.2.1.1,(v3.2.2.1.2.1,())),((v3.2.2.2.1.1,()),())))))).bind λv16 =>
 (cg_ v16 (λv17=>((push? (α:=(List ac_)) v3.2.2.2.1.2.1 [v17.1]).bind λv19 =>
 (some (inl ((w64 (v3.1+1)),(v17.2.1,((v17.2.2.1.1,(v17.2.2.1.2.1,())),((v17.2.2.2.1.1,(v19,())),()))))))))
 (λv18=>(some v18))))))))
 (some (inr (inl (v3.2.1,((v3.2.2.1.1,(v3.2.2.1.2.1,())),((v3.2.2.2.1.1,(v3.2.2.2.1.2.1,())),())))))))) (0,(v2.1,(([],([],())),((v2.2.1.1,([],())),()))))).bind λv20 =>
 (cg_ v20 (λv21=>(some ((v21.2.2.1.1,v21.2.2.1.2.1),(0,()))))
 (λv22=>(some v22)))))))
theorem x_37:aw_ (P:=prog) (cxI (λk=>.z) (λk=>Nat.beq k 69||Nat.beq k 71||Nat.beq k 72||Nat.beq k 104||false) (cxC [c_69,c_71,c_72,c_104] []) 2) (.p .z (.p .z (.p .z (.p .z (.j0 [.m (.s 26) .str .int,.b (.s 6) [.row aj_ 97,.keep,.keep]] .z (.p (.p .z (.ls [.v 7 .int] [] [.m (.s 26) .str .int,.b (.s 2) [.val (.list aj_),.val (.list (.list cv_))],.b (.s 6) [.row aj_ 97,.row (.list cv_) 59,.keep]] 0 (.p .z (.p (.p .z (.p .z (.p .z (.p (.p .z (.ls [.r 10 cv_ 63,.v 61 .int] [.r 10 cv_ 63] [.m (.s 26) .str .int,.b (.s 2) [.val (.list aj_),.val (.list (.list cv_))],.b (.s 6) [.row aj_ 97,.keep,.keep]] 2 (.p .z (.p .z (.p (.p .z (.p .z (.p .z (.j0 [.v 15 .int,.v 16 .bool,.m (.s 26) .str .int,.b (.s 6) [.row aj_ 97,.keep,.keep]] .z .z)))) .z))))) .z)))) .z)))) .z)))))) 37 [ao_] [mm_,.int]=λx=>dn_ x.1:=by kernel_rfl
noncomputable def c_37:Con prog:=ax_ _ _ 37 [ao_] [mm_,.int] _ x_37
end
section
set_option maxRecDepth 100000
set_option maxHeartbeats 0
noncomputable def jp_ (a0:ad_):Option (Bool×Unit) :=
 ((((kk_ a0).bind λv0 =>
 (cond v0.1
 (some (true,()))
 ((hm_ a0).bind λv1 =>
 (some ((v1.1 != 0),())))))).bind λv2 =>
 (cond v2.1
 ((kk_ a0).bind λv3 =>
 (some (v3.1,())))
 (((cond (decide (4<(a0.1.1.length:Int)))
 (some (true,()))
 (cond (decide (4<(a0.1.2.1.length:Int)))
 (some (true,()))
 (cond (decide (3<(a0.1.2.2.1.length:Int)))
 (some (true,()))
 (cond (decide (2<a0.1.2.2.2.2.2.2.1))
 (some (true,()))
 (cond (decide (6<(a0.1.2.2.2.2.1.length:Int)))
 (some (true,()))
 (cond (decide (4<(a0.1.2.2.2.2.2.1.length:Int)))
 (some (true,()))
 (cond (decide (5<(a0.2.2.2.1.length:Int)))
 (some (true,()))
 (some ((decide (3<(a0.2.1.length:Int))),())))))))))).bind λv4 =>
 (cond v4.1
 (some (true,()))
 ((dz_ a0).bind λv5 =>
 (cond (v5.2.1==2)
 (some (true,()))
 (some ((decide (200<(v5.1.1.length:Int))),()))))))))
theorem x_7:aw_ (P:=prog) (cxC [c_23,c_24,c_25] []) (.p .z (.p .z (.p (.j0 [.v 14 .bool] .z .z) (.p (.j0 [.v 61 .bool] .z .z) .z)))) 7 [ao_] [.bool]=λx=>jp_ x.1:=by kernel_rfl
noncomputable def c_7:Con prog:=ax_ _ _ 7 [ao_] [.bool] _ x_7
noncomputable def dv_ (a0:ad_):Option ((List ag_)×Int×Unit) :=
 ((dn_ a0).bind λv0 =>
 (cond (v0.2.1 != 0)
 (cond (v0.2.1 != 0)
 (some ([],(v0.2.1,())))
 none)
 ((dy_ [(-1)] (v0.1.1.length:Int)).bind λv1 =>
 ((af_ (ρ:=((List Int)×((List Int)×Unit))) (λ(v2:((List Int)×(Int×((List Int)×Unit)))) =>
 (cond (decide (v2.2.1<(v0.1.1.length:Int)))
 ((((at? v0.1.1 v2.2.1).bind λv3 =>
 ((ia_ a0.1 v3.1).bind λv4 =>
 (((cond (v4.2.1==0)
 (some (v4.1,()))
 (some (false,())))).bind λv5 =>
 (cond v5.1
 ((at? v2.2.2.1 v2.2.1).bind λv6 =>
 ((at? v2.2.2.1 v2.2.1).bind λv7 =>
 ((push? (α:=Int) v2.1 [v2.2.1]).bind λv8 =>
 (some (v8,((v2.2.2.1.set v2.2.1.toNat 0),()))))))
 (some (v2.1,(v2.2.2.1,())))))))).bind λv9 =>
 (some (inl (v9.1,((w64 (v2.2.1+1)),(v9.2.1,()))))))
 (some (inr (v2.1,(v2.2.2.1,())))))) ([],(0,(v1,())))).bind λv10 =>
 ((mk? (α:=(List Int)) (v0.1.1.length:Int) []).bind λv11 =>
 ((af_ (ρ:=((List (List Int))×Unit)) (λ(v12:(Int×((List (List Int))×Unit))) =>
 (cond (decide (v12.1<(v0.1.2.length:Int)))
 ((at? v0.1.2 v12.1).bind λv13 =>
 ((af_ (ρ:=((List (List Int))×Unit)) (λ(v14:(Int×((List (List Int))×Unit))) =>
 (cond (decide (v14.1<(v13.length:Int)))
 ((((at? v13 v14.1).bind λv15 =>
 ((at? v14.2.1 v15.2).bind λv16 =>
 ((at? v14.2.1 v15.2).bind λv17 =>
 ((push? (α:=Int) v17 [v12.1]).bind λv18 =>
 ((at? v14.2.1 v15.2).bind λv19 =>
 (cond ((v15.2==v15.2)&&true)
 ((at? v14.2.1 v15.2).bind λv20 =>
 (some ((v14.2.1.set v15.2.toNat v18),())))
 none))))))).bind λv21 =>
 (some (inl ((w64 (v14.1+1)),(v21.1,())))))
 (some (inr (v14.2.1,()))))) (0,(v12.2.1,()))).bind λv22 =>
 (some (inl ((w64 (v12.1+1)),(v22.1,()))))))
 (some (inr (v12.2.1,()))))) (0,(v11,()))).bind λv23 =>
 ((af_ (ρ:=((List Int)×Unit)) (λ(v24:((List Int)×((List Int)×Unit))) =>
 (cond (decide (0<(v24.1.length:Int)))
 ((at? v24.1 0).bind λv25 =>
 ((at? v24.1 0).bind λv26 =>
 ((sub? v24.1 1 (v24.1.length:Int)).bind λv27 =>
 ((at? v23.1 v26).bind λv28 =>
 ((af_ (ρ:=((List Int)×((List Int)×Unit))) (λ(v29:((List Int)×(Int×((List Int)×Unit)))) =>
 (cond (decide (v29.2.1<(v28.length:Int)))
 ((((at? v28 v29.2.1).bind λv30 =>
 ((at? v29.2.2.1 v30).bind λv31 =>
 ((at? v29.2.2.1 v30).bind λv32 =>
 (cond (decide (v32<0))
 ((at? v29.2.2.1 v26).bind λv33 =>
 ((at? v29.2.2.1 v26).bind λv34 =>
 ((at? v29.2.2.1 v30).bind λv35 =>
 ((at? v29.2.2.1 v30).bind λv36 =>
 ((push? (α:=Int) v29.1 [v30]).bind λv37 =>
 (some (v37,((v29.2.2.1.set v30.toNat (w64 (v34+1))),()))))))))
 (some (v29.1,(v29.2.2.1,())))))))).bind λv38 =>
 (some (inl (v38.1,((w64 (v29.2.1+1)),(v38.2.1,()))))))
 (some (inr (v29.1,(v29.2.2.1,())))))) (v27,(0,(v24.2.1,())))).bind λv39 =>
 (some (inl (v39.1,(v39.2.1,())))))))))
 (some (inr (v24.2.1,()))))) (v10.1,(v10.2.1,()))).bind λv40 =>
 ((at? v40.1 0).bind λv41 =>
 ((at? v40.1 0).bind λv42 =>
 (cond (decide (v42<0))
 (some ([],(50,())))
 ((af_ (ρ:=(((List ag_)×Unit)×Unit)) (λ(v43:(Int×(((List ag_)×Unit)×Unit))) =>
 ((at? v40.1 v43.1).bind λv44 =>
 ((at? v40.1 v43.1).bind λv45 =>
 (cond (decide (0<v45))
 ((((at? v0.1.2 v43.1).bind λv46 =>
 ((af_ (ρ:=(((List Int)×(Unit×(((List ag_)×Unit)×Unit)))⊕((List Int)×(((List ag_)×Unit)×Unit)))) (λ(v47:(Int×((List Int)×(Unit×(((List ag_)×Unit)×Unit))))) =>
 (cond (decide (v47.1<(v46.length:Int)))
 ((at? v46 v47.1).bind λv48 =>
 ((at? v40.1 v48.2).bind λv49 =>
 ((at? v40.1 v48.2).bind λv50 =>
 ((at? v40.1 v43.1).bind λv51 =>
 ((at? v40.1 v43.1).bind λv52 =>
 (cond (v50==(w64 (v52 - 1)))
 ((at? v40.1 v43.1).bind λv53 =>
 ((at? v40.1 v43.1).bind λv54 =>
 (cond (decide (0<v54))
 ((push? (α:=ag_) v47.2.2.2.1.1 [v48.1]).bind λv55 =>
 ((at? v47.2.1 0).bind λv56 =>
 (some (inr (inr ((v47.2.1.set (0:Int).toNat v48.2),((v55,()),())))))))
 (some (inl ((w64 (v47.1+1)),(v47.2.1,((),((v47.2.2.2.1.1,()),())))))))))
 (some (inl ((w64 (v47.1+1)),(v47.2.1,((),((v47.2.2.2.1.1,()),()))))))))))))
 (some (inr (inl (v47.2.1,((),((v47.2.2.2.1.1,()),())))))))) (0,([v43.1],((),((v43.2.1.1,()),()))))).bind λv57 =>
 (cg_ v57 (λv58=>(some (v58.1,((v58.2.2.1.1,()),()))))
 (λv59=>(some v59)))))).bind λv60 =>
 ((at? v60.1 0).bind λv61 =>
 (some (inl (v61,((v60.2.1.1,()),()))))))
 (some (inr ((v43.2.1.1,()),()))))))) (0,(([],()),()))).bind λv62 =>
 (some (v62.1.1,(0,()))))))))))))))
theorem x_9:aw_ (P:=prog) (cxI (λk=>cond (Nat.beq k 28) (.p .z (.p (.p .z (.lp [.a 3 .int 3] [] [.b (.s 2) [.row ar_ 61]] 0 (.p .z (.j0 [.o (.s 3) .int,.b (.s 2) [.row ar_ 61]] (.p .z (.rf [2,3] .z .z)) .z)))) .z)) (cond (Nat.beq k 63) (.p .z (.p .z (.p .z (.p (.p .z (.lp [.r 8 .int 3,.v 33 .int] [.r 8 .int 3] [.o (.s 27) .int] 0 (.p .z (.p .z (.j0 [.r 8 .int 3,.o (.s 27) .int] (.p .z (.p .z (.j0 [.v 50 .bool] .z .z))) .z))))) (.p .z (.p (.p .z (.lp [.v 69 .int] [] [.g (.s 13) (.list .int)] 2 (.p .z (.p .z (.p (.p .z (.p .z (.lp [.v 76 .int] [] [.g (.s 13) (.list .int)] 4 (.p .z (.p .z (.j0 [.g (.s 13) (.list .int)] .z .z)))))) .z))))) (.q [(.s 13)] (.lp [.r 8 .int 3] [] [.o (.s 27) .int] 6 (.p .z (.p .z (.p .z (.p .z (.lp [.r 8 .int 3,.v 110 .int] [.r 8 .int 3] [.o (.s 27) .int] 8 (.p .z (.p .z (.j0 [.r 8 .int 3,.o (.s 27) .int] .z .z))))))))) .z))))))) (cond (Nat.beq k 67) (.p .z (.ls [.v 15 .int] [] [.o (.y (.s 0) 3) .int,.y (.s 0),.b (.y (.s 0) 2) [.row ar_ 61]] 0 (.p .z (.p .z (.p (.p .z (.p (.sp 38 41) .z)) .z))))) (.z)))) (λk=>Nat.beq k 37||Nat.beq k 64||Nat.beq k 98||Nat.beq k 99||false) (cxR [rp_98] [c_37,c_64,c_99] []) 8) .z 9 [ao_] [(.list ar_),.int]=λx=>dv_ x.1:=by kernel_rfl
noncomputable def c_9:Con prog:=ax_ _ _ 9 [ao_] [(.list ar_),.int] _ x_9
noncomputable def gl_ (a0:ad_):Option (Int×Int×Unit) :=
 ((dn_ a0).bind λv0 =>
 (cond (v0.2.1 != 0)
 (cond (v0.2.1 != 0)
 (some (0,(v0.2.1,())))
 none)
 ((dy_ [(-1)] (v0.1.1.length:Int)).bind λv1 =>
 ((af_ (ρ:=((List Int)×((List Int)×Unit))) (λ(v2:((List Int)×(Int×((List Int)×Unit)))) =>
 (cond (decide (v2.2.1<(v0.1.1.length:Int)))
 ((((at? v0.1.1 v2.2.1).bind λv3 =>
 ((ia_ a0.1 v3.1).bind λv4 =>
 (((cond (v4.2.1==0)
 (some (v4.1,()))
 (some (false,())))).bind λv5 =>
 (cond v5.1
 ((at? v2.2.2.1 v2.2.1).bind λv6 =>
 ((at? v2.2.2.1 v2.2.1).bind λv7 =>
 ((push? (α:=Int) v2.1 [v2.2.1]).bind λv8 =>
 (some (v8,((v2.2.2.1.set v2.2.1.toNat 0),()))))))
 (some (v2.1,(v2.2.2.1,())))))))).bind λv9 =>
 (some (inl (v9.1,((w64 (v2.2.1+1)),(v9.2.1,()))))))
 (some (inr (v2.1,(v2.2.2.1,())))))) ([],(0,(v1,())))).bind λv10 =>
 ((mk? (α:=(List Int)) (v0.1.1.length:Int) []).bind λv11 =>
 ((af_ (ρ:=((List (List Int))×Unit)) (λ(v12:(Int×((List (List Int))×Unit))) =>
 (cond (decide (v12.1<(v0.1.2.length:Int)))
 ((at? v0.1.2 v12.1).bind λv13 =>
 ((af_ (ρ:=((List (List Int))×Unit)) (λ(v14:(Int×((List (List Int))×Unit))) =>
 (cond (decide (v14.1<(v13.length:Int)))
 ((((at? v13 v14.1).bind λv15 =>
 ((at? v14.2.1 v15.2).bind λv16 =>
 ((at? v14.2.1 v15.2).bind λv17 =>
 ((push? (α:=Int) v17 [v12.1]).bind λv18 =>
 ((at? v14.2.1 v15.2).bind λv19 =>
 (cond ((v15.2==v15.2)&&true)
 ((at? v14.2.1 v15.2).bind λv20 =>
 (some ((v14.2.1.set v15.2.toNat v18),())))
 none))))))).bind λv21 =>
 (some (inl ((w64 (v14.1+1)),(v21.1,())))))
 (some (inr (v14.2.1,()))))) (0,(v12.2.1,()))).bind λv22 =>
 (some (inl ((w64 (v12.1+1)),(v22.1,()))))))
 (some (inr (v12.2.1,()))))) (0,(v11,()))).bind λv23 =>
 ((af_ (ρ:=((List Int)×Unit)) (λ(v24:((List Int)×((List Int)×Unit))) =>
 (cond (decide (0<(v24.1.length:Int)))
 ((at? v24.1 0).bind λv25 =>
 ((at? v24.1 0).bind λv26 =>
 ((sub? v24.1 1 (v24.1.length:Int)).bind λv27 =>
 ((at? v23.1 v26).bind λv28 =>
 ((af_ (ρ:=((List Int)×((List Int)×Unit))) (λ(v29:((List Int)×(Int×((List Int)×Unit)))) =>
 (cond (decide (v29.2.1<(v28.length:Int)))
 ((((at? v28 v29.2.1).bind λv30 =>
 ((at? v29.2.2.1 v30).bind λv31 =>
 ((at? v29.2.2.1 v30).bind λv32 =>
 (cond (decide (v32<0))
 ((at? v29.2.2.1 v26).bind λv33 =>
 ((at? v29.2.2.1 v26).bind λv34 =>
 ((at? v29.2.2.1 v30).bind λv35 =>
 ((at? v29.2.2.1 v30).bind λv36 =>
 ((push? (α:=Int) v29.1 [v30]).bind λv37 =>
 (some (v37,((v29.2.2.1.set v30.toNat (w64 (v34+1))),()))))))))
 (some (v29.1,(v29.2.2.1,())))))))).bind λv38 =>
 (some (inl (v38.1,((w64 (v29.2.1+1)),(v38.2.1,()))))))
 (some (inr (v29.1,(v29.2.2.1,())))))) (v27,(0,(v24.2.1,())))).bind λv39 =>
 (some (inl (v39.1,(v39.2.1,())))))))))
 (some (inr (v24.2.1,()))))) (v10.1,(v10.2.1,()))).bind λv40 =>
 ((at? v40.1 0).bind λv41 =>
 ((at? v40.1 0).bind λv42 =>
 (cond (decide (v42<0))
 (some (0,(50,())))
 ((af_ (ρ:=(Int×(((List ab_)×Unit)×Unit))) (λ(v43:(Int×(((List ab_)×Unit)×Unit))) =>
 ((((bj9 (τ:=(Unit⊕(Bool×Unit))) (λ(v44:ab_) (v45:Unit) =>
 ((at? v40.1 v44.1).bind λv47 =>
 ((at? v40.1 v44.1).bind λv48 =>
 (cond (v48==0)
 (some (inr (inr (true,()))))
 (some (inl ())))))) (λ(v46:Unit) =>
 (some (inl ()))) v43.2.1.1 ()).bind λv49 =>
 (cg_ v49 (λv50=>(some ((!false),())))
 (λv51=>(some ((!v51.1),())))))).bind λv52 =>
 (cond v52.1
 ((af_ (ρ:=(((List ab_)×Unit)×Unit)) (λ(v53:(Int×(((List ab_)×Unit)×Unit))) =>
 (cond (decide (v53.1<a0.1.2.2.2.2.2.2.1))
 ((bj9 (τ:=(((List ab_)×Unit)⊕((List ab_)×Unit))) (λ(v54:ab_) (v55:((List ab_)×Unit)) =>
 ((at? v0.1.2 v54.1).bind λv57 =>
 ((af_ (ρ:=((List ab_)×Unit)) (λ(v58:(Int×((List ab_)×Unit))) =>
 (cond (decide (v58.1<(v57.length:Int)))
 ((((at? v57 v58.1).bind λv59 =>
 (cond (v59.1.1==v53.1)
 (some ((ex_ v58.2.1 v59.2 1),()))
 (some (v58.2.1,()))))).bind λv60 =>
 (some (inl ((w64 (v58.1+1)),(v60.1,())))))
 (some (inr (v58.2.1,()))))) (0,((ex_ v55.1 v54.1 1),()))).bind λv61 =>
 (some (inl ((ah6 v61.1),())))))) (λ(v56:((List ab_)×Unit)) =>
 (some (inl (v56.1,())))) v53.2.1.1 ([],())).bind λv62 =>
 (cg_ v62 (λv63=>(some (inl ((w64 (v53.1+1)),((v63.1,()),())))))
 (λv64=>none)))
 (some (inr ((v53.2.1.1,()),()))))) (0,((v43.2.1.1,()),()))).bind λv65 =>
 (some (inl ((w64 (v43.1+1)),((v65.1.1,()),())))))
 (some (inr (v43.1,((v43.2.1.1,()),()))))))) (0,(((ex_ [] 0 1),()),()))).bind λv66 =>
 (some (v66.1,(0,()))))))))))))))
theorem x_15:aw_ (P:=prog) (cxI (λk=>cond (Nat.beq k 35) (.p .z (.p (.mp [] [] [.v 2 .bool] [] .z) .z)) (cond (Nat.beq k 63) (.p .z (.p .z (.p .z (.p (.p .z (.lp [.r 8 .int 3,.v 33 .int] [.r 8 .int 3] [.o (.s 27) .int] 0 (.p .z (.p .z (.j0 [.r 8 .int 3,.o (.s 27) .int] (.p .z (.p .z (.j0 [.v 50 .bool] .z .z))) .z))))) (.p .z (.p (.p .z (.lp [.v 69 .int] [] [.g (.s 13) (.list .int)] 2 (.p .z (.p .z (.p (.p .z (.p .z (.lp [.v 76 .int] [] [.g (.s 13) (.list .int)] 4 (.p .z (.p .z (.j0 [.g (.s 13) (.list .int)] .z .z)))))) .z))))) (.q [(.s 13)] (.lp [.r 8 .int 3] [] [.o (.s 27) .int] 6 (.p .z (.p .z (.p .z (.p .z (.lp [.r 8 .int 3,.v 110 .int] [.r 8 .int 3] [.o (.s 27) .int] 8 (.p .z (.p .z (.j0 [.r 8 .int 3,.o (.s 27) .int] .z .z))))))))) .z))))))) (.z))) (λk=>Nat.beq k 37||Nat.beq k 64||Nat.beq k 98||Nat.beq k 99||false) (cxR [rp_98] [c_37,c_64,c_99] []) 4) (.p .z (.p .z (.p .z (.p .z (.p .z (.p .z (.p .z (.p (.lp [.v 8 .int] [.v 8 .int] [.b (.s 6) [.map .int .int]] 0 (.p (.j0 [.v 34 .bool] .z .z) (.p (.p .z (.lp [.v 40 .int] [] [.b (.s 6) [.map .int .int]] 2 (.p .z (.p .z (.p (.p .z (.p .z (.p (.mp [] [] [] [.m (.s 10) .int .int] (.p .z (.p .z (.lp [.v 61 .int] [] [.m (.s 10) .int .int] 6 (.p .z (.p .z (.j0 [.m (.s 10) .int .int] .z .z))))))) .z))) .z))))) .z))) .z)))))))) 15 [ao_] [.int,.int]=λx=>gl_ x.1:=by kernel_rfl
noncomputable def c_15:Con prog:=ax_ _ _ 15 [ao_] [.int,.int] _ x_15
noncomputable def el_ (a0:ad_):Option (Int×Int×Unit) :=
 ((dz_ a0).bind λv0 =>
 (cond (v0.2.1 != 0)
 (some (0,(v0.2.1,())))
 ((mk? (α:=Bool) (v0.1.1.length:Int) false).bind λv1 =>
 ((at? v1 0).bind λv2 =>
 ((at? v1 0).bind λv3 =>
 ((af_ (ρ:=(Unit⊕(Int×(Int×Unit)))) (λ(v4:((List Bool)×(Int×Unit))) =>
 (cond (decide (v4.2.1≤(v0.1.1.length:Int)))
 ((af_ (ρ:=(Unit⊕(((List Bool)×(Int×Unit))⊕(Unit⊕(Int×(Int×Unit)))))) (λ(v5:(Int×Unit)) =>
 (cond (decide (v5.1<(v4.1.length:Int)))
 ((((at? v4.1 v5.1).bind λv6 =>
 ((at? v4.1 v5.1).bind λv7 =>
 (cond v7
 ((at? v0.1.1 v5.1).bind λv8 =>
 ((cz_ a0 v8).bind λv9 =>
 (some (v9.1,()))))
 (some (false,())))))).bind λv10 =>
 (cond v10.1
 (some (inr (inr (inr (inr (v4.2.1,(0,())))))))
 (some (inl ((w64 (v5.1+1)),())))))
 (some (inr (inl ()))))) (0,())).bind λv11 =>
 (cg_ v11 (λv12=>((af_ (ρ:=((List Bool)×Unit)) (λ(v14:((List Bool)×(Int×Unit))) =>
 (cond (decide (v14.2.1<a0.1.2.2.2.2.2.2.1))
 ((push? (α:=Bool) [] v14.1).bind λv15 =>
 ((af_ (ρ:=((List Bool)×Unit)) (λ(v16:(Int×((List Bool)×Unit))) =>
 (cond (decide (v16.1<(v14.1.length:Int)))
 ((af_ (ρ:=((List Bool)×Unit)) (λ(v17:(Int×((List Bool)×Unit))) =>
 ((((at? v0.1.2 v16.1).bind λv18 =>
 (cond (decide (v17.1<(v18.length:Int)))
 ((at? v14.1 v16.1).bind λv19 =>
 ((at? v14.1 v16.1).bind λv20 =>
 (some (v20,()))))
 (some (false,()))))).bind λv21 =>
 (cond v21.1
 ((((at? v0.1.2 v16.1).bind λv22 =>
 ((at? v22 v17.1).bind λv23 =>
 (cond (v23.1.1==v14.2.1)
 ((at? v0.1.2 v16.1).bind λv24 =>
 ((at? v24 v17.1).bind λv25 =>
 ((at? v17.2.1 v25.2).bind λv26 =>
 ((at? v17.2.1 v25.2).bind λv27 =>
 (some ((v17.2.1.set v25.2.toNat true),()))))))
 (some (v17.2.1,())))))).bind λv28 =>
 (some (inl ((w64 (v17.1+1)),(v28.1,())))))
 (some (inr (v17.2.1,())))))) (0,(v16.2.1,()))).bind λv29 =>
 (some (inl ((w64 (v16.1+1)),(v29.1,())))))
 (some (inr (v16.2.1,()))))) (0,(v15,()))).bind λv30 =>
 (some (inl (v30.1,((w64 (v14.2.1+1)),()))))))
 (some (inr (v14.1,()))))) (v4.1,(0,()))).bind λv31 =>
 (some (inl (v31.1,((w64 (v4.2.1+1)),()))))))
 (λv13=>(some v13))))
 (some (inr (inl ()))))) ((v1.set (0:Int).toNat true),(0,()))).bind λv32 =>
 (cg_ v32 (λv33=>(some (0,(50,()))))
 (λv34=>(some v34)))))))))
theorem x_16:aw_ (P:=prog) (cxC [c_25,c_36] []) (.p .z (.p .z (.p .z (.p .z (.p .z (.p (.p .z (.ls [.r 6 .bool 4,.v 7 .int] [] [] 0 (.p .z (.p (.p (.p .z (.ls [.v 8 .int] [] [] 2 (.p .z (.p (.j0 [.v 52 .bool] .z .z) .z)))) (.p .z (.lp [.r 6 .bool 4,.v 9 .int] [.r 6 .bool 4] [] 4 (.p .z (.p (.p .z (.p (.p .z (.lp [.v 11 .int] [] [.o (.s 10) .bool] 6 (.p .z (.p (.p .z (.lp [.v 12 .int] [] [.o (.s 10) .bool] 8 (.p (.j0 [.v 83 .bool] .z .z) (.j0 [.o (.s 10) .bool] .z .z)))) .z)))) .z)) .z))))) .z)))) .z)))))) 16 [ao_] [.int,.int]=λx=>el_ x.1:=by kernel_rfl
noncomputable def c_16:Con prog:=ax_ _ _ 16 [ao_] [.int,.int] _ x_16
end
section
set_option maxRecDepth 100000
set_option maxHeartbeats 0
noncomputable def fv_  : Option (Bool×Unit) :=
 ((dv_ (([[104,97,108,108],[118,97,117,108,116]],([([98,111,120],(0,(2,0))),([100,111,111,114],(0,(2,0)))],([([107,101,121],(0,[(0,(1,false))]))],([(0,(1,[(1,(1,false))]))],([([111,112,101,110],(0,(0,([],([],([(0,1)],([],[]))))))),([116,117,114,110],(0,((-1),([0],([],([(1,1)],([0],[])))))))],([],(1,[(1,(1,false))]))))))),([(2,4)],([[3,1]],([([108,101,97,102],(0,(0,([],(2,(0,(1,(4,(0,([],false)))))))))),([98,97,99,107],(0,(0,([(0,(0,false))],(3,(1,(0,(0,(0,([],false)))))))))),([99,97,114,100],(1,((-1),([],(0,(0,(0,(0,(0,([],false))))))))))],1))))).bind λv0 =>
 (cond (v0.2.1==0)
 (cond ((v0.1.length:Int)==3)
 ((at? v0.1 0).bind λv1 =>
 (cond ((v1.1==0)&&((v1.2.1==4)&&(v1.2.2==0)))
 ((at? v0.1 1).bind λv2 =>
 (cond (v2.2.1==2)
 ((at? v0.1 2).bind λv3 =>
 (some ((v3.2.2==1),())))
 (some (false,()))))
 (some (false,()))))
 (some (false,())))
 (some (false,()))))
theorem x_8:aw_ (P:=prog) (cxC [c_9,c_26] []) .z 8 [] [.bool]=λx=>fv_:=by kernel_rfl
noncomputable def c_8:Con prog:=ax_ _ _ 8 [] [.bool] _ x_8
end
section
set_option maxRecDepth 100000
set_option maxHeartbeats 0
noncomputable def gt_ (a0:ad_):Option (Bool×Unit) :=
 ((jp_ a0).bind λv0 =>
 (cond v0.1
 ((fv_).bind λv1 =>
 (some (v1.1,())))
 ((ld_ a0).bind λv2 =>
 ((gl_ v2.1).bind λv3 =>
 ((el_ a0).bind λv4 =>
 ((dv_ v2.1).bind λv5 =>
 (((cond (v3.1 != v4.1)
 (some (true,()))
 (cond (v3.2.1 != v4.2.1)
 (some (true,()))
 (some ((v3.2.1 != v5.2.1),()))))).bind λv6 =>
 (cond v6.1
 (some (false,()))
 (cond (v3.2.1 != 0)
 ((fv_).bind λv7 =>
 (some (v7.1,())))
 (cond (decide (v3.1≤(v5.1.length:Int)))
 (cond (decide ((v5.1.length:Int)≤(w64 (v3.1 * a0.1.2.2.2.2.2.2.1))))
 ((fv_).bind λv8 =>
 (some (v8.1,())))
 (some (false,())))
 (some (false,()))))))))))))
theorem x_4:aw_ (P:=prog) (cxC [c_7,c_8,c_9,c_10,c_15,c_16] []) (.p .z (.p .z (.p .z (.p .z (.p .z (.p .z (.p (.j0 [.v 42 .bool] .z .z) .z))))))) 4 [ao_] [.bool]=λx=>gt_ x.1:=by kernel_rfl
noncomputable def c_4:Con prog:=ax_ _ _ 4 [ao_] [.bool] _ x_4
end
end Go.Proofs.YtgeehfnbhbibeaaGreatDoor.Rx
namespace Go.Proofs.YtgeehfnbhbibeaaGreatDoor.Rx
open Go Pad Rex Sum
section
theorem av_ {α:Type} {l:List α} (h:Sm l.length):push? [] l=some l:=by
 rw[ux_ (by simp only[k5_];omega)]
 rfl
theorem ch_ {α:Type} {l:List α} {x:α} (h:Sm l.length):push? l [x]=some (l++[x]):=ux_ (by simp only[c4_,k5_];omega)
theorem rl_ {α:Type} {l:List α} {i:Nat} {x:α} (h:l[i]?=some x):l.set ((i:Nat):Int).toNat x=l:=by
 show l.set i x=l
 refine f2_ λj => ?_
 rw[g1_]
 split
 ·next e =>
  subst e
  rw[if_pos (am_ h),h]
 ·rfl
theorem sh_ (c:List bg_) (h:Sm c.length):ck_ c=some (c,()):=by
 unfold ck_
 rw[av_ h]
 rfl
theorem af8 (c:List Int) (h:Sm c.length):dp_ c=some (c,()):=by
 unfold dp_
 rw[av_ h]
 rfl
theorem os_ {α τ:Type} {l:List α} (hl:Sm l.length) {body:(Int×(List α×Unit))→Option ((Int×(List α×Unit))⊕(List α×Unit))} {K:(List α×Unit)→Option τ} {x:Option τ}
  (h:∀ (i:Nat) y,l[i]?=some y→body ((i:Int),(l,()))=some (.inl ((w64 ((i:Int)+1)),(l,())))) (e:body ((l.length:Int),(l,()))=some (.inr (l,()))) (hk:K (l,())=x):(af_ body (0,(l,()))).bind K=x:=by
 refine bo_ l (λ_ _=>none) (λi=>((i:Int),(l,()))) (r0:=(l,())) (λi y hy => ?_) e ?_
 ·have hi:=am_ hy
  rw[h i y hy,az_ (show Sm i by omega)]
 ·have:gb_ (λ(_:Nat) (_:α)=>(none:Option (List α×Unit))) 0 l=none:=(il_ l 0).2 λ_ _ _=>rfl
  rw[this]
  exact hk
theorem bh2 {r:ae_} (h:SmR r):le_ r=some (r,()):=by
 unfold le_
 simp only[av_ h.pl,av_ h.th,av_ h.pr,av_ h.wy,av_ h.ac,av_ h.au,sh_ _ h.go,a0_]
 refine os_ h.pr (λi y hy => ?_) ?_ ?_
 ·have:=h.prn y (au_ hy)
  simp only[dlt (am_ hy),a5_,ah_ hy,a0_,sh_ _ this.2,rl_ hy]
 ·simp only[dnl,a2_]
 refine os_ h.wy (λi y hy => ?_) ?_ ?_
 ·have:=h.wyn y (au_ hy)
  simp only[dlt (am_ hy),a5_,ah_ hy,a0_,sh_ _ this,rl_ hy]
 ·simp only[dnl,a2_]
 refine os_ h.ac (λi y hy => ?_) ?_ ?_
 ·obtain⟨h1,h2,h3,h4,h5,h6⟩:=h.acn y (au_ hy)
  simp only[dlt (am_ hy),a5_,ah_ hy,a0_,sh_ _ h3,af8 _ h2,af8 _ h5,af8 _ h6,av_ h4,rl_ hy]
 ·simp only[dnl,a2_]
 refine os_ h.au (λi y hy => ?_) ?_ ?_
 ·have:=h.aun y (au_ hy)
  simp only[dlt (am_ hy),a5_,ah_ hy,a0_,sh_ _ this,rl_ hy]
 ·simp only[dnl,a2_]
 rfl
theorem yi_ (c:ak_) (h:Sm c.2.2.2.2.2.1.length):go_ c=some (c,()):=by
 unfold go_
 rw[av_ h]
 rfl
theorem bh0 {g:ad_} (h:SmG g):ld_ g=some (g,()):=by
  have hl:Sm g.2.1.length:=by have:=h.lk;omega
  have hn:Sm g.2.2.2.1.length:=by have:=h.nt;omega
  have hc:Sm g.2.2.1.length:=by have:=h.cd;omega
  unfold ld_
  rw[bh2 h.room]
  simp only[av_ hl,av_ hn,a0_]
  have hgo:=ke_ g.2.2.1 (λ_ t x=>t++[x]) (λi t=>((i:Int),((t,()),()))) (λt=>((t,()),())) [] (body:=(λ(v3:(Int×(((List (List Int))×Unit)×Unit))) =>
 (cond (decide (v3.1<(g.2.2.1.length:Int)))
 ((at? g.2.2.1 v3.1).bind λv4 =>
 ((push? (α:=Int) [] v4).bind λv5 =>
 ((push? (α:=(List Int)) v3.2.1.1 [v5]).bind λv6 =>
 (some (inl ((w64 (v3.1+1)),((v6,()),())))))))
 (some (inr ((v3.2.1.1,()),())))))) (λi t=>t=g.2.2.1.take i) (by simp) (λi x t hx ht=>by
    have hi:=am_ hx
    have hx2:Sm x.length:=by have:=h.cdn x (au_ hx);omega
    have ht2:Sm t.length:=by rw[ht,c9_];omega
    refine⟨?_,?_⟩
    · simp only[dlt hi,a5_,ah_ hx,a0_,av_ hx2,ch_ ht2,az_ (show Sm i by omega)]
    · rw[ht,d7_,hx]
      rfl) (λt ht=>by simp only[dnl,a2_])
  obtain⟨t,ht,hw⟩:=hgo
  rw[d9_] at ht
  subst ht
  refine e5_ (congrArg (λo=>Option.bind o _) hw) ?_
  rw[a0_]
  refine os_ hn (λi y hy => ?_) ?_ ?_
  · have hy2:=h.ntn y (au_ hy)
    simp only[dlt (am_ hy),a5_,ah_ hy,a0_,av_ (show Sm y.2.2.2.1.length by omega),rl_ hy,yi_ _ (show Sm y.2.2.2.2.2.2.2.2.2.1.length by omega)]
  · simp only[dnl,a2_]
  rfl
end
section
set_option maxRecDepth 10000
theorem ax3 {σ ρ τ:Type} (n:Nat) (F:Nat→τ→σ) (R:τ→ρ) (t0:τ) {body:σ→Option (σ⊕ρ)} (I:Nat→τ→Prop) (h0:I 0 t0)
  (h:∀ i t,i<n→I i t→Tot (body (F i t)) (λr=>∃ t',r = .inl (F (i+1) t')∧I (i+1) t')) (e:∀ t,I n t→body (F n t)=some (.inr (R t))) :
  Tot (af_ body (F 0 t0)) (λr=>∃ t,r=R t∧I n t):=by
 refine lu_ (λi s=>∃ t,s=F i t∧I i t) _ n 0 (F 0 t0) ⟨t0,rfl,h0⟩ (λj s h1 h2 hs => ?_) (λs hs => ?_)
 ·obtain⟨t,rfl,ht⟩:=hs
  obtain⟨r,hr,t',rfl,ht'⟩:=h j t (by omega) ht
  exact .inl ⟨_,hr,t',rfl,ht'⟩
 ·obtain⟨t,rfl,ht⟩:=hs
  rw[b0_] at ht ⊢
  exact⟨_,e t ht,t,rfl,ht⟩
structure VS (r:ae_) (s:ai_):Prop where
 l1:s.1.length=r.2.1.length
 l2:s.2.1.length=r.2.2.1.length
 l3:(s.2.2.length:Int)=r.2.2.2.2.2.2.1
 th:∀ (i:Nat) n,s.1[i]?=some n→nk_ r.2.1 (i:Int) n=true
 pr:∀ (i:Nat) p,s.2.1[i]?=some p→inR r p=true
 py:∀ (i:Nat) p,s.2.2[i]?=some p→ry_ r p=true
theorem cn9 {r:ae_} {s:ai_} (h:VS r s):ckS r s=0:=by
 unfold ckS
 have hl:ad6 r s=false:=by
  unfold ad6
  have:=h.l1
  have:=h.l2
  have:=h.l3
  simp only[c0_,bne_eq_false_iff_eq]
  omega
 rw[hl,a2_]
 rw[(il_ s.1 0).2 (λj x hx=>by rw[b0_,h.th j x hx];rfl),j8_]
 rw[(il_ s.2.1 0).2 (λj x hx=>by rw[h.pr j x hx];rfl),j8_]
 rw[(il_ s.2.2 0).2 (λj x hx=>by rw[h.py j x hx];rfl),j8_]
theorem mo_ {r:ae_} (h:SmR r) (ok:OkR r) {i n:Int} (hs:nk_ r.2.1 i n=true):(0≤i∧i<r.2.1.length)∧(0≤n∧n≤5):=by
 unfold nk_ at hs
 rw[a1_] at hs
 have hi:=ce_.1 hs.1
 have hth:=h.th
 rw[ez_ (by omega) (by omega)] at hi
 obtain⟨t,ht,hg⟩:=cc2 (l:=r.2.1) (i:=i) (by omega) (by omega)
 have h2:=hs.2
 rw[ht] at h2
 have hn:=ce_.1 h2
 have:=ok.th _ _ hg
 unfold bl9 at this
 simp only[a1_] at this
 have h3:=ce_.1 this.2.2.1
 rw[ez_ (by omega) (by omega)] at hn
 omega
end
end Go.Proofs.YtgeehfnbhbibeaaGreatDoor.Rx
namespace Go.Proofs.YtgeehfnbhbibeaaGreatDoor.Rx
open Go Pad Rex Go.Proofs Go.Proofs.Tryz Sum
section
set_option maxRecDepth 100000
noncomputable def autB (a0:ae_) (th pr py:List Int):(Int×Unit)→Option ((Int×Unit)⊕(Unit⊕(Int×Unit))) :=
 (λ(v14:(Int×Unit)) =>
 (cond (decide (v14.1<(a0.2.2.2.2.2.1.length:Int)))
 ((at? a0.2.2.2.2.2.1 v14.1).bind λv15 =>
 ((((at? th v15.2.1).bind λv16 =>
 ((at? th v15.2.1).bind λv17 =>
 (cond (v17 != v15.2.2)
 ((bc_ (a0,(th,(pr,py))) v15.1).bind λv18 =>
 (some (v18.1,())))
 (some (false,())))))).bind λv19 =>
 (cond v19.1
 (some (inr (inr (v14.1,()))))
 (some (inl ((w64 (v14.1+1)),()))))))
 (some (inr (inl ())))))
noncomputable def setB (a0:ae_) (v11 v12:List Int):(Int×((List Int)×Unit))→Option ((Int×((List Int)×Unit))⊕(((List Int)×Unit)⊕(Bool×((List Int)×Unit)))) :=
 (λ(v13:(Int×((List Int)×Unit))) =>
 (cond (decide (v13.1<101))
 ((((af_ (ρ:=(Unit⊕(Int×Unit))) (autB a0 v13.2.1 v11 v12) (0,())).bind λv20 =>
 (cg_ v20 (λv21=>(some ((-1),())))
 (λv22=>(some v22))))).bind λv23 =>
 (cond (decide (v23.1<0))
 (some (inr (inr ((!true),(v13.2.1,())))))
 ((at? a0.2.2.2.2.2.1 v23.1).bind λv24 =>
 ((at? a0.2.2.2.2.2.1 v23.1).bind λv25 =>
 ((at? v13.2.1 v24.2.1).bind λv26 =>
 ((at? v13.2.1 v24.2.1).bind λv27 =>
 (some (inl ((w64 (v13.1+1)),((v13.2.1.set v24.2.1.toNat v25.2.2),()))))))))))
 (some (inr (inl (v13.2.1,()))))))
noncomputable def thgB (a0:ae_):(Int×(((List Int)×Unit)×Unit))→Option ((Int×(((List Int)×Unit)×Unit))⊕(((List Int)×Unit)×Unit)) :=
 (λ(v2:(Int×(((List Int)×Unit)×Unit))) =>
 (cond (decide (v2.1<(a0.2.1.length:Int)))
 ((at? a0.2.1 v2.1).bind λv3 =>
 ((push? (α:=Int) v2.2.1.1 [v3.2.2.2]).bind λv4 =>
 (some (inl ((w64 (v2.1+1)),((v4,()),()))))))
 (some (inr ((v2.2.1.1,()),())))))
noncomputable def prpB (a0:ae_):(Int×(((List Int)×Unit)×Unit))→Option ((Int×(((List Int)×Unit)×Unit))⊕(((List Int)×Unit)×Unit)) :=
 (λ(v6:(Int×(((List Int)×Unit)×Unit))) =>
 (cond (decide (v6.1<(a0.2.2.1.length:Int)))
 ((at? a0.2.2.1 v6.1).bind λv7 =>
 ((push? (α:=Int) v6.2.1.1 [v7.2.1]).bind λv8 =>
 (some (inl ((w64 (v6.1+1)),((v8,()),()))))))
 (some (inr ((v6.2.1.1,()),())))))
noncomputable def rbegX (a0:ae_):Option (ai_×(Int×Unit)) :=
 ((fj_ a0).bind λv0 =>
 (cond (v0.1 != 0)
 (some (([],([],[])),(v0.1,())))
 ((mk? (α:=Int) a0.2.2.2.2.2.2.1 0).bind λv1 =>
 ((af_ (ρ:=(((List Int)×Unit)×Unit)) (thgB a0) (0,(([],()),()))).bind λv5 =>
 ((af_ (ρ:=(((List Int)×Unit)×Unit)) (prpB a0) (0,(([],()),()))).bind λv9 =>
 ((push? (α:=Int) [] v5.1.1).bind λv10 =>
 ((push? (α:=Int) [] v9.1.1).bind λv11 =>
 ((push? (α:=Int) [] v1).bind λv12 =>
 ((((af_ (ρ:=(((List Int)×Unit)⊕(Bool×((List Int)×Unit)))) (setB a0 v11 v12) (0,(v10,()))).bind λv28 =>
 (cg_ v28 (λv29=>(some ((!false),(v29.1,()))))
 (λv30=>(some v30))))).bind λv31 =>
 (cond v31.1
 (some (([],([],[])),(27,())))
 (some ((v31.2.1,(v11,v12)),(0,())))))))))))))
theorem ci0:io_=rbegX:=by kernel_rfl
end
end Go.Proofs.YtgeehfnbhbibeaaGreatDoor.Rx
namespace Go.Proofs.YtgeehfnbhbibeaaGreatDoor.Rx
open Go Pad Rex Sum
section
set_option maxRecDepth 10000
def VT (r:ae_) (th:List Int):Prop:=th.length=r.2.1.length∧∀ (i:Nat) n,th[i]?=some n→nk_ r.2.1 (i:Int) n=true
theorem cd0 {r:ae_} (h:SmR r) (ok:OkR r) {th:List Int} (hv:VT r th) {i n:Int} (hs:nk_ r.2.1 i n=true):VT r (th.set i.toNat n):=by
 refine⟨by rw[f6_];exact hv.1,λj m hj => ?_⟩
 have hi:=(mo_ h ok hs).1
 rw[g1_] at hj
 split at hj
 ·next e =>
  split at hj
  ·obtain rfl:=a6_ hj
   rw[show (j:Int)=i by omega]
   exact hs
  ·cases hj
 ·exact hv.2 j m hj
theorem ax4 {r:ae_} (h:SmR r):af_ (thgB r) (0,(([],()),()))=some ((r.2.1.map (·.2.2.2),()),()):=by
 have hth:=h.th
 obtain⟨z,hz,q,rfl,hq⟩:=ax3 r.2.1.length (λi (q:List Int)=>((i:Int),((q,()),()))) (λq=>((q,()),())) [] (body:=thgB r) (λi q=>q=(r.2.1.take i).map (·.2.2.2)) rfl (λi q hi hq=>by
  obtain⟨x,hx⟩:=bb_ hi
  have hq2:Sm q.length:=by rw[hq,d2_,c9_];omega
  refine⟨_,?_,q++[x.2.2.2],rfl,?_⟩
  ·unfold thgB
   simp only[dlt hi,a5_,ah_ hx,a0_,ch_ hq2,az_ (show Sm i by omega)]
  ·rw[d7_,hx,hq,j5_]
   rfl) (λq hq=>by
  unfold thgB
  simp only[dnl,a2_])
 rw[d9_] at hq
 subst hq
 exact hz
theorem ay9 {r:ae_} (h:SmR r):af_ (prpB r) (0,(([],()),()))=some ((r.2.2.1.map (·.2.1),()),()):=by
 have hth:=h.pr
 obtain⟨z,hz,q,rfl,hq⟩:=ax3 r.2.2.1.length (λi (q:List Int)=>((i:Int),((q,()),()))) (λq=>((q,()),())) [] (body:=prpB r) (λi q=>q=(r.2.2.1.take i).map (·.2.1)) rfl (λi q hi hq=>by
  obtain⟨x,hx⟩:=bb_ hi
  have hq2:Sm q.length:=by rw[hq,d2_,c9_];omega
  refine⟨_,?_,q++[x.2.1],rfl,?_⟩
  ·unfold prpB
   simp only[dlt hi,a5_,ah_ hx,a0_,ch_ hq2,az_ (show Sm i by omega)]
  ·rw[d7_,hx,hq,j5_]
   rfl) (λq hq=>by
  unfold prpB
  simp only[dnl,a2_])
 rw[d9_] at hq
 subst hq
 exact hz
end
end Go.Proofs.YtgeehfnbhbibeaaGreatDoor.Rx
namespace Go.Proofs.YtgeehfnbhbibeaaGreatDoor.Rx
open Go Pad Rex Go.Proofs Go.Proofs.Tryz Sum
section
set_option maxRecDepth 100000
noncomputable def pbgB (a0:ad_) (s:ai_):(Int×((List Bool)×((List ab_)×Unit)))→Option ((Int×((List Bool)×((List ab_)×Unit)))⊕((List Bool)×((List ab_)×Unit))) :=
 (λ(v3:(Int×((List Bool)×((List ab_)×Unit)))) =>
 (cond (decide (v3.1<(a0.2.2.2.1.length:Int)))
 ((((at? a0.2.2.2.1 v3.1).bind λv4 =>
 ((fi_ a0.1 s v4.2.2.2.1).bind λv5 =>
 (((cond v5.1
 ((bj_ s.2.2 v4.2.1).bind λv6 =>
 (cond v6.1
 ((at? v3.2.1 v3.1).bind λv7 =>
 ((at? v3.2.1 v3.1).bind λv8 =>
 (some ((!v8),()))))
 (some (false,()))))
 (some (false,())))).bind λv9 =>
 (cond v9.1
 ((at? v3.2.1 v3.1).bind λv10 =>
 ((at? v3.2.1 v3.1).bind λv11 =>
 (some ((v3.2.1.set v3.1.toNat true),((zg_ v3.2.2.1 v4.2.2.1),())))))
 (some (v3.2.1,(v3.2.2.1,())))))))).bind λv12 =>
 (some (inl ((w64 (v3.1+1)),(v12.1,(v12.2.1,()))))))
 (some (inr (v3.2.1,(v3.2.2.1,()))))))
noncomputable def pbegX (a0:ad_):Option (aa_×(Int×Unit)) :=
 ((hb_ a0).bind λv0 =>
 (cond (v0.1 != 0)
 (some ((([],([],[])),[]),(v0.1,())))
 ((io_ a0.1).bind λv1 =>
 (cond (v1.2.1 != 0)
 (some ((([],([],[])),[]),(v1.2.1,())))
 ((mk? (α:=Bool) (a0.2.2.2.1.length:Int) false).bind λv2 =>
 ((af_ (ρ:=((List Bool)×((List ab_)×Unit))) (pbgB a0 v1.1) (0,(v2,([],())))).bind λv13 =>
 ((push? (α:=Int) [] v1.1.1).bind λv14 =>
 ((push? (α:=Int) [] v1.1.2.1).bind λv15 =>
 ((push? (α:=Int) [] v1.1.2.2).bind λv16 =>
 ((push? (α:=Bool) [] v13.1).bind λv17 =>
 (some (((v14,(v15,v16)),v17),(0,())))))))))))))
theorem ci8:li_=pbegX:=by kernel_rfl
end
end Go.Proofs.YtgeehfnbhbibeaaGreatDoor.Rx
namespace Go.Proofs.YtgeehfnbhbibeaaGreatDoor.Rx
open Go Pad Rex Sum
section
set_option maxRecDepth 10000
theorem qf_ {r:ae_} (h:SmR r) (ok:OkR r) {s:ai_} (hv:VS r s):Sm s.1.length∧Sm s.2.1.length∧Sm s.2.2.length:=by
 have:=ce_.1 ok.py
 have h1:=hv.l1
 have h2:=hv.l2
 have h3:=hv.l3
 have:=h.th
 have:=h.pr
 refine⟨by show s.1.length≤1000000000;omega,by show s.2.1.length≤1000000000;omega,by show s.2.2.length≤1000000000;omega⟩
theorem hc_ {r:ae_} {s:ai_} (h0:da_ r=0) (hv:VS r s):nc_ r s=0:=by
 unfold nc_
 rw[h0]
 exact cn9 hv
end
section
theorem lk_ (a b c:Int):bv_ a b c=some (wi a b c,()):=bf5 a b c
theorem np_ (a b c:Int):bk_ a b c=some (wi a b c,()):=bf5 a b c
def okL (l:ab_):Bool:=wi l.1 1 4&&wi l.2 2 10
structure Lk (l:ab_):Prop where
 w1:1≤l.1
 w2:l.1≤4
 s1:2≤l.2
 s2:l.2≤10
theorem nt_ {l:ab_}:okL l=true↔Lk l:=by
 unfold okL
 rw[a1_,ce_,ce_]
 exact⟨λh=>⟨h.1.1,h.1.2,h.2.1,h.2.2⟩,λh=>⟨⟨h.w1,h.w2⟩,h.s1,h.s2⟩⟩
theorem kx_ (l:ab_):eg_ l=some (if okL l then 0 else 10,()):=by
 unfold eg_ okL
 simp only[np_,a0_]
 cases wi l.1 1 4<;>cases wi l.2 2 10<;>rfl
theorem ll_ (l:ab_):eh_ l=some (if okL l then 0 else 10,()):=by
 unfold eh_ okL
 simp only[lk_,a0_]
 cases wi l.1 1 4<;>cases wi l.2 2 10<;>rfl
def dd_ (l:ab_) (c:List Int):Bool:=decide ((c.length:Int)=l.1)&&c.all λn=>wi n 0 (l.2 - 1)
theorem Lk.ws {l:ab_} (h:Lk l):w64 (l.2 - 1)=l.2 - 1:=by have:=h.s1;have:=h.s2;exact ku_ (by omega) (by omega)
theorem Lk.ww {l:ab_} (h:Lk l):w64 (l.1 - 1)=l.1 - 1:=by have:=h.w1;have:=h.w2;exact ku_ (by omega) (by omega)
theorem mi_ {l:ab_} (h:Lk l) (n:Int):cm_ l n=some (wi n 0 (l.2 - 1),()):=by
 unfold cm_
 rw[lk_,h.ws]
 rfl
theorem un_ {l:ab_} (h:Lk l) (n:Int):bt_ l n=some (wi n 0 (l.1 - 1),()):=by
 unfold bt_
 rw[lk_,h.ww]
 rfl
theorem all_any {α:Type} (l:List α) (q:α→Bool):(!(l.any λx=>!(q x)))=l.all q:=tr_ l q
theorem tx_ {l:ab_} (h:Lk l) (c:List Int):gj_ l c=some (dd_ l c,()):=by
 have w2:=h.w2
 unfold gj_ dd_
 by_cases he:(c.length:Int)=l.1
 ·have hb:((c.length:Int) != l.1)=false:=by simp[he]
  rw[hb,b6_ he,c2_,a2_]
  refine bo_ c (λ_ y=>cond (wi y 0 (l.2 - 1)) none (some (inr (false,()):Unit⊕(Bool×Unit)))) (λi=>((i:Int),())) (r0:=inl ()) (λi y hy => ?_) ?_ ?_
  ·have hi:=am_ hy
   simp only[dlt hi,a5_,ah_ hy,a0_,np_,h.ws,az_ (show Sm i by unfold Sm;omega)]
   cases wi y 0 (l.2 - 1)<;>rfl
  ·simp only[dnl,a2_]
  ·rw[je_ (q:=λy=>wi y 0 (l.2 - 1))]
   cases c.all λy=>wi y 0 (l.2 - 1)<;>rfl
 ·have hb:((c.length:Int) != l.1)=true:=by simp[he]
  rw[hb,b9_ he]
  rfl
theorem ol_ {l:ab_} (h:Lk l) (c:List Int):di_ l c=some (dd_ l c,()):=by
 have w2:=h.w2
 unfold di_ dd_
 by_cases he:(c.length:Int)=l.1
 ·have hb:((c.length:Int)==l.1)=true:=by simp[he]
  rw[hb,b6_ he,c2_,a5_,on_ (l:=c) (by unfold Sm;omega) (λn=>!(wi n 0 (l.2 - 1))) (λi y hy=>by
   simp only[dlt (am_ hy),a5_,ah_ hy,a0_,mi_ h]
   cases wi y 0 (l.2 - 1)<;>rfl) (by simp only[dnl,a2_]),a0_,all_any]
 ·have hb:((c.length:Int)==l.1)=false:=by simp[he]
  rw[hb,b9_ he]
  rfl
theorem uj_ (l:ab_) (c:List Int):ft_ l c=some (if okL l then (if dd_ l c then 0 else 12) else 10,()):=by
 unfold ft_
 rw[kx_,a0_]
 cases h:okL l with
 | true =>
  rw[if_pos rfl,tx_ (nt_.1 h)]
  cases dd_ l c<;>rfl
 | false=>rfl
theorem nf_ (l:ab_) (c:List Int):ea_ l c=some (if okL l then (if dd_ l c then 0 else 12) else 10,()):=by
 unfold ea_ ho_
 rw[ll_,a0_]
 cases h:okL l with
 | true =>
  have hl:=nt_.1 h
  have:=on_ (l:=[c]) (by unfold Sm;simp) (λc=>!(dd_ l c)) (body:=λ(v1:(Int×Unit)) =>
   (cond (decide (v1.1<(([c]:List (List Int)).length:Int)))
   ((at? [c] v1.1).bind λv2 =>
   ((di_ l v2).bind λv3 =>
   (cond (!v3.1)
   (some (inr (inr ((decide (0≤v1.1)),()))))
   (some (inl ((w64 (v1.1+1)),()))))))
   (some (inr (inl ()))))) (λi y hy=>by
   simp only[dlt (am_ hy),a5_,ah_ hy,a0_,ol_ hl]
   cases dd_ l y<;>rfl) (by simp only[dnl,a2_])
  rw[this]
  simp only[o7_,List.any_nil,i7_]
  cases dd_ l c<;>rfl
 | false=>rfl
theorem bn6 {α:Type} [BEq α] [LawfulBEq α] [DecidableEq α] {a b:List α} (ha:Sm a.length) (he:a.length=b.length) {body:(Int×Unit)→Option ((Int×Unit)⊕(Unit⊕(Bool×Unit)))} {K:(Unit⊕(Bool×Unit))→Option (Bool×Unit)}
  (h:∀ (i:Nat) x y,a[i]?=some x→b[i]?=some y→body ((i:Int),())=some (cond (x != y) (.inr (.inr (false,()))) (.inl (w64 ((i:Int)+1),())))) (e:body ((a.length:Int),())=some (.inr (.inl ()))) (k1:K (.inl ())=some (true,())) (k2:K (.inr (false,()))=some (false,())) :
  (af_ body (0,())).bind K=some (decide (a=b),()):=by
 refine bo_ (a.zip b) (λ_ p=>cond (p.1==p.2) none (some (inr (false,()):Unit⊕(Bool×Unit)))) (λi=>((i:Int),())) (r0:=inl ()) (λi p hp => ?_) ?_ ?_
 ·obtain⟨h1,h2⟩:=h9_.1 hp
  rw[h i p.1 p.2 h1 h2,az_ (show Sm i by have:=am_ h1;unfold Sm at *; omega)]
  cases hq:p.1==p.2<;>simp[bne,hq]
 ·rw[n2_,← he,Nat.min_self]
  exact e
 ·rw[je_ (q:=λp:α×α=>p.1==p.2)]
  have hk:((a.zip b).all λp=>p.1==p.2)=decide (a=b):=by
   refine k6_.2 ?_
   rw[f0_,h1_]
   constructor
   ·intro hz
    refine f2_ λi => ?_
    by_cases hi:i<a.length
    ·obtain⟨x,hx⟩:=bb_ hi
     obtain⟨y,hy⟩:=bb_ (l:=b) (i:=i) (by omega)
     have:=hz (x,y) (b1_ (h9_.2 ⟨hx,hy⟩))
     rw[hx,hy,show x=y from eq_of_beq this]
    ·rw[b8_ (by omega),b8_ (by omega)]
   ·rintro rfl p hp
    obtain⟨i,hi⟩:=f4_ hp
    obtain⟨h1,h2⟩:=h9_.1 hi
    rw[h1] at h2
    exact f5_.2 (a6_ h2)
  rw[hk]
  cases decide (a=b)
  ·exact k2
  ·exact k1
theorem yj_ {a b:List Int} (ha:Sm a.length):gp_ a b=some (decide (a=b),()):=by
 unfold gp_
 by_cases he:a.length=b.length
 ·have hb:((a.length:Int) != (b.length:Int))=false:=by simp[he]
  rw[hb,a2_]
  refine bn6 ha he (λi x y hx hy => ?_) ?_ rfl rfl
  ·simp only[dlt (am_ hx),a5_,ah_ hx,ah_ hy,a0_]
   cases x != y<;>rfl
  ·simp only[dnl,a2_]
 ·have hb:((a.length:Int) != (b.length:Int))=true:=by simp;omega
  rw[hb,b9_ (λe=>he (by rw[e]))]
  rfl
def de_ (l:ab_) (c:ak_):Bool :=
 if c.1=1 then wi c.2.1 0 (l.1 - 1)&&(wi c.2.2.2.1 0 (l.2 - 1)&&(c.2.2.1==0&&(c.2.2.2.2.1==0&&decide (c.2.2.2.2.2.1=[]))))
 else if c.1=2 then wi c.2.1 0 (l.1 - 1)&&(wi c.2.2.1 0 (l.1 - 1)&&(decide (c.2.1≤c.2.2.1)&&(wi c.2.2.2.1 0 100&&(c.2.2.2.2.1==0&&decide (c.2.2.2.2.2.1=[])))))
 else if c.1=3∨c.1=4 then wi c.2.1 0 (l.1 - 1)&&(wi c.2.2.1 0 (l.1 - 1)&&(c.2.1 != c.2.2.1&&(c.2.2.2.1==0&&(c.2.2.2.2.1==0&&decide (c.2.2.2.2.2.1=[])))))
 else if c.1=5 then wi c.2.2.2.1 0 (l.2 - 1)&&(wi c.2.2.2.2.1 0 l.1&&(c.2.1==0&&(c.2.2.1==0&&decide (c.2.2.2.2.2.1=[]))))
 else if c.1=6 then dd_ l c.2.2.2.2.2.1&&(wi c.2.2.2.1 0 l.1&&(wi c.2.2.2.2.1 0 l.1&&(c.2.1==0&&c.2.2.1==0)))
 else if c.1=7 then wi c.2.1 0 (l.1 - 1)&&(wi c.2.2.2.1 2 10&&(wi c.2.2.2.2.1 0 (c.2.2.2.1 - 1)&&(c.2.2.1==0&&decide (c.2.2.2.2.2.1=[]))))
 else false
theorem len0 (l:List Int):((l.length:Int)==((([]:List Int)).length:Int))=decide (l=[]):=by cases l<;>simp<;>omega
theorem ty_ {l:ab_} (h:Lk l) {c:ak_} (hs:Sm c.2.2.2.2.2.1.length):gk_ l c=some (de_ l c,()):=by
 unfold gk_ de_ ix_
 simp only[np_,tx_ h,yj_ hs,a0_,h.ww,h.ws,e2_,a5_]
 by_cases h1:c.1=1
 ·simp only[h1]
  cases wi c.2.1 0 (l.1 - 1)<;>cases wi c.2.2.2.1 0 (l.2 - 1)<;>simp only[a5_,a2_,a0_,e2_,c2_,e8_,Int.reduceBEq,k4_,h8_,Int.reduceEq,n7_,n6_,n1_]<;>cases c.2.2.1==0<;>cases c.2.2.2.2.1==0<;>rfl
 by_cases h2:c.1=2
 ·simp only[h2]
  cases wi c.2.1 0 (l.1 - 1)<;>cases wi c.2.2.1 0 (l.1 - 1)<;>cases decide (c.2.1≤c.2.2.1)<;>cases wi c.2.2.2.1 0 100<;>simp only[a5_,a2_,a0_,e2_,c2_,e8_,Int.reduceBEq,k4_,h8_,Int.reduceEq,n7_,n6_,n1_]<;>cases c.2.2.2.2.1==0<;>rfl
 by_cases h3:c.1=3
 ·simp only[h3]
  cases wi c.2.1 0 (l.1 - 1)<;>cases wi c.2.2.1 0 (l.1 - 1)<;>cases c.2.1 != c.2.2.1<;>simp only[a5_,a2_,a0_,e2_,c2_,e8_,Int.reduceBEq,k4_,h8_,Int.reduceEq,n7_,n6_,n1_]<;>cases c.2.2.2.1==0<;>cases c.2.2.2.2.1==0<;>rfl
 by_cases h4:c.1=4
 ·simp only[h4]
  cases wi c.2.1 0 (l.1 - 1)<;>cases wi c.2.2.1 0 (l.1 - 1)<;>cases c.2.1 != c.2.2.1<;>simp only[a5_,a2_,a0_,e2_,c2_,e8_,Int.reduceBEq,k4_,h8_,Int.reduceEq,n7_,n6_,n1_]<;>cases c.2.2.2.1==0<;>cases c.2.2.2.2.1==0<;>rfl
 by_cases h5:c.1=5
 ·simp only[h5]
  cases wi c.2.2.2.1 0 (l.2 - 1)<;>cases wi c.2.2.2.2.1 0 l.1<;>simp only[a5_,a2_,a0_,e2_,c2_,e8_,Int.reduceBEq,k4_,h8_,Int.reduceEq,n7_,n6_,n1_]<;>cases c.2.1==0<;>cases c.2.2.1==0<;>rfl
 by_cases h6:c.1=6
 ·simp only[h6]
  cases dd_ l c.2.2.2.2.2.1<;>cases wi c.2.2.2.1 0 l.1<;>cases wi c.2.2.2.2.1 0 l.1<;>simp only[a5_,a2_,a0_,e2_,c2_,e8_,Int.reduceBEq,k4_,h8_,Int.reduceEq,n7_,n6_,n1_]<;>cases c.2.1==0<;>cases c.2.2.1==0<;>simp
 by_cases h7:c.1=7
 ·simp only[h7]
  cases wi c.2.1 0 (l.1 - 1)
  ·rfl
  cases hn:wi c.2.2.2.1 2 10
  ·rfl
  have:=ce_.1 hn
  rw[ku_ (n:=c.2.2.2.1 - 1) (by omega) (by omega)]
  cases wi c.2.2.2.2.1 0 (c.2.2.2.1 - 1)<;>simp only[a5_,a2_,a0_,e2_,c2_,e8_,Int.reduceBEq,k4_,h8_,Int.reduceEq,n7_,n6_,n1_]<;>cases c.2.2.1==0<;>rfl
 have b1:(c.1==1)=false:=by simp[h1]
 have b2:(c.1==2)=false:=by simp[h2]
 have b3:(c.1==3)=false:=by simp[h3]
 have b4:(c.1==4)=false:=by simp[h4]
 have b5:(c.1==5)=false:=by simp[h5]
 have b6:(c.1==6)=false:=by simp[h6]
 have b7:(c.1==7)=false:=by simp[h7]
 simp only[b1,b2,b3,b4,b5,b6,b7,h1,h2,h3,h4,h5,h6,h7,a2_,a0_,h8_,n1_]
theorem om_ {l:ab_} (h:Lk l) (c:ak_):dj_ l c=some (de_ l c,()):=by
 unfold dj_ de_
 simp only[lk_,un_ h,mi_ h,ol_ h,a0_]
 by_cases h1:c.1=1
 ·simp only[h1]
  cases wi c.2.1 0 (l.1 - 1)<;>cases wi c.2.2.2.1 0 (l.2 - 1)<;>simp only[a5_,a2_,a0_,e2_,c2_,e8_,Int.reduceBEq,k4_,h8_,Int.reduceEq,n7_,n6_,n1_,len0]<;>cases c.2.2.1==0<;>cases c.2.2.2.2.1==0<;>rfl
 by_cases h2:c.1=2
 ·simp only[h2]
  cases wi c.2.1 0 (l.1 - 1)<;>cases wi c.2.2.1 0 (l.1 - 1)<;>cases decide (c.2.1≤c.2.2.1)<;>cases wi c.2.2.2.1 0 100<;>simp only[a5_,a2_,a0_,e2_,c2_,e8_,Int.reduceBEq,k4_,h8_,Int.reduceEq,n7_,n6_,n1_,len0]<;>cases c.2.2.2.2.1==0<;>rfl
 by_cases h3:c.1=3
 ·simp only[h3]
  cases wi c.2.1 0 (l.1 - 1)<;>cases wi c.2.2.1 0 (l.1 - 1)<;>cases c.2.1 != c.2.2.1<;>simp only[a5_,a2_,a0_,e2_,c2_,e8_,Int.reduceBEq,k4_,h8_,Int.reduceEq,n7_,n6_,n1_,len0]<;>cases c.2.2.2.1==0<;>cases c.2.2.2.2.1==0<;>rfl
 by_cases h4:c.1=4
 ·simp only[h4]
  cases wi c.2.1 0 (l.1 - 1)<;>cases wi c.2.2.1 0 (l.1 - 1)<;>cases c.2.1 != c.2.2.1<;>simp only[a5_,a2_,a0_,e2_,c2_,e8_,Int.reduceBEq,k4_,h8_,Int.reduceEq,n7_,n6_,n1_,len0]<;>cases c.2.2.2.1==0<;>cases c.2.2.2.2.1==0<;>rfl
 by_cases h5:c.1=5
 ·simp only[h5]
  cases wi c.2.2.2.1 0 (l.2 - 1)<;>cases wi c.2.2.2.2.1 0 l.1<;>simp only[a5_,a2_,a0_,e2_,c2_,e8_,Int.reduceBEq,k4_,h8_,Int.reduceEq,n7_,n6_,n1_,len0]<;>cases c.2.1==0<;>cases c.2.2.1==0<;>rfl
 by_cases h6:c.1=6
 ·simp only[h6]
  cases dd_ l c.2.2.2.2.2.1<;>cases wi c.2.2.2.1 0 l.1<;>cases wi c.2.2.2.2.1 0 l.1<;>simp only[a5_,a2_,a0_,e2_,c2_,e8_,Int.reduceBEq,k4_,h8_,Int.reduceEq,n7_,n6_,n1_,len0]<;>cases c.2.1==0<;>cases c.2.2.1==0<;>rfl
 by_cases h7:c.1=7
 ·simp only[h7]
  cases wi c.2.1 0 (l.1 - 1)
  ·rfl
  cases hn:wi c.2.2.2.1 2 10
  ·rfl
  have:=ce_.1 hn
  rw[ku_ (n:=c.2.2.2.1 - 1) (by omega) (by omega)]
  cases wi c.2.2.2.2.1 0 (c.2.2.2.1 - 1)<;>simp only[a5_,a2_,a0_,e2_,c2_,e8_,Int.reduceBEq,k4_,h8_,Int.reduceEq,n7_,n6_,n1_,len0]<;>cases c.2.2.1==0<;>rfl
 have b1:(c.1==1)=false:=by simp[h1]
 have b2:(c.1==2)=false:=by simp[h2]
 have b3:(c.1==3)=false:=by simp[h3]
 have b4:(c.1==4)=false:=by simp[h4]
 have b5:(c.1==5)=false:=by simp[h5]
 have b6:(c.1==6)=false:=by simp[h6]
 have b7:(c.1==7)=false:=by simp[h7]
 simp only[b1,b2,b3,b4,b5,b6,b7,h1,h2,h3,h4,h5,h6,h7,a2_,a0_,h8_,n1_]
theorem uk_ {l:ab_} (hl:Lk l) {c:ak_} (hs:Sm c.2.2.2.2.2.1.length):fu_ l c=some (cond (de_ l c) 0 11,()):=by
 unfold fu_
 rw[kx_,nt_.2 hl,if_pos rfl,a0_,ty_ hl hs]
 cases de_ l c<;>rfl
theorem uo_ {l:ab_} (hl:Lk l) (c:ak_):fy_ l c=some (cond (de_ l c) 0 11,()):=by
 unfold fy_
 rw[ll_,nt_.2 hl,if_pos rfl,a0_,om_ hl]
 cases de_ l c<;>rfl
end
section
theorem zo_ {α τ σ ρ:Type} (l:List α) (f:τ→α→τ) (F:Nat→τ→σ) (R:τ→ρ) (t0:τ) {body:σ→Option (σ⊕ρ)}
  (h:∀ i x t,l[i]?=some x→body (F i t)=some (.inl (F (i+1) (f t x)))) (e:∀ t,body (F l.length t)=some (.inr (R t))):af_ body (F 0 t0)=some (R (l.foldl f t0)):=by
 obtain⟨t,h1,h2⟩:=ke_ l (λ_=>f) F R t0 (λi t=>t=(l.take i).foldl f t0) rfl (λi x t hx ht=>⟨h i x t hx,by
  rw[ht,d7_,hx,o2_]
  rfl⟩) (λt _=>e t)
 rw[h2,h1,d9_]
theorem mj_ {α τ σ ρ υ:Type} (l:List α) (f:τ→α→τ) (F:Nat→τ→σ) (R:τ→ρ) (t0:τ) {body:σ→Option (σ⊕ρ)} {K:ρ→Option υ} {x:Option υ}
  (h:∀ i x t,l[i]?=some x→body (F i t)=some (.inl (F (i+1) (f t x)))) (e:∀ t,body (F l.length t)=some (.inr (R t))) (hk:K (R (l.foldl f t0))=x):(af_ body (F 0 t0)).bind K=x:=by
 rw[zo_ l f F R t0 h e,a0_,hk]
theorem ah9 {α β:Type}:∀ (l:List α) (m:List β) (i:Nat),(l.zip m).take i=(l.take i).zip (m.take i)
 | [],m,i=>by simp
 | x::l,[],i=>by cases i<;>simp
 | x::l,y::m,0=>rfl
 | x::l,y::m,i+1=>by simp[ah9 l m i]
theorem jt_ {l:ab_} {c:List Int}:dd_ l c=true↔(c.length:Int)=l.1∧∀ n ∈ c,0≤n∧n≤l.2 - 1:=by
 unfold dd_
 rw[a1_,h1_,f0_]
 exact⟨λh=>⟨h.1,λn hn=>ce_.1 (h.2 n hn)⟩,λh=>⟨h.1,λn hn=>ce_.2 (h.2 n hn)⟩⟩
def zt_ (l:List Int) (k:Int):Int:=l.foldl (λs x=>cond (x==k) (w64 (s+1)) s) 0
def ce3 (code guess:List Int):Int:=(code.zip guess).foldl (λs p=>cond (p.1==p.2) (w64 (s+1)) s) 0
def comW (code guess:List Int):Int:=(List.range 10).foldl (λs (k:Nat)=>w64 (s+minI (zt_ code k) (zt_ guess k))) 0
theorem ao0 {l:List Int} {j:Nat} {x k:Int} (h:l[j]?=some x):zt_ (l.take (j+1)) k=cond (x==k) (w64 (zt_ (l.take j) k+1)) (zt_ (l.take j) k):=by
 unfold zt_
 rw[d7_,h,o2_]
 rfl
theorem qp_ {l:List Int} {k:Int} (hl:Sm l.length):ef_ l k=some (zt_ l k,()):=by
 unfold ef_ zt_
 refine mj_ l (λs x=>cond (x==k) (w64 (s+1)) s) (λi s=>(s,((i:Int),()))) (λs=>(s,())) 0 (λi x s hx=>by
  have hi:=am_ hx
  simp only[dlt hi,a5_,ah_ hx,a0_,az_ (show Sm i by unfold Sm at *; omega)]
  cases x==k<;>rfl) (λs=>by simp only[dnl,a2_]) rfl
theorem aj5 {l:ab_} (hl:Lk l) {code guess:List Int} (hc:dd_ l code=true) (hg:dd_ l guess=true):ih_ code guess=some (ce3 code guess,(w64 (comW code guess - ce3 code guess),())):=by
 obtain⟨c1,_⟩:=jt_.1 hc
 obtain⟨g1,_⟩:=jt_.1 hg
 have w2:=hl.w2
 have sc:Sm code.length:=by unfold Sm;omega
 have sg:Sm guess.length:=by unfold Sm;omega
 have hz:(code.zip guess).length=code.length:=by rw[n2_];omega
 unfold ih_
 refine mj_ (code.zip guess) (λs p=>cond (p.1==p.2) (w64 (s+1)) s) (λi s=>(s,((i:Int),()))) (λs=>(s,())) 0 (λi p s hp=>by
  obtain⟨h1,h2⟩:=h9_.1 hp
  simp only[dlt (am_ h1),a5_,ah_ h1,ah_ h2,a0_,az_ (show Sm i by have:=am_ h1;unfold Sm at *; omega)]
  cases p.1==p.2<;>rfl) (λs=>by rw[hz];simp only[dnl,a2_]) ?_
 refine mj_ (List.range 10) (λs (k:Nat)=>w64 (s+minI (zt_ code k) (zt_ guess k))) (λi s=>(s,((i:Int),()))) (λs=>(s,())) 0 (λi k s hk=>by
  have hi:=am_ hk
  rw[j2_] at hi
  rw[m7_ hi] at hk
  obtain rfl:=a6_ hk
  simp only[show decide ((i:Int)<10)=true from b6_ (by omega),a5_,qp_ sc,qp_ sg,a0_,az_ (show Sm i by unfold Sm;omega)]) (λs=>by
  rw[j2_]
  rfl) rfl
theorem an7 {l:ab_} (hl:Lk l) {code guess:List Int} (hc:dd_ l code=true) (hg:dd_ l guess=true):ii_ code guess=some (ce3 code guess,(w64 (comW code guess - ce3 code guess),())):=by
  obtain⟨c1,c2⟩:=jt_.1 hc
  obtain⟨g1,g2⟩:=jt_.1 hg
  have w2:=hl.w2
  have s2:=hl.s2
  have hz:(code.zip guess).length=code.length:=by rw[n2_];omega
  have tk:∀ i,(code.zip guess).take i=(code.take i).zip (guess.take i):=λi=>ah9 _ _ i
  let I:Nat→(Int×(List Int×List Int))→Prop:=λi t=>t.1=ce3 (code.take i) (guess.take i)∧t.2.1.length=10∧t.2.2.length=10∧∀ k:Nat,k<10→t.2.1[k]?=some (zt_ (code.take i) k)∧t.2.2[k]?=some (zt_ (guess.take i) k)
  have h1:=ke_ (code.zip guess) (λ_ (t:Int×(List Int×List Int)) p=>(cond (p.1==p.2) (w64 (t.1+1)) t.1,(t.2.1.set p.1.toNat (w64 ((t.2.1[p.1.toNat]?).getD 0+1)),t.2.2.set p.2.toNat (w64 ((t.2.2[p.2.toNat]?).getD 0+1)))))
    (λi t=>(t.1,((i:Int),(t.2.1,(t.2.2,()))))) (λt=>(t.1,(t.2.1,(t.2.2,())))) (0,([0,0,0,0,0,0,0,0,0,0],[0,0,0,0,0,0,0,0,0,0])) I
    (body:=λ(v0:(Int×(Int×((List Int)×((List Int)×Unit))))) =>
 (cond (decide (v0.2.1<(code.length:Int)))
 ((at? code v0.2.1).bind λv1 =>
 ((((at? guess v0.2.1).bind λv2 =>
 (cond (v1==v2)
 (some ((w64 (v0.1+1)),()))
 (some (v0.1,()))))).bind λv3 =>
 (cond (decide (v1<(10:Int)))
 ((at? v0.2.2.1 v1).bind λv4 =>
 ((at? v0.2.2.1 v1).bind λv5 =>
 (cond (decide (v1<(10:Int)))
 ((at? v0.2.2.1 v1).bind λv6 =>
 ((at? v0.2.2.1 v1).bind λv7 =>
 ((at? guess v0.2.1).bind λv8 =>
 (cond (decide (v8<(10:Int)))
 ((at? v0.2.2.2.1 v8).bind λv9 =>
 ((at? v0.2.2.2.1 v8).bind λv10 =>
 (cond (decide (v8<(10:Int)))
 ((at? v0.2.2.2.1 v8).bind λv11 =>
 ((at? v0.2.2.2.1 v8).bind λv12 =>
 (some (inl (v3.1,((w64 (v0.2.1+1)),((v0.2.2.1.set v1.toNat (w64 (v5+1))),((v0.2.2.2.1.set v8.toNat (w64 (v10+1))),()))))))))
 none)))
 none))))
 none)))
 none)))
 (some (inr (v0.1,(v0.2.2.1,(v0.2.2.2.1,())))))))
    ⟨rfl,rfl,rfl,λk hk=>⟨by
      match k,hk with
      | 0,_ | 1,_ | 2,_ | 3,_ | 4,_ | 5,_ | 6,_ | 7,_ | 8,_ | 9,_=>rfl,by
      match k,hk with
      | 0,_ | 1,_ | 2,_ | 3,_ | 4,_ | 5,_ | 6,_ | 7,_ | 8,_ | 9,_=>rfl⟩⟩ (λi p t hp ht=>by
      obtain⟨x,y⟩:=p
      obtain⟨hx,hy⟩:=h9_.1 hp
      obtain⟨t1,t2,t3,t4⟩:=ht
      have hx':=c2 x (b1_ hx)
      have hy':=g2 y (b1_ hy)
      have ax:at? t.2.1 x=some (zt_ (code.take i) x):=by
        have:=(t4 x.toNat (by omega)).1
        rw[show ((x.toNat:Nat):Int)=x by omega] at this
        unfold at?
        rw[if_pos hx'.1]
        exact this
      have ay:at? t.2.2 y=some (zt_ (guess.take i) y):=by
        have:=(t4 y.toNat (by omega)).2
        rw[show ((y.toNat:Nat):Int)=y by omega] at this
        unfold at?
        rw[if_pos hy'.1]
        exact this
      have gx:t.2.1[x.toNat]?=some (zt_ (code.take i) x):=by
        have:=(t4 x.toNat (by omega)).1
        rwa [show ((x.toNat:Nat):Int)=x by omega] at this
      have gy:t.2.2[y.toNat]?=some (zt_ (guess.take i) y):=by
        have:=(t4 y.toNat (by omega)).2
        rwa [show ((y.toNat:Nat):Int)=y by omega] at this
      refine⟨?_,?_,?_,?_,λk hk => ?_⟩
      · simp only[dlt (am_ hx),a5_,ah_ hx,ah_ hy,a0_,ax,ay,show decide (x<10)=true from b6_ (by omega),show decide (y<10)=true from b6_ (by omega),az_ (show Sm i by have:=am_ hx;unfold Sm;omega),gx,gy,f3_]
        cases x==y<;>rfl
      · show cond (x==y) (w64 (t.1+1)) t.1=ce3 (code.take (i+1)) (guess.take (i+1))
        unfold ce3
        rw[← tk,d7_,hp,o2_,tk,t1]
        rfl
      · simp[t2]
      · simp[t3]
      · obtain⟨q1,q2⟩:=t4 k hk
        constructor
        · show (t.2.1.set x.toNat (w64 ((t.2.1[x.toNat]?).getD 0+1)))[k]?=_
          rw[ao0 hx,gx,f3_,g1_]
          by_cases e:x.toNat=k
          · have e2:x=(k:Int):=by omega
            rw[if_pos e,if_pos (by omega),e2,e2_,a5_]
          · have e2:(x==(k:Int))=false:=by simp;omega
            rw[if_neg e,q1,e2,a2_]
        · show (t.2.2.set y.toNat (w64 ((t.2.2[y.toNat]?).getD 0+1)))[k]?=_
          rw[ao0 hy,gy,f3_,g1_]
          by_cases e:y.toNat=k
          · have e2:y=(k:Int):=by omega
            rw[if_pos e,if_pos (by omega),e2,e2_,a5_]
          · have e2:(y==(k:Int))=false:=by simp;omega
            rw[if_neg e,q2,e2,a2_]) (λt _=>by rw[hz];simp only[dnl,a2_])
  obtain⟨t,⟨t1,t2,t3,t4⟩,h2⟩:=h1
  rw[hz] at t1 t4
  rw[d9_,show guess.take code.length=guess by rw[h0_ (by omega)]] at t1
  unfold ii_
  refine (congrArg (λo=>Option.bind o _) h2).trans ?_
  rw[a0_]
  refine mj_ (List.range 10) (λs (k:Nat)=>w64 (s+minI (zt_ code k) (zt_ guess k))) (λi s=>(s,((i:Int),()))) (λs=>(s,())) 0 (λi k s hk=>by
    have hi:=am_ hk
    rw[j2_] at hi
    rw[m7_ hi] at hk
    obtain rfl:=a6_ hk
    obtain⟨q1,q2⟩:=t4 i hi
    rw[d9_] at q1
    rw[show guess.take code.length=guess by rw[h0_ (by omega)]] at q2
    simp only[show decide ((i:Int)<10)=true from b6_ (by omega),a5_,ah_ q1,ah_ q2,a0_,az_ (show Sm i by unfold Sm;omega)]) (λs=>by
    rw[j2_]
    rfl) ?_
  rw[t1]
  rfl
end
section
def wf_ (code:List Int) (a b:Int):List Int:=(code.take (b+1).toNat).drop a.toNat
def sumW (l:List Int):Int:=l.foldl (λs x=>w64 (s+x)) 0
def gt0 (code:List Int) (i:Int):Int:=(at? code i).getD 0
def plV (c:ak_) (code:List Int):Bool :=
 cond (c.1==1) (gt0 code c.2.1==c.2.2.2.1) <|
 cond (c.1==2) (sumW (wf_ code c.2.1 c.2.2.1)==c.2.2.2.1) <|
 cond (c.1==3) (decide (gt0 code c.2.1<gt0 code c.2.2.1)) <|
 cond (c.1==4) (gt0 code c.2.1==gt0 code c.2.2.1) <|
 cond (c.1==5) (zt_ code c.2.2.2.1==c.2.2.2.2.1) <|
 cond (c.1==6) (cond (ce3 code c.2.2.2.2.2.1==c.2.2.2.1) (w64 (comW code c.2.2.2.2.2.1 - ce3 code c.2.2.2.2.2.1)==c.2.2.2.2.1) false) <|
 cond (c.1==7) ((gt0 code c.2.1).tmod c.2.2.2.1==c.2.2.2.2.1) false
def tr (c:ak_) (code:List Int):Bool:=plV c code != c.2.2.2.2.2.2
theorem gt0_at {code:List Int} {i x:Int} (h:at? code i=some x):gt0 code i=x:=by unfold gt0;rw[h];rfl
theorem pt_ {l:ab_} (hl:Lk l) {c:ak_} {code:List Int} (hc:de_ l c=true) (hk:dd_ l code=true):fk_ c code=some (tr c code,())∧fw_ c code=some (tr c code,()):=by
 obtain⟨c1,c2⟩:=jt_.1 hk
 have w1:=hl.w1;have w2:=hl.w2;have s1:=hl.s1;have s2:=hl.s2
 have sc:Sm code.length:=by unfold Sm;omega
 unfold de_ at hc
 have hat:∀ i,wi i 0 (l.1 - 1)=true→at? code i=some (gt0 code i):=by
  intro i hi
  obtain⟨a,b⟩:=ce_.1 hi
  obtain⟨x,h1⟩:=bb_ (l:=code) (i:=i.toNat) (by omega)
  have h2:at? code i=some x:=by unfold at?; rw[if_pos a];exact h1
  rw[h2,gt0_at h2]
 unfold fk_ fw_ na_ tr plV
 by_cases h1:c.1=1
 ·simp only[h1,k4_,a1_] at hc
  have hx:=hat _ hc.1
  simp only[h1,hx,e2_,a5_,a0_,and_self]
 have b1:(c.1==1)=false:=by simp[h1]
 simp only[b1,a2_]
 by_cases h2:c.1=2
 ·simp only[h2,k4_,a1_,show ¬ ((2:Int)=1) by omega,h8_] at hc
  obtain⟨hA,hB,hAB,_⟩:=hc
  obtain⟨a1,a2⟩:=ce_.1 hA
  obtain⟨d1,d2⟩:=ce_.1 hB
  have hab:c.2.1≤c.2.2.1:=by simpa using hAB
  have hsub:sub? code c.2.1 (w64 (c.2.2.1+1))=some (wf_ code c.2.1 c.2.2.1):=by
   rw[ku_ (by omega) (by omega)]
   unfold sub? wf_
   rw[if_pos ⟨a1,by omega,by omega⟩]
  have hsl:(wf_ code c.2.1 c.2.2.1).length=(c.2.2.1 - c.2.1+1).toNat:=by
   unfold wf_
   rw[k0_,c9_]
   omega
  have hsg:∀ (j:Nat) x,(wf_ code c.2.1 c.2.2.1)[j]?=some x→at? code (c.2.1+(j:Int))=some x:=by
   intro j x hj
   have hlt:=am_ hj
   unfold wf_ at hj
   rw[List.getElem?_drop,j6_,if_pos (by omega)] at hj
   unfold at?
   rw[if_pos (by omega),show (c.2.1+(j:Int)).toNat=c.2.1.toNat+j by omega]
   exact hj
  simp only[h2,e2_,a5_,hsub,a0_]
  constructor
  ·have:=zo_ (wf_ code c.2.1 c.2.2.1) (λs x=>w64 (s+x)) (λi s=>(s,(c.2.1+(i:Int),()))) (λs=>(s,())) 0 (body:=λ(v1:(Int×(Int×Unit))) =>
    (cond (decide (v1.2.1≤c.2.2.1))
    ((at? code v1.2.1).bind λv2 =>
    (some (inl ((w64 (v1.1+v2)),((w64 (v1.2.1+1)),())))))
    (some (inr (v1.1,()))))) (λi x s hx=>by
    have hi:=am_ hx
    simp only[show decide (c.2.1+(i:Int)≤c.2.2.1)=true from b6_ (by omega),a5_,hsg i x hx,a0_,ku_ (n:=c.2.1+(i:Int)+1) (by omega) (by omega)]
    rw[show c.2.1+(i:Int)+1=c.2.1+((i+1:Nat):Int) by omega]) (λs=>by
    simp only[show decide (c.2.1+((wf_ code c.2.1 c.2.2.1).length:Int)≤c.2.2.1)=false from b9_ (by omega),a2_])
   simp only[Int.natCast_zero,Int.add_zero] at this
   rw[this]
   rfl
  ·refine congrArg (λo=>Option.bind o _) (?_:_=some (sumW (wf_ code c.2.1 c.2.2.1)==c.2.2.2.1,())) |>.trans rfl
   refine mj_ (wf_ code c.2.1 c.2.2.1) (λs x=>w64 (s+x)) (λi s=>(s,((i:Int),()))) (λs=>(s,())) 0 (λi x s hx=>by
    have hi:=am_ hx
    simp only[dlt hi,a5_,ah_ hx,a0_,az_ (show Sm i by unfold Sm;omega)]) (λs=>by simp only[dnl,a2_]) rfl
 have b2:(c.1==2)=false:=by simp[h2]
 simp only[b2,a2_]
 by_cases h3:c.1=3
 ·simp only[h3,k4_,a1_,show ¬ ((3:Int)=1) by omega,show ¬ ((3:Int)=2) by omega,h8_,n6_] at hc
  simp only[h3,hat _ hc.1,hat _ hc.2.1,e2_,a5_,a0_,and_self]
 have b3:(c.1==3)=false:=by simp[h3]
 simp only[b3,a2_]
 by_cases h4:c.1=4
 ·simp only[h4,k4_,a1_,show ¬ ((4:Int)=1) by omega,show ¬ ((4:Int)=2) by omega,h8_,n7_] at hc
  simp only[h4,hat _ hc.1,hat _ hc.2.1,e2_,a5_,a0_,and_self]
 have b4:(c.1==4)=false:=by simp[h4]
 simp only[b4,a2_]
 by_cases h5:c.1=5
 ·have hs:=qp_ (k:=c.2.2.2.1) sc
  simp only[h5,e2_,a5_,hs,a0_,true_and]
  have:=hs
  unfold ef_ at this
  obtain⟨y,h6,h7⟩:=bnd this
  rw[h6]
  have e:y.1=zt_ code c.2.2.2.1:=congrArg Prod.fst (a6_ h7)
  rw[a0_,a0_,e]
 have b5:(c.1==5)=false:=by simp[h5]
 simp only[b5,a2_]
 by_cases h6:c.1=6
 ·simp only[h6,k4_,a1_,show ¬ ((6:Int)=1) by omega,show ¬ ((6:Int)=2) by omega,show ¬ ((6:Int)=3∨(6:Int)=4) by omega,show ¬ ((6:Int)=5) by omega,h8_] at hc
  simp only[h6,e2_,a5_,aj5 hl hk hc.1,an7 hl hk hc.1,a0_]
  cases ce3 code c.2.2.2.2.2.1==c.2.2.2.1<;>exact⟨rfl,rfl⟩
 have b6:(c.1==6)=false:=by simp[h6]
 simp only[b6,a2_]
 by_cases h7:c.1=7
 ·simp only[h7,k4_,a1_,show ¬ ((7:Int)=1) by omega,show ¬ ((7:Int)=2) by omega,show ¬ ((7:Int)=3∨(7:Int)=4) by omega,show ¬ ((7:Int)=5) by omega,show ¬ ((7:Int)=6) by omega,h8_] at hc
  obtain⟨n1,n2⟩:=ce_.1 hc.2.1
  have hm:md (gt0 code c.2.1) c.2.2.2.1=some ((gt0 code c.2.1).tmod c.2.2.2.1):=ct0 (by omega)
  simp only[h7,hat _ hc.1,hm,e2_,a5_,a0_,and_self]
 ·simp[h1,h2,h3,h4,h5,h6,h7] at hc
end
section
def ir_ (S:Nat):Nat→List (List Int)
 | 0=>[[]]
 | W+1=>(List.range S).flatMap λ(x:Nat)=>(ir_ S W).map λc=>(x:Int)::c
theorem bc4 {α β:Type} {f:α→List β} {m:Nat}:∀ (l:List α),(∀ x ∈ l,(f x).length=m)→(l.flatMap f).length=l.length * m
 | [],_=>by simp
 | x::l,h=>by
  rw[p6_,a8_,h x (by simp),bc4 l (λy hy=>h y (by simp[hy])),c4_,j9_]
  omega
theorem bc5 {α β:Type} {f:α→List β} {m:Nat}:∀ (l:List α) (q r:Nat) (x:α),(∀ x ∈ l,(f x).length=m)→r<m→l[q]?=some x→(l.flatMap f)[q * m+r]?=(f x)[r]?
 | [],q,r,x,h,hr,hq=>by simp at hq
 | y::l,0,r,x,h,hr,hq=>by
  have e:y=x:=by simpa using hq
  subst e
  rw[p6_,Nat.zero_mul,b0_,b2_ (by rw[h y (by simp)];exact hr)]
 | y::l,q+1,r,x,h,hr,hq=>by
  have hq':l[q]?=some x:=by simpa using hq
  have hl:=h y (by simp)
  rw[p6_,c5_ (by rw[hl,j9_];omega),hl,show (q+1) * m+r - m=q * m+r by rw[j9_];omega]
  exact bc5 l q r x (λz hz=>h z (by simp[hz])) hr hq'
theorem px_ (S:Nat):∀ W,(ir_ S W).length=S ^ W
 | 0=>rfl
 | W+1=>by
  unfold ir_
  rw[bc4 (m:=S ^ W) _ (λx _=>by rw[d2_,px_ S W]),j2_,k3_,k9_]
theorem tj_ (S:Nat):∀ W c,c ∈ ir_ S W↔c.length=W∧∀ n ∈ c,0≤n∧n<(S:Int)
 | 0,c=>by
  unfold ir_
  rw[e6_]
  constructor
  ·rintro rfl;exact⟨rfl,by simp⟩
  ·rintro⟨h,_⟩;exact n3_.1 h
 | W+1,c=>by
  unfold ir_
  rw[List.mem_flatMap]
  constructor
  ·rintro⟨x,hx,hc⟩
   obtain⟨d,hd,rfl⟩:=d1_.1 hc
   obtain⟨h1,h2⟩:=(tj_ S W d).1 hd
   have:=m2_.1 hx
   refine⟨by rw[c4_,h1],λn hn => ?_⟩
   rcases d0_.1 hn with rfl | hn
   ·omega
   ·exact h2 n hn
  ·rintro⟨h1,h2⟩
   cases c with
   | nil=>simp at h1
   | cons x c =>
    obtain⟨a,b⟩:=h2 x (by simp)
    refine⟨x.toNat,m2_.2 (by omega),d1_.2 ⟨c,(tj_ S W c).2 ⟨by simpa using h1,λn hn=>h2 n (by simp[hn])⟩,?_⟩⟩
    rw[show ((x.toNat:Nat):Int)=x by omega]
def dig (S:Nat):Nat→Nat→List Int
 | 0,_=>[]
 | W+1,i=>dig S W (i / S)++[((i % S:Nat):Int)]
theorem bz3 (S:Nat):∀ W i,(dig S W i).length=W
 | 0,_=>rfl
 | W+1,i=>by unfold dig;rw[a8_,bz3 S W];rfl
theorem bd2 {S:Nat} (hS:0<S):∀ (W q r:Nat),q<S→r<S ^ W→dig S (W+1) (q * S ^ W+r)=(q:Int)::dig S W r
 | 0,q,r,hq,hr=>by
  have:r=0:=by simpa using hr
  subst this
  simp[dig,k7_ hq]
 | W+1,q,r,hq,hr=>by
  have e1:(q * S ^ (W+1)+r) / S=q * S ^ W+r / S:=by
   rw[k3_,← Nat.mul_assoc,k9_ (q * S ^ W) S,Nat.mul_add_div hS]
  have e2:(q * S ^ (W+1)+r) % S=r % S:=by
   rw[k3_,← Nat.mul_assoc,k9_ (q * S ^ W) S,Nat.mul_add_mod]
  have hr':r / S<S ^ W:=Nat.div_lt_of_lt_mul (by rw[k9_,← k3_];exact hr)
  rw[dig,e1,e2,bd2 hS W q (r / S) hq hr']
  rfl
theorem py_ {S:Nat} (hS:0<S):∀ (W i:Nat),i<S ^ W→(ir_ S W)[i]?=some (dig S W i)
 | 0,i,h=>by
  have:i=0:=by simpa using h
  subst this;rfl
 | W+1,i,h=>by
  have hP:0<S ^ W:=Nat.pow_pos hS
  have hr:i % S ^ W<S ^ W:=Nat.mod_lt _ hP
  have hq:i / S ^ W<S:=Nat.div_lt_of_lt_mul (by rw[← k3_];exact h)
  have he:i=i / S ^ W * S ^ W+i % S ^ W:=by rw[k9_];exact (Nat.div_add_mod i (S ^ W)).symm
  rw[he,bd2 hS W _ _ hq hr]
  unfold ir_
  rw[bc5 (m:=S ^ W) _ _ _ (i / S ^ W) (λx _=>by rw[d2_,px_]) hr (by rw[m7_ hq]),d8_,py_ hS W _ hr]
  rfl
def rdg (l:ab_) (cl:List ak_):List (List Int):=(ir_ l.2.toNat l.1.toNat).filter λc=>cl.all (tr · c)
theorem bd4 {l:ab_} (hl:Lk l) {c:List Int}:c ∈ ir_ l.2.toNat l.1.toNat↔dd_ l c=true:=by
 have:=hl.w1;have:=hl.s1
 rw[tj_,jt_]
 constructor
 ·rintro⟨a,b⟩;exact⟨by omega,λn hn=>by have:=b n hn;omega⟩
 ·rintro⟨a,b⟩;exact⟨by omega,λn hn=>by have:=b n hn;omega⟩
theorem cr5 {l:ab_} (hl:Lk l):l.2.toNat ^ l.1.toNat≤10000:=by
 have:=hl.w1;have:=hl.w2;have:=hl.s1;have:=hl.s2
 have h1:l.2.toNat ^ l.1.toNat≤10 ^ l.1.toNat:=Nat.pow_le_pow_left (by omega) _
 have h2:10 ^ l.1.toNat≤10 ^ 4:=Nat.pow_le_pow_right (by omega) (by omega)
 omega
theorem cc8 (cl:List ak_) (code:List Int):(!(cl.any λc=>!(tr c code)))=cl.all (tr · code):=tr_ cl λc=>tr c code
theorem as2 {l:ab_} (hl:Lk l) {cl:List ak_} (hn:cl.length≤20) {code:List Int} (hc:∀ c ∈ cl,de_ l c=true) (hk:dd_ l code=true):∃ r,jn_ cl code=some (r,())∧decide (r<0)=cl.all (tr · code):=by
 obtain⟨n,h1,h2,_⟩:=if_lt (l:=cl) (by unfold Sm;omega) (λc=>!(tr c code)) (body:=λ(v0:(Int×Unit)) =>
  (cond (decide (v0.1<(cl.length:Int)))
  ((at? cl v0.1).bind λv1 =>
  ((fk_ v1 code).bind λv2 =>
  (cond (!v2.1)
  (some (inr (inr (v0.1,()))))
  (some (inl ((w64 (v0.1+1)),()))))))
  (some (inr (inl ()))))) (λi c hi=>by
  simp only[dlt (am_ hi),a5_,ah_ hi,a0_,(pt_ hl (hc c (b1_ hi)) hk).1]
  cases tr c code<;>rfl) (by simp only[dnl,a2_])
 exact⟨n,h1,by rw[h2,cc8]⟩
theorem av4 {l:ab_} (hl:Lk l) {cl:List ak_} (hn:cl.length≤20) {code:List Int} (hc:∀ c ∈ cl,de_ l c=true) (hk:dd_ l code=true):∃ r,fx_ cl code=some (r,())∧decide (r<0)=cl.all (tr · code):=by
 obtain⟨n,h1,h2,_⟩:=if_lt (l:=cl) (by unfold Sm;omega) (λc=>!(tr c code)) (body:=λ(v0:(Int×Unit)) =>
  (cond (decide (v0.1<(cl.length:Int)))
  ((at? cl v0.1).bind λv1 =>
  ((fw_ v1 code).bind λv2 =>
  (cond (!v2.1)
  (some (inr (inr (v0.1,()))))
  (some (inl ((w64 (v0.1+1)),()))))))
  (some (inr (inl ()))))) (λi c hi=>by
  simp only[dlt (am_ hi),a5_,ah_ hi,a0_,(pt_ hl (hc c (b1_ hi)) hk).2]
  cases tr c code<;>rfl) (by simp only[dnl,a2_])
 exact⟨n,h1,by rw[h2,cc8]⟩
theorem rep_set {p:Nat} {x:Int} {t:List Int}:(List.replicate (p+1) (0:Int)++t).set p x=List.replicate p 0++(x::t):=by
 rw[List.set_append_left _ _ (by rw[f1_];omega),q4_,q3_ _ _ (by rw[f1_];omega),f1_,k8_]
 simp
theorem cn6 {l:ab_} (hl:Lk l) {S:Nat} (hS:l.2=(S:Int)):∀ (p n:Nat) (t:List Int),p≤4→n≤10000→af_ (ρ:=((List Int)×Unit)) (λ(v4:(Int×(Int×((List Int)×Unit)))) =>
 (cond (decide (0≤v4.2.1))
 ((md v4.1 l.2).bind λv5 =>
 ((at? v4.2.2.1 v4.2.1).bind λv6 =>
 ((at? v4.2.2.1 v4.2.1).bind λv7 =>
 ((dv v4.1 l.2).bind λv8 =>
 (some (inl (v8,((w64 (v4.2.1 - 1)),((v4.2.2.1.set v4.2.1.toNat v5),())))))))))
 (some (inr (v4.2.2.1,()))))) ((n:Int),((p:Int) - 1,(List.replicate p 0++t,())))=some (dig S p n++t,()):=by
  have s1:=hl.s1;have s2:=hl.s2
  intro p
  induction p with
  | zero =>
    intro n t _ _
    refine lv_ ?_
    simp[dig]
  | succ p ih =>
    intro n t hp hn
    have hd:dv (n:Int) l.2=some ((n / S:Nat):Int):=by
      unfold dv
      have:n / S≤n:=Nat.div_le_self n S
      rw[hS,if_neg (by omega),show (n:Int).tdiv (S:Int)=((n / S:Nat):Int) from (Int.ofNat_tdiv ..).symm]
      generalize n / S=q at this
      rw[ku_ (by omega) (by omega)]
    have hm:md (n:Int) l.2=some ((n % S:Nat):Int):=by
      rw[hS,ct0 (by omega),show (n:Int).tmod (S:Int)=((n % S:Nat):Int) from (Int.ofNat_tmod ..).symm]
    obtain⟨y,hy⟩:=bb_ (l:=List.replicate (p+1) (0:Int)++t) (i:=p) (by simp;omega)
    have e:((p+1:Nat):Int) - 1=((p:Nat):Int):=by omega
    refine (ox_ (s':=(((n / S:Nat):Int),((p:Int) - 1,(List.replicate p 0++(((n % S:Nat):Int)::t),())))) ?_).trans ?_
    · simp only[e,show decide (0≤(p:Int))=true from b6_ (by omega),a5_,hm,hd,ah_ hy,a0_,c1_,rep_set,ku_ (n:=(p:Int) - 1) (by omega) (by omega)]
    · rw[ih (n / S) _ (by omega) (c6_ (Nat.div_le_self n S) hn)]
      simp[dig]
theorem bp0 {l:ab_} (hl:Lk l) {cl:List ak_} (hn:cl.length≤20) (hc:∀ c ∈ cl,de_ l c=true):mx_ l cl=some (rdg l cl,()):=by
  have w1:=hl.w1;have w2:=hl.w2;have s1:=hl.s1;have s2:=hl.s2
  obtain⟨W,hW⟩:∃ W:Nat,l.1=(W:Int):=⟨l.1.toNat,by omega⟩
  obtain⟨S,hS⟩:∃ S:Nat,l.2=(S:Int):=⟨l.2.toNat,by omega⟩
  have hpow:S ^ W≤10000:=by have:=cr5 hl;rwa [hW,hS,c1_,c1_] at this
  have hSp:0<S:=by omega
  have hlen:=px_ S W
  have e1:af_ (ρ:=(Int×Unit)) (λ(v0:(Int×(Int×Unit))) =>
      (cond (decide (v0.2.1<l.1))
      (some (inl ((w64 (v0.1 * l.2)),((w64 (v0.2.1+1)),()))))
      (some (inr (v0.1,()))))) (1,(0,()))=some (((S ^ W:Nat):Int),()):=by
    obtain⟨t,rfl,h2⟩:=ke_ (List.range W) (λi t x=>t * S) (λi (t:Nat)=>((t:Int),((i:Int),()))) (λt=>((t:Int),())) 1 (λi t=>t=S ^ i) (body:=λ(v0:(Int×(Int×Unit))) =>
      (cond (decide (v0.2.1<l.1))
      (some (inl ((w64 (v0.1 * l.2)),((w64 (v0.2.1+1)),()))))
      (some (inr (v0.1,()))))) rfl (λi x t hi ht=>by
      have hi2:=am_ hi
      rw[j2_] at hi2
      have:S ^ (i+1)≤10000:=c6_ (Nat.pow_le_pow_right hSp (by omega)) hpow
      refine⟨?_,by rw[ht,k3_]⟩
      simp only[show decide ((i:Int)<l.1)=true from b6_ (by omega),a5_,az_ (show Sm i by unfold Sm;omega)]
      rw[hS,← Int.natCast_mul,ht,show S ^ i * S=S ^ (i+1) from (k3_ ..).symm,ku_ (by omega) (by omega)]) (λt _=>by
      rw[j2_]
      simp only[show decide ((W:Int)<l.1)=false from b9_ (by omega),a2_])
    rw[j2_] at h2
    exact h2
  unfold mx_
  refine (congrArg (λo=>Option.bind o _) e1).trans ?_
  rw[a0_]
  obtain⟨t,h1,h2⟩:=ke_ (ir_ S W) (λj t c=>cond (cl.all (tr · c)) (t++[c]) t) (λj (t:List (List Int))=>(t,((j:Int),()))) (λt=>(t,())) [] (λj t=>t=((ir_ S W).take j).filter λc=>cl.all (tr · c)) (body:=λ(v2:((List (List Int))×(Int×Unit))) =>
 (cond (decide (v2.2.1<((S ^ W:Nat):Int)))
 ((((mk? (α:=Int) l.1 0).bind λv3 =>
 ((af_ (ρ:=((List Int)×Unit)) (λ(v4:(Int×(Int×((List Int)×Unit)))) =>
 (cond (decide (0≤v4.2.1))
 ((md v4.1 l.2).bind λv5 =>
 ((at? v4.2.2.1 v4.2.1).bind λv6 =>
 ((at? v4.2.2.1 v4.2.1).bind λv7 =>
 ((dv v4.1 l.2).bind λv8 =>
 (some (inl (v8,((w64 (v4.2.1 - 1)),((v4.2.2.1.set v4.2.1.toNat v5),())))))))))
 (some (inr (v4.2.2.1,()))))) (v2.2.1,((w64 (l.1 - 1)),(v3,())))).bind λv9 =>
 ((jn_ cl v9.1).bind λv10 =>
 (cond (decide (v10.1<0))
 ((push? (α:=(List Int)) v2.1 [v9.1]).bind λv11 =>
 (some (v11,())))
 (some (v2.1,()))))))).bind λv12 =>
 (some (inl (v12.1,((w64 (v2.2.1+1)),())))))
 (some (inr (v2.1,()))))) rfl (λj c t hj ht=>by
    have hj2:=am_ hj
    rw[hlen] at hj2
    have hg:=py_ hSp W j hj2
    rw[hj] at hg
    obtain rfl:=a6_ hg
    have hok:dd_ l (dig S W j)=true:=(bd4 hl (c:=dig S W j)).1 (by rw[hW,hS,c1_,c1_];exact b1_ hj)
    obtain⟨r,r1,r2⟩:=as2 hl hn hc hok
    have hdig:=cn6 hl hS W j [] (by omega) (by omega)
    rw[e7_,e7_] at hdig
    have hb:=l0_ (λc=>cl.all (tr · c)) ((ir_ S W).take j)
    rw[c9_] at hb
    refine⟨?_,?_⟩
    · simp only[show decide ((j:Int)<((S ^ W:Nat):Int))=true from b6_ (by omega),a5_,ru_ (show 0≤l.1 by omega) (show l.1≤2147483648 by omega),a0_,hl.ww,show l.1.toNat=W by omega,az_ (show Sm j by unfold Sm;omega)]
      rw[show l.1 - 1=(W:Int) - 1 by omega]
      have:∀ (K:(List Int×Unit)→Option ((List (List Int)×(Int×Unit))⊕(List (List Int)×Unit))),Option.bind (some (dig S W j,())) K=K (dig S W j,()):=λK=>rfl
      rw[hdig,a0_,r1,a0_,r2]
      cases hp:cl.all (tr · (dig S W j)) with
      | false=>rfl
      | true =>
        rw[a5_,ux_ (by rw[ht];simp only[d3_];omega)]
        rfl
    · rw[ht,d7_,hj,n4_]
      cases hp:cl.all (tr · (dig S W j))<;>simp[hp]) (λt _=>by
    rw[hlen]
    simp only[dnl,a2_])
  refine (congrArg (λo=>Option.bind o _) h2).trans ?_
  rw[a0_,h1,d9_]
  unfold rdg
  rw[hW,hS,c1_,c1_]
end
section
theorem bk6 {σ ρ:Type} {body:σ→Option (σ⊕ρ)} (F:Nat→σ) {n:Nat} {r:ρ} (h:∀ j,j<n→body (F j)=some (.inl (F (j+1)))) (e:body (F n)=some (.inr r)):af_ body (F 0)=some r:=by
 have:=lu_ (body:=body) (λj s=>s=F j) (λx=>x=r) n 0 (F 0) rfl (λj s _ hj q=>by subst q;exact .inl ⟨_,h j (by omega),rfl⟩) (λs q=>by subst q;rw[b0_];exact⟨_,e,rfl⟩)
 obtain⟨x,h1,rfl⟩:=this
 exact h1
theorem cg9 {p:List Int} {x y:Int} {t:List Int}:(p++x::t).set p.length y=p++y::t:=by
 rw[q3_ _ _ (c3_ _),k8_]
 rfl
theorem cm5 {p:List Int} {x:Int} {t:List Int}:at? (p++x::t) ((p.length:Nat):Int)=some x:=by
 rw[aw1,c5_ (c3_ _),k8_]
 rfl
def odoB (l:ab_):(Int×(List Int×Unit))→Option ((Int×(List Int×Unit))⊕(Int×(List Int×Unit))):=(λ(v3:(Int×((List Int)×Unit))) =>
 (((cond (decide (0≤v3.1))
 ((at? v3.2.1 v3.1).bind λv4 =>
 ((at? v3.2.1 v3.1).bind λv5 =>
 (some ((v5==(w64 (l.2 - 1))),()))))
 (some (false,())))).bind λv6 =>
 (cond v6.1
 ((at? v3.2.1 v3.1).bind λv7 =>
 ((at? v3.2.1 v3.1).bind λv8 =>
 (some (inl ((w64 (v3.1 - 1)),((v3.2.1.set v3.1.toNat 0),()))))))
 (some (inr (v3.1,(v3.2.1,())))))))
theorem odo {l:ab_} (hl:Lk l) {S:Nat} (hS:l.2=(S:Int)):∀ (W j k:Nat),W≤4→∃ (i:Int) (c:List Int),
  af_ (odoB l) ((W:Int) - 1,(dig S W j++List.replicate k 0,()))=some (i,(c,())) ∧
  (j+1=S ^ W→i<0)∧(j+1<S ^ W→0≤i∧∃ x,at? c i=some x∧c.set i.toNat (w64 (x+1))=dig S W (j+1)++List.replicate k 0):=by
 have s1:=hl.s1;have s2:=hl.s2
 intro W
 induction W with
 | zero =>
  intro j k _
  refine⟨_,_,lv_ (r:=((0:Int) - 1,(dig S 0 j++List.replicate k 0,()))) rfl,λ_=>by omega,λh => ?_⟩
  simp at h
 | succ W ih =>
  intro j k hW
  have hd:dig S (W+1) j++List.replicate k 0=dig S W (j / S)++((j % S:Nat):Int)::List.replicate k 0:=by rw[dig,b4_];rfl
  have hlen:=bz3 S W (j / S)
  have hg:at? (dig S W (j / S)++((j % S:Nat):Int)::List.replicate k 0) ((W:Nat):Int)=some ((j % S:Nat):Int):=by
   have:=cm5 (p:=dig S W (j / S)) (x:=((j % S:Nat):Int)) (t:=List.replicate k 0)
   rwa [hlen] at this
  have hse:∀ y:Int,(dig S W (j / S)++((j % S:Nat):Int)::List.replicate k 0).set W y=dig S W (j / S)++y::List.replicate k 0:=λy=>by
   have:=cg9 (p:=dig S W (j / S)) (x:=((j % S:Nat):Int)) (y:=y) (t:=List.replicate k 0)
   rwa [hlen] at this
  have hmod:j % S<S:=Nat.mod_lt _ (by omega)
  have hdm:=Nat.div_add_mod j S
  have hpos:decide (0≤(W:Int))=true:=b6_ (by omega)
  rw[hd,show ((W+1:Nat):Int) - 1=(W:Int) by omega]
  by_cases h9:j % S=S - 1
  ·obtain⟨i,c,e1,e2,e3⟩:=ih (j / S) (k+1) (by omega)
   have hj1:j+1=S * (j / S+1):=by rw[Nat.mul_add,q8_];omega
   have hb:(((j % S:Nat):Int)==w64 (l.2 - 1))=true:=by rw[hl.ws,hS];simp;omega
   refine⟨i,c,?_,λh=>e2 ?_,λh => ?_⟩
   ·rw[← e1]
    refine ox_ ?_
    unfold odoB
    simp only[hpos,a5_,hg,a0_,hb,c1_,hse,ku_ (n:=(W:Int) - 1) (by omega) (by omega)]
    rfl
   ·rw[k3_,k9_] at h
    rw[hj1] at h
    exact Nat.eq_of_mul_eq_mul_left (by omega) h
   ·have:j / S+1<S ^ W:=by
     rw[k3_,k9_,hj1] at h
     exact Nat.lt_of_mul_lt_mul_left h
    obtain⟨f1,x,f2,f3⟩:=e3 this
    refine⟨f1,x,f2,?_⟩
    rw[f3,dig,hj1,Nat.mul_div_cancel_left _ (by omega),Nat.mul_mod_right,b4_]
    rfl
  ·have hb:(((j % S:Nat):Int)==w64 (l.2 - 1))=false:=by rw[hl.ws,hS];simp;omega
   refine⟨_,_,lv_ (r:=((W:Int),(dig S W (j / S)++((j % S:Nat):Int)::List.replicate k 0,()))) (by
    unfold odoB
    simp only[hpos,a5_,hg,a0_,hb,a2_]),λh => ?_,λh=>⟨by omega,_,hg,?_⟩⟩
   ·exfalso
    have:(j+1) % S=0:=by rw[h,k3_];exact Nat.mul_mod_left _ _
    have h2:(j+1) % S=j % S+1:=by rw[Nat.add_mod,k7_ (show 1<S by omega),k7_ (by omega)]
    omega
   ·simp only[c1_]
    rw[hse,ku_ (by omega) (by omega),dig,b4_]
    have h2:(j+1) % S=j % S+1:=by rw[Nat.add_mod,k7_ (show 1<S by omega),k7_ (by omega)]
    have h3:(j+1) / S=j / S:=by
     refine Nat.div_eq_of_lt_le ?_ ?_
     ·rw[k9_];omega
     ·rw[k9_,Nat.mul_add];omega
    rw[h2,h3]
    simp
theorem bd1 (S:Nat):∀ W,List.replicate W (0:Int)=dig S W 0
 | 0=>rfl
 | W+1=>by rw[dig,Nat.zero_div,Nat.zero_mod,← bd1 S W,q4_];rfl
noncomputable def br9 (l:ab_) (n:Int) (c:List Int):Option ((Unit×(Unit×((List Int)×((Int×Unit)×Unit))))⊕((Unit×(Unit×((List Int)×((Int×Unit)×Unit))))⊕(Int×Unit))) :=
 ((af_ (odoB l) ((w64 (l.1 - 1)),(c,()))).bind λv9 =>
 (cond (decide (v9.1<0))
 (some (inr (inr (n,()))))
 ((at? v9.2.1 v9.1).bind λv10 =>
 ((at? v9.2.1 v9.1).bind λv11 =>
 ((at? v9.2.1 v9.1).bind λv12 =>
 ((at? v9.2.1 v9.1).bind λv13 =>
 (some (inl ((),((),((v9.2.1.set v9.1.toNat (w64 (v11+1))),((n,()),()))))))))))))
noncomputable def cntX (a0:ab_) (a1:List ak_):Option (Int×Unit) :=
 ((mk? (α:=Int) a0.1 0).bind λv0 =>
 ((af_ (ρ:=((Unit×(Unit×((List Int)×((Int×Unit)×Unit))))⊕(Int×Unit))) (λ(v1:(Unit×(Unit×((List Int)×((Int×Unit)×Unit))))) =>
 ((fx_ a1 v1.2.2.1).bind λv2 =>
 (cond (decide (v2.1<0)) (br9 a0 (w64 (v1.2.2.2.1.1+1)) v1.2.2.1) (br9 a0 v1.2.2.2.1.1 v1.2.2.1)))) ((),((),(v0,((0,()),()))))).bind λv25 =>
 (cg_ v25 (λv26=>(some (v26.2.2.2.1.1,())))
 (λv27=>(some v27)))))
theorem cntX_eq:eu_=cntX:=by kernel_rfl
theorem bi2 {l:ab_} (hl:Lk l) {cl:List ak_} (hn:cl.length≤20) (hc:∀ c ∈ cl,de_ l c=true):eu_ l cl=some (((rdg l cl).length:Int),()):=by
  have w1:=hl.w1;have w2:=hl.w2;have s1:=hl.s1;have s2:=hl.s2
  obtain⟨W,hW⟩:∃ W:Nat,l.1=(W:Int):=⟨l.1.toNat,by omega⟩
  obtain⟨S,hS⟩:∃ S:Nat,l.2=(S:Int):=⟨l.2.toNat,by omega⟩
  have hpow:S ^ W≤10000:=by have:=cr5 hl;rwa [hW,hS,c1_,c1_] at this
  have hSp:0<S:=by omega
  have hN:0<S ^ W:=Nat.pow_pos hSp
  have hlen:=px_ S W
  have hok:∀ j,j<S ^ W→dd_ l (dig S W j)=true:=λj hj=>(bd4 hl).1 (by rw[hW,hS,c1_,c1_];exact b1_ (py_ hSp W j hj))
  let cn:Nat→Nat:=λj=>(((ir_ S W).take j).filter λc=>cl.all (tr · c)).length
  have hcn:∀ j,j<S ^ W→cn j≤j∧cn (j+1)=cond (cl.all (tr · (dig S W j))) (cn j+1) (cn j):=by
    intro j hj
    constructor
    · have hb:=l0_ (λc=>cl.all (tr · c)) ((ir_ S W).take j)
      rw[c9_] at hb
      exact c6_ hb (Nat.min_le_left _ _)
    · show (((ir_ S W).take (j+1)).filter _).length=_
      rw[d7_,py_ hSp W j hj,n4_,a8_]
      cases hp:cl.all (tr · (dig S W j))<;>simp[hp,cn]
  have step:∀ j,j<S ^ W→∀ m:Int,(j+1<S ^ W→br9 l m (dig S W j)=some (inl ((),((),(dig S W (j+1),((m,()),()))))))∧(j+1=S ^ W→br9 l m (dig S W j)=some (inr (inr (m,())))):=by
    intro j hj m
    obtain⟨i,c,o1,o2,o3⟩:=odo hl hS W j 0 (by omega)
    simp only[List.replicate_zero,e7_] at o1 o3
    rw[← hW,← hl.ww] at o1
    constructor
    · intro h
      obtain⟨p1,x,p2,p3⟩:=o3 h
      unfold br9
      rw[o1,a0_]
      simp only[show decide (i<0)=false from b9_ (by omega),a2_,p2,a0_,p3]
    · intro h
      unfold br9
      rw[o1,a0_]
      simp only[show decide (i<0)=true from b6_ (o2 h),a5_]
  have body:∀ j,j<S ^ W→(((fx_ cl (dig S W j)).bind λv2=>(cond (decide (v2.1<0)) (br9 l (w64 ((cn j:Int)+1)) (dig S W j)) (br9 l (cn j) (dig S W j)))))=br9 l ((cn (j+1):Nat):Int) (dig S W j):=by
    intro j hj
    obtain⟨r,r1,r2⟩:=av4 hl hn hc (hok j hj)
    obtain⟨q1,q2⟩:=hcn j hj
    rw[r1,a0_,r2,q2]
    cases cl.all (tr · (dig S W j)) with
    | false=>rfl
    | true=>rw[a5_,a5_,az_ (show Sm (cn j) by unfold Sm;omega)]
  rw[cntX_eq]
  unfold cntX
  rw[ru_ (by omega) (by omega),a0_,show l.1.toNat=W by omega,bd1 S W]
  have hw:=bk6 (n:=S ^ W - 1) (F:=λj=>((),((),(dig S W j,(((cn j:Int),()),()))))) (r:=inr ((cn (S ^ W):Int),())) (body:=λ(v1:(Unit×(Unit×((List Int)×((Int×Unit)×Unit))))) =>
 ((fx_ cl v1.2.2.1).bind λv2 =>
 (cond (decide (v2.1<0)) (br9 l (w64 (v1.2.2.2.1.1+1)) v1.2.2.1) (br9 l v1.2.2.2.1.1 v1.2.2.1)))) (λj hj=>(body j (by omega)).trans ((step j (by omega) _).1 (by omega))) ((body (S ^ W - 1) (by omega)).trans (by
    rw[show S ^ W - 1+1=S ^ W by omega]
    exact (step (S ^ W - 1) (by omega) _).2 (by omega)))
  refine (congrArg (λo=>Option.bind o _) (show af_ _ _=_ from hw)).trans ?_
  have e:cn (S ^ W)=(rdg l cl).length:=by
    show (((ir_ S W).take (S ^ W)).filter _).length=_
    rw[← hlen,d9_]
    unfold rdg
    rw[hW,hS,c1_,c1_]
  rw[a0_,← e]
  rfl
theorem ti_ {l:ab_} (hl:Lk l) {cl:List ak_} (hn:cl.length≤20) (hc:∀ c ∈ cl,de_ l c=true):ev_ l cl=some (0,()):=by
  unfold ev_
  rw[ll_,nt_.2 hl,if_pos rfl,a0_]
  have:=on_ (l:=cl) (by unfold Sm;omega) (λc=>!(de_ l c)) (body:=λ(v1:(Int×Unit)) =>
 (cond (decide (v1.1<(cl.length:Int)))
 ((at? cl v1.1).bind λv2 =>
 ((dj_ l v2).bind λv3 =>
 (cond (!v3.1)
 (some (inr (inr ((decide (0≤v1.1)),()))))
 (some (inl ((w64 (v1.1+1)),()))))))
 (some (inr (inl ()))))) (λi y hy=>by
    simp only[dlt (am_ hy),a5_,ah_ hy,a0_,om_ hl]
    cases de_ l y<;>rfl) (by simp only[dnl,a2_])
  have ha:(cl.any λc=>!(de_ l c))=false:=by
    rw[List.any_eq_false]
    intro c h
    simp[hc c h]
  rw[ha] at this
  simp only[show decide ((20:Int)<(cl.length:Int))=false from b9_ (by omega),j1_,a2_,this,a0_]
theorem an9 {l:ab_} (hl:Lk l) {cl:List ak_} (hn:cl.length≤20) (hc:∀ c ∈ cl,de_ l c=true):db_ l cl=some (((rdg l cl).length:Int),(0,())):=by
 unfold db_
 rw[ti_ hl hn hc,a0_]
 simp only[j1_,a2_,bi2 hl hn hc,a0_]
theorem su_ {l:ab_} (hl:Lk l) {cl:List ak_} (hn:cl.length≤20) (hc:∀ c ∈ cl,de_ l c=true) (hs:∀ c ∈ cl,Sm c.2.2.2.2.2.1.length):et_ l cl=some (0,()):=by
 unfold et_
 rw[kx_,nt_.2 hl,if_pos rfl,a0_]
 simp only[show decide ((20:Int)<(cl.length:Int))=false from b9_ (by omega),j1_,a2_]
 refine bo_ cl (λ_ c=>cond (de_ l c) none (some (inr (11,()):Unit⊕(Int×Unit)))) (λi=>((i:Int),())) (r0:=inl ()) (λi c hi => ?_) ?_ ?_
 ·simp only[dlt (am_ hi),a5_,ah_ hi,a0_,ty_ hl (hs c (b1_ hi)),az_ (show Sm i by have:=am_ hi;unfold Sm;omega)]
  cases de_ l c<;>rfl
 ·simp only[dnl,a2_]
 ·rw[je_ (q:=λc=>de_ l c),f0_.2 hc]
  rfl
theorem aj6 {l:ab_} (hl:Lk l) {cl:List ak_} (hn:cl.length≤20) (hc:∀ c ∈ cl,de_ l c=true) (hs:∀ c ∈ cl,Sm c.2.2.2.2.2.1.length):jo_ l cl=some (((rdg l cl).length:Int),(0,())):=by
 unfold jo_
 rw[su_ hl hn hc hs,a0_]
 simp only[j1_,a2_,bp0 hl hn hc,a0_]
theorem an8 {l:ab_} (hl:Lk l) (c:ak_) {k:List Int} (hk:dd_ l k=true):jq_ l c k=some (cond (de_ l c) (tr c k) false,(cond (de_ l c) 0 11,())):=by
 unfold jq_
 rw[uo_ hl,a0_]
 cases hc:de_ l c with
 | false=>rfl
 | true =>
  simp only[a5_,j1_,a2_]
  rw[nf_,nt_.2 hl,if_pos rfl,hk,if_pos rfl,a0_]
  simp only[j1_,a2_,(pt_ hl hc hk).2,a0_]
theorem as3 {l:ab_} (hl:Lk l) {c:ak_} {k:List Int} (hc:de_ l c=true) (hk:dd_ l k=true):fk_ c k=some (tr c k,()):=(pt_ hl hc hk).1
end
section
theorem zero_eq:ki_=la_:=rfl
def clOk (l:ab_) (c:ak_) (k:List Int):Bool:=de_ l c&&tr c k
end
section
set_option maxRecDepth 10000
def cf2 (c:ak_):Bool:=c.1==0&&(c.2.1==0&&(c.2.2.1==0&&(c.2.2.2.1==0&&(c.2.2.2.2.1==0&&(((c.2.2.2.2.2.1.length:Int)==0)&&!c.2.2.2.2.2.2)))))
theorem ak5 (c:ak_):ki_ c=some (cf2 c,()):=by
 unfold ki_ cf2
 cases c.1==0 with
 | false=>rfl
 | true =>
 cases c.2.1==0 with
 | false=>rfl
 | true =>
 cases c.2.2.1==0 with
 | false=>rfl
 | true =>
 cases c.2.2.2.1==0 with
 | false=>rfl
 | true =>
 cases c.2.2.2.2.1==0 with
 | false=>rfl
 | true=>cases (c.2.2.2.2.2.1.length:Int)==0<;>rfl
theorem bg7 (c:ak_):la_ c=some (cf2 c,()):=by rw[← zero_eq];exact ak5 c
def twNt (g:ad_) (i:Nat) (n:co_):Bool:=(g.2.2.2.1.take i).any λy=>y.1==n.1
def cdOk (g:ad_) (i:Nat) (l:ab_):Bool:=match g.2.2.1[i]? with
 | some k=>dd_ l k
 | none=>false
noncomputable def bs2 (g:ad_) (i:Nat) (n:co_):Bool:=okN n.1&&(!(twNt g i n)&&(wi n.2.1 0 (w64 ((g.1.1.length:Int) - 1))&&(wi n.2.2.1 (-1) (w64 ((g.2.1.length:Int) - 1))&&(cond (decide (n.2.2.1<0)) (cf2 n.2.2.2.2) (match at? g.2.1 n.2.2.1,at? g.2.2.1 n.2.2.1 with
 | some l,some k=>clOk l n.2.2.2.2 k
 | _,_=>false)))))
def LkAll (g:ad_):Prop:=∀ (i:Nat) l,g.2.1[i]?=some l→Lk l∧∃ k,g.2.2.1[i]?=some k∧dd_ l k=true
theorem LkAll.at {g:ad_} (hg:SmG g) (h:LkAll g) {i:Int} (h0:¬ i<0) (hw:wi i (-1) (w64 ((g.2.1.length:Int) - 1))=true):∃ l k,at? g.2.1 i=some l∧at? g.2.2.1 i=some k∧Lk l∧dd_ l k=true:=by
 have hlk:=hg.lk
 rw[ez_ (by omega) (by omega)] at hw
 have hw:=ce_.1 hw
 obtain⟨l,hl⟩:=bb_ (l:=g.2.1) (i:=i.toNat) (by omega)
 obtain⟨h1,k,hk,h2⟩:=h _ l hl
 have hi:i=((i.toNat:Nat):Int):=by omega
 exact⟨l,k,by rw[hi];exact ah_ hl,by rw[hi];exact ah_ hk,h1,h2⟩
theorem bh7 {g:ad_} (hg:SmG g) (hL:LkAll g) {i:Nat} {n:co_} (hn:g.2.2.2.1[i]?=some n):lh_ g (i:Int) n=some (bs2 g i n,()):=by
 have hi:=am_ hn
 have hs:=hg.nt
 have hnm:=(hg.ntn n (au_ hn)).1
 have ht:Sm (g.2.2.2.1.take i).length:=by rw[c9_];show _≤1000000000;omega
 unfold lh_
 rw[pd_ (g3_ hi),a0_]
 refine e5_ (congrArg (λo=>Option.bind o _) (on_ ht (λy=>y.1==n.1) (λk y hy => ?_) ?_)) ?_
 ·simp only[dlt (am_ hy),a5_,ah_ hy,a0_]
  cases y.1==n.1<;>rfl
 ·simp only[dnl,a2_]
 rw[a0_]
 simp only[bq1 (show Sm n.1.length by show _≤1000000000;omega),ka_,a0_]
 unfold bs2 okN twNt
 cases okW n.1 with
 | false=>simp only[f9_,e8_];rfl
 | true =>
 by_cases h12:(n.1.length:Int)≤12
 ·rw[b6_ h12,b9_ (by omega:¬ 12<(n.1.length:Int))]
  cases (g.2.2.2.1.take i).any λy=>y.1==n.1 with
  | true=>rfl
  | false =>
  cases wi n.2.1 0 (w64 ((g.1.1.length:Int) - 1)) with
  | false=>rfl
  | true =>
  cases hw:wi n.2.2.1 (-1) (w64 ((g.2.1.length:Int) - 1)) with
  | false=>rfl
  | true =>
  cases hz:decide (n.2.2.1<0) with
  | true=>simp only[ak5];rfl
  | false =>
  obtain⟨l,k,e1,e2,h1,h2⟩:=hL.at hg (e0_ hz) hw
  simp only[e1,e2,e9_,h3_,a2_,a0_,an8 h1 _ h2,c2_]
  unfold clOk
  cases de_ l n.2.2.2.2<;>rfl
 ·rw[b9_ h12,b6_ (by omega:12<(n.1.length:Int))]
  rfl
theorem ar7 {g:ad_} (hg:SmG g) (hL:LkAll g) {i:Nat} {n:co_} (hn:g.2.2.2.1[i]?=some n):jh_ g (i:Int)=some (bs2 g i n,()):=by
 have hi:=am_ hn
 have hs:=hg.nt
 have hnm:=(hg.ntn n (au_ hn)).1
 have hgs:Sm n.2.2.2.2.2.2.2.2.2.1.length:=c6_ (hg.ntn n (au_ hn)).2.2 (by decide)
 have hle:(g.2.2.2.1.take i).length=i:=by rw[c9_];omega
 unfold jh_
 rw[ah_ hn,a0_]
 refine bo_ (g.2.2.2.1.take i) (λ_ y=>cond (y.1==n.1) (some (inr (false,()):Unit⊕(Bool×Unit))) none) (λi=>((i:Int),())) (r0:=inl ()) (λk y hy => ?_) ?_ ?_
 ·have hk:=am_ hy
  have hy':g.2.2.2.1[k]?=some y:=by
   rw[j6_] at hy
   split at hy
   ·exact hy
   ·cases hy
  simp only[dlt (show k<i by omega),a5_,ah_ hy',a0_,az_ (show Sm k by show _≤1000000000;omega)]
  cases y.1==n.1<;>rfl
 ·rw[hle]
  simp only[dnl,a2_]
 rw[hh_ (q:=λy:co_=>y.1==n.1)]
 unfold bs2 twNt
 cases (g.2.2.2.1.take i).any λy=>y.1==n.1 with
 | true=>simp only[e9_,e8_,f9_];rfl
 | false =>
 simp only[a2_,j8_]
 unfold cg_
 simp only[jy_ (show Sm n.1.length by show _≤1000000000;omega),yx_,a0_]
 cases okN n.1 with
 | false=>rfl
 | true =>
 cases wi n.2.1 0 (w64 ((g.1.1.length:Int) - 1)) with
 | false=>rfl
 | true =>
 cases hw:wi n.2.2.1 (-1) (w64 ((g.2.1.length:Int) - 1)) with
 | false=>rfl
 | true =>
 cases hz:decide (n.2.2.1<0) with
 | true =>
  have hz:=g0_ hz
  have:=ce_.1 hw
  rw[show (n.2.2.1==-1)=true by rw[f5_];omega]
  simp only[bg7]
  rfl
 | false =>
  have hz:=e0_ hz
  obtain⟨l,k,e1,e2,h1,h2⟩:=hL.at hg hz hw
  rw[show (n.2.2.1==-1)=false by rw[o8_];omega]
  simp only[e1,e2,e9_,h3_,a2_,a0_,uk_ h1 hgs,c2_]
  unfold clOk
  cases hc:de_ l n.2.2.2.2 with
  | false=>rfl
  | true =>
   simp only[a5_,show ((0:Int)==0)=true from rfl,as3 h1 hc h2]
   rfl
noncomputable def cl_ (g:ad_):Int :=
  cond (da_ g.1 != 0) (da_ g.1) (cond (decide (8<(g.2.1.length:Int))||decide (16<(g.2.2.2.1.length:Int))) 2
   ((gb_ (λ_ l=>km_ (okL l) 10) 0 g.2.1).getD
    (cond ((g.2.2.1.length:Int) != (g.2.1.length:Int)) 12
     ((gb_ (λi l=>km_ (cdOk g i l) 12) 0 g.2.1).getD
      ((gb_ (λ_ (a:cu_)=>km_ (!(decide ((g.2.1.length:Int)≤a.2.2.1))) 26) 0 g.1.2.2.2.2.1).getD
       ((gb_ (λi n=>sp_ (bs2 g i n) 40 (cOk g.1.2.1 n.2.2.2.1) 25) 0 g.2.2.2.1).getD
        (cond (wi g.2.2.2.2 1 100) 0 1)))))))
theorem lm_ {o:Option Int} {K:Unit→Option (Int×Unit)} {k:Int} (h:o=none→K ()=some (k,())):cg_ (left o) K (λy=>some y)=some (o.getD k,()):=by
 cases o with
 | none=>exact h rfl
 | some e=>rfl
theorem bu7 {g:ad_} (h1:gb_ (λ_ l=>km_ (okL l) 10) 0 g.2.1=none) (h2:gb_ (λi l=>km_ (cdOk g i l) 12) 0 g.2.1=none):LkAll g:=by
 intro i l hl
 refine⟨nt_.1 (kl_ (df_ h1 hl)),?_⟩
 have:=kl_ (df_ h2 hl)
 unfold cdOk at this
 cases hk:g.2.2.1[i]? with
 | none=>rw[hk] at this;cases this
 | some k=>rw[hk] at this;exact⟨k,rfl,this⟩
theorem mn_of (g:ad_):(cond (decide (8<(g.2.1.length:Int))) (some (true,())) (some ((decide (16<(g.2.2.2.1.length:Int))),())))=some (decide (8<(g.2.1.length:Int))||decide (16<(g.2.2.2.1.length:Int)),()):=by
 cases decide (8<(g.2.1.length:Int))<;>rfl
theorem yz_ {g:ad_} (hg:SmG g):hb_ g=some (cl_ g,()):=by
 have hlk:=hg.lk
 have hac:=hg.ac
 have hnt:=hg.nt
 unfold hb_ cl_
 rw[st_ hg.room,a0_]
 cases hr:da_ g.1 != 0 with
 | true=>rfl
 | false =>
 simp only[a2_]
 refine e5_ (congrArg (λo=>Option.bind o _) (mn_of g)) ?_
 rw[a0_]
 cases hm:(decide (8<(g.2.1.length:Int))||decide (16<(g.2.2.2.1.length:Int))) with
 | true=>rfl
 | false =>
 simp only[a2_]
 refine bu_ g.2.1 (λ_ l=>km_ (okL l) 10) (λi y hy => ?_) ?_ (lm_ λhA => ?_)
 ·have hi:=am_ hy
  simp only[dlt hi,a5_,ah_ hy,a0_,az_ (show Sm i by show _≤1000000000;omega),ll_]
  unfold km_
  cases okL y<;>rfl
 ·simp only[dnl,a2_]
 cases hcl:((g.2.2.1.length:Int) != (g.2.1.length:Int)) with
 | true=>rfl
 | false =>
 have hcl:(g.2.2.1.length:Int)=(g.2.1.length:Int):=by simpa using hcl
 simp only[a2_]
 refine bu_ g.2.1 (λi l=>km_ (cdOk g i l) 12) (λi y hy => ?_) ?_ (lm_ λhB => ?_)
 ·have hi:=am_ hy
  obtain⟨k,hk⟩:=bb_ (l:=g.2.2.1) (i:=i) (by omega)
  have hy1:=kl_ (df_ hA hy)
  simp only[dlt hi,a5_,ah_ hy,ah_ hk,a0_,az_ (show Sm i by show _≤1000000000;omega),nf_,hy1]
  unfold km_ cdOk
  rw[hk]
  simp only
  cases dd_ y k<;>rfl
 ·simp only[dnl,a2_]
 refine bu_ g.1.2.2.2.2.1 (λ_ (a:cu_)=>km_ (!(decide ((g.2.1.length:Int)≤a.2.2.1))) 26) (λi y hy => ?_) ?_ (lm_ λhC => ?_)
 ·have hi:=am_ hy
  simp only[dlt hi,a5_,ah_ hy,a0_,az_ (show Sm i by show _≤1000000000;omega)]
  unfold km_
  cases decide ((g.2.1.length:Int)≤y.2.2.1)<;>rfl
 ·simp only[dnl,a2_]
 have hL:=bu7 hA hB
 refine bu_ g.2.2.2.1 (λi n=>sp_ (bs2 g i n) 40 (cOk g.1.2.1 n.2.2.2.1) 25) (λi y hy => ?_) ?_ (lm_ λhD => ?_)
 ·have hi:=am_ hy
  simp only[dlt hi,a5_,ah_ hy,a0_,az_ (show Sm i by show _≤1000000000;omega),bh7 hg hL hy,bh6 hg.room.th]
  unfold sp_
  cases bs2 g i y with
  | false=>rfl
  | true=>cases cOk g.1.2.1 y.2.2.2.1<;>rfl
 ·simp only[dnl,a2_]
 rw[ka_,a0_]
 cases wi g.2.2.2.2 1 100<;>rfl
theorem vx_ {g:ad_} (hg:SmG g):hm_ g=some (cl_ g,()):=by
 have hlk:=hg.lk
 have hac:=hg.ac
 have hnt:=hg.nt
 unfold hm_ cl_
 rw[qo_ hg.room,a0_]
 cases hr:da_ g.1 != 0 with
 | true=>rfl
 | false =>
 simp only[a2_]
 refine e5_ (congrArg (λo=>Option.bind o _) (mn_of g)) ?_
 rw[a0_]
 cases hm:(decide (8<(g.2.1.length:Int))||decide (16<(g.2.2.2.1.length:Int))) with
 | true=>rfl
 | false =>
 simp only[a2_]
 refine bu_ g.2.1 (λ_ l=>km_ (okL l) 10) (λi y hy => ?_) ?_ (lm_ λhA => ?_)
 ·have hi:=am_ hy
  simp only[dlt hi,a5_,ah_ hy,a0_,az_ (show Sm i by show _≤1000000000;omega),kx_]
  unfold km_
  cases okL y<;>rfl
 ·simp only[dnl,a2_]
 cases hcl:((g.2.2.1.length:Int) != (g.2.1.length:Int)) with
 | true=>rfl
 | false =>
 have hcl:(g.2.2.1.length:Int)=(g.2.1.length:Int):=by simpa using hcl
 simp only[a2_]
 refine bu_ g.2.1 (λi l=>km_ (cdOk g i l) 12) (λi y hy => ?_) ?_ (lm_ λhB => ?_)
 ·have hi:=am_ hy
  obtain⟨k,hk⟩:=bb_ (l:=g.2.2.1) (i:=i) (by omega)
  have hy1:=kl_ (df_ hA hy)
  simp only[dlt (show i<g.2.2.1.length by omega),a5_,ah_ hy,ah_ hk,a0_,az_ (show Sm i by show _≤1000000000;omega),uj_,hy1]
  unfold km_ cdOk
  rw[hk]
  simp only
  cases dd_ y k<;>rfl
 ·rw[← hcl]
  simp only[dnl,a2_]
 refine bu_ g.1.2.2.2.2.1 (λ_ (a:cu_)=>km_ (!(decide ((g.2.1.length:Int)≤a.2.2.1))) 26) (λi y hy => ?_) ?_ (lm_ λhC => ?_)
 ·have hi:=am_ hy
  simp only[dlt hi,a5_,ah_ hy,a0_,az_ (show Sm i by show _≤1000000000;omega)]
  unfold km_
  cases decide ((g.2.1.length:Int)≤y.2.2.1)<;>rfl
 ·simp only[dnl,a2_]
 have hL:=bu7 hA hB
 refine bu_ g.2.2.2.1 (λi n=>sp_ (bs2 g i n) 40 (cOk g.1.2.1 n.2.2.2.1) 25) (λi y hy => ?_) ?_ (lm_ λhD => ?_)
 ·have hi:=am_ hy
  have hw:=(hg.ntn y (au_ hy)).2.1
  simp only[dlt hi,a5_,ah_ hy,a0_,az_ (show Sm i by show _≤1000000000;omega),ar7 hg hL hy,gx_ hg.room.th (show Sm y.2.2.2.1.length by show _≤1000000000;omega)]
  unfold sp_
  cases bs2 g i y with
  | false=>rfl
  | true=>cases cOk g.1.2.1 y.2.2.2.1<;>rfl
 ·simp only[dnl,a2_]
 rw[yx_,a0_]
 cases wi g.2.2.2.2 1 100<;>rfl
structure OkG (g:ad_):Prop where
 room:da_ g.1=0
 n8:g.2.1.length≤8
 n16:g.2.2.2.1.length≤16
 lk:LkAll g
 cd:g.2.2.1.length=g.2.1.length
 ac:∀ (i:Nat) (a:cu_),g.1.2.2.2.2.1[i]?=some a→a.2.2.1<(g.2.1.length:Int)
 nt:∀ (i:Nat) n,g.2.2.2.1[i]?=some n→bs2 g i n=true∧cOk g.1.2.1 n.2.2.2.1=true
 tr:wi g.2.2.2.2 1 100=true
theorem ct_ {g:ad_} (h:cl_ g=0):OkG g:=by
 unfold cl_ at h
 cases hr:da_ g.1 != 0 with
 | true =>
  rw[hr] at h
  rw[n8_] at hr
  exact absurd h hr
 | false =>
 rw[hr,a2_] at h
 cases hm:(decide (8<(g.2.1.length:Int))||decide (16<(g.2.2.2.1.length:Int))) with
 | true=>rw[hm] at h;exact absurd (show (2:Int)=0 from h) (by decide)
 | false =>
 rw[hm,a2_] at h
 rw[c0_] at hm
 have m1:=e0_ hm.1
 have m2:=e0_ hm.2
 obtain⟨hA,h⟩:=gg_ h (jw_ (λi x=>xn_ (by decide)) _ _)
 cases hcl:((g.2.2.1.length:Int) != (g.2.1.length:Int)) with
 | true=>rw[hcl] at h;exact absurd (show (12:Int)=0 from h) (by decide)
 | false =>
 rw[hcl,a2_] at h
 have hcl:(g.2.2.1.length:Int)=(g.2.1.length:Int):=by simpa using hcl
 obtain⟨hB,h⟩:=gg_ h (jw_ (λi x=>xn_ (by decide)) _ _)
 obtain⟨hC,h⟩:=gg_ h (jw_ (λi x=>xn_ (by decide)) _ _)
 obtain⟨hD,h⟩:=gg_ h (jw_ (λi x=>xm_ (by decide) (by decide)) _ _)
 refine⟨by simpa using hr,by omega,by omega,bu7 hA hB,by omega,λi a ha => ?_,λi n hn=>oi_ (df_ hD hn),?_⟩
 ·have:=kl_ (df_ hC ha)
  simpa using this
 ·cases hw:wi g.2.2.2.2 1 100 with
  | true=>rfl
  | false=>rw[hw] at h;exact absurd (show (1:Int)=0 from h) (by decide)
end
section
set_option maxRecDepth 10000
theorem bp_ {σ ρ:Type} {body:σ→Option (σ⊕ρ)} {s t:σ} {r:ρ} (h:body s=some (.inl t)) (e:af_ body t=some r):af_ body s=some r:=by
 obtain⟨k,hk⟩:=hv_.1 e
 exact ow_ (k:=k+1) (by rw[au3 h];exact hk)
theorem br_ {σ ρ:Type} {body:σ→Option (σ⊕ρ)} {s:σ} {r:ρ} (h:body s=some (.inr r)):af_ body s=some r:=ow_ (k:=1) (va_ h)
theorem ao6 {α τ σ ρ υ:Type} (l:List α) (f:Nat→τ→α→τ) (F:Nat→τ→σ) (R:τ→ρ) (t0:τ) {body:σ→Option (σ⊕ρ)} (I:Nat→τ→Prop) {K:ρ→Option υ} {x:Option υ} (h0:I 0 t0)
  (h:∀ i x t,l[i]?=some x→I i t→body (F i t)=some (.inl (F (i+1) (f i t x)))∧I (i+1) (f i t x)) (e:∀ t,I l.length t→body (F l.length t)=some (.inr (R t))) (hk:∀ t,I l.length t→K (R t)=x) :
  (af_ body (F 0 t0)).bind K=x:=by
 obtain⟨t,h1,h2⟩:=ke_ l f F R t0 I h0 h e
 rw[h2,a0_]
 exact hk t h1
theorem cc3 {np:Nat} {l:List Int} (h:kq_ np l=true):∀ x ∈ l,0≤x∧x<(np:Int):=by
 intro x hx
 obtain⟨i,hi⟩:=f4_ hx
 rw[← cv5] at h
 have:=(ab0 l).1 h i x hi
 unfold badQ at this
 rw[c0_] at this
 have h1:wi x 0 ((np:Int) - 1)=true:=by simpa using this.1
 have:=ce_.1 h1
 omega
structure ActIn (r:ae_) (a:cu_):Prop where
 us:∀ p ∈ a.2.2.2.1,0≤p∧p<(r.2.2.1.length:Int)
 sp:∀ p ∈ a.2.2.2.2.2.2.1,0≤p∧p<(r.2.2.1.length:Int)
 br:∀ p ∈ a.2.2.2.2.2.2.2,0≤p∧p<(r.2.2.1.length:Int)
 st:∀ x ∈ a.2.2.2.2.2.1,nk_ r.2.1 x.1 x.2=true
theorem bf0 {r:ae_} {i:Nat} {a:cu_} (h:up_ r i a=true):ActIn r a:=by
 unfold up_ at h
 simp only[a1_] at h
 obtain⟨_,_,_,h1,h2,h3,_,_,_,h4⟩:=h
 refine⟨cc3 h1,cc3 h2,cc3 h3,λx hx => ?_⟩
 obtain⟨j,hj⟩:=f4_ hx
 rw[Option.isNone_iff_eq_none] at h4
 have:=df_ h4 hj
 cases hs:rk_ r a.2.2.2.2.2.1 j x with
 | false=>rw[hs] at this;cases this
 | true =>
  unfold rk_ at hs
  rw[a1_] at hs
  exact hs.1
theorem cq_ {α:Type} {l:List α} (hl:Sm l.length) (i:Int):(wi i 0 (w64 ((l.length:Int) - 1))=false∧at? l i=none)∨∃ (j:Nat) (x:α),i=(j:Int)∧l[j]?=some x∧wi i 0 (w64 ((l.length:Int) - 1))=true∧at? l i=some x:=by
 rw[ez_ (by omega) (by omega)]
 by_cases h:0≤i∧i<(l.length:Int)
 ·obtain⟨x,hx⟩:=bb_ (l:=l) (i:=i.toNat) (by omega)
  have hi:i=((i.toNat:Nat):Int):=by omega
  exact .inr ⟨i.toNat,x,hi,hx,ce_.2 (by omega),by rw[hi];exact ah_ hx⟩
 ·refine .inl ⟨?_,?_⟩
  ·cases hw:wi i 0 ((l.length:Int) - 1) with
   | false=>rfl
   | true=>have:=ce_.1 hw;omega
  ·unfold at?
   split
   ·exact b8_ (by omega)
   ·rfl
def lr_ (pr:List Int) (h:Int):Nat:=pr.countP (· == h)
theorem vc_ (pr:List Int) (h:Int):lr_ pr h≤pr.length:=l1_
theorem bf8 {t:hf_} (h:Sm t.2.2.1.length) (p:Int):dg_ t p=some ((lr_ t.2.2.1 (w64 ((-2) - p)):Int),()):=by
 unfold dg_
 refine ao6 t.2.2.1 (λ_ (c:Nat) x=>cond (x==w64 ((-2) - p)) (c+1) c) (λi c=>((c:Int),((i:Int),()))) (λc=>((c:Int),())) 0 (λi c=>c=lr_ (t.2.2.1.take i) (w64 ((-2) - p))) rfl (λi x c hx hc => ?_) (λc hc => ?_) (λc hc => ?_)
 ·have hi:=am_ hx
  have hcl:c≤i:=by rw[hc];refine c6_ (vc_ _ _) ?_;rw[c9_];omega
  have hn:lr_ (t.2.2.1.take (i+1)) (w64 ((-2) - p))=cond (x==w64 ((-2) - p)) (c+1) c:=by
   unfold lr_
   rw[d7_,hx,hc,List.countP_append]
   unfold lr_
   cases hq:x==w64 ((-2) - p) with
   | true=>simp[hq]
   | false=>simp[hq]
  refine⟨?_,hn.symm⟩
  simp only[dlt hi,a5_,ah_ hx,a0_,az_ (show Sm i by omega)]
  cases hq:x==w64 ((-2) - p) with
  | true=>simp only[a5_,a0_,az_ (show Sm c by omega)]
  | false=>rfl
 ·simp only[dnl,a2_]
 ·rw[d9_] at hc
  rw[hc]
abbrev hdl (m:ag_):Int:=w64 ((-2) - m.1)
def lgl (r:ae_) (s:ai_) (m:ag_):Bool :=
  wi m.1 0 (w64 ((s.2.2.length:Int) - 1)) &&
  cond (m.2.1==1) ((at? r.2.2.2.1 m.2.2).elim false λw=>(w.1==gi s.2.2 m.1||w.2.1==gi s.2.2 m.1)&&dm_ s.1 w.2.2)
  (cond (m.2.1==2) ((at? r.2.2.1 m.2.2).elim false λx=>gi s.2.1 m.2.2==gi s.2.2 m.1&&(dm_ s.1 x.2.2&&decide ((lr_ s.2.1 (hdl m):Int)<3)))
  (cond (m.2.1==3) ((at? s.2.1 m.2.2).elim false λp=>p==hdl m)
  (cond (m.2.1==4) ((at? r.2.2.2.2.1 m.2.2).elim false λa=>a.2.1==gi s.2.2 m.1&&((a.2.2.2.1.all λp=>gi s.2.1 p==hdl m)&&(dm_ s.1 a.2.2.2.2.1&&((a.2.2.2.2.2.2.2.all λp=>gi s.2.1 p==-1)&&decide ((lr_ s.2.1 (hdl m):Int) - (a.2.2.2.2.2.2.1.length:Int)+(a.2.2.2.2.2.2.2.length:Int)≤3)))))
   false)))
theorem be8 {l t:List Int} (hl:Sm l.length) (hi:∀ p ∈ l,0≤p∧p<(t.length:Int)) (h:Int) :
    ((af_ (ρ:=(Unit⊕(Bool×Unit))) (λ(v15:(Int×Unit)) =>
 (cond (decide (v15.1<(l.length:Int)))
 ((at? l v15.1).bind λv16 =>
 ((at? t v16).bind λv17 =>
 (cond (!(v17==h))
 (some (inr (inr ((decide (0≤v15.1)),()))))
 (some (inl ((w64 (v15.1+1)),()))))))
 (some (inr (inl ()))))) (0,())).bind λv18 =>
 (cg_ v18 (λv19=>(some ((decide ((0:Int)≤(-1))),())))
 (λv20=>(some v20))))=some (!(l.all λp=>gi t p==h),()):=by
  refine e5_ (on_ hl (λp=>!(gi t p==h)) (λi y hy => ?_) ?_) ?_
  · have:=hi y (au_ hy)
    simp only[dlt (am_ hy),a5_,ah_ hy,a0_,nd_ this.1 this.2]
    cases gi t y==h<;>rfl
  · simp only[dnl,a2_]
  · rw[← tr_,Bool.not_not]
theorem vq_ {r:ae_} (h:SmR r) (ok:OkR r) {s:ai_} (hv:VS r s) (m:ag_):cy_ (r,s) m=some (lgl r s m,()):=by
 obtain⟨m1,m2,m3⟩:=qf_ h ok hv
 have hl1:=hv.l1
 have hl2:=hv.l2
 have hH:∀ {c:List bg_},cOk r.2.1 c=true→bc_ (r,s) c=some (dm_ s.1 c,()):=λ{c} hc=>by
  obtain⟨c1,c2⟩:=sk_ h.th hc
  exact ml_ (t:=(r,s)) (show c.length≤1000000000 by omega) (by show InC s.1.length c;rw[hl1];exact c1)
 have hD:dg_ (r,s) m.1=some ((lr_ s.2.1 (hdl m):Int),()):=bf8 (t:=(r,s)) m2 m.1
 have hDl:=vc_ s.2.1 (hdl m)
 unfold cy_ lgl
 simp only[dw_,a0_]
 rcases cq_ m3 m.1 with ⟨e1,_⟩ | ⟨pj,px,hpj,hp,e1,e2⟩
 ·rw[e1];rfl
 ·have eg:gi s.2.2 m.1=px:=jf_ e2
  simp only[e1,e2,eg,e9_,a2_,a0_,c2_]
  cases hk1:m.2.1==1 with
  | true =>
   simp only[a5_]
   rcases cq_ h.wy m.2.2 with ⟨f1,f2⟩ | ⟨j,w,hj,hw,f1,f2⟩
   ·simp only[f1,f2];rfl
   ·simp only[f1,f2,e9_,a2_,a0_,hH (ok.wy j w hw).2]
    show _=some ((w.1==px||w.2.1==px)&&dm_ s.1 w.2.2,())
    cases w.1==px with
    | true=>rfl
    | false=>cases w.2.1==px<;>rfl
  | false =>
  simp only[a2_]
  cases hk2:m.2.1==2 with
  | true =>
   simp only[a5_]
   rcases cq_ m2 m.2.2 with ⟨f1,f2⟩ | ⟨j,p,hj,hp,f1,f2⟩
   ·have f3:at? r.2.2.1 m.2.2=none:=by
     rcases cq_ h.pr m.2.2 with ⟨_,g2⟩ | ⟨j,x,hj,hx,g1,g2⟩
     ·exact g2
     ·rw[← hl2,f1] at g1;cases g1
    simp only[f1,f3,a2_];rfl
   ·obtain⟨x,hx⟩:=bb_ (l:=r.2.2.1) (i:=j) (by have:=am_ hp;omega)
    have f3:at? r.2.2.1 m.2.2=some x:=by rw[hj];exact ah_ hx
    have f4:gi s.2.1 m.2.2=p:=jf_ f2
    simp only[f1,f2,f3,f4,a5_,a0_,hH (ok.pr j x hx).2,hD]
    show _=some (p==px&&(dm_ s.1 x.2.2&&decide ((lr_ s.2.1 (hdl m):Int)<3)),())
    cases p==px with
    | false=>rfl
    | true=>cases dm_ s.1 x.2.2<;>rfl
  | false =>
  simp only[a2_]
  cases hk3:m.2.1==3 with
  | true =>
   simp only[a5_]
   rcases cq_ m2 m.2.2 with ⟨f1,f2⟩ | ⟨j,p,hj,hp,f1,f2⟩
   ·simp only[f1,f2];rfl
   ·simp only[f1,f2,a5_,a0_];rfl
  | false =>
  simp only[a2_]
  cases hk4:m.2.1==4 with
  | false=>rfl
  | true =>
   simp only[a5_]
   rcases cq_ h.ac m.2.2 with ⟨f1,f2⟩ | ⟨j,a,hj,ha,f1,f2⟩
   ·simp only[f1,f2];rfl
   ·obtain⟨oa,oc⟩:=ok.ac j a ha
    have ai:=bf0 oa
    obtain⟨s1,s2,s3,s4,s5,s6⟩:=h.acn a (au_ ha)
    simp only[f1,f2,e9_,a2_,a0_]
    show _=some (a.2.1==px&&((a.2.2.2.1.all λp=>gi s.2.1 p==hdl m)&&(dm_ s.1 a.2.2.2.2.1&&((a.2.2.2.2.2.2.2.all λp=>gi s.2.1 p==-1)&&decide ((lr_ s.2.1 (hdl m):Int) - (a.2.2.2.2.2.2.1.length:Int)+(a.2.2.2.2.2.2.2.length:Int)≤3)))),())
    cases a.2.1==px with
    | false=>rfl
    | true =>
    simp only[a5_,c2_]
    refine e5_ (congrArg (λo=>Option.bind o _) (be8 s2 (λp hp=>by have:=ai.us p hp;omega) (hdl m))) ?_
    rw[a0_]
    cases a.2.2.2.1.all λp=>gi s.2.1 p==hdl m with
    | false=>rfl
    | true =>
    simp only[e9_,h3_,a5_,hH oc,a0_,c2_]
    cases dm_ s.1 a.2.2.2.2.1 with
    | false=>rfl
    | true =>
    simp only[a5_,c2_]
    refine e5_ (congrArg (λo=>Option.bind o _) (be8 s6 (λp hp=>by have:=ai.br p hp;omega) (-1))) ?_
    rw[a0_]
    cases a.2.2.2.2.2.2.2.all λp=>gi s.2.1 p==-1 with
    | false=>rfl
    | true =>
    simp only[e9_,h3_,a5_,hD,a0_,c2_]
    rw[ez_ (n:=(lr_ s.2.1 (hdl m):Int) - _) (by omega) (by omega),ez_ (by omega) (by omega)]
theorem aa8 {α:Type} (l:List α) (hl:Sm l.length) (ix vl:α→Int) (t:List Int) (hi:∀ x ∈ l,0≤ix x∧ix x<(t.length:Int)) {body:(Int×(List Int×Unit))→Option ((Int×(List Int×Unit))⊕(List Int×Unit))}
  (hb:∀ (i:Nat) (x:α) (t':List Int) (y:Int),l[i]?=some x→at? t' (ix x)=some y→body ((i:Int),(t',()))=some (.inl (w64 ((i:Int)+1),(t'.set (ix x).toNat (vl x),())))) (e:∀ t',body ((l.length:Int),(t',()))=some (.inr (t',()))) :
  af_ body (0,(t,()))=some (l.foldl (λt x=>t.set (ix x).toNat (vl x)) t,()):=by
 obtain⟨z,⟨_,hz⟩,e⟩:=ke_ l (λ_ t x=>t.set (ix x).toNat (vl x)) (λi t=>((i:Int),(t,()))) (λt=>(t,())) t (body:=body) (λi t'=>t'.length=t.length∧t'=(l.take i).foldl (λt x=>t.set (ix x).toNat (vl x)) t) ⟨rfl,rfl⟩ (λi x t' hx ht=>by
  obtain⟨h1,h2⟩:=ht
  have hil:=am_ hx
  have:=hi x (au_ hx)
  refine⟨?_,by rw[f6_,h1],?_⟩
  ·rw[hb i x t' _ hx (nd_ this.1 (by omega)),az_ (show Sm i by omega)]
  ·rw[d7_,hx,o2_,← h2]
   rfl) (λt' _=>e t')
 rw[d9_] at hz
 rw[← hz]
 exact e
def mvP (r:ae_) (s:ai_) (m:ag_):ai_ :=
  cond (m.2.1==1) ((at? r.2.2.2.1 m.2.2).elim s λw=>(s.1,(s.2.1,s.2.2.set m.1.toNat (w.1+w.2.1 - gi s.2.2 m.1))))
  (cond (m.2.1==2) (s.1,(s.2.1.set m.2.2.toNat (hdl m),s.2.2))
  (cond (m.2.1==3) (s.1,(s.2.1.set m.2.2.toNat (gi s.2.2 m.1),s.2.2))
  (cond (m.2.1==4) ((at? r.2.2.2.2.1 m.2.2).elim s λa=>(a.2.2.2.2.2.1.foldl (λt x=>t.set x.1.toNat x.2) s.1,(a.2.2.2.2.2.2.2.foldl (λt p=>t.set p.toNat (hdl m)) (a.2.2.2.2.2.2.1.foldl (λt p=>t.set p.toNat (-1)) s.2.1),s.2.2)))
   s)))
theorem xy_ {α:Type} {l:List α} {P:α→Prop} (h:∀ (i:Nat) x,l[i]?=some x→P x) {j:Nat} {v:α} (hv:P v):∀ (i:Nat) x,(l.set j v)[i]?=some x→P x:=by
 intro i x hx
 rw[g1_] at hx
 split at hx
 ·split at hx
  ·obtain rfl:=a6_ hx
   exact hv
  ·cases hx
 ·exact h i x hx
theorem od_ {α τ:Type} {f:τ→α→τ} {P:τ→Prop}:∀ (l:List α) (t:τ),P t→(∀ t x,x ∈ l→P t→P (f t x))→P (l.foldl f t)
 | [],t,h,_=>h
 | x::l,t,h,hf=>od_ l (f t x) (hf t x (e1_ ..) h) λt y hy=>hf t y (d5_ _ hy)
theorem aa7 {α:Type} (ix vl:α→Int) (l:List α) (t:List Int):(l.foldl (λt x=>t.set (ix x).toNat (vl x)) t).length=t.length :=
 od_ (P:=λt'=>t'.length=t.length) l t rfl λt' x _ h=>by rw[f6_,h]
theorem kz_ {r:ae_} (h:SmR r) {p:Int}:ry_ r p=true↔0≤p∧p<(r.1.length:Int):=by
 have:=h.pl
 unfold ry_
 rw[ce_,ez_ (by omega) (by omega)]
 omega
theorem ae0 {r:ae_} (h:SmR r) (ok:OkR r) {p:Int}:inR r p=true↔(-2) - r.2.2.2.2.2.2.1<p∧p<(r.1.length:Int):=by
 have:=h.pl
 have hp:=ce_.1 ok.py
 unfold inR
 rw[ce_,ez_ (n:=(-2) - r.2.2.2.2.2.2.1) (by omega) (by omega),ez_ (by omega) (by omega),ez_ (by omega) (by omega)]
 omega
theorem pl_pos {r:ae_} (ok:OkR r):0<r.1.length:=by
 have hne:r.1.length≠0:=λe=>ok.ne (n3_.1 e)
 omega
theorem hdl_eq {r:ae_} (ok:OkR r) {s:ai_} (hv:VS r s) {m:ag_} {j:Nat} {x:Int} (hj:m.1=(j:Int)) (hx:s.2.2[j]?=some x):hdl m=(-2) - m.1∧m.1<r.2.2.2.2.2.2.1:=by
 have hp:=ce_.1 ok.py
 have:=am_ hx
 have:=hv.l3
 exact⟨ez_ (by omega) (by omega),by omega⟩
theorem bu9 {r:ae_} {s:ai_} {m:ag_} (m3:Sm s.2.2.length) (hl:lgl r s m=true):∃ (j:Nat) (x:Int),m.1=(j:Int)∧s.2.2[j]?=some x∧at? s.2.2 m.1=some x:=by
 unfold lgl at hl
 rw[a1_] at hl
 rcases cq_ m3 m.1 with ⟨e1,_⟩ | ⟨pj,px,hpj,hp,e1,e2⟩
 ·rw[e1] at hl;cases hl.1
 ·exact⟨pj,px,hpj,hp,e2⟩
theorem VS_mv {r:ae_} (h:SmR r) (ok:OkR r) {s:ai_} (hv:VS r s) {m:ag_} (hl:lgl r s m=true):VS r (mvP r s m):=by
 obtain⟨m1,m2,m3⟩:=qf_ h ok hv
 obtain⟨pj,px,hpj,hp,e2⟩:=bu9 m3 hl
 obtain⟨d1,d2⟩:=hdl_eq ok hv hpj hp
 have hpy:=ce_.1 ok.py
 have hpos:=pl_pos ok
 have hhd:inR r (hdl m)=true:=(ae0 h ok).2 (by omega)
 have hm1:inR r (-1)=true:=(ae0 h ok).2 (by omega)
 unfold lgl at hl
 rw[a1_] at hl
 have hl:=hl.2
 have eg:gi s.2.2 m.1=px:=jf_ e2
 have hpx:=hv.py _ _ hp
 unfold mvP
 cases hk1:m.2.1==1 with
 | true =>
  rw[hk1] at hl
  simp only[a5_] at hl ⊢
  cases hw:at? r.2.2.2.1 m.2.2 with
  | none=>exact hv
  | some w =>
   rw[hw] at hl
   have hl:((w.1==gi s.2.2 m.1||w.2.1==gi s.2.2 m.1)&&dm_ s.1 w.2.2)=true:=hl
   rw[a1_,c8_,f5_,f5_] at hl
   rcases cq_ h.wy m.2.2 with ⟨f1,f2⟩ | ⟨j,w',hj,hw',f1,f2⟩
   ·rw[f2] at hw;cases hw
   ·rw[f2] at hw
    obtain rfl:=a6_ hw
    have ow:=(ok.wy j w' hw').1
    unfold ce0 at ow
    simp only[a1_] at ow
    have o1:=(kz_ h).1 ow.1
    have o2:=(kz_ h).1 ow.2.1
    refine⟨hv.l1,hv.l2,by show ((s.2.2.set _ _).length:Int)=_;rw[f6_];exact hv.l3,hv.th,hv.pr,xy_ hv.py ((kz_ h).2 ?_)⟩
    rcases hl.1 with e | e<;>omega
 | false =>
 rw[hk1] at hl
 simp only[a2_] at hl ⊢
 cases hk2:m.2.1==2 with
 | true=>exact⟨hv.l1,by show (s.2.1.set _ _).length=_;rw[f6_];exact hv.l2,hv.l3,hv.th,xy_ hv.pr hhd,hv.py⟩
 | false =>
 rw[hk2] at hl
 simp only[a2_] at hl ⊢
 cases hk3:m.2.1==3 with
 | true =>
  refine⟨hv.l1,by show (s.2.1.set _ _).length=_;rw[f6_];exact hv.l2,hv.l3,hv.th,xy_ hv.pr ?_,hv.py⟩
  rw[eg]
  have:=(kz_ h).1 hpx
  exact (ae0 h ok).2 (by omega)
 | false =>
 rw[hk3] at hl
 simp only[a2_] at hl ⊢
 cases hk4:m.2.1==4 with
 | false=>exact hv
 | true =>
  simp only[a5_]
  rcases cq_ h.ac m.2.2 with ⟨f1,f2⟩ | ⟨j,a,hj,ha,f1,f2⟩
  ·rw[f2];exact hv
  ·rw[f2]
   have ai:=bf0 (ok.ac j a ha).1
   have hth:VT r (a.2.2.2.2.2.1.foldl (λt x=>t.set x.1.toNat x.2) s.1):=od_ (P:=VT r) _ _ ⟨hv.l1,hv.th⟩ λt x hx ht=>cd0 h ok ht (ai.st x hx)
   have hpr:∀ (i:Nat) p,(a.2.2.2.2.2.2.2.foldl (λt p=>t.set p.toNat (hdl m)) (a.2.2.2.2.2.2.1.foldl (λt p=>t.set p.toNat (-1)) s.2.1))[i]?=some p→inR r p=true:=by
    refine od_ (P:=λt=>∀ (i:Nat) p,t[i]?=some p→inR r p=true) _ _ ?_ λt x hx ht=>xy_ ht hhd
    exact od_ (P:=λt=>∀ (i:Nat) p,t[i]?=some p→inR r p=true) _ _ hv.pr λt x hx ht=>xy_ ht hm1
   refine⟨hth.1,?_,hv.l3,hth.2,hpr,hv.py⟩
   show (a.2.2.2.2.2.2.2.foldl (λt p=>t.set p.toNat (hdl m)) (a.2.2.2.2.2.2.1.foldl (λt p=>t.set p.toNat (-1)) s.2.1)).length=_
   rw[aa7 (λp=>p) (λ_=>hdl m),aa7 (λp=>p) (λ_=>-1)]
   exact hv.l2
end
end Go.Proofs.YtgeehfnbhbibeaaGreatDoor.Rx
namespace Go.Proofs.YtgeehfnbhbibeaaGreatDoor.Rx
open Go Pad Rex Go.Proofs Go.Proofs.Tryz Sum
section
set_option maxRecDepth 100000
noncomputable def mvX (a0:ae_) (a2:ag_) (v1 v2 v3:List Int):Option (List Int×(List Int×(List Int×Unit))) :=
 (cond (a2.2.1==1)
 ((at? a0.2.2.2.1 a2.2.2).bind λv5 =>
 ((at? v3 a2.1).bind λv6 =>
 ((at? v3 a2.1).bind λv7 =>
 ((at? v3 a2.1).bind λv8 =>
 ((at? v3 a2.1).bind λv9 =>
 (some (v1,(v2,((v3.set a2.1.toNat (w64 ((w64 (v5.1+v5.2.1)) - v7))),())))))))))
 (cond (a2.2.1==2)
 ((at? v2 a2.2.2).bind λv10 =>
 ((at? v2 a2.2.2).bind λv11 =>
 (some (v1,((v2.set a2.2.2.toNat (w64 ((-2) - a2.1))),(v3,()))))))
 (cond (a2.2.1==3)
 ((at? v3 a2.1).bind λv12 =>
 ((at? v3 a2.1).bind λv13 =>
 ((at? v2 a2.2.2).bind λv14 =>
 ((at? v2 a2.2.2).bind λv15 =>
 (some (v1,((v2.set a2.2.2.toNat v13),(v3,()))))))))
 (cond (a2.2.1==4)
 ((at? a0.2.2.2.2.1 a2.2.2).bind λv16 =>
 ((af_ (ρ:=((List Int)×Unit)) (λ(v17:(Int×((List Int)×Unit))) =>
 (cond (decide (v17.1<(v16.2.2.2.2.2.2.1.length:Int)))
 ((at? v16.2.2.2.2.2.2.1 v17.1).bind λv18 =>
 ((at? v17.2.1 v18).bind λv19 =>
 ((at? v17.2.1 v18).bind λv20 =>
 (some (inl ((w64 (v17.1+1)),((v17.2.1.set v18.toNat (-1)),())))))))
 (some (inr (v17.2.1,()))))) (0,(v2,()))).bind λv21 =>
 ((af_ (ρ:=((List Int)×Unit)) (λ(v22:(Int×((List Int)×Unit))) =>
 (cond (decide (v22.1<(v16.2.2.2.2.2.2.2.length:Int)))
 ((at? v16.2.2.2.2.2.2.2 v22.1).bind λv23 =>
 ((at? v22.2.1 v23).bind λv24 =>
 ((at? v22.2.1 v23).bind λv25 =>
 (some (inl ((w64 (v22.1+1)),((v22.2.1.set v23.toNat (w64 ((-2) - a2.1))),())))))))
 (some (inr (v22.2.1,()))))) (0,(v21.1,()))).bind λv26 =>
 ((af_ (ρ:=((List Int)×Unit)) (λ(v27:(Int×((List Int)×Unit))) =>
 (cond (decide (v27.1<(v16.2.2.2.2.2.1.length:Int)))
 ((at? v16.2.2.2.2.2.1 v27.1).bind λv28 =>
 ((at? v27.2.1 v28.1).bind λv29 =>
 ((at? v27.2.1 v28.1).bind λv30 =>
 (some (inl ((w64 (v27.1+1)),((v27.2.1.set v28.1.toNat v28.2),())))))))
 (some (inr (v27.2.1,()))))) (0,(v1,()))).bind λv31 =>
 (some (v31.1,(v26.1,(v3,()))))))))
 (some (v1,(v2,(v3,()))))))))
noncomputable def rstX (a0:ae_) (a1:ai_) (a2:ag_):Option (ai_×(Int×Unit)) :=
 ((bx_ a0 a1).bind λv0 =>
 (cond (v0.1 != 0)
 (some (([],([],[])),(v0.1,())))
 ((push? (α:=Int) [] a1.1).bind λv1 =>
 ((push? (α:=Int) [] a1.2.1).bind λv2 =>
 ((push? (α:=Int) [] a1.2.2).bind λv3 =>
 ((cy_ (a0,(v1,(v2,v3))) a2).bind λv4 =>
 (cond (!v4.1)
 (some (([],([],[])),(29,())))
 ((mvX a0 a2 v1 v2 v3).bind λv32 =>
 ((((af_ (ρ:=(((List Int)×Unit)⊕(Bool×((List Int)×Unit)))) (setB a0 v32.2.1 v32.2.2.1) (0,(v32.1,()))).bind λv48 =>
 (cg_ v48 (λv49=>(some ((!false),(v49.1,()))))
 (λv50=>(some v50))))).bind λv51 =>
 (cond v51.1
 (some (([],([],[])),(27,())))
 (some ((v51.2.1,(v32.2.1,v32.2.2.1)),(0,())))))))))))))
theorem rstX_eq:fg_=rstX:=by kernel_rfl
theorem cs6 {r:ae_} (h:SmR r) (ok:OkR r) {s:ai_} (hv:VS r s) {m:ag_} (hl:lgl r s m=true):mvX r m s.1 s.2.1 s.2.2=some ((mvP r s m).1,((mvP r s m).2.1,((mvP r s m).2.2,()))):=by
  obtain⟨m1,m2,m3⟩:=qf_ h ok hv
  have hl1:=hv.l1
  have hl2:=hv.l2
  obtain⟨pj,px,hpj,hp,e2⟩:=bu9 m3 hl
  have eg:gi s.2.2 m.1=px:=jf_ e2
  have hpx:=(kz_ h).1 (hv.py _ _ hp)
  have hpl:=h.pl
  unfold lgl at hl
  rw[a1_] at hl
  have hl:=hl.2
  unfold mvX mvP
  cases hk1:m.2.1==1 with
  | true =>
    rw[hk1] at hl
    simp only[a5_] at hl ⊢
    rcases cq_ h.wy m.2.2 with ⟨f1,f2⟩ | ⟨j,w,hj,hw,f1,f2⟩
    · rw[f2] at hl;cases hl
    · have ow:=(ok.wy j w hw).1
      unfold ce0 at ow
      simp only[a1_] at ow
      have o1:=(kz_ h).1 ow.1
      have o2:=(kz_ h).1 ow.2.1
      simp only[f2,e2,eg,a0_,Option.elim]
      rw[ez_ (n:=w.1+w.2.1) (by omega) (by omega),ez_ (by omega) (by omega)]
  | false =>
  rw[hk1] at hl
  simp only[a2_] at hl ⊢
  cases hk2:m.2.1==2 with
  | true =>
    rw[hk2] at hl
    simp only[a5_] at hl ⊢
    rcases cq_ h.pr m.2.2 with ⟨f1,f2⟩ | ⟨j,x,hj,hx,f1,f2⟩
    · rw[f2] at hl;cases hl
    · have:=am_ hx
      rw[nd_ (l:=s.2.1) (i:=m.2.2) (by omega) (by omega)]
      rfl
  | false =>
  rw[hk2] at hl
  simp only[a2_] at hl ⊢
  cases hk3:m.2.1==3 with
  | true =>
    rw[hk3] at hl
    simp only[a5_] at hl ⊢
    rcases cq_ m2 m.2.2 with ⟨f1,f2⟩ | ⟨j,x,hj,hx,f1,f2⟩
    · rw[f2] at hl;cases hl
    · simp only[f2,e2,eg,a0_]
  | false =>
  rw[hk3] at hl
  simp only[a2_] at hl ⊢
  cases hk4:m.2.1==4 with
  | false=>rfl
  | true =>
    rw[hk4] at hl
    simp only[a5_] at hl ⊢
    rcases cq_ h.ac m.2.2 with ⟨f1,f2⟩ | ⟨j,a,hj,ha,f1,f2⟩
    · rw[f2] at hl;cases hl
    · have ai:=bf0 (ok.ac j a ha).1
      obtain⟨s1,s2,s3,s4,s5,s6⟩:=h.acn a (au_ ha)
      simp only[f2,a0_,Option.elim]
      have hA:=aa8 a.2.2.2.2.2.2.1 s5 (λp=>p) (λ_=>-1) s.2.1 (λp hp=>by have:=ai.sp p hp;omega) (body:=(λ(v17:(Int×((List Int)×Unit))) =>
 (cond (decide (v17.1<(a.2.2.2.2.2.2.1.length:Int)))
 ((at? a.2.2.2.2.2.2.1 v17.1).bind λv18 =>
 ((at? v17.2.1 v18).bind λv19 =>
 ((at? v17.2.1 v18).bind λv20 =>
 (some (inl ((w64 (v17.1+1)),((v17.2.1.set v18.toNat (-1)),())))))))
 (some (inr (v17.2.1,())))))) (λi x t' y hx hy=>by simp only[dlt (am_ hx),a5_,ah_ hx,a0_,hy]) (λt'=>by simp only[dnl,a2_])
      rw[hA,a0_]
      have hl3:(a.2.2.2.2.2.2.1.foldl (λt p=>t.set p.toNat (-1)) s.2.1).length=s.2.1.length:=aa7 (λp=>p) (λ_=>-1) _ _
      have hB:=aa8 a.2.2.2.2.2.2.2 s6 (λp=>p) (λ_=>hdl m) (a.2.2.2.2.2.2.1.foldl (λt p=>t.set p.toNat (-1)) s.2.1) (λp hp=>by have:=ai.br p hp;omega) (body:=(λ(v22:(Int×((List Int)×Unit))) =>
 (cond (decide (v22.1<(a.2.2.2.2.2.2.2.length:Int)))
 ((at? a.2.2.2.2.2.2.2 v22.1).bind λv23 =>
 ((at? v22.2.1 v23).bind λv24 =>
 ((at? v22.2.1 v23).bind λv25 =>
 (some (inl ((w64 (v22.1+1)),((v22.2.1.set v23.toNat (w64 ((-2) - m.1))),())))))))
 (some (inr (v22.2.1,())))))) (λi x t' y hx hy=>by simp only[dlt (am_ hx),a5_,ah_ hx,a0_,hy]) (λt'=>by simp only[dnl,a2_])
      simp only
      rw[hB,a0_]
      have hC:=aa8 a.2.2.2.2.2.1 s4 (λx:Int×Int=>x.1) (λx=>x.2) s.1 (λx hx=>by have:=(mo_ h ok (ai.st x hx)).1;omega) (body:=(λ(v27:(Int×((List Int)×Unit))) =>
 (cond (decide (v27.1<(a.2.2.2.2.2.1.length:Int)))
 ((at? a.2.2.2.2.2.1 v27.1).bind λv28 =>
 ((at? v27.2.1 v28.1).bind λv29 =>
 ((at? v27.2.1 v28.1).bind λv30 =>
 (some (inl ((w64 (v27.1+1)),((v27.2.1.set v28.1.toNat v28.2),())))))))
 (some (inr (v27.2.1,())))))) (λi x t' y hx hy=>by simp only[dlt (am_ hx),a5_,ah_ hx,a0_,hy]) (λt'=>by simp only[dnl,a2_])
      rw[hC,a0_]
def fstA (r:ae_) (th:List Int):Option (List bg_×ab_):=r.2.2.2.2.2.1.find? λy=>(gi th y.2.1 != y.2.2)&&dm_ th y.1
def stl (r:ae_):Nat→List Int→Option (List Int)
 | 0,_=>none
 | n+1,th=>match fstA r th with
  | none=>some th
  | some y=>stl r n (th.set y.2.1.toNat y.2.2)
theorem ai5 {α ρ:Type} {q:α→Bool} {f:Nat→ρ}:∀ (m:List α) (k:Nat),(gb_ (λi y=>cond (q y) (some (f i)) none) k m=none∧m.find? q=none)∨∃ (i:Nat) (y:α),m[i]?=some y∧m.find? q=some y∧gb_ (λi y=>cond (q y) (some (f i)) none) k m=some (f (k+i))
 | [],_=>.inl ⟨rfl,rfl⟩
 | x::m,k=>by
  unfold gb_
  cases hq:q x with
  | true=>exact .inr ⟨0,x,rfl,by simp[hq],rfl⟩
  | false =>
   rcases ai5 (q:=q) (f:=f) m (k+1) with ⟨h1,h2⟩ | ⟨i,y,h1,h2,h3⟩
   ·exact .inl ⟨h1,by simp[hq,h2]⟩
   ·exact .inr ⟨i+1,y,by simpa using h1,by simp[hq,h2],by rw[show k+(i+1)=k+1+i by omega];exact h3⟩
theorem if_find {α:Type} {l:List α} (hl:Sm l.length) (q:α→Bool) {body:(Int×Unit)→Option ((Int×Unit)⊕(Unit⊕(Int×Unit)))}
  (h:∀ (i:Nat) y,l[i]?=some y→body ((i:Int),())=some (cond (q y) (.inr (.inr ((i:Int),()))) (.inl (w64 ((i:Int)+1),())))) (e:body ((l.length:Int),())=some (.inr (.inl ()))) :
  ∃ n:Int,((af_ body (0,())).bind λv=>cg_ v (λ_=>some ((-1:Int),())) (λw=>some w))=some (n,())∧((n = -1∧l.find? q=none)∨∃ (i:Nat) (y:α),n=(i:Int)∧l[i]?=some y∧l.find? q=some y):=by
 have hrun:=oa_ l (λi y=>cond (q y) (some (inr ((i:Int),()):Unit⊕(Int×Unit))) none) (λi=>((i:Int),())) (r0:=inl ()) (body:=body) (λi y hy=>by
  have hi:=am_ hy
  rw[h i y hy,az_ (show Sm i by omega)]
  cases q y<;>rfl) e
 have hr2:af_ body (0,())=some ((gb_ (λi y=>cond (q y) (some (inr ((i:Int),()):Unit⊕(Int×Unit))) none) 0 l).getD (inl ())):=hrun
 rw[hr2]
 rcases ai5 (q:=q) (f:=λi=>(inr ((i:Int),()):Unit⊕(Int×Unit))) l 0 with ⟨h1,h2⟩ | ⟨i,y,h1,h2,h3⟩
 ·exact⟨-1,by rw[h1];rfl,.inl ⟨rfl,h2⟩⟩
 ·exact⟨(i:Int),by rw[h3,b0_];rfl,.inr ⟨i,y,rfl,h1,h2⟩⟩
theorem cp0 {r:ae_} (h:SmR r) (ok:OkR r) {th pr py:List Int} (hv:VT r th) :
  ∃ n:Int,((af_ (autB r th pr py) (0,())).bind λv=>cg_ v (λ_=>some ((-1:Int),())) (λw=>some w))=some (n,())∧((n = -1∧fstA r th=none)∨∃ (i:Nat) (y:List bg_×ab_),n=(i:Int)∧r.2.2.2.2.2.1[i]?=some y∧fstA r th=some y) :=
 if_find (l:=r.2.2.2.2.2.1) h.au (λy=>(gi th y.2.1 != y.2.2)&&dm_ th y.1) (body:=autB r th pr py) (λi y hy=>by
  obtain⟨g1,g2⟩:=ok.au i y hy
  have hi:=(mo_ h ok g1).1
  obtain⟨c1,c2⟩:=sk_ h.th g2
  have hl:=hv.1
  unfold autB
  have ht:bc_ (r,(th,(pr,py))) y.1=some (dm_ th y.1,()):=ml_ (t:=(r,(th,(pr,py)))) (by omega) (by show InC th.length y.1;rw[hl];exact c1)
  simp only[dlt (am_ hy),a5_,ah_ hy,a0_,nd_ hi.1 (show y.2.1<th.length by omega),ht]
  cases gi th y.2.1 != y.2.2 with
  | false=>rfl
  | true=>cases dm_ th y.1<;>rfl) (by
  unfold autB
  simp only[dnl,a2_])
theorem nl_ {r:ae_} (h:SmR r) (ok:OkR r) {pr py:List Int}:∀ (n i:Nat) (th:List Int),i+n=101→VT r th →
  ∃ z,af_ (setB r pr py) ((i:Int),(th,()))=some z∧match stl r n th with
   | some th'=>z = .inr (false,(th',()))∧VT r th'
   | none=>∃ w,z = .inl w
 | 0,i,th,hi,hv=>by
  obtain rfl:i=101:=by omega
  exact⟨.inl (th,()),br_ (by unfold setB;rfl),_,rfl⟩
 | n+1,i,th,hi,hv=>by
  obtain⟨k,e,hc⟩:=cp0 h ok hv (pr:=pr) (py:=py)
  have hd:decide ((i:Int)<101)=true:=b6_ (by omega)
  unfold stl
  rcases hc with ⟨rfl,hf⟩ | ⟨j,y,rfl,hy,hf⟩
  ·rw[hf]
   refine⟨.inr (false,(th,())),br_ ?_,rfl,hv⟩
   unfold setB
   simp only[hd,a5_]
   refine e5_ (congrArg (λo=>Option.bind o _) e) rfl
  ·rw[hf]
   have g1:=(ok.au j y hy).1
   have hi2:=(mo_ h ok g1).1
   have hl:=hv.1
   obtain⟨z,ez,hz⟩:=nl_ h ok (pr:=pr) (py:=py) n (i+1) (th.set y.2.1.toNat y.2.2) (by omega) (cd0 h ok hv g1)
   refine⟨z,bp_ ?_ ez,hz⟩
   unfold setB
   simp only[hd,a5_]
   refine e5_ (congrArg (λo=>Option.bind o _) e) ?_
   simp only[a0_,show decide ((j:Int)<0)=false from b9_ (by omega),a2_,ah_ hy,nd_ hi2.1 (show y.2.1<th.length by omega),az_ (show Sm i by show _≤1000000000;omega)]
def yd_ (r:ae_) (s:ai_) (m:ag_):Option ai_:=(stl r 101 (mvP r s m).1).map λth=>(th,(mvP r s m).2)
abbrev eS:ai_:=([],([],[]))
theorem ai8 {r:ae_} (h:SmR r) (h0:da_ r=0) {s:ai_} (hv:VS r s) (m:ag_) :
  fg_ r s m=some (cond (lgl r s m) ((yd_ r s m).elim (eS,(27,())) λt=>(t,(0,()))) (eS,(29,()))):=by
 have ok:=bn_ h0
 obtain⟨m1,m2,m3⟩:=qf_ h ok hv
 rw[rstX_eq]
 unfold rstX
 rw[fb_ h,a0_,hc_ h0 hv]
 simp only[show ((0:Int) != 0)=false from rfl,a2_]
 rw[av_ m1,a0_,av_ m2,a0_,av_ m3,a0_]
 refine e5_ (congrArg (λo=>Option.bind o _) (vq_ h ok hv m)) ?_
 rw[a0_]
 cases hl:lgl r s m with
 | false=>rfl
 | true =>
 simp only[e9_,a2_,a5_]
 rw[cs6 h ok hv hl,a0_]
 simp only
 have hv2:=VS_mv h ok hv hl
 obtain⟨z,ez,hz⟩:=nl_ h ok (pr:=(mvP r s m).2.1) (py:=(mvP r s m).2.2) 101 0 (mvP r s m).1 rfl ⟨hv2.l1,hv2.th⟩
 refine e5_ (congrArg (λo=>Option.bind (Option.bind o _) _) ez) ?_
 unfold yd_
 cases hs:stl r 101 (mvP r s m).1 with
 | none =>
  rw[hs] at hz
  obtain⟨w,rfl⟩:=hz
  rfl
 | some th' =>
  rw[hs] at hz
  obtain⟨rfl,_⟩:=hz
  rfl
theorem us_ {r:ae_} (h:SmR r) (h0:da_ r=0) {s t:ai_} (hv:VS r s) {m:ag_} (hl:lgl r s m=true) (ht:yd_ r s m=some t):VS r t:=by
 have ok:=bn_ h0
 have hv2:=VS_mv h ok hv hl
 unfold yd_ at ht
 obtain⟨th,hs,rfl⟩:=f7_.1 ht
 obtain⟨z,ez,hz⟩:=nl_ h ok (pr:=(mvP r s m).2.1) (py:=(mvP r s m).2.2) 101 0 (mvP r s m).1 rfl ⟨hv2.l1,hv2.th⟩
 rw[hs] at hz
 exact⟨hz.2.1,hv2.l2,hv2.l3,hz.2.2,hv2.pr,hv2.py⟩
end
section
set_option maxRecDepth 100000
theorem ar1 {r:ae_} (h:SmR r) (h0:da_ r=0) {s:ai_} (hv:VS r s) {c:List bg_} (hc:cOk r.2.1 c=true):fi_ r s c=some (dm_ s.1 c,(0,())):=by
 have ok:=bn_ h0
 obtain⟨m1,m2,m3⟩:=qf_ h ok hv
 unfold fi_
 rw[fb_ h,a0_,hc_ h0 hv]
 simp only[show ((0:Int) != 0)=false from rfl,a2_]
 rw[js_ h.th,a0_,hc]
 obtain⟨c1,c2⟩:=sk_ h.th hc
 have hl:=hv.l1
 simp only[e9_,a2_]
 rw[av_ m1,a0_,av_ m2,a0_,av_ m3,a0_,ml_ (t:=(r,(s.1,(s.2.1,s.2.2)))) (show c.length≤1000000000 by omega) (by show InC s.1.length c;rw[hl];exact c1)]
 rfl
def rdB (s:ai_) (n:co_) (b:Bool):Bool:=b||(dm_ s.1 n.2.2.2.1&&s.2.2.contains n.2.1)
def rdN (g:ad_) (s:ai_) (d:List Bool):List Bool:=List.zipWith (rdB s) g.2.2.2.1 d
theorem sv_ {g:ad_} {s:ai_} {d:List Bool} (hd:d.length=g.2.2.2.1.length):(rdN g s d).length=g.2.2.2.1.length:=by
 unfold rdN
 rw[List.length_zipWith]
 omega
theorem bp1 {g:ad_} {s:ai_} {d:List Bool} {i:Nat} {n:co_} {b:Bool} (hn:g.2.2.2.1[i]?=some n) (hb:d[i]?=some b):(rdN g s d)[i]?=some (rdB s n b):=by
 unfold rdN
 rw[List.getElem?_zipWith,hn,hb]
theorem we_ {g:ad_} (hg:SmG g) (ok:OkG g) {s:ai_} (hv:VS g.1 s) {d:List Bool} (hd:d.length=g.2.2.2.1.length) (m:List ab_) :
  ∃ z,af_ (pbgB g s) (0,(d,(m,())))=some z∧z.1=rdN g s d:=by
 have h0:=ok.room
 have okr:=bn_ h0
 obtain⟨m1,m2,m3⟩:=qf_ hg.room okr hv
 have hn:=hg.nt
 have hrl:=sv_ (s:=s) hd
 refine lu_ (λ(i:Nat) (z:Int×(List Bool×(List ab_×Unit)))=>∃ d' m',z=((i:Int),(d',(m',())))∧∀ j,d'[j]?=if j<i then (rdN g s d)[j]? else d[j]?) _ g.2.2.2.1.length 0 _ ⟨d,m,rfl,λj=>by simp⟩ (λj z h1 h2 hz=>.inl ?_) (λz hz => ?_)
 ·obtain⟨d',m',rfl,hd'⟩:=hz
  obtain⟨x,hx⟩:=bb_ (l:=g.2.2.2.1) (i:=j) (by omega)
  obtain⟨y,hy⟩:=bb_ (l:=d) (i:=j) (by omega)
  have hy':d'[j]?=some y:=by rw[hd' j,if_neg (by omega)];exact hy
  have hr:=bp1 (s:=s) hx hy
  have hH:=ar1 hg.room h0 hv (ok.nt j x hx).2
  have keep:rdB s x y=y→∀ k,d'[k]?=if k<j+1 then (rdN g s d)[k]? else d[k]?:=λe k=>by
   rw[hd' k]
   by_cases hk:k=j
   ·subst hk
    rw[if_neg (by omega),if_pos (by omega),hr,hy,e]
   ·by_cases hk2:k<j
    ·rw[if_pos hk2,if_pos (by omega)]
    ·rw[if_neg hk2,if_neg (by omega)]
  have turn:rdB s x y=true→∀ k,(d'.set ((j:Int)).toNat true)[k]?=if k<j+1 then (rdN g s d)[k]? else d[k]?:=λe k=>by
   rw[c1_,g1_]
   by_cases hk:j=k
   ·subst hk
    rw[if_pos rfl,if_pos (am_ hy'),if_pos (by omega),hr,e]
   ·rw[if_neg hk,hd' k]
    by_cases hk2:k<j
    ·rw[if_pos hk2,if_pos (by omega)]
    ·rw[if_neg hk2,if_neg (by omega)]
  unfold pbgB
  simp only[dlt (am_ hx),a5_,ah_ hx,ah_ hy',a0_,hH,ou_ m3,az_ (show Sm j by omega)]
  unfold rdB at keep turn
  cases hb:dm_ s.1 x.2.2.2.1 with
  | false=>exact⟨_,rfl,_,_,rfl,keep (by rw[hb];simp)⟩
  | true =>
  cases hc:s.2.2.contains x.2.1 with
  | false =>
   refine⟨_,?_,d',m',rfl,keep (by rw[hc];simp)⟩
   simp only[a5_,a2_,a0_]
  | true =>
  cases y with
  | true=>exact⟨_,rfl,_,_,rfl,keep rfl⟩
  | false=>exact⟨_,rfl,_,_,rfl,turn (by rw[hb,hc];rfl)⟩
 ·obtain⟨d',m',rfl,hd'⟩:=hz
  rw[b0_]
  unfold pbgB
  simp only[dnl,a2_]
  refine⟨_,rfl,f2_ λk => ?_⟩
  rw[hd' k]
  split
  ·rfl
  ·rw[b8_ (by omega),b8_ (by omega)]
def bj1 (g:ad_) (d:List Bool) (lock:Int):List ak_:=(g.2.2.2.1.zip d).filterMap λx=>cond (x.1.2.2.1==lock&&x.2) (some x.1.2.2.2.2) none
theorem ag4 {g:ad_} {d:List Bool} {lock:Int} {c:ak_} (h:c ∈ bj1 g d lock):∃ (i:Nat) (n:co_),g.2.2.2.1[i]?=some n∧n.2.2.1=lock∧n.2.2.2.2=c:=by
 unfold bj1 at h
 obtain⟨x,hx,he⟩:=List.mem_filterMap.1 h
 obtain⟨i,hi⟩:=f4_ (List.of_mem_zip hx).1
 cases hq:(x.1.2.2.1==lock&&x.2) with
 | false=>rw[hq] at he;cases he
 | true =>
  rw[hq] at he
  rw[a1_,f5_] at hq
  exact⟨i,x.1,hi,hq.1,a6_ he⟩
theorem bd5 {g:ad_} (hg:SmG g) (d:List Bool) (lock:Int):(bj1 g d lock).length≤20:=by
 unfold bj1
 refine c6_ (p5_ ..) ?_
 rw[n2_]
 have:=hg.nt
 omega
theorem bs1 {g:ad_} (ok:OkG g) {i:Nat} {n:co_} (hn:g.2.2.2.1[i]?=some n) {l:ab_} (h0:0≤n.2.2.1) (hl:at? g.2.1 n.2.2.1=some l):de_ l n.2.2.2.2=true:=by
 have h:=(ok.nt i n hn).1
 unfold bs2 at h
 simp only[a1_] at h
 have h5:=h.2.2.2.2
 rw[b9_ (by omega),hl] at h5
 simp only[a2_] at h5
 cases hk:at? g.2.2.1 n.2.2.1 with
 | none=>rw[hk] at h5;cases h5
 | some k =>
  rw[hk] at h5
  have h5:clOk l n.2.2.2.2 k=true:=h5
  unfold clOk at h5
  rw[a1_] at h5
  exact h5.1
noncomputable def rdC (g:ad_) (d:List Bool) (lock:Int) (l:ab_):Int:=((rdg l ((bj1 g d lock))).length:Int)
theorem an6 {g:ad_} (hg:SmG g) (ok:OkG g) (d:List Bool) {lock:Int} (h0:0≤lock) {l:ab_} (hl:at? g.2.1 lock=some l):db_ l (bj1 g d lock)=some (rdC g d lock l,(0,())):=by
 obtain⟨_,_,l1⟩:=dc_ hl
 refine an9 (ok.lk _ l l1).1 (bd5 hg d lock) λc hc => ?_
 obtain⟨i,n,hn,rfl,rfl⟩:=ag4 hc
 exact bs1 ok hn h0 hl
noncomputable def opn (g:ad_) (d:List Bool) (lock:Int):Bool:=cond (decide (lock<0)) true ((at? g.2.1 lock).elim false λl=>decide (rdC g d lock l≤g.2.2.2.2))
noncomputable def abB (a0:ad_) (v1:List Bool) (lock:Int):(List Int×(List ak_×(Int×Unit)))→Option ((List Int×(List ak_×(Int×Unit)))⊕(List Int×(List ak_×Unit))) :=
 (λ(v4:((List Int)×((List ak_)×(Int×Unit)))) =>
 (cond (decide (v4.2.2.1<(a0.2.2.2.1.length:Int)))
 ((((at? a0.2.2.2.1 v4.2.2.1).bind λv5 =>
 (((cond (v5.2.2.1==lock)
 ((at? v1 v4.2.2.1).bind λv6 =>
 ((at? v1 v4.2.2.1).bind λv7 =>
 (some (v7,()))))
 (some (false,())))).bind λv8 =>
 (cond v8.1
 ((push? (α:=Int) v4.1 [v4.2.2.1]).bind λv9 =>
 ((push? (α:=ak_) v4.2.1 [v5.2.2.2.2]).bind λv10 =>
 (some (v9,(v10,())))))
 (some (v4.1,(v4.2.1,()))))))).bind λv11 =>
 (some (inl (v11.1,(v11.2.1,((w64 (v4.2.2.1+1)),()))))))
 (some (inr (v4.1,(v4.2.1,()))))))
theorem cc9 {g:ad_} (hg:SmG g) {d:List Bool} (hd:d.length=g.2.2.2.1.length) (lock:Int):∃ q,af_ (abB g d lock) ([],([],(0,())))=some (q,(bj1 g d lock,())):=by
 have hn:=hg.nt
 suffices hk:∃ r,af_ (abB g d lock) ([],([],(0,())))=some r∧∃ q,r=(q,(bj1 g d lock,())) by
  obtain⟨z,ez,q,rfl⟩:=hk
  exact⟨q,ez⟩
 refine lu_ (λ(i:Nat) (z:List Int×(List ak_×(Int×Unit)))=>∃ q,z=(q,(((g.2.2.2.1.zip d).take i).filterMap (λx=>cond (x.1.2.2.1==lock&&x.2) (some x.1.2.2.2.2) none),((i:Int),())))∧q.length≤i) (λw=>∃ q,w=(q,(bj1 g d lock,()))) g.2.2.2.1.length 0 ([],([],(0,()))) ⟨[],rfl,c3_ _⟩ (λj z h1 h2 hz=>.inl ?_) (λz hz => ?_)
 ·obtain⟨q,rfl,hq⟩:=hz
  obtain⟨x,hx⟩:=bb_ (l:=g.2.2.2.1) (i:=j) (by omega)
  obtain⟨y,hy⟩:=bb_ (l:=d) (i:=j) (by omega)
  have hzip:(g.2.2.2.1.zip d)[j]?=some (x,y):=by rw[h9_];exact⟨hx,hy⟩
  have hlen:(((g.2.2.2.1.zip d).take j).filterMap (λx=>cond (x.1.2.2.1==lock&&x.2) (some x.1.2.2.2.2) none)).length≤j:=by
   refine c6_ (p5_ ..) ?_
   rw[c9_];omega
  have hstep:((g.2.2.2.1.zip d).take (j+1)).filterMap (λx=>cond (x.1.2.2.1==lock&&x.2) (some x.1.2.2.2.2) none)=((g.2.2.2.1.zip d).take j).filterMap (λx=>cond (x.1.2.2.1==lock&&x.2) (some x.1.2.2.2.2) none)++cond (x.2.2.1==lock&&y) [x.2.2.2.2] []:=by
   rw[d7_,hzip,o3_]
   cases hc:(x.2.2.1==lock&&y) with
   | false=>simp[hc]
   | true=>simp[hc]
  unfold abB
  simp only[dlt (am_ hx),a5_,ah_ hx,ah_ hy,a0_,az_ (show Sm j by omega)]
  cases h1:x.2.2.1==lock with
  | false =>
   refine⟨_,rfl,q,?_,by omega⟩
   rw[hstep,h1,e8_,a2_,e7_]
  | true =>
  cases y with
  | false =>
   refine⟨_,rfl,q,?_,by omega⟩
   rw[hstep,f9_,a2_,e7_]
  | true =>
   simp only[a5_,a0_,ch_ (show Sm q.length by show _≤1000000000;omega),ch_ (show Sm _ from c6_ hlen (by omega))]
   refine⟨_,rfl,q++[(j:Int)],?_,by rw[a8_,d3_];omega⟩
   rw[hstep,h1,i1_,a5_]
 ·obtain⟨q,rfl,hq⟩:=hz
  rw[b0_]
  unfold abB
  simp only[dnl,a2_]
  refine⟨_,rfl,q,?_⟩
  unfold bj1
  rw[h0_ (by rw[n2_];omega)]
end
section
set_option maxRecDepth 100000
noncomputable def opX (a0:ad_) (v1:List Bool) (a2:ag_):Option (Bool×(List ab_×Unit)) :=
 (cond (a2.2.1==4)
 ((bz_ a2.2.2 0 (w64 ((a0.1.2.2.2.2.1.length:Int) - 1))).bind λv2 =>
 (cond v2.1
 ((at? a0.1.2.2.2.2.1 a2.2.2).bind λv3 =>
 (cond (decide (v3.2.2.1<0))
 (some ((!true),([],())))
 ((((af_ (abB a0 v1 v3.2.2.1) ([],([],(0,())))).bind λv12 =>
 ((at? a0.2.1 v3.2.2.1).bind λv13 =>
 ((db_ v13 v12.2.1).bind λv14 =>
 (((cond (v14.2.1==0)
 (some ((decide (v14.1≤a0.2.2.2.2)),()))
 (some (false,())))).bind λv15 =>
 (cond v15.1
 (some ((ex_ (ex_ [] v3.2.2.1 2) v3.2.2.1 1),()))
 (some ((ex_ [] v3.2.2.1 2),())))))))).bind λv16 =>
 (some ((!((ey_ 0 v16.1 v3.2.2.1)==1)),(v16.1,()))))))
 (some (false,([],())))))
 (some (false,([],()))))
noncomputable def pstX (a0:ad_) (a1:aa_) (a2:ag_):Option (aa_×(Int×Unit)) :=
 ((ec_ a0 a1).bind λv0 =>
 (cond (v0.1 != 0)
 (cond (v0.1 != 0)
 (some ((([],([],[])),[]),(v0.1,())))
 none)
 ((push? (α:=Bool) [] a1.2).bind λv1 =>
 ((((opX a0 v1 a2).bind λv17 =>
 (cond v17.1
 (some ((!false),(v1,(v17.2.1,((a1.1.1,(a1.1.2.1,(a1.1.2.2,()))),())))))
 ((fg_ a0.1 a1.1 a2).bind λv18 =>
 (cond (v18.2.1 != 0)
 (some ((!false),(v1,(v17.2.1,((a1.1.1,(a1.1.2.1,(a1.1.2.2,()))),())))))
 ((af_ (ρ:=((List Bool)×((List ab_)×Unit))) (pbgB a0 v18.1) (0,(v1,(v17.2.1,())))).bind λv29 =>
 (some ((!true),(v29.1,(v29.2.1,((v18.1.1,(v18.1.2.1,(v18.1.2.2,()))),()))))))))))).bind λv30 =>
 (cond v30.1
 (some ((([],([],[])),[]),(29,())))
 ((push? (α:=Int) [] v30.2.2.2.1.1).bind λv31 =>
 ((push? (α:=Int) [] v30.2.2.2.1.2.1).bind λv32 =>
 ((push? (α:=Int) [] v30.2.2.2.1.2.2.1).bind λv33 =>
 ((push? (α:=Bool) [] v30.2.1).bind λv34 =>
 (some (((v31,(v32,v33)),v34),(0,()))))))))))))
theorem pstX_eq:kj_=pstX:=by kernel_rfl
noncomputable def okM (g:ad_) (d:List Bool) (m:ag_):Bool:=cond (m.2.1==4) ((at? g.1.2.2.2.2.1 m.2.2).elim true λa=>opn g d a.2.2.1) true
noncomputable def stepP (g:ad_) (p:aa_) (m:ag_):Option aa_ :=
 cond (okM g p.2 m&&lgl g.1 p.1 m) ((yd_ g.1 p.1 m).map λs=>(s,rdN g s p.2)) none
abbrev eP:aa_:=(eS,[])
theorem bh8 {g:ad_} (hg:SmG g) (p:aa_):ec_ g p=some (cond (cl_ g != 0) (cl_ g) (cond (nc_ g.1 p.1 != 0) (nc_ g.1 p.1) (cond ((p.2.length:Int) != (g.2.2.2.1.length:Int)) 28 0)),()):=by
 unfold ec_
 rw[yz_ hg,a0_]
 cases cl_ g != 0 with
 | true=>rfl
 | false =>
 simp only[a2_]
 rw[fb_ hg.room,a0_]
 cases nc_ g.1 p.1 != 0 with
 | true=>rfl
 | false =>
 simp only[a2_]
 cases (p.2.length:Int) != (g.2.2.2.1.length:Int)<;>rfl
structure VP (g:ad_) (p:aa_):Prop where
 st:VS g.1 p.1
 rd:p.2.length=g.2.2.2.1.length
theorem wd_ {g:ad_} (hg:SmG g) (h0:cl_ g=0) {p:aa_} (hv:VP g p):ec_ g p=some (0,()):=by
 rw[bh8 hg,h0,hc_ (ct_ h0).room hv.st,hv.rd,show ((g.2.2.2.1.length:Int) != (g.2.2.2.1.length:Int))=false by simp]
 rfl
theorem opX_eq {g:ad_} (hg:SmG g) (ok:OkG g) {d:List Bool} (hd:d.length=g.2.2.2.1.length) (m:ag_):∃ x,opX g d m=some (!(okM g d m),(x,())):=by
 have hac:=hg.ac
 unfold opX okM
 cases hk:m.2.1==4 with
 | false=>exact⟨[],rfl⟩
 | true =>
 simp only[a5_,ka_,a0_]
 rcases cq_ (l:=g.1.2.2.2.2.1) (by show _≤1000000000;omega) m.2.2 with ⟨f1,f2⟩ | ⟨j,a,hj,ha,f1,f2⟩
 ·rw[f1,f2];exact⟨[],rfl⟩
 ·rw[f1,f2]
  simp only[a5_,a0_,Option.elim]
  unfold opn
  cases hz:decide (a.2.2.1<0) with
  | true=>exact⟨[],rfl⟩
  | false =>
  have hz:=e0_ hz
  have hlt:=ok.ac j a ha
  obtain⟨l,hl⟩:=bb_ (l:=g.2.1) (i:=a.2.2.1.toNat) (by omega)
  have hl2:at? g.2.1 a.2.2.1=some l:=by rw[show a.2.2.1=((a.2.2.1.toNat:Nat):Int) by omega];exact ah_ hl
  obtain⟨q,e⟩:=cc9 hg hd a.2.2.1
  rw[e]
  simp only[a2_,a0_,hl2,an6 hg ok d (by omega) hl2,Option.elim]
  simp only[show ((0:Int)==0)=true from rfl,a5_,a0_]
  cases decide (rdC g d a.2.2.1 l≤g.2.2.2.2) with
  | true=>exact⟨_,by simp[ex_,ey_,mget?];rfl⟩
  | false=>exact⟨_,by simp[ex_,ey_,mget?];rfl⟩
theorem bq2 {g:ad_} (hg:SmG g) (h0:cl_ g=0) {p:aa_} (hv:VP g p) (m:ag_) :
  kj_ g p m=some ((stepP g p m).elim (eP,(29,())) λq=>(q,(0,()))):=by
 have ok:=ct_ h0
 have hn:=hg.nt
 have hrd:=hv.rd
 rw[pstX_eq]
 unfold pstX
 rw[wd_ hg h0 hv,a0_]
 simp only[show ((0:Int) != 0)=false from rfl,a2_]
 rw[av_ (show Sm p.2.length by show _≤1000000000;omega),a0_]
 obtain⟨x,ex⟩:=opX_eq hg ok hv.rd m
 rw[ex,a0_]
 unfold stepP
 cases okM g p.2 m with
 | false=>rfl
 | true =>
 simp only[e9_,a2_,c2_]
 rw[ai8 hg.room ok.room hv.st m,a0_]
 cases hl:lgl g.1 p.1 m with
 | false=>rfl
 | true =>
 simp only[a5_]
 cases hs:yd_ g.1 p.1 m with
 | none=>rfl
 | some s =>
 have hv2:=us_ hg.room ok.room hv.st hl hs
 obtain⟨m1,m2,m3⟩:=qf_ hg.room (bn_ ok.room) hv2
 have hrl:=sv_ (s:=s) hv.rd
 obtain⟨z,ez,hz⟩:=we_ hg ok hv2 hv.rd x
 simp only[Option.elim,show ((0:Int) != 0)=false from rfl,a2_]
 rw[ez,a0_,a0_]
 simp only[e9_,a2_]
 rw[av_ m1,a0_,av_ m2,a0_,av_ m3,a0_,hz,av_ (show Sm (rdN g s p.2).length by show _≤1000000000;omega),a0_]
 rfl
theorem aa3 {g:ad_} (hg:SmG g) (h0:cl_ g=0) {p q:aa_} (hv:VP g p) {m:ag_} (h:stepP g p m=some q):VP g q:=by
 have ok:=ct_ h0
 unfold stepP at h
 cases hc:(okM g p.2 m&&lgl g.1 p.1 m) with
 | false=>rw[hc] at h;cases h
 | true =>
 rw[hc,a5_] at h
 obtain⟨s,hs,rfl⟩:=f7_.1 h
 rw[a1_] at hc
 exact⟨us_ hg.room ok.room hv.st hc.2 hs,sv_ hv.rd⟩
end
end Go.Proofs.YtgeehfnbhbibeaaGreatDoor.Rx
namespace Go.Proofs.YtgeehfnbhbibeaaGreatDoor.Rx
open Go Pad Rex Sum
section
set_option maxRecDepth 10000
theorem bo4 {r:ae_} (h:SmR r) (h0:da_ r=0) {s:ai_} (hv:VS r s):ia_ r s=some (dm_ s.1 r.2.2.2.2.2.2.2,(0,())):=by
 have ok:=bn_ h0
 obtain⟨m1,m2,m3⟩:=qf_ h ok hv
 unfold ia_
 rw[fb_ h,a0_,hc_ h0 hv]
 simp only[show ((0:Int) != 0)=false from rfl,a2_]
 obtain⟨c1,c2⟩:=sk_ h.th ok.go
 have hl:=hv.l1
 rw[av_ m1,av_ m2,av_ m3]
 simp only[a0_]
 rw[ml_ (t:=(r,(s.1,(s.2.1,s.2.2)))) (show r.2.2.2.2.2.2.2.length≤1000000000 by omega) (by show InC s.1.length r.2.2.2.2.2.2.2;rw[hl];exact c1)]
 rfl
end
section
set_option maxRecDepth 10000
theorem bh1 {s:ai_} (h:Sm s.2.1.length) (p:Int):ha_ s p=some ((lr_ s.2.1 (w64 ((-2) - p)):Int),()):=by
 unfold ha_
 refine ao6 s.2.1 (λ_ (c:Nat) x=>cond (x==w64 ((-2) - p)) (c+1) c) (λi c=>((c:Int),((i:Int),()))) (λc=>((c:Int),())) 0 (λi c=>c=lr_ (s.2.1.take i) (w64 ((-2) - p))) rfl (λi x c hx hc => ?_) (λc hc => ?_) (λc hc => ?_)
 ·have hi:=am_ hx
  have hcl:c≤i:=by rw[hc];refine c6_ (vc_ _ _) ?_;rw[c9_];omega
  have hn:lr_ (s.2.1.take (i+1)) (w64 ((-2) - p))=cond (x==w64 ((-2) - p)) (c+1) c:=by
   unfold lr_
   rw[d7_,hx,hc,List.countP_append]
   unfold lr_
   cases hq:x==w64 ((-2) - p) with
   | true=>simp[hq]
   | false=>simp[hq]
  refine⟨?_,hn.symm⟩
  simp only[dlt hi,a5_,ah_ hx,a0_,az_ (show Sm i by omega)]
  cases hq:x==w64 ((-2) - p) with
  | true=>simp only[a5_,a0_,az_ (show Sm c by omega)]
  | false=>rfl
 ·simp only[dnl,a2_]
 ·rw[d9_] at hc
  rw[hc]
theorem ah0 (a b:Int):(a != b) = !(a==b):=rfl
theorem as1 {r:ae_} (h:SmR r) (ok:OkR r) {s:ai_} (hv:VS r s) (m:ag_):jl_ r s m=some (lgl r s m,()):=by
 obtain⟨m1,m2,m3⟩:=qf_ h ok hv
 have hl1:=hv.l1
 have hl2:=hv.l2
 have hl3:=hv.l3
 have hH:∀ {c:List bg_},cOk r.2.1 c=true→bl_ s c=some (dm_ s.1 c,()):=λ{c} hc=>by
  obtain⟨c1,c2⟩:=sk_ h.th hc
  exact hj_ (show c.length≤1000000000 by omega) (by show InC s.1.length c;rw[hl1];exact c1)
 have hD:ha_ s m.1=some ((lr_ s.2.1 (hdl m):Int),()):=bh1 m2 m.1
 have hDl:=vc_ s.2.1 (hdl m)
 unfold jl_ lgl
 rw[← hl3]
 simp only[fn_,a0_]
 rcases cq_ m3 m.1 with ⟨e1,_⟩ | ⟨pj,px,hpj,hp,e1,e2⟩
 ·rw[e1];rfl
 ·have eg:gi s.2.2 m.1=px:=jf_ e2
  simp only[e1,e2,eg,e9_,a2_,a0_,c2_]
  cases hk1:m.2.1==1 with
  | true =>
   simp only[a5_]
   rcases cq_ h.wy m.2.2 with ⟨f1,f2⟩ | ⟨j,w,hj,hw,f1,f2⟩
   ·simp only[f1,f2];rfl
   ·simp only[f1,f2,a5_,a0_,hH (ok.wy j w hw).2]
    show _=some ((w.1==px||w.2.1==px)&&dm_ s.1 w.2.2,())
    cases w.1==px with
    | true=>rfl
    | false=>cases w.2.1==px<;>rfl
  | false =>
  simp only[a2_]
  cases hk2:m.2.1==2 with
  | true =>
   simp only[a5_]
   rcases cq_ h.pr m.2.2 with ⟨f1,f2⟩ | ⟨j,x,hj,hx,f1,f2⟩
   ·simp only[f1,f2];rfl
   ·obtain⟨p,hp⟩:=bb_ (l:=s.2.1) (i:=j) (by have:=am_ hx;omega)
    have f3:at? s.2.1 m.2.2=some p:=by rw[hj];exact ah_ hp
    have f4:gi s.2.1 m.2.2=p:=jf_ f3
    simp only[f1,f2,f3,f4,a5_,a0_,hH (ok.pr j x hx).2,hD]
    show _=some (p==px&&(dm_ s.1 x.2.2&&decide ((lr_ s.2.1 (hdl m):Int)<3)),())
    cases p==px with
    | false=>rfl
    | true=>cases dm_ s.1 x.2.2<;>rfl
  | false =>
  simp only[a2_]
  cases hk3:m.2.1==3 with
  | true =>
   simp only[a5_]
   rcases cq_ m2 m.2.2 with ⟨f1,f2⟩ | ⟨j,p,hj,hp,f1,f2⟩
   ·rw[hl2] at f1
    simp only[f1,f2];rfl
   ·rw[hl2] at f1
    simp only[f1,f2,a5_,a0_];rfl
  | false =>
  simp only[a2_]
  cases hk4:m.2.1==4 with
  | false=>rfl
  | true =>
   simp only[a5_]
   rcases cq_ h.ac m.2.2 with ⟨f1,f2⟩ | ⟨j,a,hj,ha,f1,f2⟩
   ·simp only[f1,f2];rfl
   ·obtain⟨oa,oc⟩:=ok.ac j a ha
    have ai:=bf0 oa
    obtain⟨s1,s2,s3,s4,s5,s6⟩:=h.acn a (au_ ha)
    simp only[f1,f2,e9_,a2_,a0_]
    show _=some (a.2.1==px&&((a.2.2.2.1.all λp=>gi s.2.1 p==hdl m)&&(dm_ s.1 a.2.2.2.2.1&&((a.2.2.2.2.2.2.2.all λp=>gi s.2.1 p==-1)&&decide ((lr_ s.2.1 (hdl m):Int) - (a.2.2.2.2.2.2.1.length:Int)+(a.2.2.2.2.2.2.2.length:Int)≤3)))),())
    refine bo_ a.2.2.2.1 (λ_ p=>cond (gi s.2.1 p==hdl m) none (some (inr (false,()):Unit⊕(Bool×Unit)))) (λi=>((i:Int),())) (r0:=inl ()) (λi y hy => ?_) ?_ ?_
    ·have:=ai.us y (au_ hy)
     simp only[dlt (am_ hy),a5_,ah_ hy,a0_,nd_ this.1 (show y<(s.2.1.length:Int) by omega),az_ (show Sm i by have:=am_ hy;omega),ah0]
     cases gi s.2.1 y==hdl m<;>rfl
    ·simp only[dnl,a2_]
    rw[je_ (q:=λp=>gi s.2.1 p==hdl m)]
    cases a.2.2.2.1.all λp=>gi s.2.1 p==hdl m with
    | false=>simp only[e8_,f9_];rfl
    | true =>
    simp only[a5_,j8_]
    unfold cg_
    refine bo_ a.2.2.2.2.2.2.2 (λ_ p=>cond (gi s.2.1 p==-1) none (some (inr (false,()):Unit⊕(Bool×Unit)))) (λi=>((i:Int),())) (r0:=inl ()) (λi y hy => ?_) ?_ ?_
    ·have:=ai.br y (au_ hy)
     simp only[dlt (am_ hy),a5_,ah_ hy,a0_,nd_ this.1 (show y<(s.2.1.length:Int) by omega),az_ (show Sm i by have:=am_ hy;omega),ah0]
     cases gi s.2.1 y==-1<;>rfl
    ·simp only[dnl,a2_]
    rw[je_ (q:=λp=>gi s.2.1 p==-1)]
    cases a.2.2.2.2.2.2.2.all λp=>gi s.2.1 p==-1 with
    | false=>simp only[e8_,f9_];rfl
    | true =>
    simp only[a5_,j8_]
    cases a.2.1==px with
    | false=>rfl
    | true =>
    simp only[a5_,hH oc,a0_,c2_]
    cases dm_ s.1 a.2.2.2.2.1 with
    | false=>rfl
    | true =>
    simp only[a5_,hD,a0_,c2_]
    rw[ez_ (n:=(lr_ s.2.1 (hdl m):Int) - _) (by omega) (by omega),ez_ (by omega) (by omega)]
end
section
set_option maxRecDepth 10000
theorem run_cnt {σ ρ:Type} (n:Nat) (S:Nat→σ) {body:σ→Option (σ⊕ρ)} {r:ρ} (h:∀ i,i<n→body (S i)=some (.inl (S (i+1)))) (e:body (S n)=some (.inr r)):af_ body (S 0)=some r:=by
 have gen:∀ (k i:Nat),i+k=n→af_ body (S i)=some r:=by
  intro k
  induction k with
  | zero =>
   intro i hi
   obtain rfl:i=n:=by omega
   exact br_ e
  | succ k ih =>
   intro i hi
   exact bp_ (h i (by omega)) (ih (i+1) (by omega))
 exact gen n 0 (by omega)
theorem qb_ {σ ρ υ:Type} (n:Nat) (S:Nat→σ) {body:σ→Option (σ⊕ρ)} {r:ρ} {s0:σ} {K:ρ→Option υ} {x:Option υ} (h0:S 0=s0) (h:∀ i,i<n→body (S i)=some (.inl (S (i+1)))) (e:body (S n)=some (.inr r)) (hk:K r=x):(af_ body s0).bind K=x:=by
 rw[← h0,run_cnt n S h e,a0_,hk]
section
variable (q:ag_→Bool)
def mvK (i k:Int):Nat→List ag_→List ag_
 | 0,l=>l
 | n+1,l=>cond (q (i,(k,(n:Int)))) (mvK i k n l++[(i,(k,(n:Int)))]) (mvK i k n l)
def mvJ (i:Int) (c:Nat→Nat):Nat→List ag_→List ag_
 | 0,l=>l
 | k+1,l=>mvK q i (k:Int) (c k) (mvJ i c k l)
def mvs (c:Nat→Nat):Nat→List ag_
 | 0=>[]
 | n+1=>mvJ q (n:Int) c 5 (mvs c n)
theorem ac7 (i k:Int):∀ n l,(mvK q i k n l).length≤l.length+n
 | 0,l=>c3_ _
 | n+1,l=>by
  have:=ac7 i k n l
  unfold mvK
  cases q (i,(k,(n:Int))) with
  | true=>simp only[a5_,a8_,c4_,k5_];omega
  | false=>simp only[a2_];omega
theorem ac8 (i:Int) {c:Nat→Nat} (hc:∀ k,c k≤24):∀ k l,(mvJ q i c k l).length≤l.length+k * 24
 | 0,l=>c3_ _
 | k+1,l=>by
  have h1:=ac8 i hc k l
  have h2:=ac7 q i (k:Int) (c k) (mvJ q i c k l)
  have h3:=hc k
  unfold mvJ
  omega
theorem ac6 {c:Nat→Nat} (hc:∀ k,c k≤24):∀ n,(mvs q c n).length≤n * 120
 | 0=>c3_ _
 | n+1=>by
  have h1:=ac6 hc n
  have h2:=ac8 q (n:Int) hc 5 (mvs q c n)
  unfold mvs
  omega
theorem bt0 (i k:Int) {n:Nat} (l:List ag_):∀ m,n≤m→(∀ j:Nat,n≤j→j<m→q (i,(k,(j:Int)))=false)→mvK q i k m l=mvK q i k n l
  | 0, h, _ => by obtain rfl : n = 0 := by omega
                  rfl
  | m+1,h,hf=>by
    rcases l7_ m n with hm | hm
    · obtain rfl:n=m+1:=by omega
      rfl
    · show cond (q (i,(k,(m:Int)))) _ (mvK q i k m l)=_
      rw[hf m hm (by omega),a2_]
      exact bt0 i k l m hm λj a b=>hf j a (by omega)
theorem bt2 (i:Int) {c d:Nat→Nat} (K:Nat) (l:List ag_) (hc:∀ k,k<K→c k≤d k) (hf:∀ k,k<K→∀ j:Nat,c k≤j→j<d k→q (i,((k:Int),(j:Int)))=false):∀ k,k≤K→mvJ q i d k l=mvJ q i c k l
 | 0,_=>rfl
 | k+1,hk=>by
  unfold mvJ
  rw[bt2 i K l hc hf k (by omega)]
  exact bt0 q i (k:Int) _ (d k) (hc k (by omega)) (hf k (by omega))
theorem bs9 {c d:Nat→Nat} (hc:∀ k,k<5→c k≤d k) (hf:∀ i k,k<5→∀ j:Nat,c k≤j→j<d k→q (i,((k:Int),(j:Int)))=false):∀ n,mvs q d n=mvs q c n
 | 0=>rfl
 | n+1=>by
  unfold mvs
  rw[bs9 hc hf n]
  exact bt2 q (n:Int) 5 _ hc (hf (n:Int)) 5 (c3_ _)
end
def ap7 (r:ae_) (k:Nat):Nat:=[0,r.2.2.2.1.length,r.2.2.1.length,r.2.2.1.length,r.2.2.2.2.1.length].getD k 0
def tk_ (k:Nat):Nat:=match k with
 | 0=>0
 | _+1=>24
theorem at5 (a b c d:Nat):∀ {k:Nat},k<5→decide ((k:Int)<(([0,(a:Int),(b:Int),(c:Int),(d:Int)]:List Int).length:Int))=true∧at? [0,(a:Int),(b:Int),(c:Int),(d:Int)] (k:Int)=some ((([0,a,b,c,d]:List Nat).getD k 0:Nat):Int)
 | 0,_=>⟨rfl,rfl⟩
 | 1,_=>⟨rfl,rfl⟩
 | 2,_=>⟨rfl,rfl⟩
 | 3,_=>⟨rfl,rfl⟩
 | 4,_=>⟨rfl,rfl⟩
 | _+5,h=>absurd h (by omega)
theorem cnt_le {r:ae_} (ok:OkR r):∀ k,ap7 r k≤tk_ k:=by
 have hm:=ok.many
 unfold ad4 at hm
 simp only[c0_,p7_] at hm
 intro k
 match k with
 | 0=>exact c3_ _
 | 1=>show r.2.2.2.1.length≤24;omega
 | 2=>show r.2.2.1.length≤24;omega
 | 3=>show r.2.2.1.length≤24;omega
 | 4=>show r.2.2.2.2.1.length≤24;omega
 | k+5=>exact i4_ _
theorem ag3:∀ k,tk_ k≤24
 | 0=>i4_ _
 | _+1=>c3_ _
theorem ao7 {α:Type} {l:List α} {j:Nat} (h:l.length≤j):at? l (j:Int)=none:=by
 rw[be5]
 exact b8_ h
theorem lgl_out {r:ae_} {s:ai_} (hv:VS r s) (i:Int) {k:Nat} (hk:k<5) {j:Nat} (hj:ap7 r k≤j):lgl r s (i,((k:Int),(j:Int)))=false:=by
 unfold lgl
 match k,hk with
 | 0,_ =>
  show (_&&false)=false
  rw[f9_]
 | 1,_ =>
  show (_&&(at? r.2.2.2.1 (j:Int)).elim false _)=false
  rw[ao7 (show r.2.2.2.1.length≤j from hj)]
  exact f9_ _
 | 2,_ =>
  show (_&&(at? r.2.2.1 (j:Int)).elim false _)=false
  rw[ao7 (show r.2.2.1.length≤j from hj)]
  exact f9_ _
 | 3,_ =>
  show (_&&(at? s.2.1 (j:Int)).elim false _)=false
  have hl:=hv.l2
  have hj:r.2.2.1.length≤j:=hj
  rw[ao7 (show s.2.1.length≤j by omega)]
  exact f9_ _
 | 4,_ =>
  show (_&&(at? r.2.2.2.2.1 (j:Int)).elim false _)=false
  rw[ao7 (show r.2.2.2.2.1.length≤j from hj)]
  exact f9_ _
 | k+5,h=>exact absurd h (by omega)
def lmv (r:ae_) (s:ai_):List ag_:=mvs (lgl r s) (ap7 r) r.2.2.2.2.2.2.1.toNat
theorem bg5 {r:ae_} (h:SmR r) (h0:da_ r=0) {s:ai_} (hv:VS r s):fh_ r s=some (lmv r s,(0,())):=by
 have ok:=bn_ h0
 obtain⟨m1,m2,m3⟩:=qf_ h ok hv
 have hpy:=ce_.1 ok.py
 obtain⟨P,hP⟩:∃ P:Nat,r.2.2.2.2.2.2.1=(P:Int):=⟨_,(Int.toNat_of_nonneg (by omega)).symm⟩
 have hc:∀ k,ap7 r k≤24:=λk=>c6_ (cnt_le ok k) (ag3 k)
 unfold fh_ lmv
 rw[fb_ h,a0_,hc_ h0 hv]
 simp only[show ((0:Int) != 0)=false from rfl,a2_,av_ m1,av_ m2,av_ m3,a0_,hP,c1_]
 refine qb_ P (λi=>((i:Int),((),((mvs (lgl r s) (ap7 r) i,()),())))) rfl (λi hi => ?_) (by simp only[dnl,a2_];rfl) rfl
 simp only[dlt hi,a5_]
 have l1:=ac6 (lgl r s) hc i
 refine qb_ 5 (λk=>((k:Int),((),((mvJ (lgl r s) (i:Int) (ap7 r) k (mvs (lgl r s) (ap7 r) i),()),())))) rfl (λk hk => ?_) rfl ?_
 ·have l2:=ac8 (lgl r s) (i:Int) hc k (mvs (lgl r s) (ap7 r) i)
  obtain⟨a1,a2⟩:=at5 r.2.2.2.1.length r.2.2.1.length r.2.2.1.length r.2.2.2.2.1.length hk
  simp only[a1,a2,a5_,a0_]
  refine qb_ (ap7 r k) (λj=>((j:Int),((),((mvK (lgl r s) (i:Int) (k:Int) j (mvJ (lgl r s) (i:Int) (ap7 r) k (mvs (lgl r s) (ap7 r) i)),()),())))) rfl (λj hj => ?_) (by exact congrArg (λb=>cond b _ _) (dnl (ap7 r k))) ?_
  ·have l3:=ac7 (lgl r s) (i:Int) (k:Int) j (mvJ (lgl r s) (i:Int) (ap7 r) k (mvs (lgl r s) (ap7 r) i))
   have hk24:=hc k
   have hp:=ch_ (x:=((i:Int),((k:Int),(j:Int)))) (show Sm (mvK (lgl r s) (i:Int) (k:Int) j (mvJ (lgl r s) (i:Int) (ap7 r) k (mvs (lgl r s) (ap7 r) i))).length by show _≤1000000000;omega)
   have hd:decide ((j:Int)<((([0,r.2.2.2.1.length,r.2.2.1.length,r.2.2.1.length,r.2.2.2.2.1.length]:List Nat).getD k 0:Nat):Int))=true:=dlt hj
   simp only[hd,a5_,show ((r,(s.1,(s.2.1,s.2.2))):hf_)=(r,s) from rfl,vq_ h ok hv,a0_,az_ (show Sm j by show j≤1000000000;omega),mvK]
   cases hq:lgl r s ((i:Int),((k:Int),(j:Int))) with
   | true=>simp only[a5_,hp,a0_]
   | false=>simp only[a2_,a0_]
  ·simp only[az_ (show Sm k by show k≤1000000000;omega)]
   rfl
 ·simp only[az_ (show Sm i by show i≤1000000000;omega)]
  rfl
theorem uh_ {r:ae_} (h:SmR r) (ok:OkR r) {s:ai_} (hv:VS r s):er_ r s=some (lmv r s,()):=by
 have hpy:=ce_.1 ok.py
 obtain⟨P,hP⟩:∃ P:Nat,r.2.2.2.2.2.2.1=(P:Int):=⟨_,(Int.toNat_of_nonneg (by omega)).symm⟩
 have hc:=ag3
 have hE:lmv r s=mvs (lgl r s) tk_ P:=by
  unfold lmv
  rw[hP,c1_]
  exact (bs9 (lgl r s) (λk _=>cnt_le ok k) (λi k hk j a _=>lgl_out hv i hk a) P).symm
 unfold er_
 rw[hE]
 simp only[hP]
 refine qb_ P (λi=>(mvs (lgl r s) tk_ i,((i:Int),()))) rfl (λi hi => ?_) (by simp only[dnl,a2_];rfl) rfl
 simp only[dlt hi,a5_]
 have l1:=ac6 (lgl r s) hc i
 refine qb_ 4 (λk=>(mvJ (lgl r s) (i:Int) tk_ (k+1) (mvs (lgl r s) tk_ i),(((k+1:Nat):Int),()))) rfl (λk hk => ?_) rfl ?_
 ·have l2:=ac8 (lgl r s) (i:Int) hc (k+1) (mvs (lgl r s) tk_ i)
  simp only[show decide (((k+1:Nat):Int)≤4)=true from b6_ (by omega),a5_]
  refine qb_ 24 (λj=>(mvK (lgl r s) (i:Int) ((k+1:Nat):Int) j (mvJ (lgl r s) (i:Int) tk_ (k+1) (mvs (lgl r s) tk_ i)),((j:Int),()))) rfl (λj hj => ?_) rfl ?_
  ·have l3:=ac7 (lgl r s) (i:Int) ((k+1:Nat):Int) j (mvJ (lgl r s) (i:Int) tk_ (k+1) (mvs (lgl r s) tk_ i))
   have hp:=ch_ (x:=((i:Int),(((k+1:Nat):Int),(j:Int)))) (show Sm (mvK (lgl r s) (i:Int) ((k+1:Nat):Int) j (mvJ (lgl r s) (i:Int) tk_ (k+1) (mvs (lgl r s) tk_ i))).length by show _≤1000000000;omega)
   simp only[show decide ((j:Int)<24)=true from b6_ (by omega),a5_,as1 h ok hv,a0_,az_ (show Sm j by show j≤1000000000;omega),mvK]
   cases hq:lgl r s ((i:Int),(((k+1:Nat):Int),(j:Int))) with
   | true=>simp only[a5_,hp,a0_]
   | false=>simp only[a2_,a0_]
  ·simp only[az_ (show Sm (k+1) by show k+1≤1000000000;omega)]
   rfl
 ·simp only[az_ (show Sm i by show i≤1000000000;omega)]
  rfl
end
section
set_option maxRecDepth 10000
theorem bj4 {α υ:Type} (l:List α) (hl:Sm l.length) (q:α→Bool) {body:(Int×(Int×Unit))→Option ((Int×(Int×Unit))⊕(Int×Unit))} {K:(Int×Unit)→Option υ} {x:Option υ}
  (hq:∀ (i:Nat) y,l[i]?=some y→body (-1,((i:Int),()))=some (.inl (cond (q y) (i:Int) (-1),(w64 ((i:Int)+1),()))))
  (he:body (-1,((l.length:Int),()))=some (.inr (-1,())))
  (hx:∀ i j:Nat,body ((i:Int),((j:Int),()))=some (.inr ((i:Int),())))
  (hk:∀ n:Int,((n = -1∧l.find? q=none)∨∃ (i:Nat) (y:α),n=(i:Int)∧l[i]?=some y∧l.find? q=some y)→K (n,())=x) :
  (af_ body (-1,(0,()))).bind K=x:=by
 have gen:∀ (k i:Nat),i+k=l.length→∃ n:Int,af_ body (-1,((i:Int),()))=some (n,())∧((n = -1∧(l.drop i).find? q=none)∨∃ (j:Nat) (y:α),n=(j:Int)∧l[j]?=some y∧(l.drop i).find? q=some y):=by
  intro k
  induction k with
  | zero =>
   intro i hi
   obtain rfl:i=l.length:=by omega
   exact⟨-1,br_ he,.inl ⟨rfl,by rw[o5_];rfl⟩⟩
  | succ k ih =>
   intro i hi
   have hil:i<l.length:=by omega
   obtain⟨y,hy⟩:=bb_ hil
   have hd:l.drop i=y::l.drop (i+1):=by
    rw[j3_ hil]
    rw[a7_ hil] at hy
    rw[a6_ hy]
   have hb:=hq i y hy
   rw[az_ (show Sm i by unfold Sm at hl ⊢; omega)] at hb
   cases hqy:q y with
   | true =>
    rw[hqy] at hb
    exact⟨(i:Int),bp_ hb (br_ (hx i (i+1))),.inr ⟨i,y,rfl,hy,by rw[hd,List.find?_cons_of_pos hqy]⟩⟩
   | false =>
    rw[hqy] at hb
    obtain⟨n,e,c⟩:=ih (i+1) (by omega)
    refine⟨n,bp_ hb e,?_⟩
    rw[hd,List.find?_cons_of_neg (by rw[hqy];decide)]
    exact c
 obtain⟨n,e,c⟩:=gen l.length 0 (by omega)
 have e:af_ body (-1,(0,()))=some (n,()):=e
 rw[e,a0_]
 exact hk n c
theorem ba2 {r:ae_} (h:SmR r) (ok:OkR r) {σ ρ:Type} (F:Nat→List Int→σ) (G E:List Int→ρ) {body:σ→Option (σ⊕ρ)}
  (hb:∀ (i:Nat) th,i<101→VT r th→body (F i th)=some (match fstA r th with
   | none=>.inr (G th)
   | some y=>.inl (F (i+1) (th.set y.2.1.toNat y.2.2))))
  (he:∀ th,body (F 101 th)=some (.inr (E th))) :
  ∀ (n i:Nat) (th:List Int),i+n=101→VT r th→∃ z,af_ body (F i th)=some z∧match stl r n th with
   | some th'=>z=G th'∧VT r th'
   | none=>∃ w,z=E w
 | 0,i,th,hi,hv=>by
  obtain rfl:i=101:=by omega
  exact⟨_,br_ (he th),th,rfl⟩
 | n+1,i,th,hi,hv=>by
  have hb1:=hb i th (by omega) hv
  unfold stl
  cases hf:fstA r th with
  | none =>
   rw[hf] at hb1
   exact⟨_,br_ hb1,rfl,hv⟩
  | some y =>
   rw[hf] at hb1
   have hm:y ∈ r.2.2.2.2.2.1:=p2_ hf
   obtain⟨j,hj⟩:=f4_ hm
   obtain⟨z,ez,hz⟩:=ba2 h ok F G E hb he n (i+1) (th.set y.2.1.toNat y.2.2) (by omega) (cd0 h ok hv (ok.au j y hj).1)
   exact⟨z,bp_ hb1 ez,hz⟩
theorem tv_ {r:ae_} (h:SmR r) (ok:OkR r) {s:ai_} (hv:VT r s.1) (m1:Sm s.1.length) (m2:Sm s.2.1.length) (m3:Sm s.2.2.length) :
    gh_ r s=some ((stl r 101 s.1).elim (eS,(false,())) λth=>((th,s.2),(true,()))):=by
  unfold gh_
  simp only[av_ m1,av_ m2,av_ m3,a0_]
  obtain⟨z,ez,hz⟩:=ba2 h ok (F:=λi th=>((i:Int),(th,((([]:List Int),(([]:List Int),(([]:List Int),()))),())))) (G:=λth=>(inr ((th,(s.2.1,s.2.2)),(true,())):((List Int)×(((List Int)×((List Int)×((List Int)×Unit)))×Unit))⊕(ai_×(Bool×Unit)))) (E:=λth=>inl (th,(([],([],([],()))),())))
    (body:=(λ(v3:(Int×((List Int)×(((List Int)×((List Int)×((List Int)×Unit)))×Unit)))) =>
 (cond (decide (v3.1≤100))
 ((af_ (ρ:=(Int×Unit)) (λ(v4:(Int×(Int×Unit))) =>
 (((cond (decide (v4.2.1<(r.2.2.2.2.2.1.length:Int)))
 (some ((decide (v4.1<0)),()))
 (some (false,())))).bind λv5 =>
 (cond v5.1
 ((((at? r.2.2.2.2.2.1 v4.2.1).bind λv6 =>
 ((((bl_ (v3.2.1,(s.2.1,s.2.2)) v6.1).bind λv7 =>
 (cond v7.1
 ((at? v3.2.1 v6.2.1).bind λv8 =>
 ((at? v3.2.1 v6.2.1).bind λv9 =>
 (some ((v9 != v6.2.2),()))))
 (some (false,()))))).bind λv10 =>
 (cond v10.1
 (some (v4.2.1,()))
 (some (v4.1,())))))).bind λv11 =>
 (some (inl (v11.1,((w64 (v4.2.1+1)),())))))
 (some (inr (v4.1,())))))) ((-1),(0,()))).bind λv12 =>
 (cond (decide (v12.1<0))
 (some (inr (inr ((v3.2.1,(s.2.1,s.2.2)),(true,())))))
 ((at? r.2.2.2.2.2.1 v12.1).bind λv13 =>
 ((at? r.2.2.2.2.2.1 v12.1).bind λv14 =>
 ((at? v3.2.1 v13.2.1).bind λv15 =>
 ((at? v3.2.1 v13.2.1).bind λv16 =>
 (some (inl ((w64 (v3.1+1)),((v3.2.1.set v13.2.1.toNat v14.2.2),((v3.2.2.1.1,(v3.2.2.1.2.1,(v3.2.2.1.2.2.1,()))),())))))))))))
 (some (inr (inl (v3.2.1,((v3.2.2.1.1,(v3.2.2.1.2.1,(v3.2.2.1.2.2.1,()))),())))))))) (λi th hi hvt=>by
      simp only[show decide ((i:Int)≤100)=true from b6_ (by omega),a5_]
      have hl:=hvt.1
      refine bj4 r.2.2.2.2.2.1 h.au (λy=>(gi th y.2.1 != y.2.2)&&dm_ th y.1) (λj y hy => ?_) ?_ (λa b => ?_) (λn hc => ?_)
      · obtain⟨g1,g2⟩:=ok.au j y hy
        have hi:=(mo_ h ok g1).1
        obtain⟨c1,c2⟩:=sk_ h.th g2
        simp only[dlt (am_ hy),a5_,show decide ((-1:Int)<0)=true from rfl,a0_,ah_ hy,hj_ (s:=(th,(s.2.1,s.2.2))) (show y.1.length≤1000000000 by omega) (by show InC th.length y.1;rw[hl];exact c1),nd_ hi.1 (show y.2.1<th.length by omega)]
        cases dm_ th y.1 with
        | false=>rw[f9_];rfl
        | true=>cases gi th y.2.1 != y.2.2<;>rfl
      · simp only[dnl,a2_,a0_]
      · simp only[show decide ((a:Int)<0)=false from b9_ (by omega)]
        cases decide ((b:Int)<(r.2.2.2.2.2.1.length:Int))<;>rfl
      · rcases hc with ⟨rfl,hf⟩ | ⟨j,y,rfl,hy,hf⟩
        · rw[show fstA r th=none from hf]
          rfl
        · rw[show fstA r th=some y from hf]
          obtain⟨g1,g2⟩:=ok.au j y hy
          have hi2:=(mo_ h ok g1).1
          simp only[a0_,show decide ((j:Int)<0)=false from b9_ (by omega),a2_,ah_ hy,nd_ hi2.1 (show y.2.1<th.length by omega),az_ (show Sm i by show _≤1000000000;omega)])
    (λth=>rfl) 101 0 s.1 rfl hv
  refine e5_ (congrArg (λo=>Option.bind o _) ez) ?_
  cases hs:stl r 101 s.1 with
  | none =>
    rw[hs] at hz
    obtain⟨w,rfl⟩:=hz
    rfl
  | some th' =>
    rw[hs] at hz
    obtain⟨rfl,_⟩:=hz
    rfl
noncomputable def mwX (a0:ae_) (a2:ag_) (v0 v1 v2:List Int) (v3:Int):Option (List Int×(List Int×(List Int×Unit))) :=
 (cond (a2.2.1==1)
 ((at? a0.2.2.2.1 a2.2.2).bind λv4 =>
 ((at? a0.2.2.2.1 a2.2.2).bind λv5 =>
 ((at? v2 a2.1).bind λv6 =>
 ((at? v2 a2.1).bind λv7 =>
 (some (v0,(v1,((v2.set a2.1.toNat (w64 ((w64 (v4.1+v5.2.1)) - v3))),()))))))))
 (cond (a2.2.1==2)
 ((at? v1 a2.2.2).bind λv8 =>
 ((at? v1 a2.2.2).bind λv9 =>
 (some (v0,((v1.set a2.2.2.toNat (w64 ((-2) - a2.1))),(v2,()))))))
 (cond (a2.2.1==3)
 ((at? v1 a2.2.2).bind λv10 =>
 ((at? v1 a2.2.2).bind λv11 =>
 (some (v0,((v1.set a2.2.2.toNat v3),(v2,()))))))
 (cond (a2.2.1==4)
 ((at? a0.2.2.2.2.1 a2.2.2).bind λv12 =>
 ((af_ (ρ:=((List Int)×Unit)) (λ(v13:(Int×((List Int)×Unit))) =>
 (cond (decide (v13.1<(v12.2.2.2.2.2.2.1.length:Int)))
 ((at? v12.2.2.2.2.2.2.1 v13.1).bind λv14 =>
 ((at? v13.2.1 v14).bind λv15 =>
 ((at? v13.2.1 v14).bind λv16 =>
 (some (inl ((w64 (v13.1+1)),((v13.2.1.set v14.toNat (-1)),())))))))
 (some (inr (v13.2.1,()))))) (0,(v1,()))).bind λv17 =>
 ((af_ (ρ:=((List Int)×Unit)) (λ(v18:(Int×((List Int)×Unit))) =>
 (cond (decide (v18.1<(v12.2.2.2.2.2.2.2.length:Int)))
 ((at? v12.2.2.2.2.2.2.2 v18.1).bind λv19 =>
 ((at? v18.2.1 v19).bind λv20 =>
 ((at? v18.2.1 v19).bind λv21 =>
 (some (inl ((w64 (v18.1+1)),((v18.2.1.set v19.toNat (w64 ((-2) - a2.1))),())))))))
 (some (inr (v18.2.1,()))))) (0,(v17.1,()))).bind λv22 =>
 ((af_ (ρ:=((List Int)×Unit)) (λ(v23:(Int×((List Int)×Unit))) =>
 (cond (decide (v23.1<(v12.2.2.2.2.2.1.length:Int)))
 ((at? v12.2.2.2.2.2.1 v23.1).bind λv24 =>
 ((at? v12.2.2.2.2.2.1 v23.1).bind λv25 =>
 ((at? v23.2.1 v24.1).bind λv26 =>
 ((at? v23.2.1 v24.1).bind λv27 =>
 (some (inl ((w64 (v23.1+1)),((v23.2.1.set v24.1.toNat v25.2),()))))))))
 (some (inr (v23.2.1,()))))) (0,(v0,()))).bind λv28 =>
 (some (v28.1,(v22.1,(v2,()))))))))
 (some (v0,(v1,(v2,()))))))))
theorem dup {α β:Type} (o:Option α) (f:α→α→Option β):(o.bind λa=>o.bind λb=>f a b)=o.bind λa=>f a a:=by cases o<;>rfl
theorem mwX_eq {r:ae_} {m:ag_} {th pr py:List Int} {x:Int} (hx:at? py m.1=some x) {z} (h:mvX r m th pr py=some z):mwX r m th pr py x=some z:=by
 unfold mvX at h
 unfold mwX
 cases hk1:m.2.1==1 with
 | true =>
  rw[hk1] at h
  simp only[a5_,hx,a0_] at h ⊢
  cases hw:at? r.2.2.2.1 m.2.2 with
  | none=>rw[hw] at h;cases h
  | some w=>rw[hw] at h;exact h
 | false =>
 rw[hk1] at h
 simp only[a2_] at h ⊢
 cases hk2:m.2.1==2 with
 | true=>rw[hk2] at h;exact h
 | false =>
 rw[hk2] at h
 simp only[a2_] at h ⊢
 cases hk3:m.2.1==3 with
 | true =>
  rw[hk3] at h
  simp only[a5_,hx,a0_] at h ⊢
  exact h
 | false =>
 rw[hk3] at h
 simp only[a2_,dup] at h ⊢
 exact h
theorem tw_ {r:ae_} (h:SmR r) (ok:OkR r) {s:ai_} (hv:VS r s) {m:ag_} (hl:lgl r s m=true) :
  gi_ r s m=some ((yd_ r s m).elim (eS,(false,())) λt=>(t,(true,()))):=by
 obtain⟨m1,m2,m3⟩:=qf_ h ok hv
 obtain⟨pj,px,hpj,hp,e2⟩:=bu9 m3 hl
 have hv2:=VS_mv h ok hv hl
 obtain⟨n1,n2,n3⟩:=qf_ h ok hv2
 unfold gi_
 simp only[av_ m1,av_ m2,av_ m3,a0_]
 refine e5_ (congrArg (λo=>Option.bind o _) e2) ?_
 rw[a0_]
 refine e5_ (congrArg (λo=>Option.bind o _) (mwX_eq e2 (cs6 h ok hv hl))) ?_
 rw[a0_]
 simp only
 rw[tv_ (s:=((mvP r s m).1,((mvP r s m).2.1,(mvP r s m).2.2))) h ok ⟨hv2.l1,hv2.th⟩ n1 n2 n3,a0_]
 unfold yd_
 cases stl r 101 (mvP r s m).1<;>rfl
theorem aj3 {r:ae_} (h:SmR r) (h0:da_ r=0) {s:ai_} (hv:VS r s) :
  ig_ r s=some ((stl r 101 s.1).elim (eS,(27,())) λth=>((th,s.2),(0,()))):=by
 have ok:=bn_ h0
 obtain⟨m1,m2,m3⟩:=qf_ h ok hv
 unfold ig_
 rw[ui_ h,a0_,hc_ h0 hv]
 simp only[show ((0:Int) != 0)=false from rfl,a2_]
 rw[tv_ h ok ⟨hv.l1,hv.th⟩ m1 m2 m3,a0_]
 cases stl r 101 s.1<;>rfl
def bj6 (r:ae_):ai_:=(r.2.1.map (·.2.2.2),(r.2.2.1.map (·.2.1),List.replicate r.2.2.2.2.2.2.1.toNat 0))
theorem av9 {r:ae_} (h:SmR r) (h0:da_ r=0):VS r (bj6 r):=by
 have ok:=bn_ h0
 have hpy:=ce_.1 ok.py
 have hth:=h.th
 refine⟨d2_ _,d2_ _,?_,λi n hn => ?_,λi p hp => ?_,λi p hp => ?_⟩
 ·show ((List.replicate _ (0:Int)).length:Int)=_
  rw[f1_]
  omega
 ·have hn:(r.2.1.map (·.2.2.2))[i]?=some n:=hn
  rw[d8_] at hn
  obtain⟨x,hx,rfl⟩:=f7_.1 hn
  have hk:=ok.th i x hx
  unfold bl9 at hk
  simp only[a1_] at hk
  have hi:=am_ hx
  unfold nk_
  rw[ah_ hx,a1_]
  exact⟨ce_.2 (by rw[ez_ (by omega) (by omega)];omega),hk.2.2.2⟩
 ·have hp:(r.2.2.1.map (·.2.1))[i]?=some p:=hp
  rw[d8_] at hp
  obtain⟨x,hx,rfl⟩:=f7_.1 hp
  have hk:=(ok.pr i x hx).1
  unfold ci5 at hk
  simp only[a1_,c8_] at hk
  rw[ct3 h ok.py,c8_,c8_]
  rcases hk.2 with hk | hk
  ·exact .inl hk
  ·exact .inr (.inl hk)
 ·have hp:(List.replicate r.2.2.2.2.2.2.1.toNat (0:Int))[i]?=some p:=hp
  rw[h4_] at hp
  split at hp
  ·obtain rfl:=a6_ hp
   have hpl:=h.pl
   have hne:r.1.length≠0:=λe=>ok.ne (n3_.1 e)
   unfold ry_
   exact ce_.2 (by rw[ez_ (by omega) (by omega)];omega)
  ·cases hp
def begS (r:ae_):Option ai_:=(stl r 101 (bj6 r).1).map λth=>(th,(bj6 r).2)
theorem begS_VS {r:ae_} (h:SmR r) (h0:da_ r=0) {t:ai_} (ht:begS r=some t):VS r t:=by
 have ok:=bn_ h0
 have hv:=av9 h h0
 unfold begS at ht
 obtain⟨th,hs,rfl⟩:=f7_.1 ht
 obtain⟨z,ez,hz⟩:=nl_ h ok (pr:=(bj6 r).2.1) (py:=(bj6 r).2.2) 101 0 (bj6 r).1 rfl ⟨hv.l1,hv.th⟩
 rw[hs] at hz
 exact⟨hz.2.1,hv.l2,hv.l3,hz.2.2,hv.pr,hv.py⟩
def ah2 (r:ae_):ai_×(Int×Unit):=cond (da_ r != 0) (eS,(da_ r,())) ((begS r).elim (eS,(27,())) λs=>(s,(0,())))
theorem ar2 {r:ae_} (h:SmR r):io_ r=some (ah2 r):=by
 rw[ci0]
 unfold rbegX ah2
 rw[st_ h,a0_]
 cases hr:da_ r != 0 with
 | true=>rfl
 | false =>
 have h0:da_ r=0:=by simpa using hr
 have ok:=bn_ h0
 have hpy:=ce_.1 ok.py
 have hv:=av9 h h0
 obtain⟨m1,m2,m3⟩:=qf_ h ok hv
 simp only[a2_]
 have hplayers:mk? (α:=Int) r.2.2.2.2.2.2.1 0=some (List.replicate r.2.2.2.2.2.2.1.toNat 0):=ru_ (by omega) (by omega)
 rw[hplayers,a0_,ax4 h,a0_,ay9 h,a0_]
 simp only
 refine e5_ (congrArg (λo=>Option.bind o _) (av_ m1)) ?_
 rw[a0_]
 refine e5_ (congrArg (λo=>Option.bind o _) (av_ m2)) ?_
 rw[a0_]
 refine e5_ (congrArg (λo=>Option.bind o _) (av_ m3)) ?_
 rw[a0_]
 obtain⟨z,ez,hz⟩:=nl_ h ok (pr:=(bj6 r).2.1) (py:=(bj6 r).2.2) 101 0 (bj6 r).1 rfl ⟨hv.l1,hv.th⟩
 refine e5_ (congrArg (λo=>Option.bind (Option.bind o _) _) ez) ?_
 unfold begS
 cases hs:stl r 101 (bj6 r).1 with
 | none =>
  rw[hs] at hz
  obtain⟨w,rfl⟩:=hz
  rfl
 | some th' =>
  rw[hs] at hz
  obtain⟨rfl,_⟩:=hz
  rfl
theorem aj4 {r:ae_} (h:SmR r):jm_ r=some (ah2 r):=by
 unfold jm_ ah2
 rw[qo_ h,a0_]
 cases hr:da_ r != 0 with
 | true=>rfl
 | false =>
 have h0:da_ r=0:=by simpa using hr
 have ok:=bn_ h0
 have hpy:=ce_.1 ok.py
 have hv:=av9 h h0
 simp only[a2_]
 have hplayers:mk? (α:=Int) r.2.2.2.2.2.2.1 0=some (List.replicate r.2.2.2.2.2.2.1.toNat 0):=ru_ (by omega) (by omega)
 rw[hplayers,a0_]
 refine e5_ (congrArg (λo=>Option.bind o _) (ax4 h)) ?_
 rw[a0_]
 refine e5_ (congrArg (λo=>Option.bind o _) (ay9 h)) ?_
 rw[a0_]
 refine e5_ (congrArg (λo=>Option.bind o _) (aj3 h h0 hv)) ?_
 unfold begS
 show ((some ((stl r 101 (bj6 r).1).elim (eS,(27,())) λth=>((th,(bj6 r).2),((0:Int),())))).bind λv10=>some (v10.1,(v10.2.1,())))=_
 cases stl r 101 (bj6 r).1<;>rfl
end
section
set_option maxRecDepth 10000
theorem ln_ {σ ρ υ:Type} (n:Nat) (Inv:Nat→σ→Prop) {body:σ→Option (σ⊕ρ)} {z0:σ} {K:ρ→Option υ} {x:Option υ} (h0:Inv 0 z0)
  (hs:∀ j z,j<n→Inv j z→∃ z',body z=some (.inl z')∧Inv (j+1) z') (he:∀ z,Inv n z→∃ r,body z=some (.inr r)∧K r=x):(af_ body z0).bind K=x:=by
 have gen:∀ (k i:Nat) (z:σ),i+k=n→Inv i z→∃ r,af_ body z=some r∧K r=x:=by
  intro k
  induction k with
  | zero =>
   intro i z hi hz
   obtain rfl:i=n:=by omega
   obtain⟨r,e,hr⟩:=he z hz
   exact⟨r,br_ e,hr⟩
  | succ k ih =>
   intro i z hi hz
   obtain⟨z',e,hz'⟩:=hs i z (by omega) hz
   obtain⟨r,er,hr⟩:=ih (i+1) z' (by omega) hz'
   exact⟨r,bp_ e er,hr⟩
 obtain⟨r,e,hr⟩:=gen n 0 z0 (by omega) h0
 rw[e,a0_]
 exact hr
theorem vy_ {s:ai_} (m1:Sm s.1.length) (m2:Sm s.2.1.length) (m3:Sm s.2.2.length):fr_ s=some (s,()):=by
 unfold fr_
 simp only[av_ m1,av_ m2,av_ m3,a0_]
theorem af9 {l:List Int} {j:Nat} {x p:Int} (hx:l[j]?=some x):(l.take (j+1)).contains p=((l.take j).contains p||x==p):=by
 rw[d7_,hx]
 have:(x==p)=(p==x):=k6_.2 (by rw[f5_,f5_];exact eq_comm)
 rw[this,List.contains_eq_any_beq,List.contains_eq_any_beq,List.any_append]
 simp
theorem yw_ {g:ad_} (hg:SmG g) (ok:OkG g) {p:aa_} (hv:VP g p):ip_ g p=some ((p.1,rdN g p.1 p.2),()):=by
 have h0:=ok.room
 have okr:=bn_ h0
 obtain⟨m1,m2,m3⟩:=qf_ hg.room okr hv.st
 have hn:=hg.nt
 have hd:=hv.rd
 have hrl:=sv_ (s:=p.1) hd
 have hl1:=hv.st.l1
 unfold ip_
 rw[vy_ m1 m2 m3,a0_,av_ (show Sm p.2.length by show _≤1000000000;omega),a0_]
 refine ln_ g.2.2.2.1.length (λ(i:Nat) (z:Int×(List Bool×Unit))=>∃ d',z=((i:Int),(d',()))∧∀ j,d'[j]?=if j<i then (rdN g p.1 p.2)[j]? else p.2[j]?) ⟨p.2,rfl,λj=>by simp⟩ (λi z hi hz => ?_) (λz hz => ?_)
 ·obtain⟨d',rfl,hd'⟩:=hz
  obtain⟨x,hx⟩:=bb_ (l:=g.2.2.2.1) (i:=i) hi
  obtain⟨y,hy⟩:=bb_ (l:=p.2) (i:=i) (by omega)
  have hy':d'[i]?=some y:=by rw[hd' i,if_neg (by omega)];exact hy
  have hr:=bp1 (s:=p.1) hx hy
  obtain⟨c1,c2⟩:=sk_ hg.room.th (ok.nt i x hx).2
  have hH:bl_ p.1 x.2.2.2.1=some (dm_ p.1.1 x.2.2.2.1,()):=hj_ (show x.2.2.2.1.length≤1000000000 by omega) (by show InC p.1.1.length x.2.2.2.1;rw[hl1];exact c1)
  simp only[dlt (am_ hx),a5_,ah_ hx,a0_]
  refine⟨?z',?_,?_⟩
  case z'=>exact (((i+1:Nat):Int),(cond (dm_ p.1.1 x.2.2.2.1&&p.1.2.2.contains x.2.1) (d'.set i true) d',()))
  ·refine ln_ p.1.2.2.length (λ(j:Nat) (z:Int×(List Bool×Unit))=>z=((j:Int),(cond (dm_ p.1.1 x.2.2.2.1&&(p.1.2.2.take j).contains x.2.1) (d'.set i true) d',()))) ?_ (λj z hj hz => ?_) (λz hz => ?_)
   ·rw[l2_]
    show _=((0:Int),(cond (dm_ p.1.1 x.2.2.2.1&&false) (d'.set i true) d',()))
    rw[f9_]
    rfl
   ·subst hz
    obtain⟨a,ha⟩:=bb_ hj
    refine⟨_,?_,rfl⟩
    simp only[dlt hj,a5_,ah_ ha,a0_,az_ (show Sm j by unfold Sm at m3 ⊢; omega),af9 ha]
    cases hq:a==x.2.1 with
    | false=>simp only[a2_,a0_,i7_]
    | true =>
     simp only[a5_,hH,a0_,o4_,i1_]
     cases hb:dm_ p.1.1 x.2.2.2.1 with
     | false=>simp only[a2_,a0_,e8_]
     | true =>
      simp only[a5_,a0_,c2_]
      cases hc:(p.1.2.2.take j).contains x.2.1 with
      | false=>simp only[a2_,ah_ hy',a0_,c1_]
      | true =>
       have:(d'.set i true)[i]?=some true:=by rw[e3_ (am_ hy')]
       simp only[a5_,ah_ this,a0_,c1_,List.set_set]
   ·subst hz
    refine⟨_,by simp only[dnl,a2_];rfl,?_⟩
    simp only[d9_,az_ (show Sm i by show i≤1000000000;omega)]
  ·refine⟨_,rfl,λk => ?_⟩
   unfold rdB at hr
   cases hb:(dm_ p.1.1 x.2.2.2.1&&p.1.2.2.contains x.2.1) with
   | false =>
    rw[hb,i7_] at hr
    rw[a2_,hd' k]
    by_cases hk:k=i
    ·subst hk
     rw[if_neg (by omega),if_pos (by omega),hr,hy]
    ·by_cases hk2:k<i
     ·rw[if_pos hk2,if_pos (by omega)]
     ·rw[if_neg hk2,if_neg (by omega)]
   | true =>
    rw[hb,o4_] at hr
    rw[a5_,g1_]
    by_cases hk:i=k
    ·subst hk
     rw[if_pos rfl,if_pos (am_ hy'),if_pos (by omega),hr]
    ·rw[if_neg hk,hd' k]
     by_cases hk2:k<i
     ·rw[if_pos hk2,if_pos (by omega)]
     ·rw[if_neg hk2,if_neg (by omega)]
 ·obtain⟨d',rfl,hd'⟩:=hz
  simp only[dnl,a2_]
  refine⟨_,rfl,?_⟩
  have:d'=rdN g p.1 p.2:=f2_ λk=>by
   rw[hd' k]
   split
   ·rfl
   ·rw[b8_ (by omega),b8_ (by omega)]
  simp only[this]
theorem bg9 {g:ad_} (hg:SmG g) (h0:cl_ g=0) {p q:aa_} (hv:VP g p) {m:ag_} (hq:stepP g p m=some q):lc_ g p m=some (q,()):=by
 have ok:=ct_ h0
 have okr:=bn_ ok.room
 unfold stepP at hq
 cases hc:(okM g p.2 m&&lgl g.1 p.1 m) with
 | false=>rw[hc] at hq;cases hq
 | true =>
 rw[hc,a5_] at hq
 obtain⟨s,hs,rfl⟩:=f7_.1 hq
 rw[a1_] at hc
 unfold lc_
 rw[tw_ hg.room okr hv.st hc.2,a0_,hs]
 simp only[Option.elim]
 rw[yw_ hg ok (p:=(s,p.2)) ⟨us_ hg.room ok.room hv.st hc.2 hs,hv.rd⟩]
 rfl
noncomputable def uf_ (g:ad_):aa_×(Int×Unit):=cond (cl_ g != 0) (eP,(cl_ g,())) (cond ((ah2 g.1).2.1 != 0) (eP,((ah2 g.1).2.1,())) (((ah2 g.1).1,rdN g (ah2 g.1).1 (List.replicate g.2.2.2.1.length false)),(0,())))
theorem av7 {r:ae_} (h:SmR r) (he:(ah2 r).2.1=0):VS r (ah2 r).1:=by
 unfold ah2 at he ⊢
 cases hr:da_ r != 0 with
 | true =>
  rw[hr] at he
  rw[n8_] at hr
  exact absurd he hr
 | false =>
 have h0:da_ r=0:=by simpa using hr
 rw[hr,a2_] at he
 cases hb:begS r with
 | none =>
  rw[hb] at he
  exact absurd (show (27:Int)=0 from he) (by decide)
 | some t=>exact begS_VS h h0 hb
theorem av8 {g:ad_} (hg:SmG g) (he:(uf_ g).2.1=0):cl_ g=0∧VP g (uf_ g).1:=by
 unfold uf_ at he ⊢
 cases hr:cl_ g != 0 with
 | true =>
  rw[hr] at he
  rw[n8_] at hr
  exact absurd he hr
 | false =>
 rw[hr,a2_] at he
 have h0:cl_ g=0:=by simpa using hr
 cases hb:(ah2 g.1).2.1 != 0 with
 | true =>
  rw[hb] at he
  rw[n8_] at hb
  exact absurd he hb
 | false =>
 have hb:(ah2 g.1).2.1=0:=by simpa using hb
 exact⟨h0,av7 hg.room hb,sv_ f1_⟩
theorem mk_nt {g:ad_} (hg:SmG g):mk? (α:=Bool) (g.2.2.2.1.length:Int) false=some (List.replicate g.2.2.2.1.length false):=by
 have:=hg.nt
 rw[ru_ (by omega) (by omega),c1_]
theorem aj2 {g:ad_} (hg:SmG g):jk_ g=some (uf_ g):=by
 unfold jk_ uf_
 rw[vx_ hg,a0_]
 cases hr:cl_ g != 0 with
 | true=>rfl
 | false =>
 have h0:cl_ g=0:=by simpa using hr
 have ok:=ct_ h0
 simp only[a2_]
 rw[aj4 hg.room,a0_]
 cases hb:(ah2 g.1).2.1 != 0 with
 | true=>rfl
 | false =>
 have hb:(ah2 g.1).2.1=0:=by simpa using hb
 simp only[a2_]
 rw[mk_nt hg,a0_,yw_ hg ok (p:=((ah2 g.1).1,List.replicate g.2.2.2.1.length false)) ⟨av7 hg.room hb,f1_⟩]
 rfl
theorem as7 {g:ad_} (hg:SmG g):li_ g=some (uf_ g):=by
 rw[ci8]
 unfold pbegX uf_
 rw[yz_ hg,a0_]
 cases hr:cl_ g != 0 with
 | true=>rfl
 | false =>
 have h0:cl_ g=0:=by simpa using hr
 have ok:=ct_ h0
 have hn:=hg.nt
 simp only[a2_]
 rw[ar2 hg.room,a0_]
 cases hb:(ah2 g.1).2.1 != 0 with
 | true=>rfl
 | false =>
 have hb:(ah2 g.1).2.1=0:=by simpa using hb
 have hv:=av7 hg.room hb
 obtain⟨m1,m2,m3⟩:=qf_ hg.room (bn_ ok.room) hv
 simp only[a2_]
 rw[mk_nt hg,a0_]
 obtain⟨z,ez,hz⟩:=we_ hg ok hv (d:=List.replicate g.2.2.2.1.length false) f1_ []
 have hrl:=sv_ (g:=g) (s:=(ah2 g.1).1) (d:=List.replicate g.2.2.2.1.length false) f1_
 rw[ez,a0_,av_ m1,a0_,av_ m2,a0_,av_ m3,a0_,hz,av_ (show Sm (rdN g _ _).length by show _≤1000000000;omega),a0_]
def ce9 (g:ad_) (q:List Nat):List ak_:=q.filterMap λe=>(g.2.2.2.1[e]?).map (·.2.2.2.2)
theorem ar8 {g:ad_} (hg:SmG g) {p:aa_} (hd:p.2.length=g.2.2.2.1.length) (lock:Int) :
    ∃ q:List Nat,hl_ g p lock=some (q.map (λe:Nat=>(e:Int)),())∧q.length≤20∧(∀ e ∈ q,e<g.2.2.2.1.length)∧ce9 g q=bj1 g p.2 lock:=by
  have hn:=hg.nt
  suffices hk:∃ r,hl_ g p lock=some r∧∃ q:List Nat,r=(q.map (λe:Nat=>(e:Int)),())∧q.length≤20∧(∀ e ∈ q,e<g.2.2.2.1.length)∧ce9 g q=bj1 g p.2 lock by
    obtain⟨r,e,q,rfl,h⟩:=hk
    exact⟨q,e,h⟩
  unfold hl_
  have key:∀ (k i:Nat) (q:List Nat),i+k=g.2.2.2.1.length→q.length≤i→(∀ e ∈ q,e<g.2.2.2.1.length)→ce9 g q=((g.2.2.2.1.zip p.2).take i).filterMap (λx=>cond (x.1.2.2.1==lock&&x.2) (some x.1.2.2.2.2) none) →
      ∃ q':List Nat,af_ (ρ:=((List Int)×Unit)) (λ(v0:((List Int)×(Int×Unit))) =>
 (cond (decide (v0.2.1<(g.2.2.2.1.length:Int)))
 ((((((at? p.2 v0.2.1).bind λv1 =>
 (cond v1
 ((at? g.2.2.2.1 v0.2.1).bind λv2 =>
 (some ((v2.2.2.1==lock),())))
 (some (false,()))))).bind λv3 =>
 (cond v3.1
 ((push? (α:=Int) v0.1 [v0.2.1]).bind λv4 =>
 (some (v4,())))
 (some (v0.1,()))))).bind λv5 =>
 (some (inl (v5.1,((w64 (v0.2.1+1)),())))))
 (some (inr (v0.1,()))))) (q.map (λe:Nat=>(e:Int)),((i:Int),()))=some (q'.map (λe:Nat=>(e:Int)),())∧q'.length≤20∧(∀ e ∈ q',e<g.2.2.2.1.length)∧ce9 g q'=bj1 g p.2 lock:=by
    intro k
    induction k with
    | zero =>
      intro i q hi hq hb hc
      obtain rfl:i=g.2.2.2.1.length:=by omega
      refine⟨q,br_ (by simp only[dnl,a2_]),by omega,hb,?_⟩
      rw[hc,h0_ (by rw[n2_];omega)]
      rfl
    | succ k ih =>
      intro i q hi hq hb hc
      obtain⟨x,hx⟩:=bb_ (l:=g.2.2.2.1) (i:=i) (by omega)
      obtain⟨y,hy⟩:=bb_ (l:=p.2) (i:=i) (by omega)
      have hzip:(g.2.2.2.1.zip p.2)[i]?=some (x,y):=by rw[h9_];exact⟨hx,hy⟩
      have hstep:((g.2.2.2.1.zip p.2).take (i+1)).filterMap (λx=>cond (x.1.2.2.1==lock&&x.2) (some x.1.2.2.2.2) none)=((g.2.2.2.1.zip p.2).take i).filterMap (λx=>cond (x.1.2.2.1==lock&&x.2) (some x.1.2.2.2.2) none)++cond (x.2.2.1==lock&&y) [x.2.2.2.2] []:=by
        rw[d7_,hzip,o3_]
        cases hc:(x.2.2.1==lock&&y) with
        | false=>simp[hc]
        | true=>simp[hc]
      cases hcc:(x.2.2.1==lock&&y) with
      | false =>
        obtain⟨q',e,r1⟩:=ih (i+1) q (by omega) (by omega) hb (by rw[hstep,hcc,a2_,e7_];exact hc)
        refine⟨q',bp_ ?_ e,r1⟩
        simp only[dlt (am_ hx),a5_,ah_ hx,ah_ hy,a0_,az_ (show Sm i by show i≤1000000000;omega)]
        cases y with
        | false=>rfl
        | true =>
          rw[i1_] at hcc
          simp only[a5_,hcc,a0_,a2_]
      | true =>
        have hcc2:=hcc
        rw[a1_] at hcc2
        obtain⟨h1,rfl⟩:=hcc2
        obtain⟨q',e,r1⟩:=ih (i+1) (q++[i]) (by omega) (by rw[a8_,d3_];omega) (λe he=>by
          rcases b3_.1 he with he | he
          · exact hb e he
          · rw[e6_] at he
            omega) (by
          rw[hstep,hcc,a5_,← hc]
          unfold ce9
          rw[o3_]
          simp[hx])
        refine⟨q',bp_ ?_ e,r1⟩
        simp only[dlt (am_ hx),a5_,ah_ hx,ah_ hy,a0_,az_ (show Sm i by show i≤1000000000;omega),h1,ch_ (show Sm (q.map (λe:Nat=>(e:Int))).length by rw[d2_];show _≤1000000000;omega),j5_,g5_,List.map_nil]
  obtain⟨q',e,r1⟩:=key g.2.2.2.1.length 0 [] (by omega) (i4_ _) (λe he=>by cases he) rfl
  refine⟨_,?_,q',rfl,r1⟩
  refine e5_ (congrArg (λo=>Option.bind o _) e) rfl
theorem ar9 {g:ad_} {q:List Nat} (hq:q.length≤20) (hb:∀ e ∈ q,e<g.2.2.2.1.length):ji_ g (q.map (λe:Nat=>(e:Int)))=some (ce9 g q,()):=by
 unfold ji_
 refine ln_ q.length (λ(i:Nat) (z:List ak_×(Int×Unit))=>z=(ce9 g (q.take i),((i:Int),()))) (by rw[l2_];rfl) (λi z hi hz => ?_) (λz hz => ?_)
 ·subst hz
  obtain⟨e,he⟩:=bb_ hi
  obtain⟨n,hn⟩:=bb_ (hb e (au_ he))
  have hm:(q.map (λe:Nat=>(e:Int)))[i]?=some (e:Int):=by rw[d8_,he];rfl
  have hl:(ce9 g (q.take i)).length≤20:=by
   unfold ce9
   refine c6_ (p5_ ..) ?_
   rw[c9_];omega
  refine⟨_,?_,rfl⟩
  simp only[d2_,dlt hi,a5_,ah_ hm,ah_ hn,a0_,ch_ (show Sm _ from c6_ hl (by omega)),az_ (show Sm i by show i≤1000000000;omega)]
  rw[d7_,he]
  unfold ce9
  rw[o3_]
  simp[hn]
 ·subst hz
  refine⟨_,by simp only[d2_,dnl,a2_];rfl,?_⟩
  simp only[d9_]
theorem bg8 {g:ad_} (hg:SmG g) (ok:OkG g) {p:aa_} (hd:p.2.length=g.2.2.2.1.length) {lock:Int} (h0:0≤lock) {l:ab_} (hl:at? g.2.1 lock=some l):lb_ g p lock=some (opn g p.2 lock,()):=by
 obtain⟨_,_,l1⟩:=dc_ hl
 obtain⟨q,e,hq,hb,hc⟩:=ar8 hg hd lock
 unfold lb_
 rw[e,a0_]
 unfold iw_
 rw[hl,a0_,ar9 hq hb,a0_,hc,aj6 (ok.lk _ l l1).1 (bd5 hg p.2 lock) (λc hc=>by
  obtain⟨i,n,hn,rfl,rfl⟩:=ag4 hc
  exact bs1 ok hn h0 hl) (λc hc=>by
  obtain⟨i,n,hn,rfl,rfl⟩:=ag4 hc
  exact c6_ (hg.ntn n (au_ hn)).2.2 (by omega))]
 unfold opn rdC
 rw[b9_ (by omega),hl]
 rfl
theorem yh_ {g:ad_} (hg:SmG g) (h0:cl_ g=0) {p:aa_} (hv:VP g p) {m:ag_} (hl:lgl g.1 p.1 m=true):gn_ g p m=some ((stepP g p m).isSome,()):=by
 have ok:=ct_ h0
 have okr:=bn_ ok.room
 have hac:=hg.ac
 unfold gn_ stepP okM
 rw[tw_ hg.room okr hv.st hl,a0_,hl,i1_]
 cases hs:yd_ g.1 p.1 m with
 | none =>
  rw[Option.map_none]
  simp only[Option.elim,h3_,a5_]
  generalize (cond (m.2.1==4) _ true:Bool)=b
  cases b<;>rfl
 | some s =>
 simp only[Option.elim,e9_,a2_,g6_]
 rw[ah0]
 cases hk:m.2.1==4 with
 | false=>rfl
 | true =>
 simp only[e9_,a2_,a5_]
 unfold lgl at hl
 rw[a1_] at hl
 have hl:=hl.2
 have hk':m.2.1=4:=f5_.1 hk
 rw[hk'] at hl
 simp only[show ((4:Int)==1)=false from rfl,show ((4:Int)==2)=false from rfl,show ((4:Int)==3)=false from rfl,show ((4:Int)==4)=true from rfl,a2_,a5_] at hl
 rcases cq_ (l:=g.1.2.2.2.2.1) (by show _≤1000000000;omega) m.2.2 with ⟨f1,f2⟩ | ⟨j,a,hj,ha,f1,f2⟩
 ·rw[f2] at hl;cases hl
 ·rw[f2]
  simp only[a0_]
  cases hz:decide (a.2.2.1<0) with
  | true =>
   unfold opn
   rw[hz]
   rfl
  | false =>
  have hz':=e0_ hz
  have hlt:=ok.ac j a ha
  obtain⟨l,hl⟩:=bb_ (l:=g.2.1) (i:=a.2.2.1.toNat) (by omega)
  have hl2:at? g.2.1 a.2.2.1=some l:=by rw[show a.2.2.1=((a.2.2.1.toNat:Nat):Int) by omega];exact ah_ hl
  simp only[a2_]
  rw[bg8 hg ok hv.rd (by omega) hl2,a0_]
  cases opn g p.2 a.2.2.1<;>rfl
theorem at7 {q:ag_→Bool} {i k:Int} {m:ag_}:∀ (n:Nat) (l:List ag_),m ∈ mvK q i k n l→m ∈ l∨q m=true
 | 0,l,h=>.inl h
 | n+1,l,h=>by
  unfold mvK at h
  cases hq:q (i,(k,(n:Int))) with
  | false=>rw[hq] at h;exact at7 n l h
  | true =>
   rw[hq,a5_] at h
   rcases b3_.1 h with h | h
   ·exact at7 n l h
   ·rw[e6_] at h
    exact .inr (by rw[h];exact hq)
theorem bt1 {q:ag_→Bool} {i:Int} {c:Nat→Nat} {m:ag_}:∀ (k:Nat) (l:List ag_),m ∈ mvJ q i c k l→m ∈ l∨q m=true
 | 0,l,h=>.inl h
 | k+1,l,h=>(at7 (c k) _ h).elim (λh=>bt1 k l h) .inr
theorem bs8 {q:ag_→Bool} {c:Nat→Nat} {m:ag_}:∀ n,m ∈ mvs q c n→q m=true
 | 0,h=>by cases h
 | n+1,h=>(bt1 5 _ h).elim (λh=>bs8 n h) id
theorem at8 {r:ae_} {s:ai_} {m:ag_} (h:m ∈ lmv r s):lgl r s m=true:=bs8 _ h
theorem at9 {r:ae_} (ok:OkR r) (s:ai_):(lmv r s).length≤480:=by
 have hpy:=ce_.1 ok.py
 have:=ac6 (lgl r s) (λk=>c6_ (cnt_le ok k) (ag3 k)) r.2.2.2.2.2.2.1.toNat
 unfold lmv
 omega
noncomputable def pmv (g:ad_) (p:aa_):List ag_:=(lmv g.1 p.1).filter λm=>(stepP g p m).isSome
theorem xe_ {α:Type} {l:List α} {i:Nat} {x:α} (q:α→Bool) (hx:l[i]?=some x):(l.take (i+1)).filter q=cond (q x) ((l.take i).filter q++[x]) ((l.take i).filter q):=by
 rw[d7_,hx,n4_]
 cases hq:q x with
 | true=>simp[hq]
 | false=>simp[hq]
theorem as0 {g:ad_} (hg:SmG g) (h0:cl_ g=0) {p:aa_} (hv:VP g p):jj_ g p=some (pmv g p,()):=by
 have ok:=ct_ h0
 have okr:=bn_ ok.room
 have hll:=at9 okr p.1
 unfold jj_
 rw[uh_ hg.room okr hv.st,a0_]
 refine ln_ (lmv g.1 p.1).length (λ(i:Nat) (z:List ag_×(Int×Unit))=>z=(((lmv g.1 p.1).take i).filter (λm=>(stepP g p m).isSome),((i:Int),()))) (by rw[l2_];rfl) (λi z hi hz => ?_) (λz hz => ?_)
 ·subst hz
  obtain⟨m,hm⟩:=bb_ hi
  have hfl:(((lmv g.1 p.1).take i).filter (λm=>(stepP g p m).isSome)).length≤480:=by
   refine c6_ (l0_ ..) ?_
   rw[c9_];omega
  refine⟨_,?_,rfl⟩
  simp only[dlt hi,a5_,ah_ hm,a0_,yh_ hg h0 hv (at8 (au_ hm)),xe_ _ hm,az_ (show Sm i by show i≤1000000000;omega)]
  cases (stepP g p m).isSome with
  | false=>rfl
  | true=>simp only[a5_,ch_ (show Sm _ from c6_ hfl (by omega)),a0_]
 ·subst hz
  refine⟨_,by simp only[dnl,a2_];rfl,?_⟩
  simp only[d9_]
  rfl
end
section
set_option maxRecDepth 10000
theorem al6 {K V:Type} [DecidableEq K] (m:List (K×V)) (k k':K) (v:V):mget? (ex_ m k v) k'=if k'=k then some v else mget? m k':=by
 induction m with
 | nil=>simp[ex_,mget?]
 | cons x m ih =>
  obtain⟨a,u⟩:=x
  unfold ex_
  by_cases h:k=a
  ·subst h
   rw[if_pos rfl]
   unfold mget?
   by_cases h2:k'=k
   ·rw[if_pos h2,if_pos h2]
   ·rw[if_neg h2,if_neg h2,if_neg h2]
  ·rw[if_neg h]
   unfold mget?
   by_cases h2:k'=a
   ·rw[if_pos h2,if_pos h2,if_neg (λe=>h (by rw[← e,h2]))]
   ·rw[if_neg h2,if_neg h2,ih]
theorem ju_ {K V:Type} [DecidableEq K] (z:V) (m:List (K×V)) (k k':K) (v:V):ey_ z (ex_ m k v) k'=if k'=k then v else ey_ z m k':=by
 unfold ey_
 rw[al6]
 split<;>rfl
noncomputable def cmpX (a0:ad_) (d:List Bool) (mm:List ab_) (lock:Int):Option (List ab_×Unit) :=
 (cond ((ey_ 0 mm lock)==0)
 ((af_ (abB a0 d lock) ([],([],(0,())))).bind λv18 =>
 ((at? a0.2.1 lock).bind λv19 =>
 ((db_ v19 v18.2.1).bind λv20 =>
 (((cond (v20.2.1==0)
 (some ((decide (v20.1≤a0.2.2.2.2)),()))
 (some (false,())))).bind λv21 =>
 (cond v21.1
 (some ((ex_ (ex_ mm lock 2) lock 1),()))
 (some ((ex_ mm lock 2),())))))))
 (some (mm,())))
noncomputable def canX (a0:ad_) (a1:aa_) (v2:List Bool) (mm:List ab_) (v5:ag_):Option (Bool×(List ab_×Unit)) :=
 (((push? (α:=Bool) [] v2).bind λv6 =>
 (((((cond (v5.2.1==4)
 ((bz_ v5.2.2 0 (w64 ((a0.1.2.2.2.2.1.length:Int) - 1))).bind λv7 =>
 (some (v7.1,())))
 (some (false,())))).bind λv8 =>
 (cond v8.1
 ((at? a0.1.2.2.2.2.1 v5.2.2).bind λv9 =>
 (((cond (decide (v9.2.2.1<0))
 (some (mm,()))
 ((cmpX a0 v2 mm v9.2.2.1).bind λv22 =>
 (some (v22.1,()))))).bind λv23 =>
 (some (v23.1,((ex_ [] v9.2.2.1 (ey_ 0 v23.1 v9.2.2.1)),())))))
 (some (mm,([],())))))).bind λv24 =>
 (((((cond (v5.2.1==4)
 ((bz_ v5.2.2 0 (w64 ((a0.1.2.2.2.2.1.length:Int) - 1))).bind λv25 =>
 (cond v25.1
 ((at? a0.1.2.2.2.2.1 v5.2.2).bind λv26 =>
 (cond (decide (v26.2.2.1<0))
 (some ((!true),(v24.2.1,())))
 ((cmpX a0 v6 v24.2.1 v26.2.2.1).bind λv39 =>
 (some ((!((ey_ 0 v39.1 v26.2.2.1)==1)),(v39.1,()))))))
 (some (false,(v24.2.1,())))))
 (some (false,(v24.2.1,()))))).bind λv40 =>
 (cond v40.1
 (some ((!false),(v6,(v40.2.1,((a1.1.1,(a1.1.2.1,(a1.1.2.2,()))),())))))
 ((fg_ a0.1 a1.1 v5).bind λv41 =>
 (cond (v41.2.1 != 0)
 (some ((!false),(v6,(v40.2.1,((a1.1.1,(a1.1.2.1,(a1.1.2.2,()))),())))))
 ((af_ (pbgB a0 v41.1) (0,(v6,(v40.2.1,())))).bind λv52 =>
 (some ((!true),(v52.1,(v52.2.1,((v41.1.1,(v41.1.2.1,(v41.1.2.2,()))),()))))))))))).bind λv53 =>
 (cond v53.1
 (some (false,(v24.1,())))
 (some (true,(v24.1,()))))))))
noncomputable def canL (a0:ad_) (a1:aa_):Option (List ag_×(Int×Unit)) :=
 ((ec_ a0 a1).bind λv0 =>
 (cond (v0.1 != 0)
 (cond (v0.1 != 0)
 (some ([],(v0.1,())))
 ((fh_ a0.1 a1.1).bind λv1 =>
 (cond (v1.2.1 != 0)
 (some ([],(v1.2.1,())))
 none)))
 ((push? (α:=Bool) [] a1.2).bind λv2 =>
 ((fh_ a0.1 a1.1).bind λv3 =>
 (cond (v3.2.1 != 0)
 (some ([],(v3.2.1,())))
 ((af_ (ρ:=((List ag_)×((List ab_)×Unit))) (λ(v4:((List ag_)×(Int×((List ab_)×Unit)))) =>
 (cond (decide (v4.2.1<(v3.1.length:Int)))
 ((((at? v3.1 v4.2.1).bind λv5 =>
 ((canX a0 a1 v2 v4.2.2.1 v5).bind λv54 =>
 (cond v54.1
 ((push? (α:=ag_) v4.1 [v5]).bind λv55 =>
 (some (v55,(v54.2.1,()))))
 (some (v4.1,(v54.2.1,()))))))).bind λv56 =>
 (some (inl (v56.1,((w64 (v4.2.1+1)),(v56.2.1,()))))))
 (some (inr (v4.1,(v4.2.2.1,())))))) ([],(0,([],())))).bind λv57 =>
 (some (v57.1,(0,())))))))))
theorem canL_eq:pw_=canL:=by
 kernel_rfl
def Mem (g:ad_) (d:List Bool) (mm:List ab_):Prop:=∀ lock,0≤lock→(ey_ 0 mm lock=(0:Int)∨ey_ 0 mm lock=cond (opn g d lock) 1 2)
theorem ca0 {g:ad_} (hg:SmG g) (ok:OkG g) {d:List Bool} (hd:d.length=g.2.2.2.1.length) {mm:List ab_} {lock:Int} (hz:0≤lock) {l:ab_} (hl:at? g.2.1 lock=some l)
  (hm:ey_ 0 mm lock=(0:Int)∨ey_ 0 mm lock=cond (opn g d lock) 1 2) :
  ∃ m',cmpX g d mm lock=some (m',())∧ey_ 0 m' lock=cond (opn g d lock) 1 2∧∀ k,k≠lock→ey_ 0 m' k=ey_ 0 mm k:=by
 unfold cmpX
 cases h0:(ey_ 0 mm lock:Int)==0 with
 | false =>
  have h0:ey_ 0 mm lock≠(0:Int):=by simpa using h0
  exact⟨mm,rfl,hm.resolve_left h0,λ_ _=>rfl⟩
 | true =>
  obtain⟨q,e⟩:=cc9 hg hd lock
  have ho:opn g d lock=decide (rdC g d lock l≤g.2.2.2.2):=by
   unfold opn
   rw[b9_ (by omega),hl]
   rfl
  rw[a5_,e]
  simp only[a0_,hl,an6 hg ok d hz hl]
  simp only[show ((0:Int)==0)=true from rfl,a5_,a0_]
  rw[ho]
  cases decide (rdC g d lock l≤g.2.2.2.2) with
  | true=>exact⟨_,rfl,by rw[ju_,if_pos rfl];rfl,λk hk=>by rw[ju_,if_neg hk,ju_,if_neg hk]⟩
  | false=>exact⟨_,rfl,by rw[ju_,if_pos rfl];rfl,λk hk=>by rw[ju_,if_neg hk]⟩
theorem canX_eq {g:ad_} (hg:SmG g) (h0:cl_ g=0) {p:aa_} (hv:VP g p) {m:ag_} (hl:lgl g.1 p.1 m=true) {mm:List ab_} (hM:Mem g p.2 mm) :
    ∃ m',canX g p p.2 mm m=some ((stepP g p m).isSome,(m',()))∧Mem g p.2 m':=by
  have ok:=ct_ h0
  have okr:=bn_ ok.room
  have hac:=hg.ac
  have hnt:=hg.nt
  have hrd:=hv.rd
  have fin:∀ (b:Bool) (u:List ab_) (m':List ab_),okM g p.2 m = !b →
      (((((some (b,(u,())):Option (Bool×(List ab_×Unit)))).bind λv40 =>
 (cond v40.1
 (some ((!false),(p.2,(v40.2.1,((p.1.1,(p.1.2.1,(p.1.2.2,()))),())))))
 ((fg_ g.1 p.1 m).bind λv41 =>
 (cond (v41.2.1 != 0)
 (some ((!false),(p.2,(v40.2.1,((p.1.1,(p.1.2.1,(p.1.2.2,()))),())))))
 ((af_ (pbgB g v41.1) (0,(p.2,(v40.2.1,())))).bind λv52 =>
 (some ((!true),(v52.1,(v52.2.1,((v41.1.1,(v41.1.2.1,(v41.1.2.2,()))),()))))))))))).bind λv53 =>
 (cond v53.1
 (some (false,(m',())))
 (some (true,(m',())))))=some ((stepP g p m).isSome,(m',())):=by
    intro b u m' hb
    unfold stepP
    rw[hb,hl,i1_,a0_]
    cases b with
    | true=>rfl
    | false =>
    simp only[a2_,h3_,a5_]
    rw[ai8 hg.room ok.room hv.st m,a0_,hl,a5_]
    cases hs:yd_ g.1 p.1 m with
    | none=>rfl
    | some s =>
    have hv2:=us_ hg.room ok.room hv.st hl hs
    obtain⟨z,ez,hz⟩:=we_ hg ok hv2 hv.rd u
    simp only[Option.elim,show ((0:Int) != 0)=false from rfl,a2_]
    rw[ez,a0_,a0_]
    rfl
  unfold canX
  rw[av_ (show Sm p.2.length by show _≤1000000000;omega),a0_]
  simp only[ka_]
  cases hk:m.2.1==4 with
  | false =>
    refine⟨mm,?_,hM⟩
    simp only[a2_,a0_]
    refine fin false [] mm ?_
    unfold okM
    rw[hk]
    rfl
  | true =>
  simp only[a5_,a0_]
  have hl':=hl
  unfold lgl at hl'
  rw[a1_] at hl'
  have hl':=hl'.2
  have hk':m.2.1=4:=f5_.1 hk
  rw[hk'] at hl'
  simp only[show ((4:Int)==1)=false from rfl,show ((4:Int)==2)=false from rfl,show ((4:Int)==3)=false from rfl,show ((4:Int)==4)=true from rfl,a2_,a5_] at hl'
  rcases cq_ (l:=g.1.2.2.2.2.1) (by show _≤1000000000;omega) m.2.2 with ⟨f1,f2⟩ | ⟨j,a,hj,ha,f1,f2⟩
  · rw[f2] at hl';cases hl'
  · have ho:okM g p.2 m=opn g p.2 a.2.2.1:=by
      unfold okM
      rw[hk,a5_,f2]
      rfl
    simp only[f1,f2,a5_,a0_]
    cases hz:decide (a.2.2.1<0) with
    | true =>
      refine⟨mm,?_,hM⟩
      simp only[a5_,a0_]
      refine fin (!true) _ mm ?_
      rw[ho]
      unfold opn
      rw[hz]
      rfl
    | false =>
      have hz':=e0_ hz
      have hlt:=ok.ac j a ha
      obtain⟨l,hlk⟩:=bb_ (l:=g.2.1) (i:=a.2.2.1.toNat) (by omega)
      have hl2:at? g.2.1 a.2.2.1=some l:=by rw[show a.2.2.1=((a.2.2.1.toNat:Nat):Int) by omega];exact ah_ hlk
      obtain⟨m1,e1,k1,r1⟩:=ca0 hg ok hv.rd (mm:=mm) (by omega) hl2 (hM _ (by omega))
      obtain⟨m2,e2,k2,r2⟩:=ca0 hg ok hv.rd (mm:=ex_ [] a.2.2.1 (ey_ 0 m1 a.2.2.1)) (by omega) hl2 (.inr (by rw[ju_,if_pos rfl,k1]))
      refine⟨m1,?_,λlock hlock => ?_⟩
      · simp only[a2_,e1,a0_,e2]
        refine fin _ m2 m1 ?_
        rw[ho,k2]
        cases opn g p.2 a.2.2.1<;>rfl
      · by_cases hE:lock=a.2.2.1
        · rw[hE]
          exact .inr k1
        · rw[r1 lock hE]
          exact hM lock hlock
theorem ci7 {g:ad_} (hg:SmG g) (h0:cl_ g=0) {p:aa_} (hv:VP g p):pw_ g p=some (pmv g p,(0,())):=by
 have ok:=ct_ h0
 have okr:=bn_ ok.room
 have hll:=at9 okr p.1
 have hnt:=hg.nt
 have hrd:=hv.rd
 rw[canL_eq]
 unfold canL
 rw[wd_ hg h0 hv,a0_]
 simp only[show ((0:Int) != 0)=false from rfl,a2_]
 rw[av_ (show Sm p.2.length by show _≤1000000000;omega),a0_,bg5 hg.room ok.room hv.st,a0_]
 simp only[show ((0:Int) != 0)=false from rfl,a2_]
 refine ln_ (lmv g.1 p.1).length (λ(i:Nat) (z:List ag_×(Int×(List ab_×Unit)))=>∃ mm,z=(((lmv g.1 p.1).take i).filter (λm=>(stepP g p m).isSome),((i:Int),(mm,())))∧Mem g p.2 mm) ⟨[],by rw[l2_];rfl,λlock _=>.inl rfl⟩ (λi z hi hz => ?_) (λz hz => ?_)
 ·obtain⟨mm,rfl,hM⟩:=hz
  obtain⟨m,hm⟩:=bb_ hi
  have hfl:(((lmv g.1 p.1).take i).filter (λm=>(stepP g p m).isSome)).length≤480:=by
   refine c6_ (l0_ ..) ?_
   rw[c9_];omega
  obtain⟨m',e,hM'⟩:=canX_eq hg h0 hv (at8 (au_ hm)) hM
  refine⟨_,?_,m',rfl,hM'⟩
  simp only[dlt hi,a5_,ah_ hm,a0_,e,xe_ _ hm,az_ (show Sm i by show i≤1000000000;omega)]
  cases (stepP g p m).isSome with
  | false=>rfl
  | true=>simp only[a5_,ch_ (show Sm _ from c6_ hfl (by omega)),a0_]
 ·obtain⟨mm,rfl,hM⟩:=hz
  refine⟨_,by simp only[dnl,a2_];rfl,?_⟩
  simp only[d9_]
  rfl
end
section
set_option maxRecDepth 10000
theorem uc_ {a b:List UInt8} (h:a.length+b.length≤2147483648):cat? a b=some (a++b):=by
 unfold cat?
 rw[i2_ h]
 rfl
def dval (l:List UInt8):Nat:=l.foldl (λa c=>a * 10+(c.toNat - 48)) 0
theorem dgt {n:Nat} (h:n<10):(UInt8.ofNat (48+n)).toNat=48+n:=by
 rw[UInt8.toNat_ofNat']
 exact k7_ (by omega)
theorem xo_:∀ (k u:Nat),u<10 ^ k→dval (Lib.decDigits u)=u∧(∀ c ∈ Lib.decDigits u,48≤c.toNat∧c.toNat≤57)∧(Lib.decDigits u).length≤k+1
 | 0,u,h=>by
  obtain rfl:u=0:=by simpa using h
  rw[Lib.decDigits]
  exact⟨rfl,λc hc=>by
   simp at hc
   rw[hc]
   exact⟨by decide,by decide⟩,by decide⟩
 | k+1,u,h=>by
  rw[Lib.decDigits]
  by_cases hu:u<10
  ·rw[dif_pos hu]
   refine⟨?_,λc hc => ?_,by simp⟩
   ·show 0 * 10+((UInt8.ofNat (48+u)).toNat - 48)=u
    rw[dgt hu];omega
   ·rw[e6_] at hc
    rw[hc,dgt hu];omega
  ·rw[dif_neg hu]
   rw[k3_] at h
   obtain⟨a,b,c⟩:=xo_ k (u / 10) (by omega)
   have hm:u % 10<10:=Nat.mod_lt _ (by decide)
   refine⟨?_,λx hx => ?_,by rw[a8_,d3_];omega⟩
   ·unfold dval at a ⊢
    rw[o2_,a]
    show u / 10 * 10+((UInt8.ofNat (48+u % 10)).toNat - 48)=u
    rw[dgt hm];omega
   ·rcases b3_.1 hx with hx | hx
    ·exact b x hx
    ·rw[e6_] at hx
     rw[hx,dgt hm];omega
theorem wc_ (u:Nat):u<10 ^ u:=Nat.lt_pow_self (by decide)
theorem th_ {u v:Nat} (h:Lib.decDigits u=Lib.decDigits v):u=v:=by
 rw[← (xo_ u u (wc_ u)).1,← (xo_ v v (wc_ v)).1,h]
theorem xp_ {u:Nat}:∀ c ∈ Lib.decDigits u,48≤c.toNat∧c.toNat≤57:=(xo_ u u (wc_ u)).2.1
theorem ad8 {a b:Int} (h:Lib.itoa a=Lib.itoa b):a=b:=by
 unfold Lib.itoa at h
 have hd:∀ {u:Nat} {l:List UInt8},Lib.decDigits u≠45::l:=λ{u l} e=>by
  have:=xp_ (u:=u) 45 (by rw[e];exact e1_ ..)
  have h45:(45:UInt8).toNat=45:=rfl
  omega
 by_cases ha:a<0
 ·by_cases hb:b<0
  ·rw[if_pos ha,if_pos hb] at h
   have:=th_ (o6_ h).2
   omega
  ·rw[if_pos ha,if_neg hb] at h
   exact absurd h.symm hd
 ·by_cases hb:b<0
  ·rw[if_neg ha,if_pos hb] at h
   exact absurd h hd
  ·rw[if_neg ha,if_neg hb] at h
   have:=th_ h
   omega
theorem au2 (a:Int):(32:UInt8) ∉ Lib.itoa a:=by
 have hd:∀ {u:Nat},(32:UInt8) ∉ Lib.decDigits u:=λ{u} e=>by
  have:=xp_ _ e
  have h32:(32:UInt8).toNat=32:=rfl
  omega
 unfold Lib.itoa
 split
 ·intro h
  rcases d0_.1 h with h | h
  ·exact absurd h (by decide)
  ·exact hd h
 ·exact hd
def gq_ (a:List (List UInt8)):List UInt8:=a.flatMap (· ++ [32])
theorem ax6:∀ {t u r s:List UInt8},(32:UInt8) ∉ t→(32:UInt8) ∉ u→t++32::r=u++32::s→t=u∧r=s
 | [],[],r,s,_,_,h=>⟨rfl,(o6_ h).2⟩
 | [],c::u,r,s,_,hu,h=>absurd (o6_ h).1 λe=>hu (by rw[e];exact e1_ ..)
 | c::t,[],r,s,ht,_,h=>absurd (o6_ h).1 λe=>ht (by rw[e];exact e1_ ..)
 | c::t,d::u,r,s,ht,hu,h=>by
  obtain⟨h1,h2⟩:=o6_ h
  obtain⟨h3,h4⟩:=ax6 (λe=>ht (d5_ _ e)) (λe=>hu (d5_ _ e)) h2
  exact⟨by rw[h1,h3],h4⟩
theorem aa0:∀ {a b:List (List UInt8)},(∀ t ∈ a,(32:UInt8) ∉ t)→(∀ t ∈ b,(32:UInt8) ∉ t)→gq_ a=gq_ b→a=b
 | [],[],_,_,_=>rfl
 | [],t::b,_,_,h=>by
  have:=congrArg List.length h
  simp[gq_] at this
 | t::a,[],_,_,h=>by
  have:=congrArg List.length h
  simp[gq_] at this
 | t::a,u::b,ha,hb,h=>by
  have h:t++32::gq_ a=u++32::gq_ b:=by
   have:∀ (t:List UInt8) (a:List (List UInt8)),gq_ (t::a)=t++32::gq_ a:=λt a=>by simp[gq_]
   rw[this,this] at h
   exact h
  obtain⟨h1,h2⟩:=ax6 (ha t (e1_ ..)) (hb u (e1_ ..)) h
  rw[h1,aa0 (λt h=>ha t (d5_ _ h)) (λt h=>hb t (d5_ _ h)) h2]
theorem kv_ (a b:List (List UInt8)):gq_ (a++b)=gq_ a++gq_ b:=r0_
theorem pa_ {a:List (List UInt8)} {k:Nat} (h:∀ t ∈ a,t.length≤k):(gq_ a).length≤a.length * (k+1):=by
 induction a with
 | nil=>exact i4_ _
 | cons t a ih =>
  have h1:=ih λt ht=>h t (d5_ _ ht)
  have h2:=h t (e1_ ..)
  have h3:gq_ (t::a)=t++32::gq_ a:=by simp[gq_]
  rw[h3,a8_,c4_,c4_,Nat.succ_mul]
  omega
theorem fp_ {α β:Type} {f:α→β}:∀ {a b:List α},(∀ x ∈ a,∀ y ∈ b,f x=f y→x=y)→a.map f=b.map f→a=b
 | [],[],_,_=>rfl
 | [],_::_,_,h=>by cases h
 | _::_,[],_,h=>by cases h
 | x::a,y::b,hi,h=>by
  obtain⟨h1,h2⟩:=o6_ (show f x::a.map f=f y::b.map f from h)
  rw[hi x (e1_ ..) y (e1_ ..) h1,fp_ (λx hx y hy=>hi x (d5_ _ hx) y (d5_ _ hy)) h2]
structure PB (p:aa_):Prop where
 n1:p.1.1.length≤12
 n2:p.1.2.1.length≤10
 n3:p.1.2.2.length≤4
 n4:p.2.length≤20
 b1:∀ x ∈ p.1.1,0≤x∧x≤5
 b2:∀ x ∈ p.1.2.1,-6<x∧x<8
 b3:∀ x ∈ p.1.2.2,0≤x∧x<8
theorem bj8 {g:ad_} (hg:SmG g) (ok:OkG g) {p:aa_} (hv:VP g p):PB p:=by
 have okr:=bn_ ok.room
 have hm:=okr.many
 unfold ad4 at hm
 simp only[c0_,p7_] at hm
 have hpy:=ce_.1 okr.py
 have h1:=hv.st.l1
 have h2:=hv.st.l2
 have h3:=hv.st.l3
 have h4:=hv.rd
 have h5:=hg.nt
 refine⟨by omega,by omega,by omega,by omega,λx hx => ?_,λx hx => ?_,λx hx => ?_⟩
 ·obtain⟨i,hi⟩:=f4_ hx
  exact (mo_ hg.room okr (hv.st.th i x hi)).2
 ·obtain⟨i,hi⟩:=f4_ hx
  have:=(ae0 hg.room okr).1 (hv.st.pr i x hi)
  omega
 ·obtain⟨i,hi⟩:=f4_ hx
  have:=(kz_ hg.room).1 (hv.st.py i x hi)
  omega
def bt (b:Bool):List UInt8:=cond b [116,114,117,101] [102,97,108,115,101]
def ptk (p:aa_):List (List UInt8):=(p.1.1.map Lib.itoa++(p.1.2.1.map Lib.itoa++p.1.2.2.map Lib.itoa))++p.2.map bt
theorem wn_ (l:List Int):al2 l=gq_ (l.map Lib.itoa):=by
 unfold al2 gq_
 rw[List.flatMap_map]
 rfl
theorem oj_ {u:Nat} (h:u<10000000000):(Lib.decDigits u).length≤11:=(xo_ 10 u h).2.2
theorem bw3 {x:Int} (h1 : -8≤x) (h2:x≤8):(Lib.itoa x).length≤21:=by
 unfold Lib.itoa
 split
 ·have:=oj_ (u:=x.natAbs) (by omega)
  rw[c4_];omega
 ·have:=oj_ (u:=x.toNat) (by omega)
  omega
theorem bh5 {p:aa_} (h:p.2.length≤20):lf_ p=some (gq_ (p.2.map bt),()):=by
 unfold lf_
 have hb:∀ b,(bt b).length≤5:=λb=>by cases b<;>decide
 refine ln_ p.2.length (λ(i:Nat) (z:List UInt8×(Int×Unit))=>z=(gq_ ((p.2.take i).map bt),((i:Int),()))) (by rw[l2_];rfl) (λi z hi hz => ?_) (λz hz => ?_)
 ·subst hz
  obtain⟨b,hx⟩:=bb_ hi
  have hl:(gq_ ((p.2.take i).map bt)).length≤20 * 6:=by
   refine c6_ (pa_ (k:=5) λt ht => ?_) ?_
   ·obtain⟨b,_,rfl⟩:=d1_.1 ht
    exact hb b
   ·rw[d2_,c9_]
    omega
  have hf:dx_ b=some (bt b,()):=by cases b<;>rfl
  have hb5:=hb b
  refine⟨_,?_,rfl⟩
  simp only[dlt hi,a5_,ah_ hx,a0_,hf,az_ (show Sm i by show i≤1000000000;omega)]
  rw[uc_ (show (bt b).length+1≤_ by omega),a0_,uc_ (by rw[a8_,d3_];omega),a0_,d7_,hx]
  simp[gq_]
 ·subst hz
  refine⟨_,by simp only[dnl,a2_];rfl,?_⟩
  simp only[d9_]
theorem wz_ {l:List Int} (h:∀ x ∈ l,-8≤x∧x≤8):l.all inI=true:=by
 rw[f0_]
 intro x hx
 have:=h x hx
 unfold inI
 rw[a1_,h1_,h1_]
 omega
theorem ak4 {p:aa_} (h:PB p):kh_ p=some (gq_ (ptk p),()):=by
 have hB1:∀ x ∈ p.1.1,-8≤x∧x≤8:=λx hx=>by have:=h.b1 x hx;omega
 have hB2:∀ x ∈ p.1.2.1,-8≤x∧x≤8:=λx hx=>by have:=h.b2 x hx;omega
 have hB3:∀ x ∈ p.1.2.2,-8≤x∧x≤8:=λx hx=>by have:=h.b3 x hx;omega
 have hE:hg_ [p.1.1,p.1.2.1,p.1.2.2]=gq_ (p.1.1.map Lib.itoa++(p.1.2.1.map Lib.itoa++p.1.2.2.map Lib.itoa)):=by
  rw[kv_,kv_,← wn_,← wn_,← wn_]
  simp[hg_]
 have hlen:∀ {l:List Int} {k:Nat},l.length≤k→(∀ x ∈ l,-8≤x∧x≤8)→(gq_ (l.map Lib.itoa)).length≤k * 22:=λ{l k} hk hb=>by
  refine c6_ (pa_ (k:=21) λt ht => ?_) ?_
  ·obtain⟨x,hx,rfl⟩:=d1_.1 ht
   exact bw3 (hb x hx).1 (hb x hx).2
  ·rw[d2_]
   exact i8_ _ hk
 have hl:(hg_ [p.1.1,p.1.2.1,p.1.2.2]).length≤1000:=by
  rw[hE,kv_,kv_,a8_,a8_]
  have h1:=hlen h.n1 hB1
  have h2:=hlen h.n2 hB2
  have h3:=hlen h.n3 hB3
  omega
 have hr:(gq_ (p.2.map bt)).length≤20 * 6:=by
  refine c6_ (pa_ (k:=5) λt ht => ?_) ?_
  ·obtain⟨b,_,rfl⟩:=d1_.1 ht
   cases b<;>decide
  ·rw[d2_]
   have:=h.n4
   omega
 have hn:fl_ [p.1.1,p.1.2.1,p.1.2.2]=some (hg_ [p.1.1,p.1.2.1,p.1.2.2],()):=by
  unfold fl_
  have h1:([p.1.1,p.1.2.1,p.1.2.2].all λl=>l.all inI)=true:=by
   simp[wz_ hB1,wz_ hB2,wz_ hB3]
  rw[h1,i2_ (show _≤2147483648 by omega)]
  rfl
 unfold kh_
 rw[hn,a0_,bh5 h.n4,a0_,uc_ (by show (hg_ _).length+(gq_ (p.2.map bt)).length≤_;omega),a0_]
 unfold ptk
 rw[kv_,← hE]
theorem bt_inj {a b:Bool} (h:bt a=bt b):a=b:=by
 cases a<;>cases b<;>first | rfl | cases h
theorem cr4 (p:aa_):∀ t ∈ ptk p,(32:UInt8) ∉ t:=by
 intro t ht
 unfold ptk at ht
 simp only[b3_,d1_] at ht
 rcases ht with (⟨x,_,rfl⟩ | ⟨x,_,rfl⟩ | ⟨x,_,rfl⟩) | ⟨b,_,rfl⟩
 ·exact au2 x
 ·exact au2 x
 ·exact au2 x
 ·cases b<;>decide
def SmL (p q:aa_):Prop:=p.1.1.length=q.1.1.length∧p.1.2.1.length=q.1.2.1.length∧p.1.2.2.length=q.1.2.2.length∧p.2.length=q.2.length
theorem cv7 {g:ad_} {p q:aa_} (hp:VP g p) (hq:VP g q):SmL p q:=by
 have h1:=hp.st.l1
 have h2:=hp.st.l2
 have h3:=hp.st.l3
 have h4:=hp.rd
 have k1:=hq.st.l1
 have k2:=hq.st.l2
 have k3:=hq.st.l3
 have k4:=hq.rd
 exact⟨by omega,by omega,by omega,by omega⟩
theorem tq_ {α:Type} {a b c d:List α} (h:a.length=c.length) (e:a++b=c++d):a=c∧b=d:=List.append_inj e h
theorem bq0 {p q:aa_} (h1:p.1.1=q.1.1) (h2:p.1.2.1=q.1.2.1) (h3:p.1.2.2=q.1.2.2) (h4:p.2=q.2):p=q :=
 Prod.ext (Prod.ext h1 (Prod.ext h2 h3)) h4
theorem ptk_inj {p q:aa_} (hs:SmL p q) (h:gq_ (ptk p)=gq_ (ptk q)):p=q:=by
 obtain⟨s1,s2,s3,s4⟩:=hs
 have h:=aa0 (cr4 p) (cr4 q) h
 unfold ptk at h
 obtain⟨h,e4⟩:=tq_ (by simp only[a8_,d2_];omega) h
 obtain⟨e1,h⟩:=tq_ (by simp only[d2_];omega) h
 obtain⟨e2,e3⟩:=tq_ (by simp only[d2_];omega) h
 exact bq0 (fp_ (λ_ _ _ _=>ad8) e1) (fp_ (λ_ _ _ _=>ad8) e2) (fp_ (λ_ _ _ _=>ad8) e3) (fp_ (λ_ _ _ _=>bt_inj) e4)
def dec (n:Int):List UInt8:=Lib.decDigits n.toNat
theorem sub_dig:∀ {r:Nat},r<10→sub? ([48,49,50,51,52,53,54,55,56,57]:List UInt8) (r:Int) (w64 ((r:Int)+1))=some [UInt8.ofNat (48+r)]
 | 0,_=>rfl
 | 1,_=>rfl
 | 2,_=>rfl
 | 3,_=>rfl
 | 4,_=>rfl
 | 5,_=>rfl
 | 6,_=>rfl
 | 7,_=>rfl
 | 8,_=>rfl
 | 9,_=>rfl
 | _+10,h=>absurd h (by omega)
theorem bf3:∀ (k u:Nat),u≤1000000000→u<10 ^ (k+1)→dq_ (k+1) (u:Int)=some (Lib.decDigits u,())
  | k,u,hu,h=>by
    have hm:u % 10<10:=Nat.mod_lt _ (by decide)
    have e1:Int.tmod (u:Int) 10=((u % 10:Nat):Int):=by rw[Int.tmod_eq_emod_of_nonneg (by omega)];omega
    have e2:Int.tdiv (u:Int) 10=((u / 10:Nat):Int):=by rw[Int.tdiv_eq_ediv_of_nonneg (by omega)];omega
    show ((sub? [48,49,50,51,52,53,54,55,56,57] (Int.tmod (u:Int) 10) (w64 ((Int.tmod (u:Int) 10)+1))).bind λv0 =>
 (cond (decide ((u:Int)<10))
 (some (v0,()))
 ((dq_ k (w64 (Int.tdiv (u:Int) 10))).bind λv1 =>
 ((cat? v1.1 v0).bind λv2 =>
 (some (v2,()))))))=_
    rw[e1,sub_dig hm,a0_,e2,ez_ (by omega) (by omega),Lib.decDigits]
    by_cases h10:u<10
    · rw[dif_pos h10,b6_ (show (u:Int)<10 by omega),a5_,k7_ h10]
    · rw[dif_neg h10,b9_ (show ¬ (u:Int)<10 by omega),a2_]
      match k,h with
      | 0,h=>exact absurd h (by simp;omega)
      | k+1,h =>
        rw[k3_] at h
        rw[bf3 k (u / 10) (by omega) (by omega),a0_]
        have:=oj_ (u:=u / 10) (by omega)
        rw[uc_ (by show (Lib.decDigits (u / 10)).length+1≤_;omega),a0_]
theorem zz_ {n:Int} (h0:0≤n) (h1:n≤1000000):cc_ n=some (dec n,()):=by
 obtain⟨u,rfl⟩:∃ u:Nat,n=(u:Int):=⟨n.toNat,by omega⟩
 unfold cc_ dec
 rw[c1_]
 exact bf3 19 u (by omega) (by omega)
theorem keyL (l:List Int) (h:Int→Int) (acc:List UInt8) (hl:l.length≤20) (ha:acc.length≤100000) (hb:∀ x ∈ l,0≤h x∧h x≤100) {body:(List UInt8×(Int×Unit))→Option ((List UInt8×(Int×Unit))⊕(List UInt8×Unit))} {υ:Type} {K:(List UInt8×Unit)→Option υ} {x:Option υ}
  (hs:∀ (i:Nat) y t,l[i]?=some y→body (t,((i:Int),()))=((cc_ (h y)).bind λv8=>((cat? t v8.1).bind λv9=>((cat? v9 [32]).bind λv10=>(some (inl (v10,((w64 ((i:Int)+1)),()))))))))
  (he:∀ t,body (t,((l.length:Int),()))=some (.inr (t,()))) (hk:K (acc++gq_ (l.map λx=>dec (h x)),())=x):(af_ body (acc,(0,()))).bind K=x:=by
 refine ln_ l.length (λ(i:Nat) (z:List UInt8×(Int×Unit))=>z=(acc++gq_ ((l.take i).map λx=>dec (h x)),((i:Int),()))) (by rw[l2_,List.map_nil,show gq_ []=[] from rfl,e7_];rfl) (λi z hi hz => ?_) (λz hz => ?_)
 ·subst hz
  obtain⟨y,hy⟩:=bb_ hi
  have hlen:(gq_ ((l.take i).map λx=>dec (h x))).length≤20 * 12:=by
   refine c6_ (pa_ (k:=11) λt ht => ?_) ?_
   ·obtain⟨x,hx,rfl⟩:=d1_.1 ht
    have:=hb x (l4_ hx)
    exact oj_ (by omega)
   ·rw[d2_,c9_]
    omega
  have hyb:=hb y (au_ hy)
  have hd:(dec (h y)).length≤11:=oj_ (by omega)
  refine⟨_,?_,rfl⟩
  rw[hs i y _ hy,zz_ hyb.1 (by omega),a0_,uc_ (by show (acc++gq_ _).length+(dec (h y)).length≤_;rw[a8_];omega),a0_,uc_ (by show ((acc++gq_ _)++dec (h y)).length+1≤_;rw[a8_,a8_];omega),a0_,az_ (show Sm i by show i≤1000000000;omega),d7_,hy]
  simp[gq_]
 ·subst hz
  refine⟨_,he _,?_⟩
  rw[d9_]
  exact hk
def idx (d:List Bool):List Nat:=(List.range d.length).filter λi=>d[i]?==some true
theorem bw6 {d:List Bool} {i:Nat}:i ∈ idx d↔d[i]?=some true:=by
 unfold idx
 rw[c7_,m2_,f5_]
 exact⟨λh=>h.2,λh=>⟨am_ h,h⟩⟩
theorem idx_inj {d e:List Bool} (hl:d.length=e.length) (h:idx d=idx e):d=e:=by
 refine f2_ λi => ?_
 rcases l7_ i d.length with hi | hi
 ·obtain⟨x,hx⟩:=bb_ hi
  obtain⟨y,hy⟩:=bb_ (l:=e) (i:=i) (by omega)
  have hm:i ∈ idx d↔i ∈ idx e:=by rw[h]
  rw[bw6,bw6,hx,hy] at hm
  rw[hx,hy]
  cases x with
  | true=>rw[hm.1 rfl]
  | false =>
   cases y with
   | true=>exact (hm.2 rfl)
   | false=>rfl
 ·rw[b8_ hi,b8_ (by omega)]
def rtk (p:aa_):List (List UInt8):=((p.1.1.map (λx=>dec x)++p.1.2.1.map (λx=>dec (w64 (x+10))))++p.1.2.2.map (λx=>dec x))++(idx p.2).map (λi:Nat=>dec (i:Int))
theorem aj1 {p:aa_} (h:PB p):ib_ p=some (gq_ (rtk p),()):=by
 have hlen:∀ {l:List Int} (f:Int→Int),l.length≤20→(∀ x ∈ l,0≤f x∧f x≤100)→(gq_ (l.map λx=>dec (f x))).length≤20 * 12:=λ{l} f hk hb=>by
  refine c6_ (pa_ (k:=11) λt ht => ?_) ?_
  ·obtain⟨x,hx,rfl⟩:=d1_.1 ht
   have:=hb x hx
   exact oj_ (by omega)
  ·rw[d2_]
   exact i8_ _ hk
 have n1:=h.n1
 have n2:=h.n2
 have n3:=h.n3
 have n4:=h.n4
 have q1:∀ x ∈ p.1.1,0≤x∧x≤100:=λx hx=>by have:=h.b1 x hx;omega
 have q2:∀ x ∈ p.1.2.1,0≤w64 (x+10)∧w64 (x+10)≤100:=λx hx=>by have:=h.b2 x hx;rw[ez_ (by omega) (by omega)];omega
 have q3:∀ x ∈ p.1.2.2,0≤x∧x≤100:=λx hx=>by have:=h.b3 x hx;omega
 have l1:=hlen (l:=p.1.1) (λx=>x) (by omega) q1
 have l2:=hlen (l:=p.1.2.1) (λx=>w64 (x+10)) (by omega) q2
 have l3:=hlen (l:=p.1.2.2) (λx=>x) (by omega) q3
 unfold ib_
 refine keyL p.1.1 (λx=>x) [] (by omega) (by simp) q1 (λi y t hy=>by simp only[dlt (am_ hy),a5_,ah_ hy,a0_]) (λt=>by simp only[dnl,a2_]) ?_
 refine keyL p.1.2.1 (λx=>w64 (x+10)) ([]++_) (by omega) (by rw[g9_];omega) q2 (λi y t hy=>by simp only[dlt (am_ hy),a5_,ah_ hy,a0_]) (λt=>by simp only[dnl,a2_]) ?_
 refine keyL p.1.2.2 (λx=>x) (([]++_)++_) (by omega) (by rw[g9_,a8_];omega) q3 (λi y t hy=>by simp only[dlt (am_ hy),a5_,ah_ hy,a0_]) (λt=>by simp only[dnl,a2_]) ?_
 refine ln_ p.2.length (λ(i:Nat) (z:List UInt8×(Int×Unit))=>z=((([]++gq_ (p.1.1.map λx=>dec x))++gq_ (p.1.2.1.map λx=>dec (w64 (x+10))))++gq_ (p.1.2.2.map λx=>dec x)++gq_ (((List.range i).filter λi=>p.2[i]?==some true).map λi:Nat=>dec (i:Int)),((i:Int),()))) (by rw[List.range_zero,List.filter_nil,List.map_nil,show gq_ []=[] from rfl,e7_];rfl) (λi z hi hz => ?_) (λz hz => ?_)
 ·subst hz
  obtain⟨b,hb⟩:=bb_ hi
  have hl4:(gq_ (((List.range i).filter λi=>p.2[i]?==some true).map λi:Nat=>dec (i:Int))).length≤20 * 12:=by
   refine c6_ (pa_ (k:=11) λt ht => ?_) ?_
   ·obtain⟨x,hx,rfl⟩:=d1_.1 ht
    have:=m2_.1 (c7_.1 hx).1
    exact oj_ (by omega)
   ·refine i8_ _ ?_
    rw[d2_]
    refine c6_ (l0_ ..) ?_
    rw[j2_]
    omega
  have hd:(dec (i:Int)).length≤11:=oj_ (by omega)
  refine⟨_,?_,rfl⟩
  simp only[dlt hi,a5_,ah_ hb,a0_,az_ (show Sm i by show i≤1000000000;omega)]
  rw[List.range_succ,n4_]
  cases b with
  | false=>simp[hb]
  | true =>
   rw[a5_,zz_ (by omega) (by omega),a0_,uc_ (by simp only[a8_,k5_];omega),a0_,uc_ (by simp only[a8_,k5_,c4_];omega)]
   simp[hb,gq_]
 ·subst hz
  refine⟨_,by simp only[dnl,a2_];rfl,?_⟩
  unfold rtk idx
  rw[kv_,kv_,kv_,g9_]
theorem bd3 (x:Int):(32:UInt8) ∉ dec x:=λe=>by
 have:=xp_ _ e
 have h32:(32:UInt8).toNat=32:=rfl
 omega
theorem cq8 (p:aa_):∀ t ∈ rtk p,(32:UInt8) ∉ t:=by
 intro t ht
 unfold rtk at ht
 simp only[b3_,d1_] at ht
 rcases ht with ((⟨x,_,rfl⟩ | ⟨x,_,rfl⟩) | ⟨x,_,rfl⟩) | ⟨b,_,rfl⟩
 ·exact bd3 x
 ·exact bd3 _
 ·exact bd3 x
 ·exact bd3 _
theorem rtk_inj {p q:aa_} (hp:PB p) (hq:PB q) (hs:SmL p q) (h:gq_ (rtk p)=gq_ (rtk q)):p=q:=by
 obtain⟨s1,s2,s3,s4⟩:=hs
 have h:=aa0 (cq8 p) (cq8 q) h
 unfold rtk at h
 obtain⟨h,e4⟩:=tq_ (by simp only[a8_,d2_];omega) h
 obtain⟨h,e3⟩:=tq_ (by simp only[a8_,d2_];omega) h
 obtain⟨e1,e2⟩:=tq_ (by simp only[d2_];omega) h
 refine bq0 (fp_ (λx hx y hy e => ?_) e1) (fp_ (λx hx y hy e => ?_) e2) (fp_ (λx hx y hy e => ?_) e3) (idx_inj s4 (fp_ (λx hx y hy e => ?_) e4))
 ·have:=th_ (show Lib.decDigits x.toNat=Lib.decDigits y.toNat from e)
  have:=hp.b1 x hx
  have:=hq.b1 y hy
  omega
 ·have:=th_ (show Lib.decDigits (w64 (x+10)).toNat=Lib.decDigits (w64 (y+10)).toNat from e)
  have:=hp.b2 x hx
  have:=hq.b2 y hy
  rw[ez_ (by omega) (by omega),ez_ (by omega) (by omega)] at *
  omega
 ·have:=th_ (show Lib.decDigits x.toNat=Lib.decDigits y.toNat from e)
  have:=hp.b3 x hx
  have:=hq.b3 y hy
  omega
 ·have:=th_ (show Lib.decDigits (x:Int).toNat=Lib.decDigits (y:Int).toNat from e)
  omega
end
section
set_option maxRecDepth 10000
def wh (ps:List aa_) (q:aa_):Option Nat:=ps.findIdx? (λx=>decide (x=q))
theorem bk7 {ps:List aa_} {q:aa_} {n:Nat} (h:wh ps q=some n):ps[n]?=some q:=by
 unfold wh at h
 obtain⟨hn,h1,_⟩:=List.findIdx?_eq_some_iff_getElem.1 h
 rw[a7_ hn,g0_ h1]
theorem wh_push (ps:List aa_) (q x:aa_):wh (ps++[q]) x=(wh ps x).or (if x=q then some ps.length else none):=by
 unfold wh
 rw[List.findIdx?_append]
 congr 1
 by_cases h:x=q
 ·rw[if_pos h]
  simp[h]
 ·rw[if_neg h]
  have:¬ q=x:=λe=>h e.symm
  simp[this]
def MI (g:ad_) (key:aa_→List UInt8) (ps:List aa_) (M:List (List UInt8×Int)):Prop:=∀ q,VP g q→mget? M (key q)=(wh ps q).map λn=>(n:Int)
theorem aw3 {g:ad_} {key:aa_→List UInt8} (hk:∀ p q,VP g p→VP g q→key p=key q→p=q) {ps:List aa_} {M:List (List UInt8×Int)} (hM:MI g key ps M) {q:aa_} (hq:VP g q) (hw:wh ps q=none) :
  MI g key (ps++[q]) (ex_ M (key q) (ps.length:Int)):=by
 intro x hx
 rw[al6,wh_push]
 by_cases h:x=q
 ·subst h
  rw[if_pos rfl,hw,if_pos rfl]
  rfl
 ·rw[if_neg (λe=>h (hk x q hx hq e)),if_neg h,hM x hx,Option.or_none]
noncomputable def inn (g:ad_) (p:aa_):List ag_→List ac_→List aa_→Option (List ac_×List aa_)
 | [],e,ps=>some (e,ps)
 | m::ms,e,ps=>match wh ps ((stepP g p m).getD eP) with
  | some n=>inn g p ms (e++[(m,(n:Int))]) ps
  | none=>if ps.length=3000 then none else inn g p ms (e++[(m,(ps.length:Int))]) (ps++[(stepP g p m).getD eP])
noncomputable def out (g:ad_):Nat→Nat→List aa_→List (List ac_)→Option (List aa_×List (List ac_))
 | 0,i,ps,es=>some (ps,es)
 | n+1,i,ps,es=>match ps[i]? with
  | none=>some (ps,es)
  | some p=>match inn g p (pmv g p) [] ps with
   | none=>none
   | some (e,ps')=>out g n (i+1) ps' (es++[e])
noncomputable def exG (g:ad_):cf_×(Int×Unit) :=
 cond ((uf_ g).2.1 != 0) (([],[]),((uf_ g).2.1,())) (match out g 3001 0 [(uf_ g).1] [] with
  | none=>(([],[]),(2,()))
  | some (ps,es)=>((ps,es),(0,())))
structure PI (g:ad_) (ps:List aa_):Prop where
 n:ps.length≤3000
 v:∀ x ∈ ps,VP g x
theorem cd3 {g:ad_} {ps:List aa_} (h:PI g ps) {q:aa_} (hq:VP g q) (hn:ps.length≠3000):PI g (ps++[q]):=by
 have:=h.n
 refine⟨by rw[a8_,d3_];omega,λx hx => ?_⟩
 rcases b3_.1 hx with hx | hx
 ·exact h.v x hx
 ·rw[e6_] at hx
  rw[hx]
  exact hq
theorem pn_ {g:ad_} {p:aa_} {m:ag_} (hm:m ∈ pmv g p):∃ q,stepP g p m=some q:=by
 unfold pmv at hm
 exact Option.isSome_iff_exists.1 (c7_.1 hm).2
theorem as6 {g:ad_} (ok:OkG g) (p:aa_):(pmv g p).length≤480:=by
 unfold pmv
 exact c6_ (l0_ ..) (at9 (bn_ ok.room) p.1)
theorem bb3 {g:ad_} (hg:SmG g) (h0:cl_ g=0) {p:aa_} (hv:VP g p):∀ (ms:List ag_) (e e':List ac_) (ps ps':List aa_),(∀ m ∈ ms,∃ q,stepP g p m=some q)→PI g ps→inn g p ms e ps=some (e',ps') →
  PI g ps'∧(∃ r,ps'=ps++r)∧((∀ x ∈ e,0≤x.2∧x.2<(ps.length:Int))→∀ x ∈ e',0≤x.2∧x.2<(ps'.length:Int))∧(∀ x ∈ e',x ∈ e∨x.1 ∈ ms)∧e'.length=e.length+ms.length
 | [],e,e',ps,ps',hms,hI,h=>by
  unfold inn at h
  obtain⟨rfl,rfl⟩:=h6_ (a6_ h)
  exact⟨hI,⟨[],(e7_ _).symm⟩,λh=>h,λx hx=>.inl hx,rfl⟩
 | m::ms,e,e',ps,ps',hms,hI,h=>by
  obtain⟨q,hq⟩:=hms m (e1_ ..)
  have hms':∀ m ∈ ms,∃ q,stepP g p m=some q:=λm hm=>hms m (d5_ _ hm)
  have hvq:=aa3 hg h0 hv hq
  unfold inn at h
  rw[hq,f3_] at h
  cases hw:wh ps q with
  | some n =>
   rw[hw] at h
   obtain⟨a,b,c,d,f⟩:=bb3 hg h0 hv ms _ e' ps ps' hms' hI h
   refine⟨a,b,λhe=>c λx hx => ?_,λx hx => ?_,by rw[f,a8_,d3_,c4_];omega⟩
   rotate_left
   ·rcases d x hx with hx | hx
    ·rcases b3_.1 hx with hx | hx
     ·exact .inl hx
     ·rw[e6_] at hx
      rw[hx]
      exact .inr (e1_ ..)
    ·exact .inr (d5_ _ hx)
   rcases b3_.1 hx with hx | hx
   ·exact he x hx
   ·rw[e6_] at hx
    have:=am_ (bk7 hw)
    rw[hx]
    exact⟨by show (0:Int)≤(n:Int);omega,by show (n:Int)<_;omega⟩
  | none =>
   rw[hw] at h
   have h:(if ps.length=3000 then none else inn g p ms (e++[(m,(ps.length:Int))]) (ps++[q]))=some (e',ps'):=h
   split at h
   ·cases h
   ·next hn =>
    obtain⟨a,⟨r,hr⟩,c,d,f⟩:=bb3 hg h0 hv ms _ e' (ps++[q]) ps' hms' (cd3 hI hvq hn) h
    refine⟨a,⟨q::r,by rw[hr,b4_];rfl⟩,λhe=>c λx hx => ?_,λx hx => ?_,by rw[f,a8_,d3_,c4_];omega⟩
    rotate_left
    ·rcases d x hx with hx | hx
     ·rcases b3_.1 hx with hx | hx
      ·exact .inl hx
      ·rw[e6_] at hx
       rw[hx]
       exact .inr (e1_ ..)
     ·exact .inr (d5_ _ hx)
    have hl:(ps++[q]).length=ps.length+1:=by rw[a8_,d3_]
    rcases b3_.1 hx with hx | hx
    ·have:=he x hx
     omega
    ·rw[e6_] at hx
     rw[hx]
     exact⟨by show (0:Int)≤(ps.length:Int);omega,by show (ps.length:Int)<_;omega⟩
theorem lgl_num {r:ae_} {s:ai_} {m:ag_} (h:lgl r s m=true) (hk:m.2.1=4):m.2.2≠-1:=by
 intro e
 unfold lgl at h
 rw[a1_,hk,e] at h
 have h:=h.2
 simp only[show ((4:Int)==1)=false from rfl,show ((4:Int)==2)=false from rfl,show ((4:Int)==3)=false from rfl,show ((4:Int)==4)=true from rfl,a2_,a5_] at h
 have:at? r.2.2.2.2.1 (-1)=none:=rfl
 rw[this] at h
 cases h
theorem pmv_num {g:ad_} {p:aa_} {m:ag_} (hm:m ∈ pmv g p):m.2.1=4→m.2.2≠-1:=by
 unfold pmv at hm
 exact lgl_num (at8 (c7_.1 hm).1)
structure GI (g:ad_) (ps:List aa_) (es:List (List ac_)):Prop where
 pI:PI g ps
 eI:∀ l ∈ es,∀ x ∈ l,(0≤x.2∧x.2<(ps.length:Int))∧(x.1.2.1=4→x.1.2.2≠-1)
 eL:∀ l ∈ es,l.length≤480
theorem cr9 {g:ad_} (hg:SmG g) (h0:cl_ g=0):∀ (n i:Nat) (ps ps':List aa_) (es es':List (List ac_)),i+n=3001→i≤ps.length→es.length=i→GI g ps es→out g n i ps es=some (ps',es')→GI g ps' es'∧es'.length=ps'.length
 | 0,i,ps,ps',es,es',hi,hip,hl,hG,h=>by
  have:=hG.pI.n
  omega
 | n+1,i,ps,ps',es,es',hi,hip,hl,hG,h=>by
  unfold out at h
  cases hp:ps[i]? with
  | none =>
   rw[hp] at h
   obtain⟨rfl,rfl⟩:=h6_ (a6_ h)
   have:=p3_.1 hp
   exact⟨hG,by omega⟩
  | some p =>
   rw[hp] at h
   have hvp:=hG.pI.v p (au_ hp)
   have hok:=ct_ h0
   cases hin:inn g p (pmv g p) [] ps with
   | none =>
    simp only[hin] at h
    cases h
   | some z =>
    obtain⟨e,ps1⟩:=z
    simp only[hin] at h
    obtain⟨a,⟨r,rfl⟩,c,d,f⟩:=bb3 hg h0 hvp _ _ _ _ _ (λm hm=>pn_ hm) hG.pI hin
    have hpl:=am_ hp
    have hpm:=as6 hok p
    have hll:(ps++r).length=ps.length+r.length:=a8_
    refine cr9 hg h0 n (i+1) _ ps' _ es' (by omega) (by omega) (by rw[a8_,d3_];omega) ⟨a,λl hl x hx => ?_,λl hl => ?_⟩ h
    ·rcases b3_.1 hl with hl | hl
     ·have:=hG.eI l hl x hx
      exact⟨by omega,this.2⟩
     ·rw[e6_] at hl
      rw[hl] at hx
      refine⟨c (λx hx=>by cases hx) x hx,?_⟩
      rcases d x hx with hx | hx
      ·cases hx
      ·exact pmv_num hx
    ·rcases b3_.1 hl with hl | hl
     ·exact hG.eL l hl
     ·rw[e6_] at hl
      rw[hl,f]
      show 0+_≤480
      omega
theorem cu3 {g:ad_} (hg:SmG g) (he:(exG g).2.1=0):cl_ g=0∧GI g (exG g).1.1 (exG g).1.2∧(exG g).1.2.length=(exG g).1.1.length:=by
 unfold exG at he ⊢
 cases hb:(uf_ g).2.1 != 0 with
 | true =>
  rw[hb] at he
  rw[n8_] at hb
  exact absurd he hb
 | false =>
 rw[hb,a2_] at he
 have hb:(uf_ g).2.1=0:=by simpa using hb
 obtain⟨h0,hv⟩:=av8 hg hb
 cases ho:out g 3001 0 [(uf_ g).1] [] with
 | none =>
  rw[ho] at he
  exact absurd (show (2:Int)=0 from he) (by decide)
 | some z =>
  obtain⟨ps,es⟩:=z
  exact⟨h0,cr9 hg h0 3001 0 _ ps _ es rfl (i4_ _) rfl ⟨⟨by show 1≤3000;decide,λx hx=>by rw[e6_] at hx;rw[hx];exact hv⟩,(λl hl=>by cases hl),(λl hl=>by cases hl)⟩ ho⟩
noncomputable def am5 (key:aa_→List UInt8) (g:ad_) (p:aa_):List ag_→List ac_→List aa_→List (List UInt8×Int)→Option (List ac_×(List aa_×List (List UInt8×Int)))
 | [],e,ps,M=>some (e,(ps,M))
 | m::ms,e,ps,M=>match wh ps ((stepP g p m).getD eP) with
  | some n=>am5 key g p ms (e++[(m,(n:Int))]) ps M
  | none=>if ps.length=3000 then none else am5 key g p ms (e++[(m,(ps.length:Int))]) (ps++[(stepP g p m).getD eP]) (ex_ M (key ((stepP g p m).getD eP)) (ps.length:Int))
theorem ad9 (key:aa_→List UInt8) (g:ad_) (p:aa_):∀ ms e ps M,(am5 key g p ms e ps M).map (λz=>(z.1,z.2.1))=inn g p ms e ps
 | [],e,ps,M=>rfl
 | m::ms,e,ps,M=>by
  unfold am5 inn
  cases wh ps ((stepP g p m).getD eP) with
  | some n=>exact ad9 key g p ms _ _ _
  | none =>
   by_cases hn:ps.length=3000
   ·simp only[if_pos hn,Option.map_none]
   ·simp only[if_neg hn]
    exact ad9 key g p ms _ _ _
section
variable {g:ad_} (hg:SmG g) (h0:cl_ g=0) {key:aa_→List UInt8} (hk:∀ p q,VP g p→VP g q→key p=key q→p=q)
include hg h0 hk
theorem au7 {p:aa_} (hv:VP g p):∀ (ms:List ag_) e ps M e' ps' M',(∀ m ∈ ms,∃ q,stepP g p m=some q)→MI g key ps M→am5 key g p ms e ps M=some (e',(ps',M'))→MI g key ps' M'
 | [],e,ps,M,e',ps',M',_,hM,h=>by
  unfold am5 at h
  obtain⟨_,h⟩:=h6_ (a6_ h)
  obtain⟨rfl,rfl⟩:=h6_ h
  exact hM
 | m::ms,e,ps,M,e',ps',M',hms,hM,h=>by
  obtain⟨q,hq⟩:=hms m (e1_ ..)
  have hms':∀ m ∈ ms,∃ q,stepP g p m=some q:=λm hm=>hms m (d5_ _ hm)
  have hvq:=aa3 hg h0 hv hq
  unfold am5 at h
  rw[hq,f3_] at h
  cases hw:wh ps q with
  | some n =>
   rw[hw] at h
   exact au7 hv ms _ _ _ _ _ _ hms' hM h
  | none =>
   rw[hw] at h
   have h:(if ps.length=3000 then none else am5 key g p ms (e++[(m,(ps.length:Int))]) (ps++[q]) (ex_ M (key q) (ps.length:Int)))=some (e',(ps',M')):=h
   split at h
   ·cases h
   ·exact au7 hv ms _ _ _ _ _ _ hms' (aw3 hk hM hvq hw) h
theorem ad5 {p:aa_} (hv:VP g p) {at_:Nat} {σ ρ:Type} (F:List ac_→Nat→List (List UInt8×Int)→List aa_→σ) (G:List ac_→List (List UInt8×Int)→List aa_→ρ) {EE:ρ} {body:σ→Option (σ⊕ρ)} (ms:List ag_) (hms:∀ m ∈ ms,∃ q,stepP g p m=some q)
  (hb:∀ i m e M ps q,ms[i]?=some m→stepP g p m=some q→VP g q→mget? M (key q)=(wh ps q).map (λn=>(n:Int))→PI g ps→ps[at_]?=some p→e.length=i →
   body (F e i M ps)=some (match wh ps q with
    | some n=>.inl (F (e++[(m,(n:Int))]) (i+1) M ps)
    | none=>if ps.length=3000 then .inr EE else .inl (F (e++[(m,(ps.length:Int))]) (i+1) (ex_ M (key q) (ps.length:Int)) (ps++[q]))))
  (he:∀ e M ps,body (F e ms.length M ps)=some (.inr (G e M ps))) :
  ∀ (k i:Nat) e M ps,i+k=ms.length→e.length=i→PI g ps→ps[at_]?=some p→MI g key ps M→af_ body (F e i M ps)=some ((am5 key g p (ms.drop i) e ps M).elim EE λz=>G z.1 z.2.2 z.2.1)
 | 0,i,e,M,ps,hi,hl,hI,hat,hM=>by
  obtain rfl:i=ms.length:=by omega
  rw[o5_]
  exact br_ (he e M ps)
 | k+1,i,e,M,ps,hi,hl,hI,hat,hM=>by
  have hil:i<ms.length:=by omega
  obtain⟨m,hm⟩:=bb_ hil
  obtain⟨q,hq⟩:=hms m (au_ hm)
  have hvq:=aa3 hg h0 hv hq
  have hd:ms.drop i=m::ms.drop (i+1):=by
   rw[j3_ hil]
   rw[a7_ hil] at hm
   rw[a6_ hm]
  have hbb:=hb i m e M ps q hm hq hvq (hM q hvq) hI hat hl
  rw[hd]
  unfold am5
  rw[hq,f3_]
  cases hw:wh ps q with
  | some n =>
   rw[hw] at hbb
   exact bp_ hbb (ad5 hv F G ms hms hb he k (i+1) (e++[(m,(n:Int))]) M ps (by omega) (by rw[a8_,d3_,hl]) hI hat hM)
  | none =>
   rw[hw] at hbb
   have hbb:body (F e i M ps)=some (if ps.length=3000 then .inr EE else .inl (F (e++[(m,(ps.length:Int))]) (i+1) (ex_ M (key q) (ps.length:Int)) (ps++[q]))):=hbb
   by_cases hn:ps.length=3000
   ·rw[if_pos hn] at hbb
    simp only[if_pos hn]
    exact br_ hbb
   ·rw[if_neg hn] at hbb
    simp only[if_neg hn]
    exact bp_ hbb (ad5 hv F G ms hms hb he k (i+1) (e++[(m,(ps.length:Int))]) (ex_ M (key q) (ps.length:Int)) (ps++[q]) (by omega) (by rw[a8_,d3_,hl]) (cd3 hI hvq hn) (by rw[b2_ (am_ hat)];exact hat) (aw3 hk hM hvq hw))
theorem ao5 {p:aa_} (hv:VP g p) {at_:Nat} {σ ρ υ:Type} (F:List ac_→Nat→List (List UInt8×Int)→List aa_→σ) (G:List ac_→List (List UInt8×Int)→List aa_→ρ) (EE:ρ) {body:σ→Option (σ⊕ρ)} (ms:List ag_) (hms:∀ m ∈ ms,∃ q,stepP g p m=some q)
  {M:List (List UInt8×Int)} {ps:List aa_} (hI:PI g ps) (hat:ps[at_]?=some p) (hM:MI g key ps M) {K:ρ→Option υ} {x:Option υ}
  (hb:∀ i m e M ps q,ms[i]?=some m→stepP g p m=some q→VP g q→mget? M (key q)=(wh ps q).map (λn=>(n:Int))→PI g ps→ps[at_]?=some p→e.length=i →
   body (F e i M ps)=some (match wh ps q with
    | some n=>.inl (F (e++[(m,(n:Int))]) (i+1) M ps)
    | none=>if ps.length=3000 then .inr EE else .inl (F (e++[(m,(ps.length:Int))]) (i+1) (ex_ M (key q) (ps.length:Int)) (ps++[q]))))
  (he:∀ e M ps,body (F e ms.length M ps)=some (.inr (G e M ps))) (hx:(am5 key g p ms [] ps M).elim (K EE) (λz=>K (G z.1 z.2.2 z.2.1))=x):(af_ body (F [] 0 M ps)).bind K=x:=by
 rw[ad5 hg h0 hk hv F G ms hms hb he ms.length 0 [] M ps (by omega) rfl hI hat hM,a0_,← hx]
 rw[List.drop_zero]
 cases am5 key g p ms [] ps M<;>rfl
theorem ba3 {σ ρ:Type} (F:Nat→List (List UInt8×Int)→List aa_→List (List ac_)→σ) (G:List (List UInt8×Int)→List aa_→List (List ac_)→ρ) {EE:ρ} {body:σ→Option (σ⊕ρ)}
    (hb:∀ i M ps es p,ps[i]?=some p→VP g p→PI g ps→es.length=i→MI g key ps M→body (F i M ps es)=some ((am5 key g p (pmv g p) [] ps M).elim (.inr EE) λz=>.inl (F (i+1) z.2.2 z.2.1 (es++[z.1]))))
    (he:∀ M ps es,body (F ps.length M ps es)=some (.inr (G M ps es))) :
    ∀ (n i:Nat) M ps es,i+n=3001→i≤ps.length→es.length=i→PI g ps→MI g key ps M→match out g n i ps es with
      | none=>af_ body (F i M ps es)=some EE
      | some (ps',es')=>∃ M',af_ body (F i M ps es)=some (G M' ps' es')
  | 0,i,M,ps,es,hi,hip,hl,hI,hM=>by
    have:=hI.n
    omega
  | n+1,i,M,ps,es,hi,hip,hl,hI,hM=>by
    unfold out
    cases hp:ps[i]? with
    | none =>
      have:=p3_.1 hp
      obtain rfl:i=ps.length:=by omega
      exact⟨M,br_ (he M ps es)⟩
    | some p =>
      have hvp:=hI.v p (au_ hp)
      have hbb:=hb i M ps es p hp hvp hI hl hM
      have hmap:=ad9 key g p (pmv g p) [] ps M
      show (match (match inn g p (pmv g p) [] ps with
            | none=>none
            | some (e,ps')=>out g n (i+1) ps' (es++[e])) with
          | none=>af_ body (F i M ps es)=some EE
          | some (ps',es')=>∃ M',af_ body (F i M ps es)=some (G M' ps' es'))
      cases hin:am5 key g p (pmv g p) [] ps M with
      | none =>
        rw[hin] at hbb hmap
        rw[← hmap]
        exact br_ hbb
      | some z =>
        obtain⟨e,ps1,M1⟩:=z
        have hM1:=au7 hg h0 hk hvp _ _ _ _ _ _ _ (λm hm=>pn_ hm) hM hin
        rw[hin] at hbb hmap
        obtain⟨a,⟨r,rfl⟩,_,_,_⟩:=bb3 hg h0 hvp _ _ _ _ _ (λm hm=>pn_ hm) hI hmap.symm
        rw[← hmap]
        have hpl:=am_ hp
        have hll:(ps++r).length=ps.length+r.length:=a8_
        have ih:=ba3 F G hb he n (i+1) M1 (ps++r) (es++[e]) (by omega) (by omega) (by rw[a8_,d3_];omega) a hM1
        show (match out g n (i+1) (ps++r) (es++[e]) with
          | none=>af_ body (F i M ps es)=some EE
          | some (ps',es')=>∃ M',af_ body (F i M ps es)=some (G M' ps' es'))
        cases ho:out g n (i+1) (ps++r) (es++[e]) with
        | none=>rw[ho] at ih;exact bp_ hbb ih
        | some z =>
          rw[ho] at ih
          obtain⟨M',hz⟩:=ih
          exact⟨M',bp_ hbb hz⟩
theorem be3 {σ ρ:Type} (F:Nat→List (List UInt8×Int)→List aa_→List (List ac_)→σ) (G:List (List UInt8×Int)→List aa_→List (List ac_)→ρ) (EE:ρ) {body:σ→Option (σ⊕ρ)} {p0:aa_} (hv:VP g p0) {K:ρ→Option (cf_×(Int×Unit))}
  (hb:∀ i M ps es p,ps[i]?=some p→VP g p→PI g ps→es.length=i→MI g key ps M→body (F i M ps es)=some ((am5 key g p (pmv g p) [] ps M).elim (.inr EE) λz=>.inl (F (i+1) z.2.2 z.2.1 (es++[z.1]))))
  (he:∀ M ps es,body (F ps.length M ps es)=some (.inr (G M ps es)))
  (hE:K EE=some (([],[]),(2,()))) (hG:∀ M ps es,K (G M ps es)=some ((ps,es),(0,()))) :
  (af_ body (F 0 (ex_ [] (key p0) 0) [p0] [])).bind K=some (match out g 3001 0 [p0] [] with
   | none=>(([],[]),(2,()))
   | some (ps,es)=>((ps,es),(0,()))):=by
 have hI:PI g [p0]:=⟨by show 1≤3000;decide,λx hx=>by rw[e6_] at hx;rw[hx];exact hv⟩
 have hM:MI g key [p0] (ex_ [] (key p0) 0):=by
  have:=aw3 (ps:=[]) (M:=[]) (q:=p0) hk (λq _=>rfl) hv rfl
  exact this
 have:=ba3 hg h0 hk F G hb he 3001 0 (ex_ [] (key p0) 0) [p0] [] rfl (i4_ _) rfl hI hM
 cases ho:out g 3001 0 [p0] [] with
 | none =>
  rw[ho] at this
  rw[this,a0_]
  exact hE
 | some z =>
  obtain⟨ps,es⟩:=z
  rw[ho] at this
  obtain⟨M',hz⟩:=this
  rw[hz,a0_]
  exact hG M' ps es
end
end
section
set_option maxRecDepth 10000
theorem ay3 {g:ad_} (hg:SmG g) (ok:OkG g) (p q:aa_) (hp:VP g p) (hq:VP g q) (h:gq_ (rtk p)=gq_ (rtk q)):p=q:=rtk_inj (bj8 hg ok hp) (bj8 hg ok hq) (cv7 hp hq) h
theorem az0 {g:ad_} (p q:aa_) (hp:VP g p) (hq:VP g q) (h:gq_ (ptk p)=gq_ (ptk q)):p=q:=ptk_inj (cv7 hp hq) h
theorem mp_ {g:ad_} (hg:SmG g):dz_ g=some (exG g):=by
 unfold dz_ exG
 rw[aj2 hg,a0_]
 cases hb:(uf_ g).2.1 != 0 with
 | true=>rfl
 | false =>
 have hb:(uf_ g).2.1=0:=by simpa using hb
 obtain⟨h0,hv⟩:=av8 hg hb
 have ok:=ct_ h0
 simp only[a2_]
 rw[aj1 (bj8 hg ok hv),a0_]
 refine be3 hg h0 (key:=λq=>gq_ (rtk q)) (ay3 hg ok) (λi M ps es=>((i:Int),(M,(([],([],())),((ps,(es,())),()))))) (λM ps es=>inl (M,(([],([],())),((ps,(es,())),())))) (inr (([],[]),(2,()))) hv (λi M ps es p hp hvp hI hl hM => ?_) (λM ps es=>by simp only[dnl,a2_]) rfl (λM ps es=>rfl)
 have hi:=am_ hp
 have hn:=hI.n
 have hml:=as6 ok p
 simp only[dlt hi,a5_,ah_ hp,a0_]
 rw[as0 hg h0 hvp,a0_]
 refine ao5 hg h0 (key:=λq=>gq_ (rtk q)) (ay3 hg ok) hvp (at_:=i) (λe j M ps=>(e,((j:Int),(M,(([],([],())),((ps,()),())))))) (λe M ps=>inl (e,(M,(([],([],())),((ps,()),()))))) (inr (inr (inr (([],[]),(2,()))))) (pmv g p) (λm hm=>pn_ hm) hI hp hM (λj m e M ps q hm hq hvq hMq hI hat hl => ?_) (λe M ps=>by simp only[dnl,a2_]) ?_
 ·have hj:=am_ hm
  have hn:=hI.n
  have hkq:=aj1 (bj8 hg ok hvq)
  simp only[dlt hj,a5_,ah_ hm,ah_ hat,a0_,bg9 hg h0 hvp hq,hkq]
  cases hw:wh ps q with
  | some n =>
   rw[hw] at hMq
   have e1:bi0 M (gq_ (rtk q))=true:=by unfold bi0;rw[hMq];rfl
   have e2:ey_ 0 M (gq_ (rtk q))=(n:Int):=by unfold ey_;rw[hMq];rfl
   simp only[e1,e2,e9_,a2_,a0_,cg_,ah_ hm,ch_ (show Sm e.length by show _≤1000000000;omega),az_ (show Sm j by show _≤1000000000;omega)]
  | none =>
   rw[hw] at hMq
   have e1:bi0 M (gq_ (rtk q))=false:=by unfold bi0;rw[hMq];rfl
   simp only[e1,h3_,a5_]
   by_cases hc:ps.length=3000
   ·have:((ps.length:Int)==3000)=true:=by rw[hc];rfl
    simp only[this,a5_,a0_,cg_,if_pos hc]
   ·have:((ps.length:Int)==3000)=false:=by rw[o8_];omega
    simp only[this,a2_,a0_,cg_,if_neg hc,ch_ (show Sm ps.length by show _≤1000000000;omega),ch_ (show Sm e.length by show _≤1000000000;omega),az_ (show Sm j by show _≤1000000000;omega),ah_ hm]
 ·cases hin:am5 (λq=>gq_ (rtk q)) g p (pmv g p) [] ps M with
  | none=>rfl
  | some z =>
   simp only[Option.elim,cg_,ch_ (show Sm es.length by show _≤1000000000;omega),a0_,az_ (show Sm i by show _≤1000000000;omega)]
theorem mr_ {g:ad_} (hg:SmG g):dn_ g=some (exG g):=by
 unfold dn_ exG
 rw[as7 hg,a0_]
 cases hb:(uf_ g).2.1 != 0 with
 | true=>rfl
 | false =>
 have hb:(uf_ g).2.1=0:=by simpa using hb
 obtain⟨h0,hv⟩:=av8 hg hb
 have ok:=ct_ h0
 simp only[a2_]
 rw[ak4 (bj8 hg ok hv),a0_,a0_]
 refine be3 hg h0 (key:=λq=>gq_ (ptk q)) az0 (λi M ps es=>((i:Int),(M,(([],([],())),((ps,(es,())),()))))) (λM ps es=>inl (M,(([],([],())),((ps,(es,())),())))) (inr (([],[]),(2,()))) hv (λi M ps es p hp hvp hI hl hM => ?_) (λM ps es=>by simp only[dnl,a2_]) rfl (λM ps es=>rfl)
 have hi:=am_ hp
 have hn:=hI.n
 have hml:=as6 ok p
 simp only[dlt hi,a5_,ah_ hp,a0_]
 rw[ci7 hg h0 hvp,a0_]
 simp only[show ((0:Int) != 0)=false from rfl,a2_]
 refine ao5 hg h0 (key:=λq=>gq_ (ptk q)) az0 hvp (at_:=i) (λe j M ps=>(e,((j:Int),(M,(([],([],())),((ps,()),())))))) (λe M ps=>inl (e,(M,(([],([],())),((ps,()),()))))) (inr (inr (inr (([],[]),(2,()))))) (pmv g p) (λm hm=>pn_ hm) hI hp hM (λj m e M ps q hm hq hvq hMq hI hat hl => ?_) (λe M ps=>by simp only[dnl,a2_]) ?_
 ·have hj:=am_ hm
  have hn:=hI.n
  have hkq:=ak4 (bj8 hg ok hvq)
  have hstep:kj_ g p m=some (q,(0,())):=by rw[bq2 hg h0 hvp m,hq];rfl
  simp only[dlt hj,a5_,ah_ hm,ah_ hat,a0_,hstep,hkq,show ((0:Int) != 0)=false from rfl,a2_]
  cases hw:wh ps q with
  | some n =>
   rw[hw] at hMq
   have e1:bi0 M (gq_ (ptk q))=true:=by unfold bi0;rw[hMq];rfl
   have e2:ey_ 0 M (gq_ (ptk q))=(n:Int):=by unfold ey_;rw[hMq];rfl
   simp only[e1,e2,a5_,e9_,a2_,a0_,ch_ (show Sm e.length by show _≤1000000000;omega),az_ (show Sm j by show _≤1000000000;omega)]
  | none =>
   rw[hw] at hMq
   have e1:bi0 M (gq_ (ptk q))=false:=by unfold bi0;rw[hMq];rfl
   simp only[e1,a2_]
   by_cases hc:ps.length=3000
   ·have:((ps.length:Int)==3000)=true:=by rw[hc];rfl
    simp only[this,a5_,a0_,h3_,if_pos hc]
   ·have:((ps.length:Int)==3000)=false:=by rw[o8_];omega
    simp only[this,a2_,a0_,e9_,if_neg hc,ch_ (show Sm ps.length by show _≤1000000000;omega),ch_ (show Sm e.length by show _≤1000000000;omega),az_ (show Sm j by show _≤1000000000;omega)]
 ·cases hin:am5 (λq=>gq_ (ptk q)) g p (pmv g p) [] ps M with
  | none=>rfl
  | some z =>
   simp only[Option.elim,cg_,ch_ (show Sm es.length by show _≤1000000000;omega),a0_,az_ (show Sm i by show _≤1000000000;omega)]
end
section
set_option maxRecDepth 10000
structure LC (es:List (List ac_)) (fin:Nat→Bool) (a:List Int):Prop where
 lo:∀ (i:Nat) (v:Int),a[i]?=some v→-1≤v
 z:∀ (i:Nat) (v:Int),a[i]?=some v→(v=0↔fin i=true)
 dn:∀ (i k:Nat),a[i]?=some ((k+1:Nat):Int)→∃ l x,es[i]?=some l∧x ∈ l∧at? a x.2=some (k:Int)
 up:∀ (i:Nat) (l:List ac_) (x:ac_) (k:Nat),es[i]?=some l→x ∈ l→at? a x.2=some (k:Int)→∃ v,a[i]?=some v∧0≤v∧v≤(k:Int)+1
theorem cd4 {es:List (List ac_)} {fin:Nat→Bool} {a b:List Int} (ha:LC es fin a) (hb:LC es fin b) (hl:a.length=b.length) (k:Nat) (ih:∀ j,j<k→∀ i:Nat,a[i]?=some (j:Int)↔b[i]?=some (j:Int)) (i:Nat) (h:a[i]?=some (k:Int)):b[i]?=some (k:Int):=by
 obtain⟨w,hw⟩:=bb_ (l:=b) (i:=i) (by have:=am_ h;omega)
 match k with
 | 0 =>
  have h1:=(ha.z i _ h).1 rfl
  have h2:=(hb.z i w hw).2 h1
  rw[hw,h2]
  rfl
 | k+1 =>
  obtain⟨l,x,hl',hx,hat⟩:=ha.dn i k h
  obtain⟨q1,q2,q3⟩:=dc_ hat
  have h3:=(ih k (by omega) _).1 q3
  have h4:at? b x.2=some (k:Int):=by
   rw[show x.2=((x.2.toNat:Nat):Int) by omega]
   exact ah_ h3
  obtain⟨v,e,v0,v1⟩:=hb.up i l x k hl' hx h4
  rw[hw] at e
  obtain rfl:=a6_ e
  rcases Int.lt_or_eq_of_le v1 with hlt | heq
  ·exfalso
   obtain⟨n,rfl⟩:∃ n:Nat,w=(n:Int):=⟨w.toNat,by omega⟩
   have:=(ih n (by omega) i).2 hw
   rw[h] at this
   have:=a6_ this
   omega
  ·rw[hw,heq]
   rfl
theorem aw4 {es:List (List ac_)} {fin:Nat→Bool} {a b:List Int} (ha:LC es fin a) (hb:LC es fin b) (hl:a.length=b.length):a=b:=by
 have key:∀ k i:Nat,a[i]?=some (k:Int)↔b[i]?=some (k:Int):=by
  intro k
  induction k using Nat.strongRecOn with
  | _ k ih =>
   intro i
   exact⟨cd4 ha hb hl k ih i,cd4 hb ha hl.symm k (λj hj i=>(ih j hj i).symm) i⟩
 refine f2_ λi => ?_
 rcases l7_ i a.length with hi | hi
 ·obtain⟨v,hv⟩:=bb_ hi
  obtain⟨w,hw⟩:=bb_ (l:=b) (i:=i) (by omega)
  have h1:=ha.lo i v hv
  have h2:=hb.lo i w hw
  rw[hv,hw]
  by_cases hv0:0≤v
  ·obtain⟨n,rfl⟩:∃ n:Nat,v=(n:Int):=⟨v.toNat,by omega⟩
   have:=(key n i).1 hv
   rw[hw] at this
   exact this.symm
  ·by_cases hw0:0≤w
   ·obtain⟨n,rfl⟩:∃ n:Nat,w=(n:Int):=⟨w.toNat,by omega⟩
    have:=(key n i).2 hw
    rw[hv] at this
    exact this
   ·rw[show v = -1 by omega,show w = -1 by omega]
 ·rw[b8_ hi,b8_ (by omega)]
def pu_ (g:ad_) (ps:List aa_) (i:Nat):Bool:=match ps[i]? with
 | some p=>dm_ p.1.1 g.1.2.2.2.2.2.2.2
 | none=>false
theorem av1 {g:ad_} {ps:List aa_} {i:Nat} {p:aa_} (h:ps[i]?=some p):pu_ g ps i=dm_ p.1.1 g.1.2.2.2.2.2.2.2:=by
 unfold pu_
 rw[h]
def xg_ (g:ad_) (ps:List aa_):List Int:=ps.map λp=>cond (dm_ p.1.1 g.1.2.2.2.2.2.2.2) 0 (-1)
theorem qz_ {g:ad_} {ps:List aa_} {i:Nat} {v:Int} (h:(xg_ g ps)[i]?=some v):(v=0∧pu_ g ps i=true)∨(v = -1∧pu_ g ps i=false):=by
 unfold xg_ at h
 rw[d8_] at h
 obtain⟨p,hp,rfl⟩:=f7_.1 h
 rw[av1 hp]
 cases dm_ p.1.1 g.1.2.2.2.2.2.2.2 with
 | true=>exact .inl ⟨rfl,rfl⟩
 | false=>exact .inr ⟨rfl,rfl⟩
def mu_ (a:List Int):Nat:=a.countP λv=>decide (v<0)
theorem bs6 (a:List Int):mu_ a≤a.length:=l1_
theorem az9:∀ {a:List Int} {i:Nat} {v w:Int},a[i]?=some v→v<0→0≤w→mu_ (a.set i w)+1=mu_ a
 | x::a,0,v,w,h,hv,hw=>by
  obtain rfl:x=v:=a6_ h
  unfold mu_
  rw[List.set_cons_zero,i0_,i0_,b6_ hv,b9_ (by omega)]
  simp
 | x::a,i+1,v,w,h,hv,hw=>by
  have:=az9 (a:=a) (i:=i) h hv hw
  unfold mu_ at this ⊢
  rw[List.set_cons_succ,i0_,i0_]
  omega
 | [],i,v,w,h,_,_=>by simp at h
end
section
set_option maxRecDepth 10000
def nv (es:List (List ac_)) (a:List Int) (r:Nat) (i:Nat) (v:Int):Int:=cond (decide (v<0)&&(es[i]?.getD []).any (λx=>gi a x.2==(r:Int) - 1)) (r:Int) v
structure RnI (es:List (List ac_)) (fin:Nat→Bool) (r:Nat) (a:List Int):Prop where
 b:∀ (i:Nat) (v:Int),a[i]?=some v→v = -1∨(0≤v∧v+1≤(r:Int))
 z:∀ (i:Nat) (v:Int),a[i]?=some v→(v=0↔fin i=true)
 dn:∀ (i k:Nat),a[i]?=some ((k+1:Nat):Int)→∃ l x,es[i]?=some l∧x ∈ l∧at? a x.2=some (k:Int)
 up:∀ (i:Nat) (l:List ac_) (x:ac_) (k:Nat),es[i]?=some l→x ∈ l→at? a x.2=some (k:Int)→k+2≤r→∃ v,a[i]?=some v∧0≤v∧v≤(k:Int)+1
theorem ac4 {es:List (List ac_)} {a:List Int} {r i:Nat} {v:Int} (h:0≤v):nv es a r i v=v:=by
 unfold nv
 rw[b9_ (by omega)]
 rfl
theorem mt_ (es:List (List ac_)) (a:List Int) (r i:Nat) (v:Int):nv es a r i v=v∨(nv es a r i v=(r:Int)∧v<0∧∃ l x,es[i]?=some l∧x ∈ l∧gi a x.2=(r:Int) - 1):=by
 unfold nv
 cases hc:(decide (v<0)&&(es[i]?.getD []).any (λx=>gi a x.2==(r:Int) - 1)) with
 | false=>exact .inl rfl
 | true =>
  rw[a1_,h1_,i9_] at hc
  obtain⟨h1,x,hx,hg⟩:=hc
  cases he:es[i]? with
  | none =>
   rw[he] at hx
   cases hx
  | some l =>
   rw[he] at hx
   exact .inr ⟨rfl,h1,l,x,rfl,hx,f5_.1 hg⟩
theorem cc0 {a b:List Int} {f:Nat→Int→Int} (h:∀ j:Nat,b[j]?=(a[j]?).map (f j)) {x v:Int} (hx:at? a x=some v):at? b x=some (f x.toNat v):=by
 obtain⟨q1,q2,q3⟩:=dc_ hx
 rw[show x=((x.toNat:Nat):Int) by omega,be5,h,c1_,q3]
 rfl
theorem cp5 {es:List (List ac_)} {fin:Nat→Bool} {r:Nat} {a b:List Int} (hr:1≤r) (hes:es.length=a.length) (hx:∀ l ∈ es,∀ x ∈ l,0≤x.2∧x.2<(a.length:Int)) (h:RnI es fin r a) (hb:∀ j:Nat,b[j]?=(a[j]?).map (nv es a r j)):RnI es fin (r+1) b:=by
 have back:∀ {i:Nat} {w:Int},b[i]?=some w→∃ v,a[i]?=some v∧w=nv es a r i v:=λ{i w} hw=>by
  rw[hb] at hw
  obtain⟨v,hv,rfl⟩:=f7_.1 hw
  exact⟨v,hv,rfl⟩
 refine⟨λi w hw => ?_,λi w hw => ?_,λi k hk => ?_,λi l x k hl hxl hat hkr => ?_⟩
 ·obtain⟨v,hv,rfl⟩:=back hw
  have:=h.b i v hv
  rcases mt_ es a r i v with e | ⟨e,_⟩
  ·rw[e];omega
  ·rw[e];omega
 ·obtain⟨v,hv,rfl⟩:=back hw
  have hz:=h.z i v hv
  rcases mt_ es a r i v with e | ⟨e,hneg,_⟩
  ·rw[e];exact hz
  ·rw[e,← hz]
   constructor
   ·intro h;omega
   ·intro h;omega
 ·obtain⟨v,hv,e0⟩:=back hk
  rcases mt_ es a r i v with e | ⟨e,hneg,l,x,hl,hxl,hg⟩
  ·rw[e] at e0
   obtain⟨l,x,hl,hxl,hat⟩:=h.dn i k (by rw[hv,← e0])
   exact⟨l,x,hl,hxl,by rw[cc0 hb hat,ac4 (by omega)]⟩
  ·rw[e] at e0
   have hb2:=hx l (au_ hl) x hxl
   have hat:=nd_ (l:=a) hb2.1 hb2.2
   refine⟨l,x,hl,hxl,?_⟩
   rw[cc0 hb hat,ac4 (by omega),hg]
   congr 1
   omega
 ·have hb2:=hx l (au_ hl) x hxl
  have hata:=nd_ (l:=a) hb2.1 hb2.2
  have hatb:=cc0 hb hata
  rw[hat] at hatb
  have hk:=a6_ hatb
  obtain⟨q1,q2,q3⟩:=dc_ hata
  have hbnd:=h.b _ _ q3
  have hgk:gi a x.2=(k:Int):=by
   rcases mt_ es a r x.2.toNat (gi a x.2) with e | ⟨e,_⟩
   ·rw[← e,← hk]
   ·rw[e] at hk;omega
  obtain⟨v,hv⟩:=bb_ (l:=a) (i:=i) (by have:=am_ hl;omega)
  have hvb:b[i]?=some (nv es a r i v):=by rw[hb,hv];rfl
  by_cases hv0:0≤v
  ·by_cases hkr2:k+2≤r
   ·obtain⟨v',e,r1,r2⟩:=h.up i l x k hl hxl (by rw[hata,hgk]) hkr2
    rw[hv] at e
    obtain rfl:=a6_ e
    exact⟨v,by rw[hvb,ac4 hv0],r1,r2⟩
   ·have:=h.b i v hv
    exact⟨v,by rw[hvb,ac4 hv0],hv0,by omega⟩
  ·by_cases hkr2:k+2≤r
   ·obtain⟨v',e,r1,r2⟩:=h.up i l x k hl hxl (by rw[hata,hgk]) hkr2
    rw[hv] at e
    obtain rfl:=a6_ e
    exact absurd r1 hv0
   ·have:nv es a r i v=(r:Int):=by
     unfold nv
     rw[b6_ (by omega),hl,c2_]
     rw[show ((some l).getD [])=l from rfl,i9_.2 ⟨x,hxl,by rw[f5_,hgk];omega⟩]
     rfl
    exact⟨_,hvb,by rw[this];omega,by rw[this];omega⟩
theorem RnI_end {es:List (List ac_)} {fin:Nat→Bool} {r:Nat} {a:List Int} (hx:∀ l ∈ es,∀ x ∈ l,0≤x.2∧x.2<(a.length:Int)) (hes:es.length=a.length) (h:RnI es fin r a) (hs:∀ (i:Nat) (v:Int),a[i]?=some v→nv es a r i v=v):LC es fin a:=by
 refine⟨λi v hv=>by have:=h.b i v hv;omega,h.z,h.dn,λi l x k hl hxl hat => ?_⟩
 obtain⟨v,hv⟩:=bb_ (l:=a) (i:=i) (by have:=am_ hl;omega)
 by_cases hkr2:k+2≤r
 ·exact h.up i l x k hl hxl hat hkr2
 ·obtain⟨q1,q2,q3⟩:=dc_ hat
  have hb1:=h.b _ _ q3
  have hb2:=h.b _ _ hv
  have hn:=hs i v hv
  by_cases hv0:0≤v
  ·exact⟨v,hv,hv0,by omega⟩
  ·exfalso
   unfold nv at hn
   rw[b6_ (by omega),hl,c2_] at hn
   rw[show ((some l).getD [])=l from rfl,i9_.2 ⟨x,hxl,by rw[f5_,jf_ hat];omega⟩] at hn
   have:(r:Int)=v:=hn
   omega
theorem cd1 {g:ad_} {ps:List aa_} (es:List (List ac_)):RnI es (pu_ g ps) 1 (xg_ g ps):=by
 refine⟨λi v hv => ?_,λi v hv => ?_,λi k hk => ?_,λi l x k _ _ _ hk=>by omega⟩
 ·rcases qz_ hv with ⟨rfl,_⟩ | ⟨rfl,_⟩
  ·exact .inr ⟨by omega,by omega⟩
  ·exact .inl rfl
 ·rcases qz_ hv with ⟨rfl,h⟩ | ⟨rfl,h⟩
  ·exact⟨λ_=>h,λ_=>rfl⟩
  ·rw[h]
   exact⟨λe=>by omega,λe=>by cases e⟩
 ·rcases qz_ hk with ⟨e,_⟩ | ⟨e,_⟩<;>omega
theorem cb7 {l:List ac_} (q:ac_→Bool) {b:List Int} {i:Nat} {v r:Int} (hv:b[i]?=some v) (hr:0≤r) {υ:Type} {body:(Bool×(Int×(List Int×Unit)))→Option ((Bool×(Int×(List Int×Unit)))⊕(Bool×(List Int×Unit)))} {c:Bool} {K:(Bool×(List Int×Unit))→Option υ} {x:Option υ} (hl:Sm l.length)
  (hA:∀ (k:Nat) c b' y,b'[i]?=some y→0≤y→body (c,((k:Int),(b',())))=some (.inr (c,(b',()))))
  (hB:∀ c b',body (c,((l.length:Int),(b',())))=some (.inr (c,(b',()))))
  (hC:∀ (k:Nat) e,l[k]?=some e→v<0→body (c,((k:Int),(b,())))=some (.inl (cond (q e) (true,(w64 ((k:Int)+1),(b.set i r,()))) (c,(w64 ((k:Int)+1),(b,()))))))
  (hk:K (cond (decide (v<0)&&l.any q) (true,(b.set i r,())) (c,(b,())))=x):(af_ body (c,(0,(b,())))).bind K=x:=by
 by_cases hv0:0≤v
 ·rw[b9_ (by omega)] at hk
  have e0:af_ body (c,(0,(b,())))=some (c,(b,())):=br_ (hA 0 c b v hv hv0)
  rw[e0,a0_]
  exact hk
 ·rw[b6_ (by omega),c2_] at hk
  have gen:∀ (m k:Nat),k+m=l.length→af_ body (c,((k:Int),(b,())))=some (cond ((l.drop k).any q) (true,(b.set i r,())) (c,(b,()))):=by
   intro m
   induction m with
   | zero =>
    intro k hk
    obtain rfl:k=l.length:=by omega
    rw[o5_]
    exact br_ (hB c b)
   | succ m ih =>
    intro k hk
    have hkl:k<l.length:=by omega
    obtain⟨e,he⟩:=bb_ hkl
    have hd:l.drop k=e::l.drop (k+1):=by
     rw[j3_ hkl]
     rw[a7_ hkl] at he
     rw[a6_ he]
    have h1:=hC k e he (by omega)
    rw[az_ (show Sm k by unfold Sm at hl ⊢; omega)] at h1
    rw[hd,o7_]
    cases hq:q e with
    | true =>
     rw[hq] at h1
     refine bp_ h1 (br_ (hA (k+1) true (b.set i r) r ?_ hr))
     rw[e3_ (am_ hv)]
    | false =>
     rw[hq] at h1
     exact bp_ h1 (ih (k+1) (by omega))
  have:=gen l.length 0 (by omega)
  rw[List.drop_zero] at this
  have e0:af_ body (c,(0,(b,())))=some (cond (l.any q) (true,(b.set i r,())) (c,(b,()))):=this
  rw[e0,a0_]
  exact hk
def kp (act:Int) (x:ac_):Bool:=!(x.1.2.1==4&&x.1.2.2==act)
def esF (act:Int) (es:List (List ac_)):List (List ac_):=es.map λl=>l.filter (kp act)
theorem does_eq (x:ac_) (act:Int):og_ x act=some (!(kp act x),()):=by
 unfold og_ kp
 cases x.1.2.1==4 with
 | false=>rfl
 | true=>cases x.1.2.2==act<;>rfl
theorem esF_len (act:Int) (es:List (List ac_)):(esF act es).length=es.length:=d2_ _
theorem by9 {act:Int} {es:List (List ac_)} {i:Nat} {l:List ac_} (h:es[i]?=some l):(esF act es)[i]?=some (l.filter (kp act)):=by
 unfold esF
 rw[d8_,h]
 rfl
theorem esF_mem {act:Int} {es:List (List ac_)} {l:List ac_} (h:l ∈ esF act es):∃ l' ∈ es,l=l'.filter (kp act):=by
 obtain⟨l',h1,h2⟩:=d1_.1 h
 exact⟨l',h1,h2.symm⟩
theorem esF_all {es:List (List ac_)} {act:Int} (h:∀ l ∈ es,∀ x ∈ l,x.1.2.1=4→x.1.2.2≠act):esF act es=es:=by
 unfold esF
 refine e5_ (m6_ λl hl => ?_) (List.map_id _)
 refine m8_.2 λx hx => ?_
 unfold kp
 cases hk:x.1.2.1==4 with
 | false=>rfl
 | true =>
  have:=h l hl x hx (f5_.1 hk)
  rw[c2_,l6_,o8_]
  exact this
theorem tp_ {σ ρ υ:Type} (n:Nat) (Inv:Nat→σ→Prop) {body:σ→Option (σ⊕ρ)} {z0:σ} {K:ρ→Option υ} {Q:υ→Prop} (h0:Inv 0 z0)
  (hs:∀ j z,j<n→Inv j z→∃ z',body z=some (.inl z')∧Inv (j+1) z') (he:∀ z,Inv n z→∃ r,body z=some (.inr r)∧∃ y,K r=some y∧Q y):∃ y,(af_ body z0).bind K=some y∧Q y:=by
 have gen:∀ (k i:Nat) (z:σ),i+k=n→Inv i z→∃ r,af_ body z=some r∧∃ y,K r=some y∧Q y:=by
  intro k
  induction k with
  | zero =>
   intro i z hi hz
   obtain rfl:i=n:=by omega
   obtain⟨r,e,hr⟩:=he z hz
   exact⟨r,br_ e,hr⟩
  | succ k ih =>
   intro i z hi hz
   obtain⟨z',e,hz'⟩:=hs i z (by omega) hz
   obtain⟨r,er,hr⟩:=ih (i+1) z' (by omega) hz'
   exact⟨r,bp_ e er,hr⟩
 obtain⟨r,e,hr⟩:=gen n 0 z0 (by omega) h0
 rw[e,a0_]
 exact hr
theorem bs5:∀ {a b:List Int},a.length=b.length→(∀ (j:Nat) (v w:Int),a[j]?=some v→b[j]?=some w→w<0→v<0)→(mu_ b≤mu_ a∧((∃ (j:Nat) (v w:Int),a[j]?=some v∧b[j]?=some w∧v<0∧0≤w)→mu_ b<mu_ a))
 | [],[],_,_=>⟨c3_ _,λ⟨j,v,w,h,_⟩=>by simp at h⟩
 | [],_::_,h,_=>by cases h
 | _::_,[],h,_=>by cases h
 | x::a,y::b,h,hm=>by
  obtain⟨h1,h2⟩:=bs5 (a:=a) (b:=b) (by simpa using h) λj v w hv hw=>hm (j+1) v w hv hw
  have h3:=hm 0 x y rfl rfl
  have ea:mu_ (x::a)=mu_ a+(if x<0 then 1 else 0):=by unfold mu_;rw[i0_];simp
  have eb:mu_ (y::b)=mu_ b+(if y<0 then 1 else 0):=by unfold mu_;rw[i0_];simp
  rw[ea,eb]
  refine⟨by split<;>split<;>omega,λ⟨j,v,w,hv,hw,hv0,hw0⟩ => ?_⟩
  match j with
  | 0 =>
   obtain rfl:x=v:=a6_ hv
   obtain rfl:y=w:=a6_ hw
   rw[if_pos hv0,if_neg (by omega)]
   omega
  | j+1 =>
   have:=h2 ⟨j,v,w,hv,hw,hv0,hw0⟩
   split<;>split<;>omega
theorem av6 {es:List (List ac_)} {fin:Nat→Bool} {n:Nat} (hn:n≤3000) (hes:es.length=n) (hx:∀ l ∈ es,∀ x ∈ l,0≤x.2∧x.2<(n:Int)) {υ:Type} {body:(Int×(Bool×(List Int×Unit)))→Option ((Int×(Bool×(List Int×Unit)))⊕(List Int×Unit))} {K:(List Int×Unit)→Option υ} {Q:υ→Prop} {a0:List Int}
  (h0:RnI es fin 1 a0) (hl0:a0.length=n)
  (hend:∀ (r:Int) a,body (r,(false,(a,())))=some (.inr (a,())))
  (hstep:∀ (r:Nat) a,1≤r→r≤n+1→a.length=n→RnI es fin r a→∃ y,body ((r:Int),(true,(a,())))=some y∧∃ ch b,y = .inl (((r+1:Nat):Int),(ch,(b,())))∧b.length=n∧(∀ j:Nat,b[j]?=(a[j]?).map (nv es a r j))∧(ch=true↔∃ (j:Nat) (v:Int),a[j]?=some v∧nv es a r j v≠v))
  (hK:∀ D:List Int,D.length=n→LC es fin D→∃ y,K (D,())=some y∧Q y):∃ y,(af_ body (1,(true,(a0,())))).bind K=some y∧Q y:=by
 have gen:∀ (m:Nat) (r:Nat) (a:List Int),mu_ a=m→1≤r→r+m≤n+1→a.length=n→RnI es fin r a→∃ D,af_ body ((r:Int),(true,(a,())))=some (D,())∧D.length=n∧LC es fin D:=by
  intro m
  induction m using Nat.strongRecOn with
  | _ m ih =>
   intro r a hm hr hrm hl hR
   obtain⟨y,ey,ch,b,rfl,hb,hbj,hch⟩:=hstep r a hr (by omega) hl hR
   have hR2:=cp5 hr (by omega) (by rw[hl];exact hx) hR hbj
   cases ch with
   | false =>
    refine⟨b,bp_ ey (br_ (hend _ b)),hb,?_⟩
    have hs:∀ (i:Nat) (v:Int),a[i]?=some v→nv es a r i v=v:=λi v hv=>Classical.byContradiction λhne=>by
     have:=hch.2 ⟨i,v,hv,hne⟩
     cases this
    have hab:a=b:=f2_ λi=>by
     rw[hbj]
     cases hv:a[i]? with
     | none=>rfl
     | some v=>rw[g6_,hs i v hv]
    rw[← hab]
    exact RnI_end (by rw[hl];exact hx) (by omega) hR hs
   | true =>
    obtain⟨j,v,hv,hne⟩:=hch.1 rfl
    have hlt:mu_ b<mu_ a:=by
     refine (bs5 (a:=a) (b:=b) (by omega) λj v w hv hw hw0 => ?_).2 ?_
     ·rw[hbj,hv] at hw
      have hw:=a6_ hw
      rcases mt_ es a r j v with e | ⟨e,h1,_⟩
      ·rw[e] at hw;omega
      ·exact h1
     ·rcases mt_ es a r j v with e | ⟨e,h1,_⟩
      ·exact absurd e hne
      ·exact⟨j,v,nv es a r j v,hv,by rw[hbj,hv];rfl,h1,by rw[e];omega⟩
    obtain⟨D,eD,hD⟩:=ih (mu_ b) (by omega) (r+1) b rfl (by omega) (by omega) hb hR2
    exact⟨D,bp_ ey eD,hD⟩
 have hneg:=bs6 a0
 obtain⟨D,eD,hD1,hD2⟩:=gen (mu_ a0) 1 a0 rfl (c3_ _) (by omega) hl0 h0
 have eD:af_ body (1,(true,(a0,())))=some (D,()):=eD
 rw[eD,a0_]
 exact hK D hD1 hD2
theorem ug_ {g:ad_} (hg:SmG g) (h0:cl_ g=0) {ps:List aa_} {es:List (List ac_)} (hG:GI g ps es) (hes:es.length=ps.length)
  (act:Int):∃ D,ic_ g (ps,es) act=some (D,())∧D.length=ps.length∧LC (esF act es) (pu_ g ps) D:=by
 have ok:=ct_ h0
 have okr:=bn_ ok.room
 have hn:=hG.pI.n
 have hgo:=hg.go
 have hx:∀ l ∈ es,∀ x ∈ l,0≤x.2∧x.2<(ps.length:Int):=λl hl x hx=>(hG.eI l hl x hx).1
 have hfin:∀ p ∈ ps,cz_ g p=some (dm_ p.1.1 g.1.2.2.2.2.2.2.2,()):=λp hp=>by
  have hv:=(hG.pI.v p hp).st
  have hl1:=hv.l1
  obtain⟨c1,c2⟩:=sk_ hg.room.th okr.go
  unfold cz_
  rw[hj_ (s:=p.1) (show Sm _ by show _≤1000000000;omega) (by show InC p.1.1.length _;rw[hl1];exact c1)]
  rfl
 have hxF:∀ l ∈ esF act es,∀ x ∈ l,0≤x.2∧x.2<(ps.length:Int):=λl hl x hxl=>by
  obtain⟨l',h1,rfl⟩:=esF_mem hl
  exact hx l' h1 x (c7_.1 hxl).1
 have hesF:(esF act es).length=ps.length:=by rw[esF_len,hes]
 suffices hk:∃ D,ic_ g (ps,es) act=some D∧(D.1.length=ps.length∧LC (esF act es) (pu_ g ps) D.1) by
  obtain⟨⟨D,u⟩,e,h⟩:=hk
  exact⟨D,e,h⟩
 unfold ic_
 simp only
 rw[ru_ (by omega) (by omega),a0_,c1_]
 refine tp_ ps.length (λ(i:Nat) (z:Int×(List Int×Unit))=>∃ d:List Int,z=((i:Int),(d,()))∧d.length=ps.length∧∀ j:Nat,j<i→d[j]?=(xg_ g ps)[j]?) ⟨_,rfl,f1_,λj hj=>by omega⟩ (λi z hi hz => ?_) (λz hz => ?_)
 ·obtain⟨d,rfl,hd,hdj⟩:=hz
  obtain⟨p,hp⟩:=bb_ hi
  obtain⟨y,hy⟩:=bb_ (l:=d) (i:=i) (by omega)
  have h2:(d.set i (-1))[i]?=some (-1):=e3_ (by omega)
  have hf0:(xg_ g ps)[i]?=some (cond (dm_ p.1.1 g.1.2.2.2.2.2.2.2) 0 (-1)):=by
   unfold xg_
   rw[d8_,hp]
   rfl
  have fin:∀ v:Int,(xg_ g ps)[i]?=some v→∀ j:Nat,j<i+1→(d.set i v)[j]?=(xg_ g ps)[j]?:=λv hv j hj=>by
   rw[g1_]
   by_cases hij:i=j
   ·rw[if_pos hij,if_pos (by omega),← hij,hv]
   ·rw[if_neg hij,hdj j (by omega)]
  refine⟨(((i+1:Nat):Int),(d.set i (cond (dm_ p.1.1 g.1.2.2.2.2.2.2.2) 0 (-1)),())),?_,_,rfl,by rw[f6_,hd],fin _ hf0⟩
  simp only[hd,dlt hi,a5_,ah_ hp,ah_ hy,a0_,hfin p (au_ hp),c1_,ah_ h2,az_ (show Sm i by show _≤1000000000;omega),List.set_set]
  cases dm_ p.1.1 g.1.2.2.2.2.2.2.2<;>rfl
 ·obtain⟨d,rfl,hd,hdj⟩:=hz
  have hdd:d=xg_ g ps:=f2_ λj=>by
   rcases l7_ j ps.length with hj | hj
   ·exact hdj j hj
   ·rw[b8_ (by omega),b8_ (by unfold xg_;rw[d2_];omega)]
  subst hdd
  refine⟨_,by simp only[hd,dnl,a2_];rfl,?_⟩
  simp only
  refine av6 (es:=esF act es) (fin:=pu_ g ps) hn hesF hxF (cd1 (esF act es)) hd (λr a=>rfl) (λr a hr hrn hl hR => ?_) (λD hD1 hD2=>⟨_,rfl,hD1,hD2⟩)
  simp only[a5_]
  refine tp_ ps.length (λ(i:Nat) (z:Bool×(Int×(List Int×Unit)))=>∃ (ch:Bool) (b:List Int),z=(ch,((i:Int),(b,())))∧b.length=ps.length∧(∀ j:Nat,b[j]?=if j<i then (a[j]?).map (nv (esF act es) a r j) else a[j]?)∧(ch=true↔∃ (j:Nat) (v:Int),j<i∧a[j]?=some v∧nv (esF act es) a r j v≠v)) ⟨false,a,rfl,hl,λj=>by simp,by simp⟩ (λi z hi hz => ?_) (λz hz => ?_)
  ·obtain⟨ch,b,rfl,hb,hbj,hch⟩:=hz
   obtain⟨row,hrow⟩:=bb_ (l:=es) (i:=i) (by omega)
   obtain⟨v,hv⟩:=bb_ (l:=a) (i:=i) (by omega)
   have hvb:b[i]?=some v:=by rw[hbj,if_neg (by omega),hv]
   have hrl:=hG.eL row (au_ hrow)
   have hgi:∀ x ∈ row,(gi b x.2==(r:Int) - 1)=(gi a x.2==(r:Int) - 1):=λx hxr=>by
    obtain⟨x0,x1⟩:=hx row (au_ hrow) x hxr
    obtain⟨u,hu⟩:=bb_ (l:=a) (i:=x.2.toNat) (by omega)
    have ea:gi a x.2=u:=jf_ (by rw[show x.2=((x.2.toNat:Nat):Int) by omega];exact ah_ hu)
    have eb:∀ w,b[x.2.toNat]?=some w→gi b x.2=w:=λw hw=>jf_ (by rw[show x.2=((x.2.toNat:Nat):Int) by omega];exact ah_ hw)
    have hbx:=hbj x.2.toNat
    split at hbx
    ·rw[hu] at hbx
     rw[ea,eb _ hbx]
     rcases mt_ (esF act es) a r x.2.toNat u with e | ⟨e,h1,_⟩
     ·rw[e]
     ·rw[e,k6_,f5_,f5_]
      omega
    ·rw[hu] at hbx
     rw[ea,eb _ hbx]
   have hany:row.any (λx=>kp act x&&gi b x.2==(r:Int) - 1)=(row.filter (kp act)).any (λx=>gi a x.2==(r:Int) - 1):=by
    rw[List.any_filter,k6_,i9_,i9_]
    exact⟨λ⟨x,h1,h2⟩=>⟨x,h1,by rw[← hgi x h1];exact h2⟩,λ⟨x,h1,h2⟩=>⟨x,h1,by rw[hgi x h1];exact h2⟩⟩
   have hnv:nv (esF act es) a r i v=cond (decide (v<0)&&row.any (λx=>kp act x&&gi b x.2==(r:Int) - 1)) (r:Int) v:=by
    unfold nv
    rw[by9 hrow,hany]
    rfl
   refine⟨(cond (decide (v<0)&&row.any (λx=>kp act x&&gi b x.2==(r:Int) - 1)) true ch,(((i+1:Nat):Int),(cond (decide (v<0)&&row.any (λx=>kp act x&&gi b x.2==(r:Int) - 1)) (b.set i (r:Int)) b,()))),?_,_,_,rfl,?_,λj => ?_,?_⟩
   ·simp only[hb,dlt hi,a5_]
    refine cb7 (l:=row) (λx=>kp act x&&gi b x.2==(r:Int) - 1) (r:=(r:Int)) hvb (by omega) (by show _≤1000000000;omega) (λk c b' y hy hy0 => ?_) (λc b' => ?_) (λk e he hv0 => ?_) ?_
    ·simp only[ah_ hrow,a0_,ah_ hy,b9_ (show ¬ y<0 by omega)]
     cases decide ((k:Int)<(row.length:Int))<;>rfl
    ·simp only[ah_ hrow,a0_,dnl,a2_]
    ·obtain⟨x0,x1⟩:=hx row (au_ hrow) e (au_ he)
     simp only[ah_ hrow,a0_,dlt (am_ he),a5_,ah_ hvb,b6_ hv0,ah_ he,nd_ (l:=b) x0 (by omega),does_eq,ez_ (n:=(r:Int) - 1) (by omega) (by omega),c1_]
     cases gi b e.2==(r:Int) - 1<;>cases kp act e<;>rfl
    ·simp only[az_ (show Sm i by show _≤1000000000;omega)]
     cases (decide (v<0)&&row.any (λx=>kp act x&&gi b x.2==(r:Int) - 1))<;>rfl
   ·cases (decide (v<0)&&row.any (λx=>kp act x&&gi b x.2==(r:Int) - 1)) with
    | true=>simp only[a5_,f6_,hb]
    | false=>exact hb
   ·rcases o0_ j i with hj | hj | hj
    ·rw[if_pos (by omega)]
     have:=hbj j
     rw[if_pos hj] at this
     cases (decide (v<0)&&row.any (λx=>kp act x&&gi b x.2==(r:Int) - 1)) with
     | true=>rw[a5_,b5_ (by omega),this]
     | false=>exact this
    ·subst hj
     rw[if_pos (by omega),hv,g6_,hnv]
     cases (decide (v<0)&&row.any (λx=>kp act x&&gi b x.2==(r:Int) - 1)) with
     | true=>rw[a5_,a5_,e3_ (by omega)]
     | false=>exact hvb
    ·rw[if_neg (by omega)]
     have:=hbj j
     rw[if_neg (by omega)] at this
     cases (decide (v<0)&&row.any (λx=>kp act x&&gi b x.2==(r:Int) - 1)) with
     | true=>rw[a5_,b5_ (by omega),this]
     | false=>exact this
   ·cases hc:(decide (v<0)&&row.any (λx=>kp act x&&gi b x.2==(r:Int) - 1)) with
    | true =>
     rw[hc] at hnv
     rw[a1_,h1_] at hc
     exact⟨λ_=>⟨i,v,by omega,hv,by rw[hnv];show (r:Int)≠v;omega⟩,λ_=>rfl⟩
    | false =>
     rw[hc] at hnv
     rw[a2_,hch]
     constructor
     ·rintro⟨j,w,h1,h2⟩
      exact⟨j,w,by omega,h2⟩
     ·rintro⟨j,w,h1,h2,h3⟩
      rcases l7_ j i with hj | hj
      ·exact⟨j,w,hj,h2,h3⟩
      ·obtain rfl:j=i:=by omega
       rw[hv] at h2
       obtain rfl:=a6_ h2
       exact absurd hnv h3
  ·obtain⟨ch,b,rfl,hb,hbj,hch⟩:=hz
   refine⟨_,by simp only[hb,dnl,a2_];rfl,?_⟩
   refine⟨_,rfl,ch,b,by simp only[az_ (show Sm r by show _≤1000000000;omega)],hb,λj => ?_,?_⟩
   ·rw[hbj]
    split
    ·rfl
    ·rw[b8_ (by omega)]
     rfl
   ·rw[hch]
    constructor
    ·rintro⟨j,w,_,h2⟩
     exact⟨j,w,h2⟩
    ·rintro⟨j,w,h2,h3⟩
     exact⟨j,w,by have:=am_ h2;omega,h2,h3⟩
end
section
set_option maxRecDepth 10000
def BkI (es:List (List ac_)) (n i:Nat) (bk:List (List Int)):Prop :=
 bk.length=n∧∀ (t:Nat) l,bk[t]?=some l→l.length≤i * 480∧∀ y:Int,y ∈ l↔∃ j:Nat,j<i∧y=(j:Int)∧∃ row,es[j]?=some row∧∃ x ∈ row,x.2=(t:Int)
theorem BkI_all {es:List (List ac_)} {n:Nat} {bk:List (List Int)} (h:BkI es n es.length bk) {t:Nat} {l:List Int} (hl:bk[t]?=some l) (y:Int):y ∈ l↔∃ j:Nat,y=(j:Int)∧∃ row,es[j]?=some row∧∃ x ∈ row,x.2=(t:Int):=by
 rw[(h.2 t l hl).2 y]
 exact⟨λ⟨j,_,h⟩=>⟨j,h⟩,λ⟨j,h1,row,h2,h3⟩=>⟨j,am_ h2,h1,row,h2,h3⟩⟩
structure BI (es:List (List ac_)) (fin:Nat→Bool) (n:Nat) (near far:List Int):Prop where
 len:far.length=n
 lo:∀ (i:Nat) (v:Int),far[i]?=some v→-1≤v
 z:∀ (i:Nat) (v:Int),far[i]?=some v→(v=0↔fin i=true)
 dn:∀ (i k:Nat),far[i]?=some ((k+1:Nat):Int)→∃ l x,es[i]?=some l∧x ∈ l∧at? far x.2=some (k:Int)
 nr:∀ x ∈ near,∃ v,at? far x=some v∧0≤v
 pw:near.Pairwise (λx y=>gi far x≤gi far y)
 top:∀ x ∈ near,∀ (i:Nat) (v:Int),far[i]?=some v→v≤gi far x+1
 up:∀ (i:Nat) (l:List ac_) (x:ac_) (k:Nat),es[i]?=some l→x ∈ l→at? far x.2=some (k:Int)→x.2 ∉ near→∃ v,far[i]?=some v∧0≤v∧v≤(k:Int)+1
 bd:∀ (i:Nat) (v:Int),far[i]?=some v→v+(mu_ far:Int)≤(n:Int)
 ms:near.length+mu_ far≤n
theorem BI_end {es:List (List ac_)} {fin:Nat→Bool} {n:Nat} {far:List Int} (h:BI es fin n [] far):LC es fin far :=
 ⟨h.lo,h.z,h.dn,λi l x k hl hx hat=>h.up i l x k hl hx hat (λh=>by cases h)⟩
structure AI (bs:List Int) (d:Int) (far:List Int) (b:Nat) (pu far':List Int):Prop where
 len:far'.length=far.length
 keep:∀ (i:Nat) (v:Int),far[i]?=some v→0≤v→far'[i]?=some v
 neg:∀ (i:Nat) (v:Int),far[i]?=some v→v<0→far'[i]?=some v∨(far'[i]?=some (d+1)∧(i:Int) ∈ pu∧(i:Int) ∈ bs)
 pI:∀ x ∈ pu,at? far' x=some (d+1)∧∃ w,at? far x=some w∧w<0
 done:∀ y ∈ bs.take b,∃ v,at? far' y=some v∧0≤v
 ms:mu_ far'+pu.length=mu_ far
theorem cq0 (bs:List Int) (d:Int) (far:List Int):AI bs d far 0 [] far :=
 ⟨rfl,λ_ _ h _=>h,λ_ _ h _=>.inl h,λ_ h=>(by cases h),λy h=>by rw[l2_] at h; (cases h),rfl⟩
theorem sn_ {α:Type} {a:List α} {x:Int} {v:α} (h:at? a x=some v):∃ i:Nat,x=(i:Int)∧a[i]?=some v:=by
 obtain⟨q1,q2,q3⟩:=dc_ h
 exact⟨x.toNat,by omega,q3⟩
theorem AI_skip {bs:List Int} {d:Int} {far:List Int} {b:Nat} {pu far':List Int} (h:AI bs d far b pu far') {y v:Int} (hy:bs[b]?=some y) (hv:at? far' y=some v) (hv0:0≤v):AI bs d far (b+1) pu far':=by
 refine⟨h.len,h.keep,h.neg,h.pI,λz hz => ?_,h.ms⟩
 rw[d7_,hy] at hz
 rcases b3_.1 hz with hz | hz
 ·exact h.done z hz
 ·have:z=y:=by simpa using hz
  rw[this]
  exact⟨v,hv,hv0⟩
theorem AI_add {bs:List Int} {d:Int} (hd:0≤d) {far:List Int} {b:Nat} {pu far':List Int} (h:AI bs d far b pu far') {y v:Int} (hy:bs[b]?=some y) (hv:at? far' y=some v) (hv0:v<0):AI bs d far (b+1) (pu++[y]) (far'.set y.toNat (d+1)):=by
 obtain⟨i,rfl,hi⟩:=sn_ hv
 rw[c1_]
 have hlt:=am_ hi
 have hself:(far'.set i (d+1))[i]?=some (d+1):=e3_ hlt
 have hfi:∃ w,far[i]?=some w∧w<0:=by
  obtain⟨w,hw⟩:=bb_ (l:=far) (i:=i) (by have:=h.len;omega)
  refine⟨w,hw,Classical.byContradiction λhc => ?_⟩
  have:=h.keep i w hw (by omega)
  rw[hi] at this
  have:=a6_ this
  omega
 have hat:∀ {x w:Int},at? far' x=some w→0≤w→at? (far'.set i (d+1)) x=some w:=λ{x w} hx hw=>by
  obtain⟨j,rfl,hj⟩:=sn_ hx
  refine ah_ ?_
  by_cases hij:i=j
  ·subst hij
   rw[hi] at hj
   have:=a6_ hj
   omega
  ·rw[b5_ hij]
   exact hj
 refine⟨by rw[f6_,h.len],λj w hw hw0 => ?_,λj w hw hw0 => ?_,λx hx => ?_,λz hz => ?_,?_⟩
 ·have:=h.keep j w hw hw0
  by_cases hij:i=j
  ·subst hij
   rw[hi] at this
   have:=a6_ this
   omega
  ·rw[b5_ hij]
   exact this
 ·by_cases hij:i=j
  ·subst hij
   exact .inr ⟨hself,j4_ _ (e6_.2 rfl),au_ hy⟩
  ·rw[b5_ hij]
   rcases h.neg j w hw hw0 with h1 | ⟨h1,h2,h3⟩
   ·exact .inl h1
   ·exact .inr ⟨h1,h7_ _ h2,h3⟩
 ·rcases b3_.1 hx with hx | hx
  ·obtain⟨h1,h2⟩:=h.pI x hx
   exact⟨hat h1 (by omega),h2⟩
  ·rw[e6_] at hx
   rw[hx]
   obtain⟨w,hw,hw0⟩:=hfi
   exact⟨ah_ hself,w,ah_ hw,hw0⟩
 ·rw[d7_,hy] at hz
  rcases b3_.1 hz with hz | hz
  ·obtain⟨w,h1,h2⟩:=h.done z hz
   exact⟨w,hat h1 h2,h2⟩
  ·have:z=(i:Int):=by simpa using hz
   rw[this]
   exact⟨d+1,ah_ hself,by omega⟩
 ·have:=az9 hi hv0 (show (0:Int)≤d+1 by omega)
  have:=h.ms
  rw[a8_,d3_]
  omega
theorem BI_step {es:List (List ac_)} {fin:Nat→Bool} {n:Nat} (hes:es.length=n) (hx:∀ l ∈ es,∀ x ∈ l,0≤x.2∧x.2<(n:Int)) {h:Int} {tl far:List Int} (I:BI es fin n (h::tl) far) {bs:List Int} {d:Int} (hd:at? far h=some d)
  (hbs:∀ y:Int,y ∈ bs↔∃ j:Nat,y=(j:Int)∧∃ row,es[j]?=some row∧∃ x ∈ row,x.2=h) {pu far':List Int} (A:AI bs d far bs.length pu far'):BI es fin n (tl++pu) far':=by
 have hd0:0≤d:=by
  obtain⟨v,h1,h2⟩:=I.nr h (e1_ ..)
  rw[hd] at h1
  have:=a6_ h1
  omega
 have hgd:gi far h=d:=jf_ hd
 have hms:=A.ms
 have cs:∀ (i:Nat) (v:Int),far'[i]?=some v→far[i]?=some v∨(v=d+1∧(i:Int) ∈ pu∧(i:Int) ∈ bs∧1≤pu.length∧∃ w,far[i]?=some w∧w<0):=λi v hv=>by
  obtain⟨w,hw⟩:=bb_ (l:=far) (i:=i) (by have:=am_ hv;have:=A.len;omega)
  by_cases hw0:0≤w
  ·have:=A.keep i w hw hw0
   rw[hv] at this
   rw[a6_ this]
   exact .inl hw
  ·rcases A.neg i w hw (by omega) with h1 | ⟨h1,h2,h3⟩
   ·rw[hv] at h1
    rw[a6_ h1]
    exact .inl hw
   ·rw[hv] at h1
    have hne:1≤pu.length:=by
     cases pu with
     | nil=>cases h2
     | cons _ _=>simp
    exact .inr ⟨a6_ h1,h2,h3,hne,w,hw,by omega⟩
 have keepA:∀ {x v:Int},at? far x=some v→0≤v→at? far' x=some v:=λ{x v} hx hv=>by
  obtain⟨i,rfl,hi⟩:=sn_ hx
  exact ah_ (A.keep i v hi hv)
 have gk:∀ x ∈ tl,gi far' x=gi far x:=λx hx=>by
  obtain⟨v,h1,h2⟩:=I.nr x (d5_ _ hx)
  rw[jf_ h1,jf_ (keepA h1 h2)]
 have gp:∀ x ∈ pu,gi far' x=d+1:=λx hx=>jf_ (A.pI x hx).1
 have htop:=I.top h (e1_ ..)
 rw[hgd] at htop
 obtain⟨pw1,pw2⟩:=List.pairwise_cons.1 I.pw
 have htl:∀ x ∈ tl,gi far x≤d+1:=λx hx=>by
  obtain⟨v,h1,h2⟩:=I.nr x (d5_ _ hx)
  obtain⟨i,_,hi⟩:=sn_ h1
  rw[jf_ h1]
  exact htop i v hi
 have hle:∀ (i:Nat) (v:Int),far'[i]?=some v→v≤d+1:=λi v hv=>by
  rcases cs i v hv with h1 | ⟨h1,_⟩
  ·exact htop i v h1
  ·omega
 refine⟨by rw[A.len,I.len],λi v hv => ?_,λi v hv => ?_,λi k hk => ?_,λx hx => ?_,?_,λx hx i v hv => ?_,λi l x k hl hxl hat hnn => ?_,λi v hv => ?_,?_⟩
 ·rcases cs i v hv with h1 | ⟨h1,_⟩
  ·exact I.lo i v h1
  ·omega
 ·rcases cs i v hv with h1 | ⟨h1,_,_,_,w,hw,hw0⟩
  ·exact I.z i v h1
  ·have:=I.z i w hw
   rw[← this]
   constructor
   ·intro e;omega
   ·intro e;omega
 ·rcases cs i _ hk with h1 | ⟨h1,h2,h3,_⟩
  ·obtain⟨l,x,a1,a2,a3⟩:=I.dn i k h1
   exact⟨l,x,a1,a2,keepA a3 (by omega)⟩
  ·obtain⟨j,hj,row,hrow,x,hxr,hxe⟩:=(hbs _).1 h3
   obtain rfl:i=j:=by omega
   refine⟨row,x,hrow,hxr,?_⟩
   rw[hxe,show (k:Int)=d by omega]
   exact keepA hd hd0
 ·rcases b3_.1 hx with hx | hx
  ·obtain⟨v,h1,h2⟩:=I.nr x (d5_ _ hx)
   exact⟨v,keepA h1 h2,h2⟩
  ·exact⟨d+1,(A.pI x hx).1,by omega⟩
 ·refine List.pairwise_append.2 ⟨?_,?_,λx hx y hy => ?_⟩
  ·refine List.Pairwise.imp_of_mem (λ{x y} hx hy hr => ?_) pw2
   rw[gk x hx,gk y hy]
   exact hr
  ·refine List.pairwise_of_forall_mem_list (λx hx y hy => ?_)
   rw[gp x hx,gp y hy]
   exact m9_ _
  ·rw[gk x hx,gp y hy]
   exact htl x hx
 ·have h2:=hle i v hv
  rcases b3_.1 hx with hx | hx
  ·rw[gk x hx]
   have:=pw1 x hx
   rw[hgd] at this
   omega
  ·rw[gp x hx]
   omega
 ·have hb:=hx l (au_ hl) x hxl
  obtain⟨xi,hxi,hxk⟩:=sn_ hat
  obtain⟨w,hw⟩:=bb_ (l:=far') (i:=i) (by have:=am_ hl;have:=A.len;have:=I.len;omega)
  rcases cs xi _ hxk with h1 | ⟨_,h2,_⟩
  ·by_cases hxh:x.2=h
   ·have hm:(i:Int) ∈ bs:=(hbs _).2 ⟨i,rfl,l,hl,x,hxl,hxh⟩
    obtain⟨v,h3,h4⟩:=A.done (i:Int) (by rw[d9_];exact hm)
    have h3:far'[i]?=some v:=by rw[← be5];exact h3
    refine⟨v,h3,h4,?_⟩
    have:(k:Int)=d:=by
     have:at? far h=some (k:Int):=by rw[← hxh,hxi];exact ah_ h1
     rw[hd] at this
     exact (a6_ this).symm
    have:=hle i v h3
    omega
   ·obtain⟨v,h3,h4,h5⟩:=I.up i l x k hl hxl (by rw[hxi];exact ah_ h1) (λhm=>by
     rcases d0_.1 hm with hm | hm
     ·exact hxh hm
     ·exact hnn (h7_ _ hm))
    exact⟨v,A.keep i v h3 h4,h4,h5⟩
  ·exact absurd (j4_ _ (by rw[hxi];exact h2)) hnn
 ·rcases cs i v hv with h1 | ⟨h1,_,_,h4,_⟩
  ·have:=I.bd i v h1
   omega
  ·obtain⟨hi,_,hh⟩:=sn_ hd
   have:=I.bd hi d hh
   omega
 ·have:=I.ms
  rw[a8_]
  rw[c4_] at this
  omega
theorem bj3 {υ:Type} {body:(List Int×(List Int×Unit))→Option ((List Int×(List Int×Unit))⊕(List Int×Unit))} {K:(List Int×Unit)→Option υ} {Q:υ→Prop} (Inv:List Int→List Int→Prop) (μ:List Int→List Int→Nat)
  (hs:∀ h tl far,Inv (h::tl) far→∃ y,body (h::tl,(far,()))=some y∧∃ near' far',y = .inl (near',(far',()))∧Inv near' far'∧μ near' far'<μ (h::tl) far)
  (he:∀ far,Inv [] far→∃ r,body ([],(far,()))=some (.inr r)∧∃ y,K r=some y∧Q y) {near far:List Int} (hI:Inv near far):∃ y,(af_ body (near,(far,()))).bind K=some y∧Q y:=by
 have gen:∀ (m:Nat) (near far:List Int),μ near far=m→Inv near far→∃ r,af_ body (near,(far,()))=some r∧∃ y,K r=some y∧Q y:=by
  intro m
  induction m using Nat.strongRecOn with
  | _ m ih =>
   intro near far hm hI
   cases near with
   | nil =>
    obtain⟨r,e,h⟩:=he far hI
    exact⟨r,br_ e,h⟩
   | cons h tl =>
    obtain⟨y,ey,near',far',rfl,h1,h2⟩:=hs h tl far hI
    obtain⟨r,er,hr⟩:=ih _ (by omega) near' far' rfl h1
    exact⟨r,bp_ ey er,hr⟩
 obtain⟨r,e,hr⟩:=gen _ near far rfl hI
 rw[e,a0_]
 exact hr
theorem cd2 {n:Nat} (h:n≤1000000):dy_ [-1] (n:Int)=some (List.replicate n (-1)):=by
 show mk? (n:Int) (-1)=_
 rw[ru_ (by omega) (by omega),c1_]
theorem bs7 (x:Int) (a:List Int):mu_ (x::a)=mu_ a+(if x<0 then 1 else 0):=by unfold mu_;rw[i0_];simp
end
end Go.Proofs.YtgeehfnbhbibeaaGreatDoor.Rx
