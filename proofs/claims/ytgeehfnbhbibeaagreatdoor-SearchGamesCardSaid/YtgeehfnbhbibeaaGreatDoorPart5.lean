/- A part of the proof: what the functions of the program compute, shown over the model. -/
import Derived.KernelRfl
import Derived.Test.YtgeehfnbhbibeaaGreatDoorPart1
import Derived.Test.YtgeehfnbhbibeaaGreatDoorPart4
set_option linter.unusedSectionVars false
set_option linter.unusedVariables false
set_option linter.unusedSimpArgs false
namespace Go.Proofs.YtgeehfnbhbibeaaGreatDoor.Rx
open Go Pad Rex Go.Proofs Go.Proofs.Tryz Sum
section
set_option maxRecDepth 100000
set_option maxHeartbeats 0
noncomputable def ds_ (a0:ac_):Option (aw_×Int×Unit) :=
 ((kj_ a0).bind λv0 =>
 (cond (v0.2.1 != 0)
 (some (([],[]),(v0.2.1,())))
 ((ja_ v0.1).bind λv1 =>
 ((af_ (ρ:=(((List ((List UInt8)×Int))×(((List aa_)×((List (List ae_))×Unit))×(((List aa_)×((List (List ae_))×Unit))×Unit)))⊕(aw_×(Int×Unit)))) (λ(v2:(Int×((List ((List UInt8)×Int))×(((List aa_)×((List (List ae_))×Unit))×(((List aa_)×((List (List ae_))×Unit))×Unit))))) =>
 (cond (decide (v2.1<(v2.2.2.2.1.1.length:Int)))
 ((at? v2.2.2.2.1.1 v2.1).bind λv3 =>
 ((at? v2.2.2.2.1.1 v2.1).bind λv4 =>
 ((ki_ a0 v4).bind λv5 =>
 ((af_ (ρ:=(((List ae_)×((List ((List UInt8)×Int))×(((List aa_)×((List (List ae_))×Unit))×(((List aa_)×Unit)×Unit))))⊕((Int×((List ((List UInt8)×Int))×(((List aa_)×((List (List ae_))×Unit))×(((List aa_)×((List (List ae_))×Unit))×Unit))))⊕(((List ((List UInt8)×Int))×(((List aa_)×((List (List ae_))×Unit))×(((List aa_)×((List (List ae_))×Unit))×Unit)))⊕(aw_×(Int×Unit)))))) (λ(v6:((List ae_)×(Int×((List ((List UInt8)×Int))×(((List aa_)×((List (List ae_))×Unit))×(((List aa_)×Unit)×Unit)))))) =>
 (cond (decide (v6.2.1<(v5.1.length:Int)))
 ((at? v6.2.2.2.2.1.1 v2.1).bind λv7 =>
 ((at? v6.2.2.2.2.1.1 v2.1).bind λv8 =>
 ((at? v5.1 v6.2.1).bind λv9 =>
 ((mg_ a0 v8 v9).bind λv10 =>
 ((ja_ v10.1).bind λv11 =>
 (((cond (!(ag8 v6.2.2.1 v11.1))
 (cond ((v6.2.2.2.2.1.1.length:Int)==3000)
 (some (inr (inr (inr (inr (inr (([],[]),(2,()))))))))
 ((ja_ v10.1).bind λv12 =>
 ((push? (α:=aa_) v6.2.2.2.2.1.1 [v10.1]).bind λv13 =>
 (some (inl ((v6.2.2.2.2.1.1.length:Int),((iq_ v6.2.2.1 v12.1 (v6.2.2.2.2.1.1.length:Int)),((v6.2.2.2.1.1,(v6.2.2.2.1.2.1,())),((v13,()),())))))))))
 (some (inl ((de_ 0 v6.2.2.1 v11.1),(v6.2.2.1,((v6.2.2.2.1.1,(v6.2.2.2.1.2.1,())),((v6.2.2.2.2.1.1,()),())))))))).bind λv14 =>
 (ca_ v14 (λv15=>((at? v5.1 v6.2.1).bind λv17 =>
 ((push? (α:=ae_) v6.1 [(v17,v15.1)]).bind λv18 =>
 (some (inl (v18,((w64 (v6.2.1+1)),(v15.2.1,((v15.2.2.1.1,(v15.2.2.1.2.1,())),((v15.2.2.2.1.1,()),()))))))))))
 (λv16=>(some v16)))))))))
 (some (inr (inl (v6.1,(v6.2.2.1,((v6.2.2.2.1.1,(v6.2.2.2.1.2.1,())),((v6.2.2.2.2.1.1,()),()))))))))) ([],(0,(v2.2.1,((v2.2.2.1.1,(v2.2.2.1.2.1,())),((v2.2.2.2.1.1,()),())))))).bind λv19 =>
 (ca_ v19 (λv20=>((push? (α:=(List ae_)) v2.2.2.2.1.2.1 [v20.1]).bind λv22 =>
 (some (inl ((w64 (v2.1+1)),(v20.2.1,((v20.2.2.1.1,(v20.2.2.1.2.1,())),((v20.2.2.2.1.1,(v22,())),()))))))))
 (λv21=>(some v21)))))))
 (some (inr (inl (v2.2.1,((v2.2.2.1.1,(v2.2.2.1.2.1,())),((v2.2.2.2.1.1,(v2.2.2.2.1.2.1,())),())))))))) (0,((iq_ [] v1.1 0),(([],([],())),(([v0.1],([],())),()))))).bind λv23 =>
 (ca_ v23 (λv24=>(some ((v24.2.2.1.1,v24.2.2.1.2.1),(0,()))))
 (λv25=>(some v25)))))))
theorem x_25:au_ (P:=prog) (cxC [c_58,c_59,c_60,c_61] []) (.p .z (.p .z (.p .z (.p .z (.p .z (.p (.p .z (.ls [.v 8 .int] [] [.m (.s 7) .str .int,.b (.s 2) [.val (.list ak_),.val (.list (.list bq_))],.b (.s 6) [.row ak_ 97,.row (.list bq_) 59]] 0 (.p .z (.p (.p .z (.p .z (.p (.p .z (.ls [.r 10 bq_ 63,.v 11 .int] [.r 10 bq_ 63] [.m (.s 7) .str .int,.b (.s 2) [.val (.list ak_),.val (.list (.list bq_))],.b (.s 6) [.row ak_ 97,.keep]] 2 (.p .z (.p (.p .z (.p .z (.js [.v 13 .int,.m (.s 7) .str .int,.b (.s 2) [.val (.list ak_),.val (.list (.list bq_))],.b (.s 6) [.row ak_ 97,.keep]] .z .z))) .z)))) .z))) .z)))) .z)))))) 25 [an_] [bk_,.int]=λx=>ds_ x.1:=by kernel_rfl
noncomputable def c_25:Con prog:=av_ _ _ 25 [an_] [bk_,.int] _ x_25
noncomputable def ej_ (a0:ac_):Option (aw_×Int×Unit) :=
 ((mk_ a0).bind λv0 =>
 (cond (v0.2.1 != 0)
 (some (([],[]),(v0.2.1,())))
 ((((lh_ v0.1).bind λv1 =>
 (some ((iq_ [] v1.1 0),((([]++[v0.1]),()),()))))).bind λv2 =>
 ((af_ (ρ:=(((List ((List UInt8)×Int))×(((List aa_)×((List (List ae_))×Unit))×(((List aa_)×((List (List ae_))×Unit))×Unit)))⊕(aw_×(Int×Unit)))) (λ(v3:(Int×((List ((List UInt8)×Int))×(((List aa_)×((List (List ae_))×Unit))×(((List aa_)×((List (List ae_))×Unit))×Unit))))) =>
 (cond (decide (v3.1<(v3.2.2.2.1.1.length:Int)))
 ((at? v3.2.2.2.1.1 v3.1).bind λv4 =>
 ((at? v3.2.2.2.1.1 v3.1).bind λv5 =>
 ((qt_ a0 v5).bind λv6 =>
 (cond (v6.2.1 != 0)
 (some (inr (inr (([],[]),(v6.2.1,())))))
 ((af_ (ρ:=(((List ae_)×((List ((List UInt8)×Int))×(((List aa_)×((List (List ae_))×Unit))×(((List aa_)×Unit)×Unit))))⊕((Int×((List ((List UInt8)×Int))×(((List aa_)×((List (List ae_))×Unit))×(((List aa_)×((List (List ae_))×Unit))×Unit))))⊕(((List ((List UInt8)×Int))×(((List aa_)×((List (List ae_))×Unit))×(((List aa_)×((List (List ae_))×Unit))×Unit)))⊕(aw_×(Int×Unit)))))) (λ(v7:((List ae_)×(Int×((List ((List UInt8)×Int))×(((List aa_)×((List (List ae_))×Unit))×(((List aa_)×Unit)×Unit)))))) =>
 (cond (decide (v7.2.1<(v6.1.length:Int)))
 ((at? v6.1 v7.2.1).bind λv8 =>
 ((at? v7.2.2.2.2.1.1 v3.1).bind λv9 =>
 ((at? v7.2.2.2.2.1.1 v3.1).bind λv10 =>
 ((lj_ a0 v10 v8).bind λv11 =>
 (cond (v11.2.1 != 0)
 (some (inr (inr (inr (inr (([],[]),(v11.2.1,())))))))
 ((((lh_ v11.1).bind λv12 =>
 (cond (ag8 v7.2.2.1 v12.1)
 (some ((de_ 0 v7.2.2.1 v12.1),(true,(v7.2.2.1,((v7.2.2.2.2.1.1,()),())))))
 (cond ((v7.2.2.2.2.1.1.length:Int)==3000)
 (some (0,(false,(v7.2.2.1,((v7.2.2.2.2.1.1,()),())))))
 ((push? (α:=aa_) v7.2.2.2.2.1.1 [v11.1]).bind λv13 =>
 (some ((v7.2.2.2.2.1.1.length:Int),(true,((iq_ v7.2.2.1 v12.1 (v7.2.2.2.2.1.1.length:Int)),((v13,()),())))))))))).bind λv14 =>
 (cond (!v14.2.1)
 (some (inr (inr (inr (inr (([],[]),(2,())))))))
 ((push? (α:=ae_) v7.1 [(v8,v14.1)]).bind λv15 =>
 (some (inl (v15,((w64 (v7.2.1+1)),(v14.2.2.1,((v7.2.2.2.1.1,(v7.2.2.2.1.2.1,())),((v14.2.2.2.1.1,()),())))))))))))))))
 (some (inr (inl (v7.1,(v7.2.2.1,((v7.2.2.2.1.1,(v7.2.2.2.1.2.1,())),((v7.2.2.2.2.1.1,()),()))))))))) ([],(0,(v3.2.1,((v3.2.2.1.1,(v3.2.2.1.2.1,())),((v3.2.2.2.1.1,()),())))))).bind λv16 =>
 (ca_ v16 (λv17=>((push? (α:=(List ae_)) v3.2.2.2.1.2.1 [v17.1]).bind λv19 =>
 (some (inl ((w64 (v3.1+1)),(v17.2.1,((v17.2.2.1.1,(v17.2.2.1.2.1,())),((v17.2.2.2.1.1,(v19,())),()))))))))
 (λv18=>(some v18))))))))
 (some (inr (inl (v3.2.1,((v3.2.2.1.1,(v3.2.2.1.2.1,())),((v3.2.2.2.1.1,(v3.2.2.2.1.2.1,())),())))))))) (0,(v2.1,(([],([],())),((v2.2.1.1,([],())),()))))).bind λv20 =>
 (ca_ v20 (λv21=>(some ((v21.2.2.1.1,v21.2.2.1.2.1),(0,()))))
 (λv22=>(some v22)))))))
theorem x_37:au_ (P:=prog) (cxI (λk=>.z) (λk=>Nat.beq k 69||Nat.beq k 71||Nat.beq k 72||Nat.beq k 104||false) (cxC [c_69,c_71,c_72,c_104] []) 2) (.p .z (.p .z (.p .z (.p .z (.j0 [.m (.s 26) .str .int,.b (.s 6) [.row ak_ 97,.keep,.keep]] .z (.p (.p .z (.ls [.v 7 .int] [] [.m (.s 26) .str .int,.b (.s 2) [.val (.list ak_),.val (.list (.list bq_))],.b (.s 6) [.row ak_ 97,.row (.list bq_) 59,.keep]] 0 (.p .z (.p (.p .z (.p .z (.p .z (.p (.p .z (.ls [.r 10 bq_ 63,.v 61 .int] [.r 10 bq_ 63] [.m (.s 26) .str .int,.b (.s 2) [.val (.list ak_),.val (.list (.list bq_))],.b (.s 6) [.row ak_ 97,.keep,.keep]] 2 (.p .z (.p .z (.p (.p .z (.p .z (.p .z (.j0 [.v 15 .int,.v 16 .bool,.m (.s 26) .str .int,.b (.s 6) [.row ak_ 97,.keep,.keep]] .z .z)))) .z))))) .z)))) .z)))) .z)))))) 37 [an_] [bk_,.int]=λx=>ej_ x.1:=by kernel_rfl
noncomputable def c_37:Con prog:=av_ _ _ 37 [an_] [bk_,.int] _ x_37
end
section
set_option maxRecDepth 100000
set_option maxHeartbeats 0
noncomputable def ko_ (a0:ac_):Option (Bool×Unit) :=
 ((((lk_ a0).bind λv0 =>
 (cond v0.1
 (some (true,()))
 ((ie_ a0).bind λv1 =>
 (some ((v1.1 != 0),())))))).bind λv2 =>
 (cond v2.1
 ((lk_ a0).bind λv3 =>
 (some (v3.1,())))
 (((cond (decide (4<(a0.1.1.length:Int)))
 (some (true,()))
 (cond (decide (4<(a0.1.2.1.length:Int)))
 (some (true,()))
 (cond (decide (3<(a0.1.2.2.1.length:Int)))
 (some (true,()))
 (cond (decide (2<a0.1.2.2.2.2.2.2.1))
 (some (true,()))
 (cond (decide (6<(a0.1.2.2.2.2.1.length:Int)))
 (some (true,()))
 (cond (decide (4<(a0.1.2.2.2.2.2.1.length:Int)))
 (some (true,()))
 (cond (decide (5<(a0.2.2.2.1.length:Int)))
 (some (true,()))
 (some ((decide (3<(a0.2.1.length:Int))),())))))))))).bind λv4 =>
 (cond v4.1
 (some (true,()))
 ((ds_ a0).bind λv5 =>
 (cond (v5.2.1==2)
 (some (true,()))
 (some ((decide (200<(v5.1.1.length:Int))),()))))))))
theorem x_7:au_ (P:=prog) (cxC [c_23,c_24,c_25] []) (.p .z (.p .z (.p (.j0 [.v 14 .bool] .z .z) (.p (.j0 [.v 61 .bool] .z .z) .z)))) 7 [an_] [.bool]=λx=>ko_ x.1:=by kernel_rfl
noncomputable def c_7:Con prog:=av_ _ _ 7 [an_] [.bool] _ x_7
noncomputable def ih_ (a0:ac_):Option (aw_×Int×Unit) :=
 ((ej_ a0).bind λv0 =>
 (some (v0.1,(v0.2.1,()))))
theorem x_48:au_ (P:=prog) (cxC [c_37] []) .z 48 [an_] [bk_,.int]=λx=>ih_ x.1:=by kernel_rfl
noncomputable def c_48:Con prog:=av_ _ _ 48 [an_] [bk_,.int] _ x_48
noncomputable def ek_ (a0:ac_):Option ((List Int)×Int×Unit) :=
 ((ej_ a0).bind λv0 =>
 (cond (v0.2.1 != 0)
 (cond (v0.2.1 != 0)
 (some ([],(v0.2.1,())))
 none)
 ((fp_ [(-1)] (v0.1.1.length:Int)).bind λv1 =>
 ((af_ (ρ:=((List Int)×((List Int)×Unit))) (λ(v2:((List Int)×(Int×((List Int)×Unit)))) =>
 (cond (decide (v2.2.1<(v0.1.1.length:Int)))
 ((((at? v0.1.1 v2.2.1).bind λv3 =>
 ((lg_ a0.1 v3.1).bind λv4 =>
 (((cond (v4.2.1==0)
 (some (v4.1,()))
 (some (false,())))).bind λv5 =>
 (cond v5.1
 ((at? v2.2.2.1 v2.2.1).bind λv6 =>
 ((at? v2.2.2.1 v2.2.1).bind λv7 =>
 ((push? (α:=Int) v2.1 [v2.2.1]).bind λv8 =>
 (some (v8,((v2.2.2.1.set v2.2.1.toNat 0),()))))))
 (some (v2.1,(v2.2.2.1,())))))))).bind λv9 =>
 (some (inl (v9.1,((w64 (v2.2.1+1)),(v9.2.1,()))))))
 (some (inr (v2.1,(v2.2.2.1,())))))) ([],(0,(v1,())))).bind λv10 =>
 ((mk? (α:=(List Int)) (v0.1.1.length:Int) []).bind λv11 =>
 ((af_ (ρ:=((List (List Int))×Unit)) (λ(v12:(Int×((List (List Int))×Unit))) =>
 (cond (decide (v12.1<(v0.1.2.length:Int)))
 ((at? v0.1.2 v12.1).bind λv13 =>
 ((af_ (ρ:=((List (List Int))×Unit)) (λ(v14:(Int×((List (List Int))×Unit))) =>
 (cond (decide (v14.1<(v13.length:Int)))
 ((((at? v13 v14.1).bind λv15 =>
 ((at? v14.2.1 v15.2).bind λv16 =>
 ((at? v14.2.1 v15.2).bind λv17 =>
 ((push? (α:=Int) v17 [v12.1]).bind λv18 =>
 ((at? v14.2.1 v15.2).bind λv19 =>
 (cond ((v15.2==v15.2)&&true)
 ((at? v14.2.1 v15.2).bind λv20 =>
 (some ((v14.2.1.set v15.2.toNat v18),())))
 none))))))).bind λv21 =>
 (some (inl ((w64 (v14.1+1)),(v21.1,())))))
 (some (inr (v14.2.1,()))))) (0,(v12.2.1,()))).bind λv22 =>
 (some (inl ((w64 (v12.1+1)),(v22.1,()))))))
 (some (inr (v12.2.1,()))))) (0,(v11,()))).bind λv23 =>
 ((af_ (ρ:=((List Int)×Unit)) (λ(v24:((List Int)×((List Int)×Unit))) =>
 (cond (decide (0<(v24.1.length:Int)))
 ((at? v24.1 0).bind λv25 =>
 ((at? v24.1 0).bind λv26 =>
 ((sub? v24.1 1 (v24.1.length:Int)).bind λv27 =>
 ((at? v23.1 v26).bind λv28 =>
 ((af_ (ρ:=((List Int)×((List Int)×Unit))) (λ(v29:((List Int)×(Int×((List Int)×Unit)))) =>
 (cond (decide (v29.2.1<(v28.length:Int)))
 ((((at? v28 v29.2.1).bind λv30 =>
 ((at? v29.2.2.1 v30).bind λv31 =>
 ((at? v29.2.2.1 v30).bind λv32 =>
 (cond (decide (v32<0))
 ((at? v29.2.2.1 v26).bind λv33 =>
 ((at? v29.2.2.1 v26).bind λv34 =>
 ((at? v29.2.2.1 v30).bind λv35 =>
 ((at? v29.2.2.1 v30).bind λv36 =>
 ((push? (α:=Int) v29.1 [v30]).bind λv37 =>
 (some (v37,((v29.2.2.1.set v30.toNat (w64 (v34+1))),()))))))))
 (some (v29.1,(v29.2.2.1,())))))))).bind λv38 =>
 (some (inl (v38.1,((w64 (v29.2.1+1)),(v38.2.1,()))))))
 (some (inr (v29.1,(v29.2.2.1,())))))) (v27,(0,(v24.2.1,())))).bind λv39 =>
 (some (inl (v39.1,(v39.2.1,())))))))))
 (some (inr (v24.2.1,()))))) (v10.1,(v10.2.1,()))).bind λv40 =>
 (some (v40.1,(0,()))))))))))
theorem x_49:au_ (P:=prog) (cxI (λk=>cond (Nat.beq k 63) (.p .z (.p .z (.p .z (.p (.p .z (.lp [.r 8 .int 3,.v 33 .int] [.r 8 .int 3] [.o (.s 27) .int] 0 (.p .z (.p .z (.j0 [.r 8 .int 3,.o (.s 27) .int] (.p .z (.p .z (.j0 [.v 50 .bool] .z .z))) .z))))) (.p .z (.p (.p .z (.lp [.v 69 .int] [] [.g (.s 13) (.list .int)] 2 (.p .z (.p .z (.p (.p .z (.p .z (.lp [.v 76 .int] [] [.g (.s 13) (.list .int)] 4 (.p .z (.p .z (.j0 [.g (.s 13) (.list .int)] .z .z)))))) .z))))) (.q [(.s 13)] (.lp [.r 8 .int 3] [] [.o (.s 27) .int] 6 (.p .z (.p .z (.p .z (.p .z (.lp [.r 8 .int 3,.v 110 .int] [.r 8 .int 3] [.o (.s 27) .int] 8 (.p .z (.p .z (.j0 [.r 8 .int 3,.o (.s 27) .int] .z .z))))))))) .z))))))) (.z)) (λk=>Nat.beq k 37||Nat.beq k 64||Nat.beq k 98||Nat.beq k 99||false) (cxR [rp_98] [c_37,c_64,c_99] []) 3) .z 49 [an_] [(.list .int),.int]=λx=>ek_ x.1:=by kernel_rfl
noncomputable def c_49:Con prog:=av_ _ _ 49 [an_] [(.list .int),.int] _ x_49
noncomputable def ei_ (a0:ac_):Option ((List Int)×Int×Unit) :=
 ((ds_ a0).bind λv0 =>
 (cond (v0.2.1 != 0)
 (some ([],(v0.2.1,())))
 ((dl_ a0 v0.1 (-1)).bind λv1 =>
 (some (v1.1,(0,()))))))
theorem x_50:au_ (P:=prog) (cxC [c_25,c_32] []) .z 50 [an_] [(.list .int),.int]=λx=>ei_ x.1:=by kernel_rfl
noncomputable def c_50:Con prog:=av_ _ _ 50 [an_] [(.list .int),.int] _ x_50
end
section
set_option maxRecDepth 100000
set_option maxHeartbeats 0
noncomputable def mc_ (a0:ac_):Option (aw_×(List Int)×Int×Unit) :=
 ((ih_ a0).bind λv0 =>
 (cond (v0.2.1 != 0)
 (some (([],[]),([],(v0.2.1,()))))
 (cond (decide (300<(v0.1.1.length:Int)))
 (some (([],[]),([],(2,()))))
 ((ek_ a0).bind λv1 =>
 (cond (v1.2.1 != 0)
 (some (([],[]),([],(v1.2.1,()))))
 (some (v0.1,(v1.1,(0,())))))))))
theorem x_20:au_ (P:=prog) (cxC [c_48,c_49] []) .z 20 [an_] [bk_,(.list .int),.int]=λx=>mc_ x.1:=by kernel_rfl
noncomputable def c_20:Con prog:=av_ _ _ 20 [an_] [bk_,(.list .int),.int] _ x_20
noncomputable def nw_ (a0:ac_):Option (aw_×(List Int)×Int×Unit) :=
 ((ds_ a0).bind λv0 =>
 (cond (v0.2.1 != 0)
 (some (([],[]),([],(v0.2.1,()))))
 ((ei_ a0).bind λv1 =>
 (cond (decide (300<(v0.1.1.length:Int)))
 (some (([],[]),([],(2,()))))
 (some (v0.1,(v1.1,(0,()))))))))
theorem x_21:au_ (P:=prog) (cxC [c_25,c_50] []) .z 21 [an_] [bk_,(.list .int),.int]=λx=>nw_ x.1:=by kernel_rfl
noncomputable def c_21:Con prog:=av_ _ _ 21 [an_] [bk_,(.list .int),.int] _ x_21
end
section
set_option maxRecDepth 100000
set_option maxHeartbeats 0
noncomputable def hi_ (a0:ac_):Option (Bool×Unit) :=
 ((ko_ a0).bind λv0 =>
 (cond v0.1
 ((gi_).bind λv1 =>
 (some (v1.1,())))
 ((mc_ a0).bind λv2 =>
 ((nw_ a0).bind λv3 =>
 (((cond (v2.2.2.1 != v3.2.2.1)
 (some (true,()))
 (cond ((v2.1.1.length:Int) != (v3.1.1.length:Int))
 (some (true,()))
 (cond ((v2.1.2.length:Int) != (v3.1.2.length:Int))
 (some (true,()))
 ((db_ v2.2.1 v3.2.1).bind λv4 =>
 (some ((!v4.1),()))))))).bind λv5 =>
 (cond v5.1
 (some (false,()))
 ((af_ (ρ:=(Unit⊕(Bool×Unit))) (λ(v6:(Int×Unit)) =>
 (cond (decide (v6.1<(v2.1.2.length:Int)))
 ((at? v2.1.2 v6.1).bind λv7 =>
 ((at? v3.1.2 v6.1).bind λv8 =>
 (cond ((v7.length:Int) != (v8.length:Int))
 (some (inr (inr (false,()))))
 ((af_ (ρ:=(Unit⊕((Int×Unit)⊕(Unit⊕(Bool×Unit))))) (λ(v9:(Int×Unit)) =>
 ((at? v2.1.2 v6.1).bind λv10 =>
 (cond (decide (v9.1<(v10.length:Int)))
 ((at? v2.1.2 v6.1).bind λv11 =>
 ((at? v11 v9.1).bind λv12 =>
 ((at? v3.1.2 v6.1).bind λv13 =>
 ((at? v13 v9.1).bind λv14 =>
 (cond (!(((v12.1.1==v14.1.1)&&((v12.1.2.1==v14.1.2.1)&&(v12.1.2.2==v14.1.2.2)))&&(v12.2==v14.2)))
 (some (inr (inr (inr (inr (false,()))))))
 (some (inl ((w64 (v9.1+1)),()))))))))
 (some (inr (inl ())))))) (0,())).bind λv15 =>
 (ca_ v15 (λv16=>(some (inl ((w64 (v6.1+1)),()))))
 (λv17=>(some v17)))))))
 (some (inr (inl ()))))) (0,())).bind λv18 =>
 (ca_ v18 (λv19=>((gi_).bind λv21 =>
 (some (v21.1,()))))
 (λv20=>(some v20))))))))))
theorem x_6:au_ (P:=prog) (cxC [c_7,c_19,c_20,c_21,c_22] []) (.p .z (.p .z (.p .z (.p .z (.p (.j0 [.v 52 .bool] .z .z) (.p (.p .z (.ls [.v 9 .int] [] [] 0 (.p .z (.p (.p .z (.p .z (.ls [.v 10 .int] [] [] 2 .z))) .z)))) .z)))))) 6 [an_] [.bool]=λx=>hi_ x.1:=by kernel_rfl
noncomputable def c_6:Con prog:=av_ _ _ 6 [an_] [.bool] _ x_6
end
end Go.Proofs.YtgeehfnbhbibeaaGreatDoor.Rx
namespace Go.Proofs.YtgeehfnbhbibeaaGreatDoor.Rx
open Go Pad Rex Sum
section
theorem bj_ {α:Type} {l:List α} (h:Sm l.length):push? [] l=some l:=by
 rw[af0 (by simp only[j7_];omega)]
 rfl
theorem cv_ {α:Type} {l:List α} {x:α} (h:Sm l.length):push? l [x]=some (l++[x]):=af0 (by simp only[c4_,j7_];omega)
end
section
set_option maxRecDepth 10000
theorem az5 {σ ρ τ:Type} (n:Nat) (F:Nat→τ→σ) (R:τ→ρ) (t0:τ) {body:σ→Option (σ⊕ρ)} (I:Nat→τ→Prop) (h0:I 0 t0)
  (h:∀ i t,i<n→I i t→Tot (body (F i t)) (λr=>∃ t',r = .inl (F (i+1) t')∧I (i+1) t')) (e:∀ t,I n t→body (F n t)=some (.inr (R t))) :
  Tot (af_ body (F 0 t0)) (λr=>∃ t,r=R t∧I n t):=by
 refine mx_ (λi s=>∃ t,s=F i t∧I i t) _ n 0 (F 0 t0) ⟨t0,rfl,h0⟩ (λj s h1 h2 hs => ?_) (λs hs => ?_)
 ·obtain⟨t,rfl,ht⟩:=hs
  obtain⟨r,hr,t',rfl,ht'⟩:=h j t (by omega) ht
  exact .inl ⟨_,hr,t',rfl,ht'⟩
 ·obtain⟨t,rfl,ht⟩:=hs
  rw[b0_] at ht ⊢
  exact⟨_,e t ht,t,rfl,ht⟩
structure VS (r:ad_) (s:aj_):Prop where
 l1:s.1.length=r.2.1.length
 l2:s.2.1.length=r.2.2.1.length
 l3:(s.2.2.length:Int)=r.2.2.2.2.2.2.1
 th:∀ (i:Nat) n,s.1[i]?=some n→ou_ r.2.1 (i:Int) n=true
 pr:∀ (i:Nat) p,s.2.1[i]?=some p→inR r p=true
 py:∀ (i:Nat) p,s.2.2[i]?=some p→sv_ r p=true
theorem cp9 {r:ad_} {s:aj_} (h:VS r s):ckS r s=0:=by
 unfold ckS
 have hl:ah3 r s=false:=by
  unfold ah3
  have:=h.l1
  have:=h.l2
  have:=h.l3
  simp only[b8_,bne_eq_false_iff_eq]
  omega
 rw[hl,a2_]
 rw[(kv_ s.1 0).2 (λj x hx=>by rw[b0_,h.th j x hx];rfl),j0_]
 rw[(kv_ s.2.1 0).2 (λj x hx=>by rw[h.pr j x hx];rfl),j0_]
 rw[(kv_ s.2.2 0).2 (λj x hx=>by rw[h.py j x hx];rfl),j0_]
theorem np_ {r:ad_} (h:SmR r) (ok:OkR r) {i n:Int} (hs:ou_ r.2.1 i n=true):(0≤i∧i<r.2.1.length)∧(0≤n∧n≤5):=by
 unfold ou_ at hs
 rw[a1_] at hs
 have hi:=cl_.1 hs.1
 have hth:=h.th
 rw[hd_ (by omega) (by omega)] at hi
 obtain⟨t,ht,hg⟩:=ce1 (l:=r.2.1) (i:=i) (by omega) (by omega)
 have h2:=hs.2
 rw[ht] at h2
 have hn:=cl_.1 h2
 have:=ok.th _ _ hg
 unfold bn7 at this
 simp only[a1_] at this
 have h3:=cl_.1 this.2.2.1
 rw[hd_ (by omega) (by omega)] at hn
 omega
end
end Go.Proofs.YtgeehfnbhbibeaaGreatDoor.Rx
namespace Go.Proofs.YtgeehfnbhbibeaaGreatDoor.Rx
open Go Pad Rex Go.Proofs Go.Proofs.Tryz Sum
section
set_option maxRecDepth 100000
noncomputable def autB (a0:ad_) (th pr py:List Int):(Int×Unit)→Option ((Int×Unit)⊕(Unit⊕(Int×Unit))) :=
 (λ(v14:(Int×Unit)) =>
 (cond (decide (v14.1<(a0.2.2.2.2.2.1.length:Int)))
 ((at? a0.2.2.2.2.2.1 v14.1).bind λv15 =>
 ((((at? th v15.2.1).bind λv16 =>
 ((at? th v15.2.1).bind λv17 =>
 (cond (v17 != v15.2.2)
 ((az_ (a0,(th,(pr,py))) v15.1).bind λv18 =>
 (some (v18.1,())))
 (some (false,())))))).bind λv19 =>
 (cond v19.1
 (some (inr (inr (v14.1,()))))
 (some (inl ((w64 (v14.1+1)),()))))))
 (some (inr (inl ())))))
noncomputable def setB (a0:ad_) (v11 v12:List Int):(Int×((List Int)×Unit))→Option ((Int×((List Int)×Unit))⊕(((List Int)×Unit)⊕(Bool×((List Int)×Unit)))) :=
 (λ(v13:(Int×((List Int)×Unit))) =>
 (cond (decide (v13.1<101))
 ((((af_ (ρ:=(Unit⊕(Int×Unit))) (autB a0 v13.2.1 v11 v12) (0,())).bind λv20 =>
 (ca_ v20 (λv21=>(some ((-1),())))
 (λv22=>(some v22))))).bind λv23 =>
 (cond (decide (v23.1<0))
 (some (inr (inr ((!true),(v13.2.1,())))))
 ((at? a0.2.2.2.2.2.1 v23.1).bind λv24 =>
 ((at? a0.2.2.2.2.2.1 v23.1).bind λv25 =>
 ((at? v13.2.1 v24.2.1).bind λv26 =>
 ((at? v13.2.1 v24.2.1).bind λv27 =>
 (some (inl ((w64 (v13.1+1)),((v13.2.1.set v24.2.1.toNat v25.2.2),()))))))))))
 (some (inr (inl (v13.2.1,()))))))
noncomputable def thgB (a0:ad_):(Int×(((List Int)×Unit)×Unit))→Option ((Int×(((List Int)×Unit)×Unit))⊕(((List Int)×Unit)×Unit)) :=
 (λ(v2:(Int×(((List Int)×Unit)×Unit))) =>
 (cond (decide (v2.1<(a0.2.1.length:Int)))
 ((at? a0.2.1 v2.1).bind λv3 =>
 ((push? (α:=Int) v2.2.1.1 [v3.2.2.2]).bind λv4 =>
 (some (inl ((w64 (v2.1+1)),((v4,()),()))))))
 (some (inr ((v2.2.1.1,()),())))))
noncomputable def prpB (a0:ad_):(Int×(((List Int)×Unit)×Unit))→Option ((Int×(((List Int)×Unit)×Unit))⊕(((List Int)×Unit)×Unit)) :=
 (λ(v6:(Int×(((List Int)×Unit)×Unit))) =>
 (cond (decide (v6.1<(a0.2.2.1.length:Int)))
 ((at? a0.2.2.1 v6.1).bind λv7 =>
 ((push? (α:=Int) v6.2.1.1 [v7.2.1]).bind λv8 =>
 (some (inl ((w64 (v6.1+1)),((v8,()),()))))))
 (some (inr ((v6.2.1.1,()),())))))
noncomputable def rbegX (a0:ad_):Option (aj_×(Int×Unit)) :=
 ((fv_ a0).bind λv0 =>
 (cond (v0.1 != 0)
 (some (([],([],[])),(v0.1,())))
 ((mk? (α:=Int) a0.2.2.2.2.2.2.1 0).bind λv1 =>
 ((af_ (ρ:=(((List Int)×Unit)×Unit)) (thgB a0) (0,(([],()),()))).bind λv5 =>
 ((af_ (ρ:=(((List Int)×Unit)×Unit)) (prpB a0) (0,(([],()),()))).bind λv9 =>
 ((push? (α:=Int) [] v5.1.1).bind λv10 =>
 ((push? (α:=Int) [] v9.1.1).bind λv11 =>
 ((push? (α:=Int) [] v1).bind λv12 =>
 ((((af_ (ρ:=(((List Int)×Unit)⊕(Bool×((List Int)×Unit)))) (setB a0 v11 v12) (0,(v10,()))).bind λv28 =>
 (ca_ v28 (λv29=>(some ((!false),(v29.1,()))))
 (λv30=>(some v30))))).bind λv31 =>
 (cond v31.1
 (some (([],([],[])),(27,())))
 (some ((v31.2.1,(v11,v12)),(0,())))))))))))))
theorem ck1:jk_=rbegX:=by kernel_rfl
end
end Go.Proofs.YtgeehfnbhbibeaaGreatDoor.Rx
namespace Go.Proofs.YtgeehfnbhbibeaaGreatDoor.Rx
open Go Pad Rex Sum
section
set_option maxRecDepth 10000
def VT (r:ad_) (th:List Int):Prop:=th.length=r.2.1.length∧∀ (i:Nat) n,th[i]?=some n→ou_ r.2.1 (i:Int) n=true
theorem ce9 {r:ad_} (h:SmR r) (ok:OkR r) {th:List Int} (hv:VT r th) {i n:Int} (hs:ou_ r.2.1 i n=true):VT r (th.set i.toNat n):=by
 refine⟨by rw[f6_];exact hv.1,λj m hj => ?_⟩
 have hi:=(np_ h ok hs).1
 rw[g4_] at hj
 split at hj
 ·next e =>
  split at hj
  ·obtain rfl:=a6_ hj
   rw[show (j:Int)=i by omega]
   exact hs
  ·cases hj
 ·exact hv.2 j m hj
theorem az6 {r:ad_} (h:SmR r):af_ (thgB r) (0,(([],()),()))=some ((r.2.1.map (·.2.2.2),()),()):=by
 have hth:=h.th
 obtain⟨z,hz,q,rfl,hq⟩:=az5 r.2.1.length (λi (q:List Int)=>((i:Int),((q,()),()))) (λq=>((q,()),())) [] (body:=thgB r) (λi q=>q=(r.2.1.take i).map (·.2.2.2)) rfl (λi q hi hq=>by
  obtain⟨x,hx⟩:=bf_ hi
  have hq2:Sm q.length:=by rw[hq,d3_,c7_];omega
  refine⟨_,?_,q++[x.2.2.2],rfl,?_⟩
  ·unfold thgB
   simp only[dlt hi,a5_,ai_ hx,a0_,cv_ hq2,bb_ (show Sm i by omega)]
  ·rw[d6_,hx,hq,i6_]
   rfl) (λq hq=>by
  unfold thgB
  simp only[dnl,a2_])
 rw[e1_] at hq
 subst hq
 exact hz
theorem bb1 {r:ad_} (h:SmR r):af_ (prpB r) (0,(([],()),()))=some ((r.2.2.1.map (·.2.1),()),()):=by
 have hth:=h.pr
 obtain⟨z,hz,q,rfl,hq⟩:=az5 r.2.2.1.length (λi (q:List Int)=>((i:Int),((q,()),()))) (λq=>((q,()),())) [] (body:=prpB r) (λi q=>q=(r.2.2.1.take i).map (·.2.1)) rfl (λi q hi hq=>by
  obtain⟨x,hx⟩:=bf_ hi
  have hq2:Sm q.length:=by rw[hq,d3_,c7_];omega
  refine⟨_,?_,q++[x.2.1],rfl,?_⟩
  ·unfold prpB
   simp only[dlt hi,a5_,ai_ hx,a0_,cv_ hq2,bb_ (show Sm i by omega)]
  ·rw[d6_,hx,hq,i6_]
   rfl) (λq hq=>by
  unfold prpB
  simp only[dnl,a2_])
 rw[e1_] at hq
 subst hq
 exact hz
end
end Go.Proofs.YtgeehfnbhbibeaaGreatDoor.Rx
namespace Go.Proofs.YtgeehfnbhbibeaaGreatDoor.Rx
open Go Pad Rex Go.Proofs Go.Proofs.Tryz Sum
section
set_option maxRecDepth 100000
noncomputable def pbgB (a0:ac_) (s:aj_):(Int×((List Bool)×((List ab_)×Unit)))→Option ((Int×((List Bool)×((List ab_)×Unit)))⊕((List Bool)×((List ab_)×Unit))) :=
 (λ(v3:(Int×((List Bool)×((List ab_)×Unit)))) =>
 (cond (decide (v3.1<(a0.2.2.2.1.length:Int)))
 ((((at? a0.2.2.2.1 v3.1).bind λv4 =>
 ((fu_ a0.1 s v4.2.2.2.1).bind λv5 =>
 (((cond v5.1
 ((bl_ s.2.2 v4.2.1).bind λv6 =>
 (cond v6.1
 ((at? v3.2.1 v3.1).bind λv7 =>
 ((at? v3.2.1 v3.1).bind λv8 =>
 (some ((!v8),()))))
 (some (false,()))))
 (some (false,())))).bind λv9 =>
 (cond v9.1
 ((at? v3.2.1 v3.1).bind λv10 =>
 ((at? v3.2.1 v3.1).bind λv11 =>
 (some ((v3.2.1.set v3.1.toNat true),((aa7 v3.2.2.1 v4.2.2.1),())))))
 (some (v3.2.1,(v3.2.2.1,())))))))).bind λv12 =>
 (some (inl ((w64 (v3.1+1)),(v12.1,(v12.2.1,()))))))
 (some (inr (v3.2.1,(v3.2.2.1,()))))))
noncomputable def pbegX (a0:ac_):Option (aa_×(Int×Unit)) :=
 ((ht_ a0).bind λv0 =>
 (cond (v0.1 != 0)
 (some ((([],([],[])),[]),(v0.1,())))
 ((jk_ a0.1).bind λv1 =>
 (cond (v1.2.1 != 0)
 (some ((([],([],[])),[]),(v1.2.1,())))
 ((mk? (α:=Bool) (a0.2.2.2.1.length:Int) false).bind λv2 =>
 ((af_ (ρ:=((List Bool)×((List ab_)×Unit))) (pbgB a0 v1.1) (0,(v2,([],())))).bind λv13 =>
 ((push? (α:=Int) [] v1.1.1).bind λv14 =>
 ((push? (α:=Int) [] v1.1.2.1).bind λv15 =>
 ((push? (α:=Int) [] v1.1.2.2).bind λv16 =>
 ((push? (α:=Bool) [] v13.1).bind λv17 =>
 (some (((v14,(v15,v16)),v17),(0,())))))))))))))
theorem ck9:mk_=pbegX:=by kernel_rfl
end
end Go.Proofs.YtgeehfnbhbibeaaGreatDoor.Rx
namespace Go.Proofs.YtgeehfnbhbibeaaGreatDoor.Rx
open Go Pad Rex Sum
section
set_option maxRecDepth 10000
theorem ra_ {r:ad_} (h:SmR r) (ok:OkR r) {s:aj_} (hv:VS r s):Sm s.1.length∧Sm s.2.1.length∧Sm s.2.2.length:=by
 have:=cl_.1 ok.py
 have h1:=hv.l1
 have h2:=hv.l2
 have h3:=hv.l3
 have:=h.th
 have:=h.pr
 refine⟨by show s.1.length≤1000000000;omega,by show s.2.1.length≤1000000000;omega,by show s.2.2.length≤1000000000;omega⟩
theorem hu_ {r:ad_} {s:aj_} (h0:dd_ r=0) (hv:VS r s):og_ r s=0:=by
 unfold og_
 rw[h0]
 exact cp9 hv
end
section
theorem mm_ (a b c:Int):cb_ a b c=some (wi a b c,()):=bh7 a b c
theorem oy_ (a b c:Int):bm_ a b c=some (wi a b c,()):=bh7 a b c
def okL (l:ab_):Bool:=wi l.1 1 4&&wi l.2 2 10
structure Lk (l:ab_):Prop where
 w1:1≤l.1
 w2:l.1≤4
 s1:2≤l.2
 s2:l.2≤10
theorem pc_ {l:ab_}:okL l=true↔Lk l:=by
 unfold okL
 rw[a1_,cl_,cl_]
 exact⟨λh=>⟨h.1.1,h.1.2,h.2.1,h.2.2⟩,λh=>⟨⟨h.w1,h.w2⟩,h.s1,h.s2⟩⟩
theorem lz_ (l:ab_):ev_ l=some (if okL l then 0 else 10,()):=by
 unfold ev_ okL
 simp only[oy_,a0_]
 cases wi l.1 1 4<;>cases wi l.2 2 10<;>rfl
theorem mn_ (l:ab_):ew_ l=some (if okL l then 0 else 10,()):=by
 unfold ew_ okL
 simp only[mm_,a0_]
 cases wi l.1 1 4<;>cases wi l.2 2 10<;>rfl
def dh_ (l:ab_) (c:List Int):Bool:=decide ((c.length:Int)=l.1)&&c.all λn=>wi n 0 (l.2 - 1)
theorem Lk.ws {l:ab_} (h:Lk l):w64 (l.2 - 1)=l.2 - 1:=by have:=h.s1;have:=h.s2;exact lw_ (by omega) (by omega)
theorem Lk.ww {l:ab_} (h:Lk l):w64 (l.1 - 1)=l.1 - 1:=by have:=h.w1;have:=h.w2;exact lw_ (by omega) (by omega)
theorem nj_ {l:ab_} (h:Lk l) (n:Int):cq_ l n=some (wi n 0 (l.2 - 1),()):=by
 unfold cq_
 rw[mm_,h.ws]
 rfl
theorem vt_ {l:ab_} (h:Lk l) (n:Int):bv_ l n=some (wi n 0 (l.1 - 1),()):=by
 unfold bv_
 rw[mm_,h.ww]
 rfl
theorem all_any {α:Type} (l:List α) (q:α→Bool):(!(l.any λx=>!(q x)))=l.all q:=uu_ l q
theorem vb_ {l:ab_} (h:Lk l) (c:List Int):gv_ l c=some (dh_ l c,()):=by
 have w2:=h.w2
 unfold gv_ dh_
 by_cases he:(c.length:Int)=l.1
 ·have hb:((c.length:Int) != l.1)=false:=by simp[he]
  rw[hb,b9_ he,c0_,a2_]
  refine bw_ c (λ_ y=>cond (wi y 0 (l.2 - 1)) none (some (inr (false,()):Unit⊕(Bool×Unit)))) (λi=>((i:Int),())) (r0:=inl ()) (λi y hy => ?_) ?_ ?_
  ·have hi:=am_ hy
   simp only[dlt hi,a5_,ai_ hy,a0_,oy_,h.ws,bb_ (show Sm i by unfold Sm;omega)]
   cases wi y 0 (l.2 - 1)<;>rfl
  ·simp only[dnl,a2_]
  ·rw[kc_ (q:=λy=>wi y 0 (l.2 - 1))]
   cases c.all λy=>wi y 0 (l.2 - 1)<;>rfl
 ·have hb:((c.length:Int) != l.1)=true:=by simp[he]
  rw[hb,c2_ he]
  rfl
theorem pr_ {l:ab_} (h:Lk l) (c:List Int):dn_ l c=some (dh_ l c,()):=by
 have w2:=h.w2
 unfold dn_ dh_
 by_cases he:(c.length:Int)=l.1
 ·have hb:((c.length:Int)==l.1)=true:=by simp[he]
  rw[hb,b9_ he,c0_,a5_,pt_ (l:=c) (by unfold Sm;omega) (λn=>!(wi n 0 (l.2 - 1))) (λi y hy=>by
   simp only[dlt (am_ hy),a5_,ai_ hy,a0_,nj_ h]
   cases wi y 0 (l.2 - 1)<;>rfl) (by simp only[dnl,a2_]),a0_,all_any]
 ·have hb:((c.length:Int)==l.1)=false:=by simp[he]
  rw[hb,c2_ he]
  rfl
theorem vo_ (l:ab_) (c:List Int):gg_ l c=some (if okL l then (if dh_ l c then 0 else 12) else 10,()):=by
 unfold gg_
 rw[lz_,a0_]
 cases h:okL l with
 | true =>
  rw[if_pos rfl,vb_ (pc_.1 h)]
  cases dh_ l c<;>rfl
 | false=>rfl
theorem oj_ (l:ab_) (c:List Int):el_ l c=some (if okL l then (if dh_ l c then 0 else 12) else 10,()):=by
 unfold el_ ij_
 rw[mn_,a0_]
 cases h:okL l with
 | true =>
  have hl:=pc_.1 h
  have:=pt_ (l:=[c]) (by unfold Sm;simp) (λc=>!(dh_ l c)) (body:=λ(v1:(Int×Unit)) =>
   (cond (decide (v1.1<(([c]:List (List Int)).length:Int)))
   ((at? [c] v1.1).bind λv2 =>
   ((dn_ l v2).bind λv3 =>
   (cond (!v3.1)
   (some (inr (inr ((decide (0≤v1.1)),()))))
   (some (inl ((w64 (v1.1+1)),()))))))
   (some (inr (inl ()))))) (λi y hy=>by
   simp only[dlt (am_ hy),a5_,ai_ hy,a0_,pr_ hl]
   cases dh_ l y<;>rfl) (by simp only[dnl,a2_])
  rw[this]
  simp only[p7_,List.any_nil,i0_]
  cases dh_ l c<;>rfl
 | false=>rfl
theorem bp4 {α:Type} [BEq α] [LawfulBEq α] [DecidableEq α] {a b:List α} (ha:Sm a.length) (he:a.length=b.length) {body:(Int×Unit)→Option ((Int×Unit)⊕(Unit⊕(Bool×Unit)))} {K:(Unit⊕(Bool×Unit))→Option (Bool×Unit)}
  (h:∀ (i:Nat) x y,a[i]?=some x→b[i]?=some y→body ((i:Int),())=some (cond (x != y) (.inr (.inr (false,()))) (.inl (w64 ((i:Int)+1),())))) (e:body ((a.length:Int),())=some (.inr (.inl ()))) (k1:K (.inl ())=some (true,())) (k2:K (.inr (false,()))=some (false,())) :
  (af_ body (0,())).bind K=some (decide (a=b),()):=by
 refine bw_ (a.zip b) (λ_ p=>cond (p.1==p.2) none (some (inr (false,()):Unit⊕(Bool×Unit)))) (λi=>((i:Int),())) (r0:=inl ()) (λi p hp => ?_) ?_ ?_
 ·obtain⟨h1,h2⟩:=h3_.1 hp
  rw[h i p.1 p.2 h1 h2,bb_ (show Sm i by have:=am_ h1;unfold Sm at *; omega)]
  cases hq:p.1==p.2<;>simp[bne,hq]
 ·rw[m9_,← he,Nat.min_self]
  exact e
 ·rw[kc_ (q:=λp:α×α=>p.1==p.2)]
  have hk:((a.zip b).all λp=>p.1==p.2)=decide (a=b):=by
   refine j8_.2 ?_
   rw[f3_,l8_]
   constructor
   ·intro hz
    refine f1_ λi => ?_
    by_cases hi:i<a.length
    ·obtain⟨x,hx⟩:=bf_ hi
     obtain⟨y,hy⟩:=bf_ (l:=b) (i:=i) (by omega)
     have:=hz (x,y) (b2_ (h3_.2 ⟨hx,hy⟩))
     rw[hx,hy,show x=y from eq_of_beq this]
    ·rw[b4_ (by omega),b4_ (by omega)]
   ·rintro rfl p hp
    obtain⟨i,hi⟩:=f2_ hp
    obtain⟨h1,h2⟩:=h3_.1 hi
    rw[h1] at h2
    exact g5_.2 (a6_ h2)
  rw[hk]
  cases decide (a=b)
  ·exact k2
  ·exact k1
theorem zm_ {a b:List Int} (ha:Sm a.length):hc_ a b=some (decide (a=b),()):=by
 unfold hc_
 by_cases he:a.length=b.length
 ·have hb:((a.length:Int) != (b.length:Int))=false:=by simp[he]
  rw[hb,a2_]
  refine bp4 ha he (λi x y hx hy => ?_) ?_ rfl rfl
  ·simp only[dlt (am_ hx),a5_,ai_ hx,ai_ hy,a0_]
   cases x != y<;>rfl
  ·simp only[dnl,a2_]
 ·have hb:((a.length:Int) != (b.length:Int))=true:=by simp;omega
  rw[hb,c2_ (λe=>he (by rw[e]))]
  rfl
def di_ (l:ab_) (c:al_):Bool :=
 if c.1=1 then wi c.2.1 0 (l.1 - 1)&&(wi c.2.2.2.1 0 (l.2 - 1)&&(c.2.2.1==0&&(c.2.2.2.2.1==0&&decide (c.2.2.2.2.2.1=[]))))
 else if c.1=2 then wi c.2.1 0 (l.1 - 1)&&(wi c.2.2.1 0 (l.1 - 1)&&(decide (c.2.1≤c.2.2.1)&&(wi c.2.2.2.1 0 100&&(c.2.2.2.2.1==0&&decide (c.2.2.2.2.2.1=[])))))
 else if c.1=3∨c.1=4 then wi c.2.1 0 (l.1 - 1)&&(wi c.2.2.1 0 (l.1 - 1)&&(c.2.1 != c.2.2.1&&(c.2.2.2.1==0&&(c.2.2.2.2.1==0&&decide (c.2.2.2.2.2.1=[])))))
 else if c.1=5 then wi c.2.2.2.1 0 (l.2 - 1)&&(wi c.2.2.2.2.1 0 l.1&&(c.2.1==0&&(c.2.2.1==0&&decide (c.2.2.2.2.2.1=[]))))
 else if c.1=6 then dh_ l c.2.2.2.2.2.1&&(wi c.2.2.2.1 0 l.1&&(wi c.2.2.2.2.1 0 l.1&&(c.2.1==0&&c.2.2.1==0)))
 else if c.1=7 then wi c.2.1 0 (l.1 - 1)&&(wi c.2.2.2.1 2 10&&(wi c.2.2.2.2.1 0 (c.2.2.2.1 - 1)&&(c.2.2.1==0&&decide (c.2.2.2.2.2.1=[]))))
 else false
theorem len0 (l:List Int):((l.length:Int)==((([]:List Int)).length:Int))=decide (l=[]):=by cases l<;>simp<;>omega
theorem vc_ {l:ab_} (h:Lk l) {c:al_} (hs:Sm c.2.2.2.2.2.1.length):gw_ l c=some (di_ l c,()):=by
 unfold gw_ di_ js_
 simp only[oy_,vb_ h,zm_ hs,a0_,h.ww,h.ws,d4_,a5_]
 by_cases h1:c.1=1
 ·simp only[h1]
  cases wi c.2.1 0 (l.1 - 1)<;>cases wi c.2.2.2.1 0 (l.2 - 1)<;>simp only[a5_,a2_,a0_,d4_,c0_,e4_,Int.reduceBEq,k9_,h6_,Int.reduceEq,n3_,n2_,m8_]<;>cases c.2.2.1==0<;>cases c.2.2.2.2.1==0<;>rfl
 by_cases h2:c.1=2
 ·simp only[h2]
  cases wi c.2.1 0 (l.1 - 1)<;>cases wi c.2.2.1 0 (l.1 - 1)<;>cases decide (c.2.1≤c.2.2.1)<;>cases wi c.2.2.2.1 0 100<;>simp only[a5_,a2_,a0_,d4_,c0_,e4_,Int.reduceBEq,k9_,h6_,Int.reduceEq,n3_,n2_,m8_]<;>cases c.2.2.2.2.1==0<;>rfl
 by_cases h3:c.1=3
 ·simp only[h3]
  cases wi c.2.1 0 (l.1 - 1)<;>cases wi c.2.2.1 0 (l.1 - 1)<;>cases c.2.1 != c.2.2.1<;>simp only[a5_,a2_,a0_,d4_,c0_,e4_,Int.reduceBEq,k9_,h6_,Int.reduceEq,n3_,n2_,m8_]<;>cases c.2.2.2.1==0<;>cases c.2.2.2.2.1==0<;>rfl
 by_cases h4:c.1=4
 ·simp only[h4]
  cases wi c.2.1 0 (l.1 - 1)<;>cases wi c.2.2.1 0 (l.1 - 1)<;>cases c.2.1 != c.2.2.1<;>simp only[a5_,a2_,a0_,d4_,c0_,e4_,Int.reduceBEq,k9_,h6_,Int.reduceEq,n3_,n2_,m8_]<;>cases c.2.2.2.1==0<;>cases c.2.2.2.2.1==0<;>rfl
 by_cases h5:c.1=5
 ·simp only[h5]
  cases wi c.2.2.2.1 0 (l.2 - 1)<;>cases wi c.2.2.2.2.1 0 l.1<;>simp only[a5_,a2_,a0_,d4_,c0_,e4_,Int.reduceBEq,k9_,h6_,Int.reduceEq,n3_,n2_,m8_]<;>cases c.2.1==0<;>cases c.2.2.1==0<;>rfl
 by_cases h6:c.1=6
 ·simp only[h6]
  cases dh_ l c.2.2.2.2.2.1<;>cases wi c.2.2.2.1 0 l.1<;>cases wi c.2.2.2.2.1 0 l.1<;>simp only[a5_,a2_,a0_,d4_,c0_,e4_,Int.reduceBEq,k9_,h6_,Int.reduceEq,n3_,n2_,m8_]<;>cases c.2.1==0<;>cases c.2.2.1==0<;>simp
 by_cases h7:c.1=7
 ·simp only[h7]
  cases wi c.2.1 0 (l.1 - 1)
  ·rfl
  cases hn:wi c.2.2.2.1 2 10
  ·rfl
  have:=cl_.1 hn
  rw[lw_ (n:=c.2.2.2.1 - 1) (by omega) (by omega)]
  cases wi c.2.2.2.2.1 0 (c.2.2.2.1 - 1)<;>simp only[a5_,a2_,a0_,d4_,c0_,e4_,Int.reduceBEq,k9_,h6_,Int.reduceEq,n3_,n2_,m8_]<;>cases c.2.2.1==0<;>rfl
 have b1:(c.1==1)=false:=by simp[h1]
 have b2:(c.1==2)=false:=by simp[h2]
 have b3:(c.1==3)=false:=by simp[h3]
 have b4:(c.1==4)=false:=by simp[h4]
 have b5:(c.1==5)=false:=by simp[h5]
 have b6:(c.1==6)=false:=by simp[h6]
 have b7:(c.1==7)=false:=by simp[h7]
 simp only[b1,b2,b3,b4,b5,b6,b7,h1,h2,h3,h4,h5,h6,h7,a2_,a0_,h6_,m8_]
theorem ps_ {l:ab_} (h:Lk l) (c:al_):dp_ l c=some (di_ l c,()):=by
 unfold dp_ di_
 simp only[mm_,vt_ h,nj_ h,pr_ h,a0_]
 by_cases h1:c.1=1
 ·simp only[h1]
  cases wi c.2.1 0 (l.1 - 1)<;>cases wi c.2.2.2.1 0 (l.2 - 1)<;>simp only[a5_,a2_,a0_,d4_,c0_,e4_,Int.reduceBEq,k9_,h6_,Int.reduceEq,n3_,n2_,m8_,len0]<;>cases c.2.2.1==0<;>cases c.2.2.2.2.1==0<;>rfl
 by_cases h2:c.1=2
 ·simp only[h2]
  cases wi c.2.1 0 (l.1 - 1)<;>cases wi c.2.2.1 0 (l.1 - 1)<;>cases decide (c.2.1≤c.2.2.1)<;>cases wi c.2.2.2.1 0 100<;>simp only[a5_,a2_,a0_,d4_,c0_,e4_,Int.reduceBEq,k9_,h6_,Int.reduceEq,n3_,n2_,m8_,len0]<;>cases c.2.2.2.2.1==0<;>rfl
 by_cases h3:c.1=3
 ·simp only[h3]
  cases wi c.2.1 0 (l.1 - 1)<;>cases wi c.2.2.1 0 (l.1 - 1)<;>cases c.2.1 != c.2.2.1<;>simp only[a5_,a2_,a0_,d4_,c0_,e4_,Int.reduceBEq,k9_,h6_,Int.reduceEq,n3_,n2_,m8_,len0]<;>cases c.2.2.2.1==0<;>cases c.2.2.2.2.1==0<;>rfl
 by_cases h4:c.1=4
 ·simp only[h4]
  cases wi c.2.1 0 (l.1 - 1)<;>cases wi c.2.2.1 0 (l.1 - 1)<;>cases c.2.1 != c.2.2.1<;>simp only[a5_,a2_,a0_,d4_,c0_,e4_,Int.reduceBEq,k9_,h6_,Int.reduceEq,n3_,n2_,m8_,len0]<;>cases c.2.2.2.1==0<;>cases c.2.2.2.2.1==0<;>rfl
 by_cases h5:c.1=5
 ·simp only[h5]
  cases wi c.2.2.2.1 0 (l.2 - 1)<;>cases wi c.2.2.2.2.1 0 l.1<;>simp only[a5_,a2_,a0_,d4_,c0_,e4_,Int.reduceBEq,k9_,h6_,Int.reduceEq,n3_,n2_,m8_,len0]<;>cases c.2.1==0<;>cases c.2.2.1==0<;>rfl
 by_cases h6:c.1=6
 ·simp only[h6]
  cases dh_ l c.2.2.2.2.2.1<;>cases wi c.2.2.2.1 0 l.1<;>cases wi c.2.2.2.2.1 0 l.1<;>simp only[a5_,a2_,a0_,d4_,c0_,e4_,Int.reduceBEq,k9_,h6_,Int.reduceEq,n3_,n2_,m8_,len0]<;>cases c.2.1==0<;>cases c.2.2.1==0<;>rfl
 by_cases h7:c.1=7
 ·simp only[h7]
  cases wi c.2.1 0 (l.1 - 1)
  ·rfl
  cases hn:wi c.2.2.2.1 2 10
  ·rfl
  have:=cl_.1 hn
  rw[lw_ (n:=c.2.2.2.1 - 1) (by omega) (by omega)]
  cases wi c.2.2.2.2.1 0 (c.2.2.2.1 - 1)<;>simp only[a5_,a2_,a0_,d4_,c0_,e4_,Int.reduceBEq,k9_,h6_,Int.reduceEq,n3_,n2_,m8_,len0]<;>cases c.2.2.1==0<;>rfl
 have b1:(c.1==1)=false:=by simp[h1]
 have b2:(c.1==2)=false:=by simp[h2]
 have b3:(c.1==3)=false:=by simp[h3]
 have b4:(c.1==4)=false:=by simp[h4]
 have b5:(c.1==5)=false:=by simp[h5]
 have b6:(c.1==6)=false:=by simp[h6]
 have b7:(c.1==7)=false:=by simp[h7]
 simp only[b1,b2,b3,b4,b5,b6,b7,h1,h2,h3,h4,h5,h6,h7,a2_,a0_,h6_,m8_]
theorem vp_ {l:ab_} (hl:Lk l) {c:al_} (hs:Sm c.2.2.2.2.2.1.length):gh_ l c=some (cond (di_ l c) 0 11,()):=by
 unfold gh_
 rw[lz_,pc_.2 hl,if_pos rfl,a0_,vc_ hl hs]
 cases di_ l c<;>rfl
theorem vu_ {l:ab_} (hl:Lk l) (c:al_):gl_ l c=some (cond (di_ l c) 0 11,()):=by
 unfold gl_
 rw[mn_,pc_.2 hl,if_pos rfl,a0_,ps_ hl]
 cases di_ l c<;>rfl
end
section
theorem ab5 {α τ σ ρ:Type} (l:List α) (f:τ→α→τ) (F:Nat→τ→σ) (R:τ→ρ) (t0:τ) {body:σ→Option (σ⊕ρ)}
  (h:∀ i x t,l[i]?=some x→body (F i t)=some (.inl (F (i+1) (f t x)))) (e:∀ t,body (F l.length t)=some (.inr (R t))):af_ body (F 0 t0)=some (R (l.foldl f t0)):=by
 obtain⟨t,h1,h2⟩:=ne_ l (λ_=>f) F R t0 (λi t=>t=(l.take i).foldl f t0) rfl (λi x t hx ht=>⟨h i x t hx,by
  rw[ht,d6_,hx,n8_]
  rfl⟩) (λt _=>e t)
 rw[h2,h1,e1_]
theorem nl_ {α τ σ ρ υ:Type} (l:List α) (f:τ→α→τ) (F:Nat→τ→σ) (R:τ→ρ) (t0:τ) {body:σ→Option (σ⊕ρ)} {K:ρ→Option υ} {x:Option υ}
  (h:∀ i x t,l[i]?=some x→body (F i t)=some (.inl (F (i+1) (f t x)))) (e:∀ t,body (F l.length t)=some (.inr (R t))) (hk:K (R (l.foldl f t0))=x):(af_ body (F 0 t0)).bind K=x:=by
 rw[ab5 l f F R t0 h e,a0_,hk]
theorem al0 {α β:Type}:∀ (l:List α) (m:List β) (i:Nat),(l.zip m).take i=(l.take i).zip (m.take i)
 | [],m,i=>by simp
 | x::l,[],i=>by cases i<;>simp
 | x::l,y::m,0=>rfl
 | x::l,y::m,i+1=>by simp[al0 l m i]
theorem kt_ {l:ab_} {c:List Int}:dh_ l c=true↔(c.length:Int)=l.1∧∀ n ∈ c,0≤n∧n≤l.2 - 1:=by
 unfold dh_
 rw[a1_,l8_,f3_]
 exact⟨λh=>⟨h.1,λn hn=>cl_.1 (h.2 n hn)⟩,λh=>⟨h.1,λn hn=>cl_.2 (h.2 n hn)⟩⟩
def ac2 (l:List Int) (k:Int):Int:=l.foldl (λs x=>cond (x==k) (w64 (s+1)) s) 0
def cg2 (code guess:List Int):Int:=(code.zip guess).foldl (λs p=>cond (p.1==p.2) (w64 (s+1)) s) 0
def comW (code guess:List Int):Int:=(List.range 10).foldl (λs (k:Nat)=>w64 (s+cm7 (ac2 code k) (ac2 guess k))) 0
theorem aq9 {l:List Int} {j:Nat} {x k:Int} (h:l[j]?=some x):ac2 (l.take (j+1)) k=cond (x==k) (w64 (ac2 (l.take j) k+1)) (ac2 (l.take j) k):=by
 unfold ac2
 rw[d6_,h,n8_]
 rfl
theorem rk_ {l:List Int} {k:Int} (hl:Sm l.length):eu_ l k=some (ac2 l k,()):=by
 unfold eu_ ac2
 refine nl_ l (λs x=>cond (x==k) (w64 (s+1)) s) (λi s=>(s,((i:Int),()))) (λs=>(s,())) 0 (λi x s hx=>by
  have hi:=am_ hx
  simp only[dlt hi,a5_,ai_ hx,a0_,bb_ (show Sm i by unfold Sm at *; omega)]
  cases x==k<;>rfl) (λs=>by simp only[dnl,a2_]) rfl
theorem am4 {l:ab_} (hl:Lk l) {code guess:List Int} (hc:dh_ l code=true) (hg:dh_ l guess=true):jf_ code guess=some (cg2 code guess,(w64 (comW code guess - cg2 code guess),())):=by
 obtain⟨c1,_⟩:=kt_.1 hc
 obtain⟨g1,_⟩:=kt_.1 hg
 have w2:=hl.w2
 have sc:Sm code.length:=by unfold Sm;omega
 have sg:Sm guess.length:=by unfold Sm;omega
 have hz:(code.zip guess).length=code.length:=by rw[m9_];omega
 unfold jf_
 refine nl_ (code.zip guess) (λs p=>cond (p.1==p.2) (w64 (s+1)) s) (λi s=>(s,((i:Int),()))) (λs=>(s,())) 0 (λi p s hp=>by
  obtain⟨h1,h2⟩:=h3_.1 hp
  simp only[dlt (am_ h1),a5_,ai_ h1,ai_ h2,a0_,bb_ (show Sm i by have:=am_ h1;unfold Sm at *; omega)]
  cases p.1==p.2<;>rfl) (λs=>by rw[hz];simp only[dnl,a2_]) ?_
 refine nl_ (List.range 10) (λs (k:Nat)=>w64 (s+cm7 (ac2 code k) (ac2 guess k))) (λi s=>(s,((i:Int),()))) (λs=>(s,())) 0 (λi k s hk=>by
  have hi:=am_ hk
  rw[i4_] at hi
  rw[m3_ hi] at hk
  obtain rfl:=a6_ hk
  simp only[show decide ((i:Int)<10)=true from b9_ (by omega),a5_,rk_ sc,rk_ sg,a0_,bb_ (show Sm i by unfold Sm;omega)]) (λs=>by
  rw[i4_]
  rfl) rfl
theorem aq6 {l:ab_} (hl:Lk l) {code guess:List Int} (hc:dh_ l code=true) (hg:dh_ l guess=true):jg_ code guess=some (cg2 code guess,(w64 (comW code guess - cg2 code guess),())):=by
  obtain⟨c1,c2⟩:=kt_.1 hc
  obtain⟨g1,g2⟩:=kt_.1 hg
  have w2:=hl.w2
  have s2:=hl.s2
  have hz:(code.zip guess).length=code.length:=by rw[m9_];omega
  have tk:∀ i,(code.zip guess).take i=(code.take i).zip (guess.take i):=λi=>al0 _ _ i
  let I:Nat→(Int×(List Int×List Int))→Prop:=λi t=>t.1=cg2 (code.take i) (guess.take i)∧t.2.1.length=10∧t.2.2.length=10∧∀ k:Nat,k<10→t.2.1[k]?=some (ac2 (code.take i) k)∧t.2.2[k]?=some (ac2 (guess.take i) k)
  have h1:=ne_ (code.zip guess) (λ_ (t:Int×(List Int×List Int)) p=>(cond (p.1==p.2) (w64 (t.1+1)) t.1,(t.2.1.set p.1.toNat (w64 ((t.2.1[p.1.toNat]?).getD 0+1)),t.2.2.set p.2.toNat (w64 ((t.2.2[p.2.toNat]?).getD 0+1)))))
    (λi t=>(t.1,((i:Int),(t.2.1,(t.2.2,()))))) (λt=>(t.1,(t.2.1,(t.2.2,())))) (0,([0,0,0,0,0,0,0,0,0,0],[0,0,0,0,0,0,0,0,0,0])) I
    (body:=λ(v0:(Int×(Int×((List Int)×((List Int)×Unit))))) =>
 (cond (decide (v0.2.1<(code.length:Int)))
 ((at? code v0.2.1).bind λv1 =>
 ((((at? guess v0.2.1).bind λv2 =>
 (cond (v1==v2)
 (some ((w64 (v0.1+1)),()))
 (some (v0.1,()))))).bind λv3 =>
 (cond (decide (v1<(10:Int)))
 ((at? v0.2.2.1 v1).bind λv4 =>
 ((at? v0.2.2.1 v1).bind λv5 =>
 (cond (decide (v1<(10:Int)))
 ((at? v0.2.2.1 v1).bind λv6 =>
 ((at? v0.2.2.1 v1).bind λv7 =>
 ((at? guess v0.2.1).bind λv8 =>
 (cond (decide (v8<(10:Int)))
 ((at? v0.2.2.2.1 v8).bind λv9 =>
 ((at? v0.2.2.2.1 v8).bind λv10 =>
 (cond (decide (v8<(10:Int)))
 ((at? v0.2.2.2.1 v8).bind λv11 =>
 ((at? v0.2.2.2.1 v8).bind λv12 =>
 (some (inl (v3.1,((w64 (v0.2.1+1)),((v0.2.2.1.set v1.toNat (w64 (v5+1))),((v0.2.2.2.1.set v8.toNat (w64 (v10+1))),()))))))))
 none)))
 none))))
 none)))
 none)))
 (some (inr (v0.1,(v0.2.2.1,(v0.2.2.2.1,())))))))
    ⟨rfl,rfl,rfl,λk hk=>⟨by
      match k,hk with
      | 0,_ | 1,_ | 2,_ | 3,_ | 4,_ | 5,_ | 6,_ | 7,_ | 8,_ | 9,_=>rfl,by
      match k,hk with
      | 0,_ | 1,_ | 2,_ | 3,_ | 4,_ | 5,_ | 6,_ | 7,_ | 8,_ | 9,_=>rfl⟩⟩ (λi p t hp ht=>by
      obtain⟨x,y⟩:=p
      obtain⟨hx,hy⟩:=h3_.1 hp
      obtain⟨t1,t2,t3,t4⟩:=ht
      have hx':=c2 x (b2_ hx)
      have hy':=g2 y (b2_ hy)
      have ax:at? t.2.1 x=some (ac2 (code.take i) x):=by
        have:=(t4 x.toNat (by omega)).1
        rw[show ((x.toNat:Nat):Int)=x by omega] at this
        unfold at?
        rw[if_pos hx'.1]
        exact this
      have ay:at? t.2.2 y=some (ac2 (guess.take i) y):=by
        have:=(t4 y.toNat (by omega)).2
        rw[show ((y.toNat:Nat):Int)=y by omega] at this
        unfold at?
        rw[if_pos hy'.1]
        exact this
      have gx:t.2.1[x.toNat]?=some (ac2 (code.take i) x):=by
        have:=(t4 x.toNat (by omega)).1
        rwa [show ((x.toNat:Nat):Int)=x by omega] at this
      have gy:t.2.2[y.toNat]?=some (ac2 (guess.take i) y):=by
        have:=(t4 y.toNat (by omega)).2
        rwa [show ((y.toNat:Nat):Int)=y by omega] at this
      refine⟨?_,?_,?_,?_,λk hk => ?_⟩
      · simp only[dlt (am_ hx),a5_,ai_ hx,ai_ hy,a0_,ax,ay,show decide (x<10)=true from b9_ (by omega),show decide (y<10)=true from b9_ (by omega),bb_ (show Sm i by have:=am_ hx;unfold Sm;omega),gx,gy,g2_]
        cases x==y<;>rfl
      · show cond (x==y) (w64 (t.1+1)) t.1=cg2 (code.take (i+1)) (guess.take (i+1))
        unfold cg2
        rw[← tk,d6_,hp,n8_,tk,t1]
        rfl
      · simp[t2]
      · simp[t3]
      · obtain⟨q1,q2⟩:=t4 k hk
        constructor
        · show (t.2.1.set x.toNat (w64 ((t.2.1[x.toNat]?).getD 0+1)))[k]?=_
          rw[aq9 hx,gx,g2_,g4_]
          by_cases e:x.toNat=k
          · have e2:x=(k:Int):=by omega
            rw[if_pos e,if_pos (by omega),e2,d4_,a5_]
          · have e2:(x==(k:Int))=false:=by simp;omega
            rw[if_neg e,q1,e2,a2_]
        · show (t.2.2.set y.toNat (w64 ((t.2.2[y.toNat]?).getD 0+1)))[k]?=_
          rw[aq9 hy,gy,g2_,g4_]
          by_cases e:y.toNat=k
          · have e2:y=(k:Int):=by omega
            rw[if_pos e,if_pos (by omega),e2,d4_,a5_]
          · have e2:(y==(k:Int))=false:=by simp;omega
            rw[if_neg e,q2,e2,a2_]) (λt _=>by rw[hz];simp only[dnl,a2_])
  obtain⟨t,⟨t1,t2,t3,t4⟩,h2⟩:=h1
  rw[hz] at t1 t4
  rw[e1_,show guess.take code.length=guess by rw[g6_ (by omega)]] at t1
  unfold jg_
  refine (congrArg (λo=>Option.bind o _) h2).trans ?_
  rw[a0_]
  refine nl_ (List.range 10) (λs (k:Nat)=>w64 (s+cm7 (ac2 code k) (ac2 guess k))) (λi s=>(s,((i:Int),()))) (λs=>(s,())) 0 (λi k s hk=>by
    have hi:=am_ hk
    rw[i4_] at hi
    rw[m3_ hi] at hk
    obtain rfl:=a6_ hk
    obtain⟨q1,q2⟩:=t4 i hi
    rw[e1_] at q1
    rw[show guess.take code.length=guess by rw[g6_ (by omega)]] at q2
    simp only[show decide ((i:Int)<10)=true from b9_ (by omega),a5_,ai_ q1,ai_ q2,a0_,bb_ (show Sm i by unfold Sm;omega)]) (λs=>by
    rw[i4_]
    rfl) ?_
  rw[t1]
  rfl
end
section
def xr_ (code:List Int) (a b:Int):List Int:=(code.take (b+1).toNat).drop a.toNat
def sumW (l:List Int):Int:=l.foldl (λs x=>w64 (s+x)) 0
def gt0 (code:List Int) (i:Int):Int:=(at? code i).getD 0
def plV (c:al_) (code:List Int):Bool :=
 cond (c.1==1) (gt0 code c.2.1==c.2.2.2.1) <|
 cond (c.1==2) (sumW (xr_ code c.2.1 c.2.2.1)==c.2.2.2.1) <|
 cond (c.1==3) (decide (gt0 code c.2.1<gt0 code c.2.2.1)) <|
 cond (c.1==4) (gt0 code c.2.1==gt0 code c.2.2.1) <|
 cond (c.1==5) (ac2 code c.2.2.2.1==c.2.2.2.2.1) <|
 cond (c.1==6) (cond (cg2 code c.2.2.2.2.2.1==c.2.2.2.1) (w64 (comW code c.2.2.2.2.2.1 - cg2 code c.2.2.2.2.2.1)==c.2.2.2.2.1) false) <|
 cond (c.1==7) ((gt0 code c.2.1).tmod c.2.2.2.1==c.2.2.2.2.1) false
def tr (c:al_) (code:List Int):Bool:=plV c code != c.2.2.2.2.2.2
theorem gt0_at {code:List Int} {i x:Int} (h:at? code i=some x):gt0 code i=x:=by unfold gt0;rw[h];rfl
theorem qr_ {l:ab_} (hl:Lk l) {c:al_} {code:List Int} (hc:di_ l c=true) (hk:dh_ l code=true):fw_ c code=some (tr c code,())∧gj_ c code=some (tr c code,()):=by
 obtain⟨c1,c2⟩:=kt_.1 hk
 have w1:=hl.w1;have w2:=hl.w2;have s1:=hl.s1;have s2:=hl.s2
 have sc:Sm code.length:=by unfold Sm;omega
 unfold di_ at hc
 have hat:∀ i,wi i 0 (l.1 - 1)=true→at? code i=some (gt0 code i):=by
  intro i hi
  obtain⟨a,b⟩:=cl_.1 hi
  obtain⟨x,h1⟩:=bf_ (l:=code) (i:=i.toNat) (by omega)
  have h2:at? code i=some x:=by unfold at?; rw[if_pos a];exact h1
  rw[h2,gt0_at h2]
 unfold fw_ gj_ oc_ tr plV
 by_cases h1:c.1=1
 ·simp only[h1,k9_,a1_] at hc
  have hx:=hat _ hc.1
  simp only[h1,hx,d4_,a5_,a0_,and_self]
 have b1:(c.1==1)=false:=by simp[h1]
 simp only[b1,a2_]
 by_cases h2:c.1=2
 ·simp only[h2,k9_,a1_,show ¬ ((2:Int)=1) by omega,h6_] at hc
  obtain⟨hA,hB,hAB,_⟩:=hc
  obtain⟨a1,a2⟩:=cl_.1 hA
  obtain⟨d1,d2⟩:=cl_.1 hB
  have hab:c.2.1≤c.2.2.1:=by simpa using hAB
  have hsub:sub? code c.2.1 (w64 (c.2.2.1+1))=some (xr_ code c.2.1 c.2.2.1):=by
   rw[lw_ (by omega) (by omega)]
   unfold sub? xr_
   rw[if_pos ⟨a1,by omega,by omega⟩]
  have hsl:(xr_ code c.2.1 c.2.2.1).length=(c.2.2.1 - c.2.1+1).toNat:=by
   unfold xr_
   rw[j2_,c7_]
   omega
  have hsg:∀ (j:Nat) x,(xr_ code c.2.1 c.2.2.1)[j]?=some x→at? code (c.2.1+(j:Int))=some x:=by
   intro j x hj
   have hlt:=am_ hj
   unfold xr_ at hj
   rw[List.getElem?_drop,i8_,if_pos (by omega)] at hj
   unfold at?
   rw[if_pos (by omega),show (c.2.1+(j:Int)).toNat=c.2.1.toNat+j by omega]
   exact hj
  simp only[h2,d4_,a5_,hsub,a0_]
  constructor
  ·have:=ab5 (xr_ code c.2.1 c.2.2.1) (λs x=>w64 (s+x)) (λi s=>(s,(c.2.1+(i:Int),()))) (λs=>(s,())) 0 (body:=λ(v1:(Int×(Int×Unit))) =>
    (cond (decide (v1.2.1≤c.2.2.1))
    ((at? code v1.2.1).bind λv2 =>
    (some (inl ((w64 (v1.1+v2)),((w64 (v1.2.1+1)),())))))
    (some (inr (v1.1,()))))) (λi x s hx=>by
    have hi:=am_ hx
    simp only[show decide (c.2.1+(i:Int)≤c.2.2.1)=true from b9_ (by omega),a5_,hsg i x hx,a0_,lw_ (n:=c.2.1+(i:Int)+1) (by omega) (by omega)]
    rw[show c.2.1+(i:Int)+1=c.2.1+((i+1:Nat):Int) by omega]) (λs=>by
    simp only[show decide (c.2.1+((xr_ code c.2.1 c.2.2.1).length:Int)≤c.2.2.1)=false from c2_ (by omega),a2_])
   simp only[Int.natCast_zero,Int.add_zero] at this
   rw[this]
   rfl
  ·refine congrArg (λo=>Option.bind o _) (?_:_=some (sumW (xr_ code c.2.1 c.2.2.1)==c.2.2.2.1,())) |>.trans rfl
   refine nl_ (xr_ code c.2.1 c.2.2.1) (λs x=>w64 (s+x)) (λi s=>(s,((i:Int),()))) (λs=>(s,())) 0 (λi x s hx=>by
    have hi:=am_ hx
    simp only[dlt hi,a5_,ai_ hx,a0_,bb_ (show Sm i by unfold Sm;omega)]) (λs=>by simp only[dnl,a2_]) rfl
 have b2:(c.1==2)=false:=by simp[h2]
 simp only[b2,a2_]
 by_cases h3:c.1=3
 ·simp only[h3,k9_,a1_,show ¬ ((3:Int)=1) by omega,show ¬ ((3:Int)=2) by omega,h6_,n2_] at hc
  simp only[h3,hat _ hc.1,hat _ hc.2.1,d4_,a5_,a0_,and_self]
 have b3:(c.1==3)=false:=by simp[h3]
 simp only[b3,a2_]
 by_cases h4:c.1=4
 ·simp only[h4,k9_,a1_,show ¬ ((4:Int)=1) by omega,show ¬ ((4:Int)=2) by omega,h6_,n3_] at hc
  simp only[h4,hat _ hc.1,hat _ hc.2.1,d4_,a5_,a0_,and_self]
 have b4:(c.1==4)=false:=by simp[h4]
 simp only[b4,a2_]
 by_cases h5:c.1=5
 ·have hs:=rk_ (k:=c.2.2.2.1) sc
  simp only[h5,d4_,a5_,hs,a0_,true_and]
  have:=hs
  unfold eu_ at this
  obtain⟨y,h6,h7⟩:=bnd this
  rw[h6]
  have e:y.1=ac2 code c.2.2.2.1:=congrArg Prod.fst (a6_ h7)
  rw[a0_,a0_,e]
 have b5:(c.1==5)=false:=by simp[h5]
 simp only[b5,a2_]
 by_cases h6:c.1=6
 ·simp only[h6,k9_,a1_,show ¬ ((6:Int)=1) by omega,show ¬ ((6:Int)=2) by omega,show ¬ ((6:Int)=3∨(6:Int)=4) by omega,show ¬ ((6:Int)=5) by omega,h6_] at hc
  simp only[h6,d4_,a5_,am4 hl hk hc.1,aq6 hl hk hc.1,a0_]
  cases cg2 code c.2.2.2.2.2.1==c.2.2.2.1<;>exact⟨rfl,rfl⟩
 have b6:(c.1==6)=false:=by simp[h6]
 simp only[b6,a2_]
 by_cases h7:c.1=7
 ·simp only[h7,k9_,a1_,show ¬ ((7:Int)=1) by omega,show ¬ ((7:Int)=2) by omega,show ¬ ((7:Int)=3∨(7:Int)=4) by omega,show ¬ ((7:Int)=5) by omega,show ¬ ((7:Int)=6) by omega,h6_] at hc
  obtain⟨n1,n2⟩:=cl_.1 hc.2.1
  have hm:md (gt0 code c.2.1) c.2.2.2.1=some ((gt0 code c.2.1).tmod c.2.2.2.1):=cu4 (by omega)
  simp only[h7,hat _ hc.1,hm,d4_,a5_,a0_,and_self]
 ·simp[h1,h2,h3,h4,h5,h6,h7] at hc
end
section
def jn_ (S:Nat):Nat→List (List Int)
 | 0=>[[]]
 | W+1=>(List.range S).flatMap λ(x:Nat)=>(jn_ S W).map λc=>(x:Int)::c
theorem be5 {α β:Type} {f:α→List β} {m:Nat}:∀ (l:List α),(∀ x ∈ l,(f x).length=m)→(l.flatMap f).length=l.length * m
 | [],_=>by simp
 | x::l,h=>by
  rw[p3_,a9_,h x (by simp),be5 l (λy hy=>h y (by simp[hy])),c4_,j1_]
  omega
theorem be6 {α β:Type} {f:α→List β} {m:Nat}:∀ (l:List α) (q r:Nat) (x:α),(∀ x ∈ l,(f x).length=m)→r<m→l[q]?=some x→(l.flatMap f)[q * m+r]?=(f x)[r]?
 | [],q,r,x,h,hr,hq=>by simp at hq
 | y::l,0,r,x,h,hr,hq=>by
  have e:y=x:=by simpa using hq
  subst e
  rw[p3_,Nat.zero_mul,b0_,b1_ (by rw[h y (by simp)];exact hr)]
 | y::l,q+1,r,x,h,hr,hq=>by
  have hq':l[q]?=some x:=by simpa using hq
  have hl:=h y (by simp)
  rw[p3_,c6_ (by rw[hl,j1_];omega),hl,show (q+1) * m+r - m=q * m+r by rw[j1_];omega]
  exact be6 l q r x (λz hz=>h z (by simp[hz])) hr hq'
theorem qu_ (S:Nat):∀ W,(jn_ S W).length=S ^ W
 | 0=>rfl
 | W+1=>by
  unfold jn_
  rw[be5 (m:=S ^ W) _ (λx _=>by rw[d3_,qu_ S W]),i4_,j6_,k0_]
theorem uo_ (S:Nat):∀ W c,c ∈ jn_ S W↔c.length=W∧∀ n ∈ c,0≤n∧n<(S:Int)
 | 0,c=>by
  unfold jn_
  rw[e3_]
  constructor
  ·rintro rfl;exact⟨rfl,by simp⟩
  ·rintro⟨h,_⟩;exact n0_.1 h
 | W+1,c=>by
  unfold jn_
  rw[List.mem_flatMap]
  constructor
  ·rintro⟨x,hx,hc⟩
   obtain⟨d,hd,rfl⟩:=d2_.1 hc
   obtain⟨h1,h2⟩:=(uo_ S W d).1 hd
   have:=n9_.1 hx
   refine⟨by rw[c4_,h1],λn hn => ?_⟩
   rcases d8_.1 hn with rfl | hn
   ·omega
   ·exact h2 n hn
  ·rintro⟨h1,h2⟩
   cases c with
   | nil=>simp at h1
   | cons x c =>
    obtain⟨a,b⟩:=h2 x (by simp)
    refine⟨x.toNat,n9_.2 (by omega),d2_.2 ⟨c,(uo_ S W c).2 ⟨by simpa using h1,λn hn=>h2 n (by simp[hn])⟩,?_⟩⟩
    rw[show ((x.toNat:Nat):Int)=x by omega]
def dig (S:Nat):Nat→Nat→List Int
 | 0,_=>[]
 | W+1,i=>dig S W (i / S)++[((i % S:Nat):Int)]
theorem cb2 (S:Nat):∀ W i,(dig S W i).length=W
 | 0,_=>rfl
 | W+1,i=>by unfold dig;rw[a9_,cb2 S W];rfl
theorem bf4 {S:Nat} (hS:0<S):∀ (W q r:Nat),q<S→r<S ^ W→dig S (W+1) (q * S ^ W+r)=(q:Int)::dig S W r
 | 0,q,r,hq,hr=>by
  have:r=0:=by simpa using hr
  subst this
  simp[dig,j9_ hq]
 | W+1,q,r,hq,hr=>by
  have e1:(q * S ^ (W+1)+r) / S=q * S ^ W+r / S:=by
   rw[j6_,← Nat.mul_assoc,k0_ (q * S ^ W) S,Nat.mul_add_div hS]
  have e2:(q * S ^ (W+1)+r) % S=r % S:=by
   rw[j6_,← Nat.mul_assoc,k0_ (q * S ^ W) S,Nat.mul_add_mod]
  have hr':r / S<S ^ W:=Nat.div_lt_of_lt_mul (by rw[k0_,← j6_];exact hr)
  rw[dig,e1,e2,bf4 hS W q (r / S) hq hr']
  rfl
theorem qv_ {S:Nat} (hS:0<S):∀ (W i:Nat),i<S ^ W→(jn_ S W)[i]?=some (dig S W i)
 | 0,i,h=>by
  have:i=0:=by simpa using h
  subst this;rfl
 | W+1,i,h=>by
  have hP:0<S ^ W:=Nat.pow_pos hS
  have hr:i % S ^ W<S ^ W:=Nat.mod_lt _ hP
  have hq:i / S ^ W<S:=Nat.div_lt_of_lt_mul (by rw[← j6_];exact h)
  have he:i=i / S ^ W * S ^ W+i % S ^ W:=by rw[k0_];exact (Nat.div_add_mod i (S ^ W)).symm
  rw[he,bf4 hS W _ _ hq hr]
  unfold jn_
  rw[be6 (m:=S ^ W) _ _ _ (i / S ^ W) (λx _=>by rw[d3_,qu_]) hr (by rw[m3_ hq]),d5_,qv_ hS W _ hr]
  rfl
def rdg (l:ab_) (cl:List al_):List (List Int):=(jn_ l.2.toNat l.1.toNat).filter λc=>cl.all (tr · c)
theorem bf6 {l:ab_} (hl:Lk l) {c:List Int}:c ∈ jn_ l.2.toNat l.1.toNat↔dh_ l c=true:=by
 have:=hl.w1;have:=hl.s1
 rw[uo_,kt_]
 constructor
 ·rintro⟨a,b⟩;exact⟨by omega,λn hn=>by have:=b n hn;omega⟩
 ·rintro⟨a,b⟩;exact⟨by omega,λn hn=>by have:=b n hn;omega⟩
theorem ct4 {l:ab_} (hl:Lk l):l.2.toNat ^ l.1.toNat≤10000:=by
 have:=hl.w1;have:=hl.w2;have:=hl.s1;have:=hl.s2
 have h1:l.2.toNat ^ l.1.toNat≤10 ^ l.1.toNat:=Nat.pow_le_pow_left (by omega) _
 have h2:10 ^ l.1.toNat≤10 ^ 4:=Nat.pow_le_pow_right (by omega) (by omega)
 omega
theorem ce7 (cl:List al_) (code:List Int):(!(cl.any λc=>!(tr c code)))=cl.all (tr · code):=uu_ cl λc=>tr c code
theorem av5 {l:ab_} (hl:Lk l) {cl:List al_} (hn:cl.length≤20) {code:List Int} (hc:∀ c ∈ cl,di_ l c=true) (hk:dh_ l code=true):∃ r,km_ cl code=some (r,())∧decide (r<0)=cl.all (tr · code):=by
 obtain⟨n,h1,h2,_⟩:=if_lt (l:=cl) (by unfold Sm;omega) (λc=>!(tr c code)) (body:=λ(v0:(Int×Unit)) =>
  (cond (decide (v0.1<(cl.length:Int)))
  ((at? cl v0.1).bind λv1 =>
  ((fw_ v1 code).bind λv2 =>
  (cond (!v2.1)
  (some (inr (inr (v0.1,()))))
  (some (inl ((w64 (v0.1+1)),()))))))
  (some (inr (inl ()))))) (λi c hi=>by
  simp only[dlt (am_ hi),a5_,ai_ hi,a0_,(qr_ hl (hc c (b2_ hi)) hk).1]
  cases tr c code<;>rfl) (by simp only[dnl,a2_])
 exact⟨n,h1,by rw[h2,ce7]⟩
theorem ax7 {l:ab_} (hl:Lk l) {cl:List al_} (hn:cl.length≤20) {code:List Int} (hc:∀ c ∈ cl,di_ l c=true) (hk:dh_ l code=true):∃ r,gk_ cl code=some (r,())∧decide (r<0)=cl.all (tr · code):=by
 obtain⟨n,h1,h2,_⟩:=if_lt (l:=cl) (by unfold Sm;omega) (λc=>!(tr c code)) (body:=λ(v0:(Int×Unit)) =>
  (cond (decide (v0.1<(cl.length:Int)))
  ((at? cl v0.1).bind λv1 =>
  ((gj_ v1 code).bind λv2 =>
  (cond (!v2.1)
  (some (inr (inr (v0.1,()))))
  (some (inl ((w64 (v0.1+1)),()))))))
  (some (inr (inl ()))))) (λi c hi=>by
  simp only[dlt (am_ hi),a5_,ai_ hi,a0_,(qr_ hl (hc c (b2_ hi)) hk).2]
  cases tr c code<;>rfl) (by simp only[dnl,a2_])
 exact⟨n,h1,by rw[h2,ce7]⟩
theorem rep_set {p:Nat} {x:Int} {t:List Int}:(List.replicate (p+1) (0:Int)++t).set p x=List.replicate p 0++(x::t):=by
 rw[List.set_append_left _ _ (by rw[e8_];omega),q0_,p9_ _ _ (by rw[e8_];omega),e8_,l2_]
 simp
theorem cp6 {l:ab_} (hl:Lk l) {S:Nat} (hS:l.2=(S:Int)):∀ (p n:Nat) (t:List Int),p≤4→n≤10000→af_ (ρ:=((List Int)×Unit)) (λ(v4:(Int×(Int×((List Int)×Unit)))) =>
 (cond (decide (0≤v4.2.1))
 ((md v4.1 l.2).bind λv5 =>
 ((at? v4.2.2.1 v4.2.1).bind λv6 =>
 ((at? v4.2.2.1 v4.2.1).bind λv7 =>
 ((dv v4.1 l.2).bind λv8 =>
 (some (inl (v8,((w64 (v4.2.1 - 1)),((v4.2.2.1.set v4.2.1.toNat v5),())))))))))
 (some (inr (v4.2.2.1,()))))) ((n:Int),((p:Int) - 1,(List.replicate p 0++t,())))=some (dig S p n++t,()):=by
  have s1:=hl.s1;have s2:=hl.s2
  intro p
  induction p with
  | zero =>
    intro n t _ _
    refine my_ ?_
    simp[dig]
  | succ p ih =>
    intro n t hp hn
    have hd:dv (n:Int) l.2=some ((n / S:Nat):Int):=by
      unfold dv
      have:n / S≤n:=Nat.div_le_self n S
      rw[hS,if_neg (by omega),show (n:Int).tdiv (S:Int)=((n / S:Nat):Int) from (Int.ofNat_tdiv ..).symm]
      generalize n / S=q at this
      rw[lw_ (by omega) (by omega)]
    have hm:md (n:Int) l.2=some ((n % S:Nat):Int):=by
      rw[hS,cu4 (by omega),show (n:Int).tmod (S:Int)=((n % S:Nat):Int) from (Int.ofNat_tmod ..).symm]
    obtain⟨y,hy⟩:=bf_ (l:=List.replicate (p+1) (0:Int)++t) (i:=p) (by simp;omega)
    have e:((p+1:Nat):Int) - 1=((p:Nat):Int):=by omega
    refine (tp_ (s':=(((n / S:Nat):Int),((p:Int) - 1,(List.replicate p 0++(((n % S:Nat):Int)::t),())))) ?_).trans ?_
    · simp only[e,show decide (0≤(p:Int))=true from b9_ (by omega),a5_,hm,hd,ai_ hy,a0_,c1_,rep_set,lw_ (n:=(p:Int) - 1) (by omega) (by omega)]
    · rw[ih (n / S) _ (by omega) (c5_ (Nat.div_le_self n S) hn)]
      simp[dig]
theorem bq6 {l:ab_} (hl:Lk l) {cl:List al_} (hn:cl.length≤20) (hc:∀ c ∈ cl,di_ l c=true):ny_ l cl=some (rdg l cl,()):=by
  have w1:=hl.w1;have w2:=hl.w2;have s1:=hl.s1;have s2:=hl.s2
  obtain⟨W,hW⟩:∃ W:Nat,l.1=(W:Int):=⟨l.1.toNat,by omega⟩
  obtain⟨S,hS⟩:∃ S:Nat,l.2=(S:Int):=⟨l.2.toNat,by omega⟩
  have hpow:S ^ W≤10000:=by have:=ct4 hl;rwa [hW,hS,c1_,c1_] at this
  have hSp:0<S:=by omega
  have hlen:=qu_ S W
  have e1:af_ (ρ:=(Int×Unit)) (λ(v0:(Int×(Int×Unit))) =>
      (cond (decide (v0.2.1<l.1))
      (some (inl ((w64 (v0.1 * l.2)),((w64 (v0.2.1+1)),()))))
      (some (inr (v0.1,()))))) (1,(0,()))=some (((S ^ W:Nat):Int),()):=by
    obtain⟨t,rfl,h2⟩:=ne_ (List.range W) (λi t x=>t * S) (λi (t:Nat)=>((t:Int),((i:Int),()))) (λt=>((t:Int),())) 1 (λi t=>t=S ^ i) (body:=λ(v0:(Int×(Int×Unit))) =>
      (cond (decide (v0.2.1<l.1))
      (some (inl ((w64 (v0.1 * l.2)),((w64 (v0.2.1+1)),()))))
      (some (inr (v0.1,()))))) rfl (λi x t hi ht=>by
      have hi2:=am_ hi
      rw[i4_] at hi2
      have:S ^ (i+1)≤10000:=c5_ (Nat.pow_le_pow_right hSp (by omega)) hpow
      refine⟨?_,by rw[ht,j6_]⟩
      simp only[show decide ((i:Int)<l.1)=true from b9_ (by omega),a5_,bb_ (show Sm i by unfold Sm;omega)]
      rw[hS,← Int.natCast_mul,ht,show S ^ i * S=S ^ (i+1) from (j6_ ..).symm,lw_ (by omega) (by omega)]) (λt _=>by
      rw[i4_]
      simp only[show decide ((W:Int)<l.1)=false from c2_ (by omega),a2_])
    rw[i4_] at h2
    exact h2
  unfold ny_
  refine (congrArg (λo=>Option.bind o _) e1).trans ?_
  rw[a0_]
  obtain⟨t,h1,h2⟩:=ne_ (jn_ S W) (λj t c=>cond (cl.all (tr · c)) (t++[c]) t) (λj (t:List (List Int))=>(t,((j:Int),()))) (λt=>(t,())) [] (λj t=>t=((jn_ S W).take j).filter λc=>cl.all (tr · c)) (body:=λ(v2:((List (List Int))×(Int×Unit))) =>
 (cond (decide (v2.2.1<((S ^ W:Nat):Int)))
 ((((mk? (α:=Int) l.1 0).bind λv3 =>
 ((af_ (ρ:=((List Int)×Unit)) (λ(v4:(Int×(Int×((List Int)×Unit)))) =>
 (cond (decide (0≤v4.2.1))
 ((md v4.1 l.2).bind λv5 =>
 ((at? v4.2.2.1 v4.2.1).bind λv6 =>
 ((at? v4.2.2.1 v4.2.1).bind λv7 =>
 ((dv v4.1 l.2).bind λv8 =>
 (some (inl (v8,((w64 (v4.2.1 - 1)),((v4.2.2.1.set v4.2.1.toNat v5),())))))))))
 (some (inr (v4.2.2.1,()))))) (v2.2.1,((w64 (l.1 - 1)),(v3,())))).bind λv9 =>
 ((km_ cl v9.1).bind λv10 =>
 (cond (decide (v10.1<0))
 ((push? (α:=(List Int)) v2.1 [v9.1]).bind λv11 =>
 (some (v11,())))
 (some (v2.1,()))))))).bind λv12 =>
 (some (inl (v12.1,((w64 (v2.2.1+1)),())))))
 (some (inr (v2.1,()))))) rfl (λj c t hj ht=>by
    have hj2:=am_ hj
    rw[hlen] at hj2
    have hg:=qv_ hSp W j hj2
    rw[hj] at hg
    obtain rfl:=a6_ hg
    have hok:dh_ l (dig S W j)=true:=(bf6 hl (c:=dig S W j)).1 (by rw[hW,hS,c1_,c1_];exact b2_ hj)
    obtain⟨r,r1,r2⟩:=av5 hl hn hc hok
    have hdig:=cp6 hl hS W j [] (by omega) (by omega)
    rw[e7_,e7_] at hdig
    have hb:=k1_ (λc=>cl.all (tr · c)) ((jn_ S W).take j)
    rw[c7_] at hb
    refine⟨?_,?_⟩
    · simp only[show decide ((j:Int)<((S ^ W:Nat):Int))=true from b9_ (by omega),a5_,vf_ (show 0≤l.1 by omega) (show l.1≤2147483648 by omega),a0_,hl.ww,show l.1.toNat=W by omega,bb_ (show Sm j by unfold Sm;omega)]
      rw[show l.1 - 1=(W:Int) - 1 by omega]
      have:∀ (K:(List Int×Unit)→Option ((List (List Int)×(Int×Unit))⊕(List (List Int)×Unit))),Option.bind (some (dig S W j,())) K=K (dig S W j,()):=λK=>rfl
      rw[hdig,a0_,r1,a0_,r2]
      cases hp:cl.all (tr · (dig S W j)) with
      | false=>rfl
      | true =>
        rw[a5_,af0 (by rw[ht];simp only[d9_];omega)]
        rfl
    · rw[ht,d6_,hj,n1_]
      cases hp:cl.all (tr · (dig S W j))<;>simp[hp]) (λt _=>by
    rw[hlen]
    simp only[dnl,a2_])
  refine (congrArg (λo=>Option.bind o _) h2).trans ?_
  rw[a0_,h1,e1_]
  unfold rdg
  rw[hW,hS,c1_,c1_]
end
section
theorem bm5 {σ ρ:Type} {body:σ→Option (σ⊕ρ)} (F:Nat→σ) {n:Nat} {r:ρ} (h:∀ j,j<n→body (F j)=some (.inl (F (j+1)))) (e:body (F n)=some (.inr r)):af_ body (F 0)=some r:=by
 have:=mx_ (body:=body) (λj s=>s=F j) (λx=>x=r) n 0 (F 0) rfl (λj s _ hj q=>by subst q;exact .inl ⟨_,h j (by omega),rfl⟩) (λs q=>by subst q;rw[b0_];exact⟨_,e,rfl⟩)
 obtain⟨x,h1,rfl⟩:=this
 exact h1
theorem ci7 {p:List Int} {x y:Int} {t:List Int}:(p++x::t).set p.length y=p++y::t:=by
 rw[p9_ _ _ (c3_ _),l2_]
 rfl
theorem co2 {p:List Int} {x:Int} {t:List Int}:at? (p++x::t) ((p.length:Nat):Int)=some x:=by
 rw[ay4,c6_ (c3_ _),l2_]
 rfl
def odoB (l:ab_):(Int×(List Int×Unit))→Option ((Int×(List Int×Unit))⊕(Int×(List Int×Unit))):=(λ(v3:(Int×((List Int)×Unit))) =>
 (((cond (decide (0≤v3.1))
 ((at? v3.2.1 v3.1).bind λv4 =>
 ((at? v3.2.1 v3.1).bind λv5 =>
 (some ((v5==(w64 (l.2 - 1))),()))))
 (some (false,())))).bind λv6 =>
 (cond v6.1
 ((at? v3.2.1 v3.1).bind λv7 =>
 ((at? v3.2.1 v3.1).bind λv8 =>
 (some (inl ((w64 (v3.1 - 1)),((v3.2.1.set v3.1.toNat 0),()))))))
 (some (inr (v3.1,(v3.2.1,())))))))
theorem odo {l:ab_} (hl:Lk l) {S:Nat} (hS:l.2=(S:Int)):∀ (W j k:Nat),W≤4→∃ (i:Int) (c:List Int),
  af_ (odoB l) ((W:Int) - 1,(dig S W j++List.replicate k 0,()))=some (i,(c,())) ∧
  (j+1=S ^ W→i<0)∧(j+1<S ^ W→0≤i∧∃ x,at? c i=some x∧c.set i.toNat (w64 (x+1))=dig S W (j+1)++List.replicate k 0):=by
 have s1:=hl.s1;have s2:=hl.s2
 intro W
 induction W with
 | zero =>
  intro j k _
  refine⟨_,_,my_ (r:=((0:Int) - 1,(dig S 0 j++List.replicate k 0,()))) rfl,λ_=>by omega,λh => ?_⟩
  simp at h
 | succ W ih =>
  intro j k hW
  have hd:dig S (W+1) j++List.replicate k 0=dig S W (j / S)++((j % S:Nat):Int)::List.replicate k 0:=by rw[dig,b3_];rfl
  have hlen:=cb2 S W (j / S)
  have hg:at? (dig S W (j / S)++((j % S:Nat):Int)::List.replicate k 0) ((W:Nat):Int)=some ((j % S:Nat):Int):=by
   have:=co2 (p:=dig S W (j / S)) (x:=((j % S:Nat):Int)) (t:=List.replicate k 0)
   rwa [hlen] at this
  have hse:∀ y:Int,(dig S W (j / S)++((j % S:Nat):Int)::List.replicate k 0).set W y=dig S W (j / S)++y::List.replicate k 0:=λy=>by
   have:=ci7 (p:=dig S W (j / S)) (x:=((j % S:Nat):Int)) (y:=y) (t:=List.replicate k 0)
   rwa [hlen] at this
  have hmod:j % S<S:=Nat.mod_lt _ (by omega)
  have hdm:=Nat.div_add_mod j S
  have hpos:decide (0≤(W:Int))=true:=b9_ (by omega)
  rw[hd,show ((W+1:Nat):Int) - 1=(W:Int) by omega]
  by_cases h9:j % S=S - 1
  ·obtain⟨i,c,e1,e2,e3⟩:=ih (j / S) (k+1) (by omega)
   have hj1:j+1=S * (j / S+1):=by rw[Nat.mul_add,q2_];omega
   have hb:(((j % S:Nat):Int)==w64 (l.2 - 1))=true:=by rw[hl.ws,hS];simp;omega
   refine⟨i,c,?_,λh=>e2 ?_,λh => ?_⟩
   ·rw[← e1]
    refine tp_ ?_
    unfold odoB
    simp only[hpos,a5_,hg,a0_,hb,c1_,hse,lw_ (n:=(W:Int) - 1) (by omega) (by omega)]
    rfl
   ·rw[j6_,k0_] at h
    rw[hj1] at h
    exact Nat.eq_of_mul_eq_mul_left (by omega) h
   ·have:j / S+1<S ^ W:=by
     rw[j6_,k0_,hj1] at h
     exact Nat.lt_of_mul_lt_mul_left h
    obtain⟨f1,x,f2,f3⟩:=e3 this
    refine⟨f1,x,f2,?_⟩
    rw[f3,dig,hj1,Nat.mul_div_cancel_left _ (by omega),Nat.mul_mod_right,b3_]
    rfl
  ·have hb:(((j % S:Nat):Int)==w64 (l.2 - 1))=false:=by rw[hl.ws,hS];simp;omega
   refine⟨_,_,my_ (r:=((W:Int),(dig S W (j / S)++((j % S:Nat):Int)::List.replicate k 0,()))) (by
    unfold odoB
    simp only[hpos,a5_,hg,a0_,hb,a2_]),λh => ?_,λh=>⟨by omega,_,hg,?_⟩⟩
   ·exfalso
    have:(j+1) % S=0:=by rw[h,j6_];exact Nat.mul_mod_left _ _
    have h2:(j+1) % S=j % S+1:=by rw[Nat.add_mod,j9_ (show 1<S by omega),j9_ (by omega)]
    omega
   ·simp only[c1_]
    rw[hse,lw_ (by omega) (by omega),dig,b3_]
    have h2:(j+1) % S=j % S+1:=by rw[Nat.add_mod,j9_ (show 1<S by omega),j9_ (by omega)]
    have h3:(j+1) / S=j / S:=by
     refine Nat.div_eq_of_lt_le ?_ ?_
     ·rw[k0_];omega
     ·rw[k0_,Nat.mul_add];omega
    rw[h2,h3]
    simp
theorem bf3 (S:Nat):∀ W,List.replicate W (0:Int)=dig S W 0
 | 0=>rfl
 | W+1=>by rw[dig,Nat.zero_div,Nat.zero_mod,← bf3 S W,q0_];rfl
noncomputable def bt7 (l:ab_) (n:Int) (c:List Int):Option ((Unit×(Unit×((List Int)×((Int×Unit)×Unit))))⊕((Unit×(Unit×((List Int)×((Int×Unit)×Unit))))⊕(Int×Unit))) :=
 ((af_ (odoB l) ((w64 (l.1 - 1)),(c,()))).bind λv9 =>
 (cond (decide (v9.1<0))
 (some (inr (inr (n,()))))
 ((at? v9.2.1 v9.1).bind λv10 =>
 ((at? v9.2.1 v9.1).bind λv11 =>
 ((at? v9.2.1 v9.1).bind λv12 =>
 ((at? v9.2.1 v9.1).bind λv13 =>
 (some (inl ((),((),((v9.2.1.set v9.1.toNat (w64 (v11+1))),((n,()),()))))))))))))
noncomputable def cntX (a0:ab_) (a1:List al_):Option (Int×Unit) :=
 ((mk? (α:=Int) a0.1 0).bind λv0 =>
 ((af_ (ρ:=((Unit×(Unit×((List Int)×((Int×Unit)×Unit))))⊕(Int×Unit))) (λ(v1:(Unit×(Unit×((List Int)×((Int×Unit)×Unit))))) =>
 ((gk_ a1 v1.2.2.1).bind λv2 =>
 (cond (decide (v2.1<0)) (bt7 a0 (w64 (v1.2.2.2.1.1+1)) v1.2.2.1) (bt7 a0 v1.2.2.2.1.1 v1.2.2.1)))) ((),((),(v0,((0,()),()))))).bind λv25 =>
 (ca_ v25 (λv26=>(some (v26.2.2.2.1.1,())))
 (λv27=>(some v27)))))
theorem cntX_eq:fg_=cntX:=by kernel_rfl
theorem bk4 {l:ab_} (hl:Lk l) {cl:List al_} (hn:cl.length≤20) (hc:∀ c ∈ cl,di_ l c=true):fg_ l cl=some (((rdg l cl).length:Int),()):=by
  have w1:=hl.w1;have w2:=hl.w2;have s1:=hl.s1;have s2:=hl.s2
  obtain⟨W,hW⟩:∃ W:Nat,l.1=(W:Int):=⟨l.1.toNat,by omega⟩
  obtain⟨S,hS⟩:∃ S:Nat,l.2=(S:Int):=⟨l.2.toNat,by omega⟩
  have hpow:S ^ W≤10000:=by have:=ct4 hl;rwa [hW,hS,c1_,c1_] at this
  have hSp:0<S:=by omega
  have hN:0<S ^ W:=Nat.pow_pos hSp
  have hlen:=qu_ S W
  have hok:∀ j,j<S ^ W→dh_ l (dig S W j)=true:=λj hj=>(bf6 hl).1 (by rw[hW,hS,c1_,c1_];exact b2_ (qv_ hSp W j hj))
  let cn:Nat→Nat:=λj=>(((jn_ S W).take j).filter λc=>cl.all (tr · c)).length
  have hcn:∀ j,j<S ^ W→cn j≤j∧cn (j+1)=cond (cl.all (tr · (dig S W j))) (cn j+1) (cn j):=by
    intro j hj
    constructor
    · have hb:=k1_ (λc=>cl.all (tr · c)) ((jn_ S W).take j)
      rw[c7_] at hb
      exact c5_ hb (Nat.min_le_left _ _)
    · show (((jn_ S W).take (j+1)).filter _).length=_
      rw[d6_,qv_ hSp W j hj,n1_,a9_]
      cases hp:cl.all (tr · (dig S W j))<;>simp[hp,cn]
  have step:∀ j,j<S ^ W→∀ m:Int,(j+1<S ^ W→bt7 l m (dig S W j)=some (inl ((),((),(dig S W (j+1),((m,()),()))))))∧(j+1=S ^ W→bt7 l m (dig S W j)=some (inr (inr (m,())))):=by
    intro j hj m
    obtain⟨i,c,o1,o2,o3⟩:=odo hl hS W j 0 (by omega)
    simp only[List.replicate_zero,e7_] at o1 o3
    rw[← hW,← hl.ww] at o1
    constructor
    · intro h
      obtain⟨p1,x,p2,p3⟩:=o3 h
      unfold bt7
      rw[o1,a0_]
      simp only[show decide (i<0)=false from c2_ (by omega),a2_,p2,a0_,p3]
    · intro h
      unfold bt7
      rw[o1,a0_]
      simp only[show decide (i<0)=true from b9_ (o2 h),a5_]
  have body:∀ j,j<S ^ W→(((gk_ cl (dig S W j)).bind λv2=>(cond (decide (v2.1<0)) (bt7 l (w64 ((cn j:Int)+1)) (dig S W j)) (bt7 l (cn j) (dig S W j)))))=bt7 l ((cn (j+1):Nat):Int) (dig S W j):=by
    intro j hj
    obtain⟨r,r1,r2⟩:=ax7 hl hn hc (hok j hj)
    obtain⟨q1,q2⟩:=hcn j hj
    rw[r1,a0_,r2,q2]
    cases cl.all (tr · (dig S W j)) with
    | false=>rfl
    | true=>rw[a5_,a5_,bb_ (show Sm (cn j) by unfold Sm;omega)]
  rw[cntX_eq]
  unfold cntX
  rw[vf_ (by omega) (by omega),a0_,show l.1.toNat=W by omega,bf3 S W]
  have hw:=bm5 (n:=S ^ W - 1) (F:=λj=>((),((),(dig S W j,(((cn j:Int),()),()))))) (r:=inr ((cn (S ^ W):Int),())) (body:=λ(v1:(Unit×(Unit×((List Int)×((Int×Unit)×Unit))))) =>
 ((gk_ cl v1.2.2.1).bind λv2 =>
 (cond (decide (v2.1<0)) (bt7 l (w64 (v1.2.2.2.1.1+1)) v1.2.2.1) (bt7 l v1.2.2.2.1.1 v1.2.2.1)))) (λj hj=>(body j (by omega)).trans ((step j (by omega) _).1 (by omega))) ((body (S ^ W - 1) (by omega)).trans (by
    rw[show S ^ W - 1+1=S ^ W by omega]
    exact (step (S ^ W - 1) (by omega) _).2 (by omega)))
  refine (congrArg (λo=>Option.bind o _) (show af_ _ _=_ from hw)).trans ?_
  have e:cn (S ^ W)=(rdg l cl).length:=by
    show (((jn_ S W).take (S ^ W)).filter _).length=_
    rw[← hlen,e1_]
    unfold rdg
    rw[hW,hS,c1_,c1_]
  rw[a0_,← e]
  rfl
theorem un_ {l:ab_} (hl:Lk l) {cl:List al_} (hn:cl.length≤20) (hc:∀ c ∈ cl,di_ l c=true):fh_ l cl=some (0,()):=by
  unfold fh_
  rw[mn_,pc_.2 hl,if_pos rfl,a0_]
  have:=pt_ (l:=cl) (by unfold Sm;omega) (λc=>!(di_ l c)) (body:=λ(v1:(Int×Unit)) =>
 (cond (decide (v1.1<(cl.length:Int)))
 ((at? cl v1.1).bind λv2 =>
 ((dp_ l v2).bind λv3 =>
 (cond (!v3.1)
 (some (inr (inr ((decide (0≤v1.1)),()))))
 (some (inl ((w64 (v1.1+1)),()))))))
 (some (inr (inl ()))))) (λi y hy=>by
    simp only[dlt (am_ hy),a5_,ai_ hy,a0_,ps_ hl]
    cases di_ l y<;>rfl) (by simp only[dnl,a2_])
  have ha:(cl.any λc=>!(di_ l c))=false:=by
    rw[List.any_eq_false]
    intro c h
    simp[hc c h]
  rw[ha] at this
  simp only[show decide ((20:Int)<(cl.length:Int))=false from c2_ (by omega),h0_,a2_,this,a0_]
theorem aq8 {l:ab_} (hl:Lk l) {cl:List al_} (hn:cl.length≤20) (hc:∀ c ∈ cl,di_ l c=true):df_ l cl=some (((rdg l cl).length:Int),(0,())):=by
 unfold df_
 rw[un_ hl hn hc,a0_]
 simp only[h0_,a2_,bk4 hl hn hc,a0_]
theorem tw_ {l:ab_} (hl:Lk l) {cl:List al_} (hn:cl.length≤20) (hc:∀ c ∈ cl,di_ l c=true) (hs:∀ c ∈ cl,Sm c.2.2.2.2.2.1.length):ff_ l cl=some (0,()):=by
 unfold ff_
 rw[lz_,pc_.2 hl,if_pos rfl,a0_]
 simp only[show decide ((20:Int)<(cl.length:Int))=false from c2_ (by omega),h0_,a2_]
 refine bw_ cl (λ_ c=>cond (di_ l c) none (some (inr (11,()):Unit⊕(Int×Unit)))) (λi=>((i:Int),())) (r0:=inl ()) (λi c hi => ?_) ?_ ?_
 ·simp only[dlt (am_ hi),a5_,ai_ hi,a0_,vc_ hl (hs c (b2_ hi)),bb_ (show Sm i by have:=am_ hi;unfold Sm;omega)]
  cases di_ l c<;>rfl
 ·simp only[dnl,a2_]
 ·rw[kc_ (q:=λc=>di_ l c),f3_.2 hc]
  rfl
theorem am5 {l:ab_} (hl:Lk l) {cl:List al_} (hn:cl.length≤20) (hc:∀ c ∈ cl,di_ l c=true) (hs:∀ c ∈ cl,Sm c.2.2.2.2.2.1.length):kn_ l cl=some (((rdg l cl).length:Int),(0,())):=by
 unfold kn_
 rw[tw_ hl hn hc hs,a0_]
 simp only[h0_,a2_,bq6 hl hn hc,a0_]
theorem aq7 {l:ab_} (hl:Lk l) (c:al_) {k:List Int} (hk:dh_ l k=true):kp_ l c k=some (cond (di_ l c) (tr c k) false,(cond (di_ l c) 0 11,())):=by
 unfold kp_
 rw[vu_ hl,a0_]
 cases hc:di_ l c with
 | false=>rfl
 | true =>
  simp only[a5_,h0_,a2_]
  rw[oj_,pc_.2 hl,if_pos rfl,hk,if_pos rfl,a0_]
  simp only[h0_,a2_,(qr_ hl hc hk).2,a0_]
theorem av6 {l:ab_} (hl:Lk l) {c:al_} {k:List Int} (hc:di_ l c=true) (hk:dh_ l k=true):fw_ c k=some (tr c k,()):=(qr_ hl hc hk).1
end
section
theorem zero_eq:li_=me_:=rfl
def clOk (l:ab_) (c:al_) (k:List Int):Bool:=di_ l c&&tr c k
end
section
set_option maxRecDepth 10000
def ch1 (c:al_):Bool:=c.1==0&&(c.2.1==0&&(c.2.2.1==0&&(c.2.2.2.1==0&&(c.2.2.2.2.1==0&&(((c.2.2.2.2.2.1.length:Int)==0)&&!c.2.2.2.2.2.2)))))
theorem an8 (c:al_):li_ c=some (ch1 c,()):=by
 unfold li_ ch1
 cases c.1==0 with
 | false=>rfl
 | true =>
 cases c.2.1==0 with
 | false=>rfl
 | true =>
 cases c.2.2.1==0 with
 | false=>rfl
 | true =>
 cases c.2.2.2.1==0 with
 | false=>rfl
 | true =>
 cases c.2.2.2.2.1==0 with
 | false=>rfl
 | true=>cases (c.2.2.2.2.2.1.length:Int)==0<;>rfl
theorem bj1 (c:al_):me_ c=some (ch1 c,()):=by rw[← zero_eq];exact an8 c
def twNt (g:ac_) (i:Nat) (n:dw_):Bool:=(g.2.2.2.1.take i).any λy=>y.1==n.1
def cdOk (g:ac_) (i:Nat) (l:ab_):Bool:=match g.2.2.1[i]? with
 | some k=>dh_ l k
 | none=>false
noncomputable def bu0 (g:ac_) (i:Nat) (n:dw_):Bool:=okN n.1&&(!(twNt g i n)&&(wi n.2.1 0 (w64 ((g.1.1.length:Int) - 1))&&(wi n.2.2.1 (-1) (w64 ((g.2.1.length:Int) - 1))&&(cond (decide (n.2.2.1<0)) (ch1 n.2.2.2.2) (match at? g.2.1 n.2.2.1,at? g.2.2.1 n.2.2.1 with
 | some l,some k=>clOk l n.2.2.2.2 k
 | _,_=>false)))))
def LkAll (g:ac_):Prop:=∀ (i:Nat) l,g.2.1[i]?=some l→Lk l∧∃ k,g.2.2.1[i]?=some k∧dh_ l k=true
theorem LkAll.at {g:ac_} (hg:SmG g) (h:LkAll g) {i:Int} (h0:¬ i<0) (hw:wi i (-1) (w64 ((g.2.1.length:Int) - 1))=true):∃ l k,at? g.2.1 i=some l∧at? g.2.2.1 i=some k∧Lk l∧dh_ l k=true:=by
 have hlk:=hg.lk
 rw[hd_ (by omega) (by omega)] at hw
 have hw:=cl_.1 hw
 obtain⟨l,hl⟩:=bf_ (l:=g.2.1) (i:=i.toNat) (by omega)
 obtain⟨h1,k,hk,h2⟩:=h _ l hl
 have hi:i=((i.toNat:Nat):Int):=by omega
 exact⟨l,k,by rw[hi];exact ai_ hl,by rw[hi];exact ai_ hk,h1,h2⟩
theorem bj9 {g:ac_} (hg:SmG g) (hL:LkAll g) {i:Nat} {n:dw_} (hn:g.2.2.2.1[i]?=some n):mj_ g (i:Int) n=some (bu0 g i n,()):=by
 have hi:=am_ hn
 have hs:=hg.nt
 have hnm:=(hg.ntn n (bh_ hn)).1
 have ht:Sm (g.2.2.2.1.take i).length:=by rw[c7_];show _≤1000000000;omega
 unfold mj_
 rw[qd_ (f9_ hi),a0_]
 refine e5_ (congrArg (λo=>Option.bind o _) (pt_ ht (λy=>y.1==n.1) (λk y hy => ?_) ?_)) ?_
 ·simp only[dlt (am_ hy),a5_,ai_ hy,a0_]
  cases y.1==n.1<;>rfl
 ·simp only[dnl,a2_]
 rw[a0_]
 simp only[bs0 (show Sm n.1.length by show _≤1000000000;omega),la_,a0_]
 unfold bu0 okN twNt
 cases okW n.1 with
 | false=>simp only[f7_,e4_];rfl
 | true =>
 by_cases h12:(n.1.length:Int)≤12
 ·rw[b9_ h12,c2_ (by omega:¬ 12<(n.1.length:Int))]
  cases (g.2.2.2.1.take i).any λy=>y.1==n.1 with
  | true=>rfl
  | false =>
  cases wi n.2.1 0 (w64 ((g.1.1.length:Int) - 1)) with
  | false=>rfl
  | true =>
  cases hw:wi n.2.2.1 (-1) (w64 ((g.2.1.length:Int) - 1)) with
  | false=>rfl
  | true =>
  cases hz:decide (n.2.2.1<0) with
  | true=>simp only[an8];rfl
  | false =>
  obtain⟨l,k,e1,e2,h1,h2⟩:=hL.at hg (d7_ hz) hw
  simp only[e1,e2,e2_,g9_,a2_,a0_,aq7 h1 _ h2,c0_]
  unfold clOk
  cases di_ l n.2.2.2.2<;>rfl
 ·rw[c2_ h12,b9_ (by omega:12<(n.1.length:Int))]
  rfl
theorem au9 {g:ac_} (hg:SmG g) (hL:LkAll g) {i:Nat} {n:dw_} (hn:g.2.2.2.1[i]?=some n):kg_ g (i:Int)=some (bu0 g i n,()):=by
 have hi:=am_ hn
 have hs:=hg.nt
 have hnm:=(hg.ntn n (bh_ hn)).1
 have hgs:Sm n.2.2.2.2.2.2.2.2.2.1.length:=c5_ (hg.ntn n (bh_ hn)).2.2 (by decide)
 have hle:(g.2.2.2.1.take i).length=i:=by rw[c7_];omega
 unfold kg_
 rw[ai_ hn,a0_]
 refine bw_ (g.2.2.2.1.take i) (λ_ y=>cond (y.1==n.1) (some (inr (false,()):Unit⊕(Bool×Unit))) none) (λi=>((i:Int),())) (r0:=inl ()) (λk y hy => ?_) ?_ ?_
 ·have hk:=am_ hy
  have hy':g.2.2.2.1[k]?=some y:=by
   rw[i8_] at hy
   split at hy
   ·exact hy
   ·cases hy
  simp only[dlt (show k<i by omega),a5_,ai_ hy',a0_,bb_ (show Sm k by show _≤1000000000;omega)]
  cases y.1==n.1<;>rfl
 ·rw[hle]
  simp only[dnl,a2_]
 rw[hz_ (q:=λy:dw_=>y.1==n.1)]
 unfold bu0 twNt
 cases (g.2.2.2.1.take i).any λy=>y.1==n.1 with
 | true=>simp only[e2_,e4_,f7_];rfl
 | false =>
 simp only[a2_,j0_]
 unfold ca_
 simp only[ky_ (show Sm n.1.length by show _≤1000000000;omega),zz_,a0_]
 cases okN n.1 with
 | false=>rfl
 | true =>
 cases wi n.2.1 0 (w64 ((g.1.1.length:Int) - 1)) with
 | false=>rfl
 | true =>
 cases hw:wi n.2.2.1 (-1) (w64 ((g.2.1.length:Int) - 1)) with
 | false=>rfl
 | true =>
 cases hz:decide (n.2.2.1<0) with
 | true =>
  have hz:=f8_ hz
  have:=cl_.1 hw
  rw[show (n.2.2.1==-1)=true by rw[g5_];omega]
  simp only[bj1]
  rfl
 | false =>
  have hz:=d7_ hz
  obtain⟨l,k,e1,e2,h1,h2⟩:=hL.at hg hz hw
  rw[show (n.2.2.1==-1)=false by rw[o6_];omega]
  simp only[e1,e2,e2_,g9_,a2_,a0_,vp_ h1 hgs,c0_]
  unfold clOk
  cases hc:di_ l n.2.2.2.2 with
  | false=>rfl
  | true =>
   simp only[a5_,show ((0:Int)==0)=true from rfl,av6 h1 hc h2]
   rfl
noncomputable def ct_ (g:ac_):Int :=
  cond (dd_ g.1 != 0) (dd_ g.1) (cond (decide (8<(g.2.1.length:Int))||decide (16<(g.2.2.2.1.length:Int))) 2
   ((hf_ (λ_ l=>lm_ (okL l) 10) 0 g.2.1).getD
    (cond ((g.2.2.1.length:Int) != (g.2.1.length:Int)) 12
     ((hf_ (λi l=>lm_ (cdOk g i l) 12) 0 g.2.1).getD
      ((hf_ (λ_ (a:ed_)=>lm_ (!(decide ((g.2.1.length:Int)≤a.2.2.1))) 26) 0 g.1.2.2.2.2.1).getD
       ((hf_ (λi n=>tn_ (bu0 g i n) 40 (cOk g.1.2.1 n.2.2.2.1) 25) 0 g.2.2.2.1).getD
        (cond (wi g.2.2.2.2 1 100) 0 1)))))))
theorem mo_ {o:Option Int} {K:Unit→Option (Int×Unit)} {k:Int} (h:o=none→K ()=some (k,())):ca_ (left o) K (λy=>some y)=some (o.getD k,()):=by
 cases o with
 | none=>exact h rfl
 | some e=>rfl
theorem bw4 {g:ac_} (h1:hf_ (λ_ l=>lm_ (okL l) 10) 0 g.2.1=none) (h2:hf_ (λi l=>lm_ (cdOk g i l) 12) 0 g.2.1=none):LkAll g:=by
 intro i l hl
 refine⟨pc_.1 (ll_ (dj_ h1 hl)),?_⟩
 have:=ll_ (dj_ h2 hl)
 unfold cdOk at this
 cases hk:g.2.2.1[i]? with
 | none=>rw[hk] at this;cases this
 | some k=>rw[hk] at this;exact⟨k,rfl,this⟩
theorem mn_of (g:ac_):(cond (decide (8<(g.2.1.length:Int))) (some (true,())) (some ((decide (16<(g.2.2.2.1.length:Int))),())))=some (decide (8<(g.2.1.length:Int))||decide (16<(g.2.2.2.1.length:Int)),()):=by
 cases decide (8<(g.2.1.length:Int))<;>rfl
theorem aa1 {g:ac_} (hg:SmG g):ht_ g=some (ct_ g,()):=by
 have hlk:=hg.lk
 have hac:=hg.ac
 have hnt:=hg.nt
 unfold ht_ ct_
 rw[tv_ hg.room,a0_]
 cases hr:dd_ g.1 != 0 with
 | true=>rfl
 | false =>
 simp only[a2_]
 refine e5_ (congrArg (λo=>Option.bind o _) (mn_of g)) ?_
 rw[a0_]
 cases hm:(decide (8<(g.2.1.length:Int))||decide (16<(g.2.2.2.1.length:Int))) with
 | true=>rfl
 | false =>
 simp only[a2_]
 refine bx_ g.2.1 (λ_ l=>lm_ (okL l) 10) (λi y hy => ?_) ?_ (mo_ λhA => ?_)
 ·have hi:=am_ hy
  simp only[dlt hi,a5_,ai_ hy,a0_,bb_ (show Sm i by show _≤1000000000;omega),mn_]
  unfold lm_
  cases okL y<;>rfl
 ·simp only[dnl,a2_]
 cases hcl:((g.2.2.1.length:Int) != (g.2.1.length:Int)) with
 | true=>rfl
 | false =>
 have hcl:(g.2.2.1.length:Int)=(g.2.1.length:Int):=by simpa using hcl
 simp only[a2_]
 refine bx_ g.2.1 (λi l=>lm_ (cdOk g i l) 12) (λi y hy => ?_) ?_ (mo_ λhB => ?_)
 ·have hi:=am_ hy
  obtain⟨k,hk⟩:=bf_ (l:=g.2.2.1) (i:=i) (by omega)
  have hy1:=ll_ (dj_ hA hy)
  simp only[dlt hi,a5_,ai_ hy,ai_ hk,a0_,bb_ (show Sm i by show _≤1000000000;omega),oj_,hy1]
  unfold lm_ cdOk
  rw[hk]
  simp only
  cases dh_ y k<;>rfl
 ·simp only[dnl,a2_]
 refine bx_ g.1.2.2.2.2.1 (λ_ (a:ed_)=>lm_ (!(decide ((g.2.1.length:Int)≤a.2.2.1))) 26) (λi y hy => ?_) ?_ (mo_ λhC => ?_)
 ·have hi:=am_ hy
  simp only[dlt hi,a5_,ai_ hy,a0_,bb_ (show Sm i by show _≤1000000000;omega)]
  unfold lm_
  cases decide ((g.2.1.length:Int)≤y.2.2.1)<;>rfl
 ·simp only[dnl,a2_]
 have hL:=bw4 hA hB
 refine bx_ g.2.2.2.1 (λi n=>tn_ (bu0 g i n) 40 (cOk g.1.2.1 n.2.2.2.1) 25) (λi y hy => ?_) ?_ (mo_ λhD => ?_)
 ·have hi:=am_ hy
  simp only[dlt hi,a5_,ai_ hy,a0_,bb_ (show Sm i by show _≤1000000000;omega),bj9 hg hL hy,bj8 hg.room.th]
  unfold tn_
  cases bu0 g i y with
  | false=>rfl
  | true=>cases cOk g.1.2.1 y.2.2.2.1<;>rfl
 ·simp only[dnl,a2_]
 rw[la_,a0_]
 cases wi g.2.2.2.2 1 100<;>rfl
theorem xj_ {g:ac_} (hg:SmG g):ie_ g=some (ct_ g,()):=by
 have hlk:=hg.lk
 have hac:=hg.ac
 have hnt:=hg.nt
 unfold ie_ ct_
 rw[rj_ hg.room,a0_]
 cases hr:dd_ g.1 != 0 with
 | true=>rfl
 | false =>
 simp only[a2_]
 refine e5_ (congrArg (λo=>Option.bind o _) (mn_of g)) ?_
 rw[a0_]
 cases hm:(decide (8<(g.2.1.length:Int))||decide (16<(g.2.2.2.1.length:Int))) with
 | true=>rfl
 | false =>
 simp only[a2_]
 refine bx_ g.2.1 (λ_ l=>lm_ (okL l) 10) (λi y hy => ?_) ?_ (mo_ λhA => ?_)
 ·have hi:=am_ hy
  simp only[dlt hi,a5_,ai_ hy,a0_,bb_ (show Sm i by show _≤1000000000;omega),lz_]
  unfold lm_
  cases okL y<;>rfl
 ·simp only[dnl,a2_]
 cases hcl:((g.2.2.1.length:Int) != (g.2.1.length:Int)) with
 | true=>rfl
 | false =>
 have hcl:(g.2.2.1.length:Int)=(g.2.1.length:Int):=by simpa using hcl
 simp only[a2_]
 refine bx_ g.2.1 (λi l=>lm_ (cdOk g i l) 12) (λi y hy => ?_) ?_ (mo_ λhB => ?_)
 ·have hi:=am_ hy
  obtain⟨k,hk⟩:=bf_ (l:=g.2.2.1) (i:=i) (by omega)
  have hy1:=ll_ (dj_ hA hy)
  simp only[dlt (show i<g.2.2.1.length by omega),a5_,ai_ hy,ai_ hk,a0_,bb_ (show Sm i by show _≤1000000000;omega),vo_,hy1]
  unfold lm_ cdOk
  rw[hk]
  simp only
  cases dh_ y k<;>rfl
 ·rw[← hcl]
  simp only[dnl,a2_]
 refine bx_ g.1.2.2.2.2.1 (λ_ (a:ed_)=>lm_ (!(decide ((g.2.1.length:Int)≤a.2.2.1))) 26) (λi y hy => ?_) ?_ (mo_ λhC => ?_)
 ·have hi:=am_ hy
  simp only[dlt hi,a5_,ai_ hy,a0_,bb_ (show Sm i by show _≤1000000000;omega)]
  unfold lm_
  cases decide ((g.2.1.length:Int)≤y.2.2.1)<;>rfl
 ·simp only[dnl,a2_]
 have hL:=bw4 hA hB
 refine bx_ g.2.2.2.1 (λi n=>tn_ (bu0 g i n) 40 (cOk g.1.2.1 n.2.2.2.1) 25) (λi y hy => ?_) ?_ (mo_ λhD => ?_)
 ·have hi:=am_ hy
  have hw:=(hg.ntn y (bh_ hy)).2.1
  simp only[dlt hi,a5_,ai_ hy,a0_,bb_ (show Sm i by show _≤1000000000;omega),au9 hg hL hy,hp_ hg.room.th (show Sm y.2.2.2.1.length by show _≤1000000000;omega)]
  unfold tn_
  cases bu0 g i y with
  | false=>rfl
  | true=>cases cOk g.1.2.1 y.2.2.2.1<;>rfl
 ·simp only[dnl,a2_]
 rw[zz_,a0_]
 cases wi g.2.2.2.2 1 100<;>rfl
structure OkG (g:ac_):Prop where
 room:dd_ g.1=0
 n8:g.2.1.length≤8
 n16:g.2.2.2.1.length≤16
 lk:LkAll g
 cd:g.2.2.1.length=g.2.1.length
 ac:∀ (i:Nat) (a:ed_),g.1.2.2.2.2.1[i]?=some a→a.2.2.1<(g.2.1.length:Int)
 nt:∀ (i:Nat) n,g.2.2.2.1[i]?=some n→bu0 g i n=true∧cOk g.1.2.1 n.2.2.2.1=true
 tr:wi g.2.2.2.2 1 100=true
theorem dt_ {g:ac_} (h:ct_ g=0):OkG g:=by
 unfold ct_ at h
 cases hr:dd_ g.1 != 0 with
 | true =>
  rw[hr] at h
  rw[n4_] at hr
  exact absurd h hr
 | false =>
 rw[hr,a2_] at h
 cases hm:(decide (8<(g.2.1.length:Int))||decide (16<(g.2.2.2.1.length:Int))) with
 | true=>rw[hm] at h;exact absurd (show (2:Int)=0 from h) (by decide)
 | false =>
 rw[hm,a2_] at h
 rw[b8_] at hm
 have m1:=d7_ hm.1
 have m2:=d7_ hm.2
 obtain⟨hA,h⟩:=gs_ h (kw_ (λi x=>ys_ (by decide)) _ _)
 cases hcl:((g.2.2.1.length:Int) != (g.2.1.length:Int)) with
 | true=>rw[hcl] at h;exact absurd (show (12:Int)=0 from h) (by decide)
 | false =>
 rw[hcl,a2_] at h
 have hcl:(g.2.2.1.length:Int)=(g.2.1.length:Int):=by simpa using hcl
 obtain⟨hB,h⟩:=gs_ h (kw_ (λi x=>ys_ (by decide)) _ _)
 obtain⟨hC,h⟩:=gs_ h (kw_ (λi x=>ys_ (by decide)) _ _)
 obtain⟨hD,h⟩:=gs_ h (kw_ (λi x=>yr_ (by decide) (by decide)) _ _)
 refine⟨by simpa using hr,by omega,by omega,bw4 hA hB,by omega,λi a ha => ?_,λi n hn=>po_ (dj_ hD hn),?_⟩
 ·have:=ll_ (dj_ hC ha)
  simpa using this
 ·cases hw:wi g.2.2.2.2 1 100 with
  | true=>rfl
  | false=>rw[hw] at h;exact absurd (show (1:Int)=0 from h) (by decide)
end
section
set_option maxRecDepth 10000
theorem bu_ {σ ρ:Type} {body:σ→Option (σ⊕ρ)} {s t:σ} {r:ρ} (h:body s=some (.inl t)) (e:af_ body t=some r):af_ body s=some r:=by
 obtain⟨k,hk⟩:=ho_.1 e
 exact pz_ (k:=k+1) (by rw[ax1 h];exact hk)
theorem cc_ {σ ρ:Type} {body:σ→Option (σ⊕ρ)} {s:σ} {r:ρ} (h:body s=some (.inr r)):af_ body s=some r:=pz_ (k:=1) (wi_ h)
theorem ar5 {α τ σ ρ υ:Type} (l:List α) (f:Nat→τ→α→τ) (F:Nat→τ→σ) (R:τ→ρ) (t0:τ) {body:σ→Option (σ⊕ρ)} (I:Nat→τ→Prop) {K:ρ→Option υ} {x:Option υ} (h0:I 0 t0)
  (h:∀ i x t,l[i]?=some x→I i t→body (F i t)=some (.inl (F (i+1) (f i t x)))∧I (i+1) (f i t x)) (e:∀ t,I l.length t→body (F l.length t)=some (.inr (R t))) (hk:∀ t,I l.length t→K (R t)=x) :
  (af_ body (F 0 t0)).bind K=x:=by
 obtain⟨t,h1,h2⟩:=ne_ l f F R t0 I h0 h e
 rw[h2,a0_]
 exact hk t h1
theorem ce2 {np:Nat} {l:List Int} (h:ls_ np l=true):∀ x ∈ l,0≤x∧x<(np:Int):=by
 intro x hx
 obtain⟨i,hi⟩:=f2_ hx
 rw[← cw6] at h
 have:=(ae0 l).1 h i x hi
 unfold badQ at this
 rw[b8_] at this
 have h1:wi x 0 ((np:Int) - 1)=true:=by simpa using this.1
 have:=cl_.1 h1
 omega
structure ActIn (r:ad_) (a:ed_):Prop where
 us:∀ p ∈ a.2.2.2.1,0≤p∧p<(r.2.2.1.length:Int)
 sp:∀ p ∈ a.2.2.2.2.2.2.1,0≤p∧p<(r.2.2.1.length:Int)
 br:∀ p ∈ a.2.2.2.2.2.2.2,0≤p∧p<(r.2.2.1.length:Int)
 st:∀ x ∈ a.2.2.2.2.2.1,ou_ r.2.1 x.1 x.2=true
theorem bh3 {r:ad_} {i:Nat} {a:ed_} (h:vx_ r i a=true):ActIn r a:=by
 unfold vx_ at h
 simp only[a1_] at h
 obtain⟨_,_,_,h1,h2,h3,_,_,_,h4⟩:=h
 refine⟨ce2 h1,ce2 h2,ce2 h3,λx hx => ?_⟩
 obtain⟨j,hj⟩:=f2_ hx
 rw[Option.isNone_iff_eq_none] at h4
 have:=dj_ h4 hj
 cases hs:sg_ r a.2.2.2.2.2.1 j x with
 | false=>rw[hs] at this;cases this
 | true =>
  unfold sg_ at hs
  rw[a1_] at hs
  exact hs.1
theorem cu_ {α:Type} {l:List α} (hl:Sm l.length) (i:Int):(wi i 0 (w64 ((l.length:Int) - 1))=false∧at? l i=none)∨∃ (j:Nat) (x:α),i=(j:Int)∧l[j]?=some x∧wi i 0 (w64 ((l.length:Int) - 1))=true∧at? l i=some x:=by
 rw[hd_ (by omega) (by omega)]
 by_cases h:0≤i∧i<(l.length:Int)
 ·obtain⟨x,hx⟩:=bf_ (l:=l) (i:=i.toNat) (by omega)
  have hi:i=((i.toNat:Nat):Int):=by omega
  exact .inr ⟨i.toNat,x,hi,hx,cl_.2 (by omega),by rw[hi];exact ai_ hx⟩
 ·refine .inl ⟨?_,?_⟩
  ·cases hw:wi i 0 ((l.length:Int) - 1) with
   | false=>rfl
   | true=>have:=cl_.1 hw;omega
  ·unfold at?
   split
   ·exact b4_ (by omega)
   ·rfl
def mt_ (pr:List Int) (h:Int):Nat:=pr.countP (· == h)
theorem wl_ (pr:List Int) (h:Int):mt_ pr h≤pr.length:=k2_
theorem bi0 {t:hx_} (h:Sm t.2.2.1.length) (p:Int):dk_ t p=some ((mt_ t.2.2.1 (w64 ((-2) - p)):Int),()):=by
 unfold dk_
 refine ar5 t.2.2.1 (λ_ (c:Nat) x=>cond (x==w64 ((-2) - p)) (c+1) c) (λi c=>((c:Int),((i:Int),()))) (λc=>((c:Int),())) 0 (λi c=>c=mt_ (t.2.2.1.take i) (w64 ((-2) - p))) rfl (λi x c hx hc => ?_) (λc hc => ?_) (λc hc => ?_)
 ·have hi:=am_ hx
  have hcl:c≤i:=by rw[hc];refine c5_ (wl_ _ _) ?_;rw[c7_];omega
  have hn:mt_ (t.2.2.1.take (i+1)) (w64 ((-2) - p))=cond (x==w64 ((-2) - p)) (c+1) c:=by
   unfold mt_
   rw[d6_,hx,hc,List.countP_append]
   unfold mt_
   cases hq:x==w64 ((-2) - p) with
   | true=>simp[hq]
   | false=>simp[hq]
  refine⟨?_,hn.symm⟩
  simp only[dlt hi,a5_,ai_ hx,a0_,bb_ (show Sm i by omega)]
  cases hq:x==w64 ((-2) - p) with
  | true=>simp only[a5_,a0_,bb_ (show Sm c by omega)]
  | false=>rfl
 ·simp only[dnl,a2_]
 ·rw[e1_] at hc
  rw[hc]
abbrev hdl (m:ah_):Int:=w64 ((-2) - m.1)
def lgl (r:ad_) (s:aj_) (m:ah_):Bool :=
  wi m.1 0 (w64 ((s.2.2.length:Int) - 1)) &&
  cond (m.2.1==1) ((at? r.2.2.2.1 m.2.2).elim false λw=>(w.1==gi s.2.2 m.1||w.2.1==gi s.2.2 m.1)&&du_ s.1 w.2.2)
  (cond (m.2.1==2) ((at? r.2.2.1 m.2.2).elim false λx=>gi s.2.1 m.2.2==gi s.2.2 m.1&&(du_ s.1 x.2.2&&decide ((mt_ s.2.1 (hdl m):Int)<3)))
  (cond (m.2.1==3) ((at? s.2.1 m.2.2).elim false λp=>p==hdl m)
  (cond (m.2.1==4) ((at? r.2.2.2.2.1 m.2.2).elim false λa=>a.2.1==gi s.2.2 m.1&&((a.2.2.2.1.all λp=>gi s.2.1 p==hdl m)&&(du_ s.1 a.2.2.2.2.1&&((a.2.2.2.2.2.2.2.all λp=>gi s.2.1 p==-1)&&decide ((mt_ s.2.1 (hdl m):Int) - (a.2.2.2.2.2.2.1.length:Int)+(a.2.2.2.2.2.2.2.length:Int)≤3)))))
   false)))
theorem bh1 {l t:List Int} (hl:Sm l.length) (hi:∀ p ∈ l,0≤p∧p<(t.length:Int)) (h:Int) :
    ((af_ (ρ:=(Unit⊕(Bool×Unit))) (λ(v15:(Int×Unit)) =>
 (cond (decide (v15.1<(l.length:Int)))
 ((at? l v15.1).bind λv16 =>
 ((at? t v16).bind λv17 =>
 (cond (!(v17==h))
 (some (inr (inr ((decide (0≤v15.1)),()))))
 (some (inl ((w64 (v15.1+1)),()))))))
 (some (inr (inl ()))))) (0,())).bind λv18 =>
 (ca_ v18 (λv19=>(some ((decide ((0:Int)≤(-1))),())))
 (λv20=>(some v20))))=some (!(l.all λp=>gi t p==h),()):=by
  refine e5_ (pt_ hl (λp=>!(gi t p==h)) (λi y hy => ?_) ?_) ?_
  · have:=hi y (bh_ hy)
    simp only[dlt (am_ hy),a5_,ai_ hy,a0_,tl_ this.1 this.2]
    cases gi t y==h<;>rfl
  · simp only[dnl,a2_]
  · rw[← uu_,Bool.not_not]
theorem xb_ {r:ad_} (h:SmR r) (ok:OkR r) {s:aj_} (hv:VS r s) (m:ah_):da_ (r,s) m=some (lgl r s m,()):=by
 obtain⟨m1,m2,m3⟩:=ra_ h ok hv
 have hl1:=hv.l1
 have hl2:=hv.l2
 have hH:∀ {c:List bn_},cOk r.2.1 c=true→az_ (r,s) c=some (du_ s.1 c,()):=λ{c} hc=>by
  obtain⟨c1,c2⟩:=vi_ h.th hc
  exact nn_ (t:=(r,s)) (show c.length≤1000000000 by omega) (by show InC s.1.length c;rw[hl1];exact c1)
 have hD:dk_ (r,s) m.1=some ((mt_ s.2.1 (hdl m):Int),()):=bi0 (t:=(r,s)) m2 m.1
 have hDl:=wl_ s.2.1 (hdl m)
 unfold da_ lgl
 simp only[ee_,a0_]
 rcases cu_ m3 m.1 with ⟨e1,_⟩ | ⟨pj,px,hpj,hp,e1,e2⟩
 ·rw[e1];rfl
 ·have eg:gi s.2.2 m.1=px:=ok_ e2
  simp only[e1,e2,eg,e2_,a2_,a0_,c0_]
  cases hk1:m.2.1==1 with
  | true =>
   simp only[a5_]
   rcases cu_ h.wy m.2.2 with ⟨f1,f2⟩ | ⟨j,w,hj,hw,f1,f2⟩
   ·simp only[f1,f2];rfl
   ·simp only[f1,f2,e2_,a2_,a0_,hH (ok.wy j w hw).2]
    show _=some ((w.1==px||w.2.1==px)&&du_ s.1 w.2.2,())
    cases w.1==px with
    | true=>rfl
    | false=>cases w.2.1==px<;>rfl
  | false =>
  simp only[a2_]
  cases hk2:m.2.1==2 with
  | true =>
   simp only[a5_]
   rcases cu_ m2 m.2.2 with ⟨f1,f2⟩ | ⟨j,p,hj,hp,f1,f2⟩
   ·have f3:at? r.2.2.1 m.2.2=none:=by
     rcases cu_ h.pr m.2.2 with ⟨_,g2⟩ | ⟨j,x,hj,hx,g1,g2⟩
     ·exact g2
     ·rw[← hl2,f1] at g1;cases g1
    simp only[f1,f3,a2_];rfl
   ·obtain⟨x,hx⟩:=bf_ (l:=r.2.2.1) (i:=j) (by have:=am_ hp;omega)
    have f3:at? r.2.2.1 m.2.2=some x:=by rw[hj];exact ai_ hx
    have f4:gi s.2.1 m.2.2=p:=ok_ f2
    simp only[f1,f2,f3,f4,a5_,a0_,hH (ok.pr j x hx).2,hD]
    show _=some (p==px&&(du_ s.1 x.2.2&&decide ((mt_ s.2.1 (hdl m):Int)<3)),())
    cases p==px with
    | false=>rfl
    | true=>cases du_ s.1 x.2.2<;>rfl
  | false =>
  simp only[a2_]
  cases hk3:m.2.1==3 with
  | true =>
   simp only[a5_]
   rcases cu_ m2 m.2.2 with ⟨f1,f2⟩ | ⟨j,p,hj,hp,f1,f2⟩
   ·simp only[f1,f2];rfl
   ·simp only[f1,f2,a5_,a0_];rfl
  | false =>
  simp only[a2_]
  cases hk4:m.2.1==4 with
  | false=>rfl
  | true =>
   simp only[a5_]
   rcases cu_ h.ac m.2.2 with ⟨f1,f2⟩ | ⟨j,a,hj,ha,f1,f2⟩
   ·simp only[f1,f2];rfl
   ·obtain⟨oa,oc⟩:=ok.ac j a ha
    have ai:=bh3 oa
    obtain⟨s1,s2,s3,s4,s5,s6⟩:=h.acn a (bh_ ha)
    simp only[f1,f2,e2_,a2_,a0_]
    show _=some (a.2.1==px&&((a.2.2.2.1.all λp=>gi s.2.1 p==hdl m)&&(du_ s.1 a.2.2.2.2.1&&((a.2.2.2.2.2.2.2.all λp=>gi s.2.1 p==-1)&&decide ((mt_ s.2.1 (hdl m):Int) - (a.2.2.2.2.2.2.1.length:Int)+(a.2.2.2.2.2.2.2.length:Int)≤3)))),())
    cases a.2.1==px with
    | false=>rfl
    | true =>
    simp only[a5_,c0_]
    refine e5_ (congrArg (λo=>Option.bind o _) (bh1 s2 (λp hp=>by have:=ai.us p hp;omega) (hdl m))) ?_
    rw[a0_]
    cases a.2.2.2.1.all λp=>gi s.2.1 p==hdl m with
    | false=>rfl
    | true =>
    simp only[e2_,g9_,a5_,hH oc,a0_,c0_]
    cases du_ s.1 a.2.2.2.2.1 with
    | false=>rfl
    | true =>
    simp only[a5_,c0_]
    refine e5_ (congrArg (λo=>Option.bind o _) (bh1 s6 (λp hp=>by have:=ai.br p hp;omega) (-1))) ?_
    rw[a0_]
    cases a.2.2.2.2.2.2.2.all λp=>gi s.2.1 p==-1 with
    | false=>rfl
    | true =>
    simp only[e2_,g9_,a5_,hD,a0_,c0_]
    rw[hd_ (n:=(mt_ s.2.1 (hdl m):Int) - _) (by omega) (by omega),hd_ (by omega) (by omega)]
theorem ad8 {α:Type} (l:List α) (hl:Sm l.length) (ix vl:α→Int) (t:List Int) (hi:∀ x ∈ l,0≤ix x∧ix x<(t.length:Int)) {body:(Int×(List Int×Unit))→Option ((Int×(List Int×Unit))⊕(List Int×Unit))}
  (hb:∀ (i:Nat) (x:α) (t':List Int) (y:Int),l[i]?=some x→at? t' (ix x)=some y→body ((i:Int),(t',()))=some (.inl (w64 ((i:Int)+1),(t'.set (ix x).toNat (vl x),())))) (e:∀ t',body ((l.length:Int),(t',()))=some (.inr (t',()))) :
  af_ body (0,(t,()))=some (l.foldl (λt x=>t.set (ix x).toNat (vl x)) t,()):=by
 obtain⟨z,⟨_,hz⟩,e⟩:=ne_ l (λ_ t x=>t.set (ix x).toNat (vl x)) (λi t=>((i:Int),(t,()))) (λt=>(t,())) t (body:=body) (λi t'=>t'.length=t.length∧t'=(l.take i).foldl (λt x=>t.set (ix x).toNat (vl x)) t) ⟨rfl,rfl⟩ (λi x t' hx ht=>by
  obtain⟨h1,h2⟩:=ht
  have hil:=am_ hx
  have:=hi x (bh_ hx)
  refine⟨?_,by rw[f6_,h1],?_⟩
  ·rw[hb i x t' _ hx (tl_ this.1 (by omega)),bb_ (show Sm i by omega)]
  ·rw[d6_,hx,n8_,← h2]
   rfl) (λt' _=>e t')
 rw[e1_] at hz
 rw[← hz]
 exact e
def mvP (r:ad_) (s:aj_) (m:ah_):aj_ :=
  cond (m.2.1==1) ((at? r.2.2.2.1 m.2.2).elim s λw=>(s.1,(s.2.1,s.2.2.set m.1.toNat (w.1+w.2.1 - gi s.2.2 m.1))))
  (cond (m.2.1==2) (s.1,(s.2.1.set m.2.2.toNat (hdl m),s.2.2))
  (cond (m.2.1==3) (s.1,(s.2.1.set m.2.2.toNat (gi s.2.2 m.1),s.2.2))
  (cond (m.2.1==4) ((at? r.2.2.2.2.1 m.2.2).elim s λa=>(a.2.2.2.2.2.1.foldl (λt x=>t.set x.1.toNat x.2) s.1,(a.2.2.2.2.2.2.2.foldl (λt p=>t.set p.toNat (hdl m)) (a.2.2.2.2.2.2.1.foldl (λt p=>t.set p.toNat (-1)) s.2.1),s.2.2)))
   s)))
theorem zd_ {α:Type} {l:List α} {P:α→Prop} (h:∀ (i:Nat) x,l[i]?=some x→P x) {j:Nat} {v:α} (hv:P v):∀ (i:Nat) x,(l.set j v)[i]?=some x→P x:=by
 intro i x hx
 rw[g4_] at hx
 split at hx
 ·split at hx
  ·obtain rfl:=a6_ hx
   exact hv
  ·cases hx
 ·exact h i x hx
theorem pk_ {α τ:Type} {f:τ→α→τ} {P:τ→Prop}:∀ (l:List α) (t:τ),P t→(∀ t x,x ∈ l→P t→P (f t x))→P (l.foldl f t)
 | [],t,h,_=>h
 | x::l,t,h,hf=>pk_ l (f t x) (hf t x (f0_ ..) h) λt y hy=>hf t y (e6_ _ hy)
theorem ad7 {α:Type} (ix vl:α→Int) (l:List α) (t:List Int):(l.foldl (λt x=>t.set (ix x).toNat (vl x)) t).length=t.length :=
 pk_ (P:=λt'=>t'.length=t.length) l t rfl λt' x _ h=>by rw[f6_,h]
theorem mb_ {r:ad_} (h:SmR r) {p:Int}:sv_ r p=true↔0≤p∧p<(r.1.length:Int):=by
 have:=h.pl
 unfold sv_
 rw[cl_,hd_ (by omega) (by omega)]
 omega
theorem ah8 {r:ad_} (h:SmR r) (ok:OkR r) {p:Int}:inR r p=true↔(-2) - r.2.2.2.2.2.2.1<p∧p<(r.1.length:Int):=by
 have:=h.pl
 have hp:=cl_.1 ok.py
 unfold inR
 rw[cl_,hd_ (n:=(-2) - r.2.2.2.2.2.2.1) (by omega) (by omega),hd_ (by omega) (by omega),hd_ (by omega) (by omega)]
 omega
theorem pl_pos {r:ad_} (ok:OkR r):0<r.1.length:=by
 have hne:r.1.length≠0:=λe=>ok.ne (n0_.1 e)
 omega
theorem hdl_eq {r:ad_} (ok:OkR r) {s:aj_} (hv:VS r s) {m:ah_} {j:Nat} {x:Int} (hj:m.1=(j:Int)) (hx:s.2.2[j]?=some x):hdl m=(-2) - m.1∧m.1<r.2.2.2.2.2.2.1:=by
 have hp:=cl_.1 ok.py
 have:=am_ hx
 have:=hv.l3
 exact⟨hd_ (by omega) (by omega),by omega⟩
theorem bw6 {r:ad_} {s:aj_} {m:ah_} (m3:Sm s.2.2.length) (hl:lgl r s m=true):∃ (j:Nat) (x:Int),m.1=(j:Int)∧s.2.2[j]?=some x∧at? s.2.2 m.1=some x:=by
 unfold lgl at hl
 rw[a1_] at hl
 rcases cu_ m3 m.1 with ⟨e1,_⟩ | ⟨pj,px,hpj,hp,e1,e2⟩
 ·rw[e1] at hl;cases hl.1
 ·exact⟨pj,px,hpj,hp,e2⟩
theorem VS_mv {r:ad_} (h:SmR r) (ok:OkR r) {s:aj_} (hv:VS r s) {m:ah_} (hl:lgl r s m=true):VS r (mvP r s m):=by
 obtain⟨m1,m2,m3⟩:=ra_ h ok hv
 obtain⟨pj,px,hpj,hp,e2⟩:=bw6 m3 hl
 obtain⟨d1,d2⟩:=hdl_eq ok hv hpj hp
 have hpy:=cl_.1 ok.py
 have hpos:=pl_pos ok
 have hhd:inR r (hdl m)=true:=(ah8 h ok).2 (by omega)
 have hm1:inR r (-1)=true:=(ah8 h ok).2 (by omega)
 unfold lgl at hl
 rw[a1_] at hl
 have hl:=hl.2
 have eg:gi s.2.2 m.1=px:=ok_ e2
 have hpx:=hv.py _ _ hp
 unfold mvP
 cases hk1:m.2.1==1 with
 | true =>
  rw[hk1] at hl
  simp only[a5_] at hl ⊢
  cases hw:at? r.2.2.2.1 m.2.2 with
  | none=>exact hv
  | some w =>
   rw[hw] at hl
   have hl:((w.1==gi s.2.2 m.1||w.2.1==gi s.2.2 m.1)&&du_ s.1 w.2.2)=true:=hl
   rw[a1_,c8_,g5_,g5_] at hl
   rcases cu_ h.wy m.2.2 with ⟨f1,f2⟩ | ⟨j,w',hj,hw',f1,f2⟩
   ·rw[f2] at hw;cases hw
   ·rw[f2] at hw
    obtain rfl:=a6_ hw
    have ow:=(ok.wy j w' hw').1
    unfold cf9 at ow
    simp only[a1_] at ow
    have o1:=(mb_ h).1 ow.1
    have o2:=(mb_ h).1 ow.2.1
    refine⟨hv.l1,hv.l2,by show ((s.2.2.set _ _).length:Int)=_;rw[f6_];exact hv.l3,hv.th,hv.pr,zd_ hv.py ((mb_ h).2 ?_)⟩
    rcases hl.1 with e | e<;>omega
 | false =>
 rw[hk1] at hl
 simp only[a2_] at hl ⊢
 cases hk2:m.2.1==2 with
 | true=>exact⟨hv.l1,by show (s.2.1.set _ _).length=_;rw[f6_];exact hv.l2,hv.l3,hv.th,zd_ hv.pr hhd,hv.py⟩
 | false =>
 rw[hk2] at hl
 simp only[a2_] at hl ⊢
 cases hk3:m.2.1==3 with
 | true =>
  refine⟨hv.l1,by show (s.2.1.set _ _).length=_;rw[f6_];exact hv.l2,hv.l3,hv.th,zd_ hv.pr ?_,hv.py⟩
  rw[eg]
  have:=(mb_ h).1 hpx
  exact (ah8 h ok).2 (by omega)
 | false =>
 rw[hk3] at hl
 simp only[a2_] at hl ⊢
 cases hk4:m.2.1==4 with
 | false=>exact hv
 | true =>
  simp only[a5_]
  rcases cu_ h.ac m.2.2 with ⟨f1,f2⟩ | ⟨j,a,hj,ha,f1,f2⟩
  ·rw[f2];exact hv
  ·rw[f2]
   have ai:=bh3 (ok.ac j a ha).1
   have hth:VT r (a.2.2.2.2.2.1.foldl (λt x=>t.set x.1.toNat x.2) s.1):=pk_ (P:=VT r) _ _ ⟨hv.l1,hv.th⟩ λt x hx ht=>ce9 h ok ht (ai.st x hx)
   have hpr:∀ (i:Nat) p,(a.2.2.2.2.2.2.2.foldl (λt p=>t.set p.toNat (hdl m)) (a.2.2.2.2.2.2.1.foldl (λt p=>t.set p.toNat (-1)) s.2.1))[i]?=some p→inR r p=true:=by
    refine pk_ (P:=λt=>∀ (i:Nat) p,t[i]?=some p→inR r p=true) _ _ ?_ λt x hx ht=>zd_ ht hhd
    exact pk_ (P:=λt=>∀ (i:Nat) p,t[i]?=some p→inR r p=true) _ _ hv.pr λt x hx ht=>zd_ ht hm1
   refine⟨hth.1,?_,hv.l3,hth.2,hpr,hv.py⟩
   show (a.2.2.2.2.2.2.2.foldl (λt p=>t.set p.toNat (hdl m)) (a.2.2.2.2.2.2.1.foldl (λt p=>t.set p.toNat (-1)) s.2.1)).length=_
   rw[ad7 (λp=>p) (λ_=>hdl m),ad7 (λp=>p) (λ_=>-1)]
   exact hv.l2
end
end Go.Proofs.YtgeehfnbhbibeaaGreatDoor.Rx
namespace Go.Proofs.YtgeehfnbhbibeaaGreatDoor.Rx
open Go Pad Rex Go.Proofs Go.Proofs.Tryz Sum
section
set_option maxRecDepth 100000
noncomputable def mvX (a0:ad_) (a2:ah_) (v1 v2 v3:List Int):Option (List Int×(List Int×(List Int×Unit))) :=
 (cond (a2.2.1==1)
 ((at? a0.2.2.2.1 a2.2.2).bind λv5 =>
 ((at? v3 a2.1).bind λv6 =>
 ((at? v3 a2.1).bind λv7 =>
 ((at? v3 a2.1).bind λv8 =>
 ((at? v3 a2.1).bind λv9 =>
 (some (v1,(v2,((v3.set a2.1.toNat (w64 ((w64 (v5.1+v5.2.1)) - v7))),())))))))))
 (cond (a2.2.1==2)
 ((at? v2 a2.2.2).bind λv10 =>
 ((at? v2 a2.2.2).bind λv11 =>
 (some (v1,((v2.set a2.2.2.toNat (w64 ((-2) - a2.1))),(v3,()))))))
 (cond (a2.2.1==3)
 ((at? v3 a2.1).bind λv12 =>
 ((at? v3 a2.1).bind λv13 =>
 ((at? v2 a2.2.2).bind λv14 =>
 ((at? v2 a2.2.2).bind λv15 =>
 (some (v1,((v2.set a2.2.2.toNat v13),(v3,()))))))))
 (cond (a2.2.1==4)
 ((at? a0.2.2.2.2.1 a2.2.2).bind λv16 =>
 ((af_ (ρ:=((List Int)×Unit)) (λ(v17:(Int×((List Int)×Unit))) =>
 (cond (decide (v17.1<(v16.2.2.2.2.2.2.1.length:Int)))
 ((at? v16.2.2.2.2.2.2.1 v17.1).bind λv18 =>
 ((at? v17.2.1 v18).bind λv19 =>
 ((at? v17.2.1 v18).bind λv20 =>
 (some (inl ((w64 (v17.1+1)),((v17.2.1.set v18.toNat (-1)),())))))))
 (some (inr (v17.2.1,()))))) (0,(v2,()))).bind λv21 =>
 ((af_ (ρ:=((List Int)×Unit)) (λ(v22:(Int×((List Int)×Unit))) =>
 (cond (decide (v22.1<(v16.2.2.2.2.2.2.2.length:Int)))
 ((at? v16.2.2.2.2.2.2.2 v22.1).bind λv23 =>
 ((at? v22.2.1 v23).bind λv24 =>
 ((at? v22.2.1 v23).bind λv25 =>
 (some (inl ((w64 (v22.1+1)),((v22.2.1.set v23.toNat (w64 ((-2) - a2.1))),())))))))
 (some (inr (v22.2.1,()))))) (0,(v21.1,()))).bind λv26 =>
 ((af_ (ρ:=((List Int)×Unit)) (λ(v27:(Int×((List Int)×Unit))) =>
 (cond (decide (v27.1<(v16.2.2.2.2.2.1.length:Int)))
 ((at? v16.2.2.2.2.2.1 v27.1).bind λv28 =>
 ((at? v27.2.1 v28.1).bind λv29 =>
 ((at? v27.2.1 v28.1).bind λv30 =>
 (some (inl ((w64 (v27.1+1)),((v27.2.1.set v28.1.toNat v28.2),())))))))
 (some (inr (v27.2.1,()))))) (0,(v1,()))).bind λv31 =>
 (some (v31.1,(v26.1,(v3,()))))))))
 (some (v1,(v2,(v3,()))))))))
noncomputable def rstX (a0:ad_) (a1:aj_) (a2:ah_):Option (aj_×(Int×Unit)) :=
 ((ce_ a0 a1).bind λv0 =>
 (cond (v0.1 != 0)
 (some (([],([],[])),(v0.1,())))
 ((push? (α:=Int) [] a1.1).bind λv1 =>
 ((push? (α:=Int) [] a1.2.1).bind λv2 =>
 ((push? (α:=Int) [] a1.2.2).bind λv3 =>
 ((da_ (a0,(v1,(v2,v3))) a2).bind λv4 =>
 (cond (!v4.1)
 (some (([],([],[])),(29,())))
 ((mvX a0 a2 v1 v2 v3).bind λv32 =>
 ((((af_ (ρ:=(((List Int)×Unit)⊕(Bool×((List Int)×Unit)))) (setB a0 v32.2.1 v32.2.2.1) (0,(v32.1,()))).bind λv48 =>
 (ca_ v48 (λv49=>(some ((!false),(v49.1,()))))
 (λv50=>(some v50))))).bind λv51 =>
 (cond v51.1
 (some (([],([],[])),(27,())))
 (some ((v51.2.1,(v32.2.1,v32.2.2.1)),(0,())))))))))))))
theorem rstX_eq:fs_=rstX:=by kernel_rfl
theorem cu2 {r:ad_} (h:SmR r) (ok:OkR r) {s:aj_} (hv:VS r s) {m:ah_} (hl:lgl r s m=true):mvX r m s.1 s.2.1 s.2.2=some ((mvP r s m).1,((mvP r s m).2.1,((mvP r s m).2.2,()))):=by
  obtain⟨m1,m2,m3⟩:=ra_ h ok hv
  have hl1:=hv.l1
  have hl2:=hv.l2
  obtain⟨pj,px,hpj,hp,e2⟩:=bw6 m3 hl
  have eg:gi s.2.2 m.1=px:=ok_ e2
  have hpx:=(mb_ h).1 (hv.py _ _ hp)
  have hpl:=h.pl
  unfold lgl at hl
  rw[a1_] at hl
  have hl:=hl.2
  unfold mvX mvP
  cases hk1:m.2.1==1 with
  | true =>
    rw[hk1] at hl
    simp only[a5_] at hl ⊢
    rcases cu_ h.wy m.2.2 with ⟨f1,f2⟩ | ⟨j,w,hj,hw,f1,f2⟩
    · rw[f2] at hl;cases hl
    · have ow:=(ok.wy j w hw).1
      unfold cf9 at ow
      simp only[a1_] at ow
      have o1:=(mb_ h).1 ow.1
      have o2:=(mb_ h).1 ow.2.1
      simp only[f2,e2,eg,a0_,Option.elim]
      rw[hd_ (n:=w.1+w.2.1) (by omega) (by omega),hd_ (by omega) (by omega)]
  | false =>
  rw[hk1] at hl
  simp only[a2_] at hl ⊢
  cases hk2:m.2.1==2 with
  | true =>
    rw[hk2] at hl
    simp only[a5_] at hl ⊢
    rcases cu_ h.pr m.2.2 with ⟨f1,f2⟩ | ⟨j,x,hj,hx,f1,f2⟩
    · rw[f2] at hl;cases hl
    · have:=am_ hx
      rw[tl_ (l:=s.2.1) (i:=m.2.2) (by omega) (by omega)]
      rfl
  | false =>
  rw[hk2] at hl
  simp only[a2_] at hl ⊢
  cases hk3:m.2.1==3 with
  | true =>
    rw[hk3] at hl
    simp only[a5_] at hl ⊢
    rcases cu_ m2 m.2.2 with ⟨f1,f2⟩ | ⟨j,x,hj,hx,f1,f2⟩
    · rw[f2] at hl;cases hl
    · simp only[f2,e2,eg,a0_]
  | false =>
  rw[hk3] at hl
  simp only[a2_] at hl ⊢
  cases hk4:m.2.1==4 with
  | false=>rfl
  | true =>
    rw[hk4] at hl
    simp only[a5_] at hl ⊢
    rcases cu_ h.ac m.2.2 with ⟨f1,f2⟩ | ⟨j,a,hj,ha,f1,f2⟩
    · rw[f2] at hl;cases hl
    · have ai:=bh3 (ok.ac j a ha).1
      obtain⟨s1,s2,s3,s4,s5,s6⟩:=h.acn a (bh_ ha)
      simp only[f2,a0_,Option.elim]
      have hA:=ad8 a.2.2.2.2.2.2.1 s5 (λp=>p) (λ_=>-1) s.2.1 (λp hp=>by have:=ai.sp p hp;omega) (body:=(λ(v17:(Int×((List Int)×Unit))) =>
 (cond (decide (v17.1<(a.2.2.2.2.2.2.1.length:Int)))
 ((at? a.2.2.2.2.2.2.1 v17.1).bind λv18 =>
 ((at? v17.2.1 v18).bind λv19 =>
 ((at? v17.2.1 v18).bind λv20 =>
 (some (inl ((w64 (v17.1+1)),((v17.2.1.set v18.toNat (-1)),())))))))
 (some (inr (v17.2.1,())))))) (λi x t' y hx hy=>by simp only[dlt (am_ hx),a5_,ai_ hx,a0_,hy]) (λt'=>by simp only[dnl,a2_])
      rw[hA,a0_]
      have hl3:(a.2.2.2.2.2.2.1.foldl (λt p=>t.set p.toNat (-1)) s.2.1).length=s.2.1.length:=ad7 (λp=>p) (λ_=>-1) _ _
      have hB:=ad8 a.2.2.2.2.2.2.2 s6 (λp=>p) (λ_=>hdl m) (a.2.2.2.2.2.2.1.foldl (λt p=>t.set p.toNat (-1)) s.2.1) (λp hp=>by have:=ai.br p hp;omega) (body:=(λ(v22:(Int×((List Int)×Unit))) =>
 (cond (decide (v22.1<(a.2.2.2.2.2.2.2.length:Int)))
 ((at? a.2.2.2.2.2.2.2 v22.1).bind λv23 =>
 ((at? v22.2.1 v23).bind λv24 =>
 ((at? v22.2.1 v23).bind λv25 =>
 (some (inl ((w64 (v22.1+1)),((v22.2.1.set v23.toNat (w64 ((-2) - m.1))),())))))))
 (some (inr (v22.2.1,())))))) (λi x t' y hx hy=>by simp only[dlt (am_ hx),a5_,ai_ hx,a0_,hy]) (λt'=>by simp only[dnl,a2_])
      simp only
      rw[hB,a0_]
      have hC:=ad8 a.2.2.2.2.2.1 s4 (λx:Int×Int=>x.1) (λx=>x.2) s.1 (λx hx=>by have:=(np_ h ok (ai.st x hx)).1;omega) (body:=(λ(v27:(Int×((List Int)×Unit))) =>
 (cond (decide (v27.1<(a.2.2.2.2.2.1.length:Int)))
 ((at? a.2.2.2.2.2.1 v27.1).bind λv28 =>
 ((at? v27.2.1 v28.1).bind λv29 =>
 ((at? v27.2.1 v28.1).bind λv30 =>
 (some (inl ((w64 (v27.1+1)),((v27.2.1.set v28.1.toNat v28.2),())))))))
 (some (inr (v27.2.1,())))))) (λi x t' y hx hy=>by simp only[dlt (am_ hx),a5_,ai_ hx,a0_,hy]) (λt'=>by simp only[dnl,a2_])
      rw[hC,a0_]
def fstA (r:ad_) (th:List Int):Option (List bn_×ab_):=r.2.2.2.2.2.1.find? λy=>(gi th y.2.1 != y.2.2)&&du_ th y.1
def stl (r:ad_):Nat→List Int→Option (List Int)
 | 0,_=>none
 | n+1,th=>match fstA r th with
  | none=>some th
  | some y=>stl r n (th.set y.2.1.toNat y.2.2)
theorem al5 {α ρ:Type} {q:α→Bool} {f:Nat→ρ}:∀ (m:List α) (k:Nat),(hf_ (λi y=>cond (q y) (some (f i)) none) k m=none∧m.find? q=none)∨∃ (i:Nat) (y:α),m[i]?=some y∧m.find? q=some y∧hf_ (λi y=>cond (q y) (some (f i)) none) k m=some (f (k+i))
 | [],_=>.inl ⟨rfl,rfl⟩
 | x::m,k=>by
  unfold hf_
  cases hq:q x with
  | true=>exact .inr ⟨0,x,rfl,by simp[hq],rfl⟩
  | false =>
   rcases al5 (q:=q) (f:=f) m (k+1) with ⟨h1,h2⟩ | ⟨i,y,h1,h2,h3⟩
   ·exact .inl ⟨h1,by simp[hq,h2]⟩
   ·exact .inr ⟨i+1,y,by simpa using h1,by simp[hq,h2],by rw[show k+(i+1)=k+1+i by omega];exact h3⟩
theorem if_find {α:Type} {l:List α} (hl:Sm l.length) (q:α→Bool) {body:(Int×Unit)→Option ((Int×Unit)⊕(Unit⊕(Int×Unit)))}
  (h:∀ (i:Nat) y,l[i]?=some y→body ((i:Int),())=some (cond (q y) (.inr (.inr ((i:Int),()))) (.inl (w64 ((i:Int)+1),())))) (e:body ((l.length:Int),())=some (.inr (.inl ()))) :
  ∃ n:Int,((af_ body (0,())).bind λv=>ca_ v (λ_=>some ((-1:Int),())) (λw=>some w))=some (n,())∧((n = -1∧l.find? q=none)∨∃ (i:Nat) (y:α),n=(i:Int)∧l[i]?=some y∧l.find? q=some y):=by
 have hrun:=pi_ l (λi y=>cond (q y) (some (inr ((i:Int),()):Unit⊕(Int×Unit))) none) (λi=>((i:Int),())) (r0:=inl ()) (body:=body) (λi y hy=>by
  have hi:=am_ hy
  rw[h i y hy,bb_ (show Sm i by omega)]
  cases q y<;>rfl) e
 have hr2:af_ body (0,())=some ((hf_ (λi y=>cond (q y) (some (inr ((i:Int),()):Unit⊕(Int×Unit))) none) 0 l).getD (inl ())):=hrun
 rw[hr2]
 rcases al5 (q:=q) (f:=λi=>(inr ((i:Int),()):Unit⊕(Int×Unit))) l 0 with ⟨h1,h2⟩ | ⟨i,y,h1,h2,h3⟩
 ·exact⟨-1,by rw[h1];rfl,.inl ⟨rfl,h2⟩⟩
 ·exact⟨(i:Int),by rw[h3,b0_];rfl,.inr ⟨i,y,rfl,h1,h2⟩⟩
theorem cq9 {r:ad_} (h:SmR r) (ok:OkR r) {th pr py:List Int} (hv:VT r th) :
  ∃ n:Int,((af_ (autB r th pr py) (0,())).bind λv=>ca_ v (λ_=>some ((-1:Int),())) (λw=>some w))=some (n,())∧((n = -1∧fstA r th=none)∨∃ (i:Nat) (y:List bn_×ab_),n=(i:Int)∧r.2.2.2.2.2.1[i]?=some y∧fstA r th=some y) :=
 if_find (l:=r.2.2.2.2.2.1) h.au (λy=>(gi th y.2.1 != y.2.2)&&du_ th y.1) (body:=autB r th pr py) (λi y hy=>by
  obtain⟨g1,g2⟩:=ok.au i y hy
  have hi:=(np_ h ok g1).1
  obtain⟨c1,c2⟩:=vi_ h.th g2
  have hl:=hv.1
  unfold autB
  have ht:az_ (r,(th,(pr,py))) y.1=some (du_ th y.1,()):=nn_ (t:=(r,(th,(pr,py)))) (by omega) (by show InC th.length y.1;rw[hl];exact c1)
  simp only[dlt (am_ hy),a5_,ai_ hy,a0_,tl_ hi.1 (show y.2.1<th.length by omega),ht]
  cases gi th y.2.1 != y.2.2 with
  | false=>rfl
  | true=>cases du_ th y.1<;>rfl) (by
  unfold autB
  simp only[dnl,a2_])
theorem ov_ {r:ad_} (h:SmR r) (ok:OkR r) {pr py:List Int}:∀ (n i:Nat) (th:List Int),i+n=101→VT r th →
  ∃ z,af_ (setB r pr py) ((i:Int),(th,()))=some z∧match stl r n th with
   | some th'=>z = .inr (false,(th',()))∧VT r th'
   | none=>∃ w,z = .inl w
 | 0,i,th,hi,hv=>by
  obtain rfl:i=101:=by omega
  exact⟨.inl (th,()),cc_ (by unfold setB;rfl),_,rfl⟩
 | n+1,i,th,hi,hv=>by
  obtain⟨k,e,hc⟩:=cq9 h ok hv (pr:=pr) (py:=py)
  have hd:decide ((i:Int)<101)=true:=b9_ (by omega)
  unfold stl
  rcases hc with ⟨rfl,hf⟩ | ⟨j,y,rfl,hy,hf⟩
  ·rw[hf]
   refine⟨.inr (false,(th,())),cc_ ?_,rfl,hv⟩
   unfold setB
   simp only[hd,a5_]
   refine e5_ (congrArg (λo=>Option.bind o _) e) rfl
  ·rw[hf]
   have g1:=(ok.au j y hy).1
   have hi2:=(np_ h ok g1).1
   have hl:=hv.1
   obtain⟨z,ez,hz⟩:=ov_ h ok (pr:=pr) (py:=py) n (i+1) (th.set y.2.1.toNat y.2.2) (by omega) (ce9 h ok hv g1)
   refine⟨z,bu_ ?_ ez,hz⟩
   unfold setB
   simp only[hd,a5_]
   refine e5_ (congrArg (λo=>Option.bind o _) e) ?_
   simp only[a0_,show decide ((j:Int)<0)=false from c2_ (by omega),a2_,ai_ hy,tl_ hi2.1 (show y.2.1<th.length by omega),bb_ (show Sm i by show _≤1000000000;omega)]
def zi_ (r:ad_) (s:aj_) (m:ah_):Option aj_:=(stl r 101 (mvP r s m).1).map λth=>(th,(mvP r s m).2)
abbrev eS:aj_:=([],([],[]))
theorem al7 {r:ad_} (h:SmR r) (h0:dd_ r=0) {s:aj_} (hv:VS r s) (m:ah_) :
  fs_ r s m=some (cond (lgl r s m) ((zi_ r s m).elim (eS,(27,())) λt=>(t,(0,()))) (eS,(29,()))):=by
 have ok:=bs_ h0
 obtain⟨m1,m2,m3⟩:=ra_ h ok hv
 rw[rstX_eq]
 unfold rstX
 rw[fm_ h,a0_,hu_ h0 hv]
 simp only[show ((0:Int) != 0)=false from rfl,a2_]
 rw[bj_ m1,a0_,bj_ m2,a0_,bj_ m3,a0_]
 refine e5_ (congrArg (λo=>Option.bind o _) (xb_ h ok hv m)) ?_
 rw[a0_]
 cases hl:lgl r s m with
 | false=>rfl
 | true =>
 simp only[e2_,a2_,a5_]
 rw[cu2 h ok hv hl,a0_]
 simp only
 have hv2:=VS_mv h ok hv hl
 obtain⟨z,ez,hz⟩:=ov_ h ok (pr:=(mvP r s m).2.1) (py:=(mvP r s m).2.2) 101 0 (mvP r s m).1 rfl ⟨hv2.l1,hv2.th⟩
 refine e5_ (congrArg (λo=>Option.bind (Option.bind o _) _) ez) ?_
 unfold zi_
 cases hs:stl r 101 (mvP r s m).1 with
 | none =>
  rw[hs] at hz
  obtain⟨w,rfl⟩:=hz
  rfl
 | some th' =>
  rw[hs] at hz
  obtain⟨rfl,_⟩:=hz
  rfl
theorem wb_ {r:ad_} (h:SmR r) (h0:dd_ r=0) {s t:aj_} (hv:VS r s) {m:ah_} (hl:lgl r s m=true) (ht:zi_ r s m=some t):VS r t:=by
 have ok:=bs_ h0
 have hv2:=VS_mv h ok hv hl
 unfold zi_ at ht
 obtain⟨th,hs,rfl⟩:=f4_.1 ht
 obtain⟨z,ez,hz⟩:=ov_ h ok (pr:=(mvP r s m).2.1) (py:=(mvP r s m).2.2) 101 0 (mvP r s m).1 rfl ⟨hv2.l1,hv2.th⟩
 rw[hs] at hz
 exact⟨hz.2.1,hv2.l2,hv2.l3,hz.2.2,hv2.pr,hv2.py⟩
end
section
set_option maxRecDepth 100000
theorem au3 {r:ad_} (h:SmR r) (h0:dd_ r=0) {s:aj_} (hv:VS r s) {c:List bn_} (hc:cOk r.2.1 c=true):fu_ r s c=some (du_ s.1 c,(0,())):=by
 have ok:=bs_ h0
 obtain⟨m1,m2,m3⟩:=ra_ h ok hv
 unfold fu_
 rw[fm_ h,a0_,hu_ h0 hv]
 simp only[show ((0:Int) != 0)=false from rfl,a2_]
 rw[ks_ h.th,a0_,hc]
 obtain⟨c1,c2⟩:=vi_ h.th hc
 have hl:=hv.l1
 simp only[e2_,a2_]
 rw[bj_ m1,a0_,bj_ m2,a0_,bj_ m3,a0_,nn_ (t:=(r,(s.1,(s.2.1,s.2.2)))) (show c.length≤1000000000 by omega) (by show InC s.1.length c;rw[hl];exact c1)]
 rfl
def rdB (s:aj_) (n:dw_) (b:Bool):Bool:=b||(du_ s.1 n.2.2.2.1&&s.2.2.contains n.2.1)
def rdN (g:ac_) (s:aj_) (d:List Bool):List Bool:=List.zipWith (rdB s) g.2.2.2.1 d
theorem tx_ {g:ac_} {s:aj_} {d:List Bool} (hd:d.length=g.2.2.2.1.length):(rdN g s d).length=g.2.2.2.1.length:=by
 unfold rdN
 rw[List.length_zipWith]
 omega
theorem br0 {g:ac_} {s:aj_} {d:List Bool} {i:Nat} {n:dw_} {b:Bool} (hn:g.2.2.2.1[i]?=some n) (hb:d[i]?=some b):(rdN g s d)[i]?=some (rdB s n b):=by
 unfold rdN
 rw[List.getElem?_zipWith,hn,hb]
theorem xq_ {g:ac_} (hg:SmG g) (ok:OkG g) {s:aj_} (hv:VS g.1 s) {d:List Bool} (hd:d.length=g.2.2.2.1.length) (m:List ab_) :
  ∃ z,af_ (pbgB g s) (0,(d,(m,())))=some z∧z.1=rdN g s d:=by
 have h0:=ok.room
 have okr:=bs_ h0
 obtain⟨m1,m2,m3⟩:=ra_ hg.room okr hv
 have hn:=hg.nt
 have hrl:=tx_ (s:=s) hd
 refine mx_ (λ(i:Nat) (z:Int×(List Bool×(List ab_×Unit)))=>∃ d' m',z=((i:Int),(d',(m',())))∧∀ j,d'[j]?=if j<i then (rdN g s d)[j]? else d[j]?) _ g.2.2.2.1.length 0 _ ⟨d,m,rfl,λj=>by simp⟩ (λj z h1 h2 hz=>.inl ?_) (λz hz => ?_)
 ·obtain⟨d',m',rfl,hd'⟩:=hz
  obtain⟨x,hx⟩:=bf_ (l:=g.2.2.2.1) (i:=j) (by omega)
  obtain⟨y,hy⟩:=bf_ (l:=d) (i:=j) (by omega)
  have hy':d'[j]?=some y:=by rw[hd' j,if_neg (by omega)];exact hy
  have hr:=br0 (s:=s) hx hy
  have hH:=au3 hg.room h0 hv (ok.nt j x hx).2
  have keep:rdB s x y=y→∀ k,d'[k]?=if k<j+1 then (rdN g s d)[k]? else d[k]?:=λe k=>by
   rw[hd' k]
   by_cases hk:k=j
   ·subst hk
    rw[if_neg (by omega),if_pos (by omega),hr,hy,e]
   ·by_cases hk2:k<j
    ·rw[if_pos hk2,if_pos (by omega)]
    ·rw[if_neg hk2,if_neg (by omega)]
  have turn:rdB s x y=true→∀ k,(d'.set ((j:Int)).toNat true)[k]?=if k<j+1 then (rdN g s d)[k]? else d[k]?:=λe k=>by
   rw[c1_,g4_]
   by_cases hk:j=k
   ·subst hk
    rw[if_pos rfl,if_pos (am_ hy'),if_pos (by omega),hr,e]
   ·rw[if_neg hk,hd' k]
    by_cases hk2:k<j
    ·rw[if_pos hk2,if_pos (by omega)]
    ·rw[if_neg hk2,if_neg (by omega)]
  unfold pbgB
  simp only[dlt (am_ hx),a5_,ai_ hx,ai_ hy',a0_,hH,px_ m3,bb_ (show Sm j by omega)]
  unfold rdB at keep turn
  cases hb:du_ s.1 x.2.2.2.1 with
  | false=>exact⟨_,rfl,_,_,rfl,keep (by rw[hb];simp)⟩
  | true =>
  cases hc:s.2.2.contains x.2.1 with
  | false =>
   refine⟨_,?_,d',m',rfl,keep (by rw[hc];simp)⟩
   simp only[a5_,a2_,a0_]
  | true =>
  cases y with
  | true=>exact⟨_,rfl,_,_,rfl,keep rfl⟩
  | false=>exact⟨_,rfl,_,_,rfl,turn (by rw[hb,hc];rfl)⟩
 ·obtain⟨d',m',rfl,hd'⟩:=hz
  rw[b0_]
  unfold pbgB
  simp only[dnl,a2_]
  refine⟨_,rfl,f1_ λk => ?_⟩
  rw[hd' k]
  split
  ·rfl
  ·rw[b4_ (by omega),b4_ (by omega)]
def bl2 (g:ac_) (d:List Bool) (lock:Int):List al_:=(g.2.2.2.1.zip d).filterMap λx=>cond (x.1.2.2.1==lock&&x.2) (some x.1.2.2.2.2) none
theorem aj7 {g:ac_} {d:List Bool} {lock:Int} {c:al_} (h:c ∈ bl2 g d lock):∃ (i:Nat) (n:dw_),g.2.2.2.1[i]?=some n∧n.2.2.1=lock∧n.2.2.2.2=c:=by
 unfold bl2 at h
 obtain⟨x,hx,he⟩:=List.mem_filterMap.1 h
 obtain⟨i,hi⟩:=f2_ (List.of_mem_zip hx).1
 cases hq:(x.1.2.2.1==lock&&x.2) with
 | false=>rw[hq] at he;cases he
 | true =>
  rw[hq] at he
  rw[a1_,g5_] at hq
  exact⟨i,x.1,hi,hq.1,a6_ he⟩
theorem bf7 {g:ac_} (hg:SmG g) (d:List Bool) (lock:Int):(bl2 g d lock).length≤20:=by
 unfold bl2
 refine c5_ (p1_ ..) ?_
 rw[m9_]
 have:=hg.nt
 omega
theorem bt9 {g:ac_} (ok:OkG g) {i:Nat} {n:dw_} (hn:g.2.2.2.1[i]?=some n) {l:ab_} (h0:0≤n.2.2.1) (hl:at? g.2.1 n.2.2.1=some l):di_ l n.2.2.2.2=true:=by
 have h:=(ok.nt i n hn).1
 unfold bu0 at h
 simp only[a1_] at h
 have h5:=h.2.2.2.2
 rw[c2_ (by omega),hl] at h5
 simp only[a2_] at h5
 cases hk:at? g.2.2.1 n.2.2.1 with
 | none=>rw[hk] at h5;cases h5
 | some k =>
  rw[hk] at h5
  have h5:clOk l n.2.2.2.2 k=true:=h5
  unfold clOk at h5
  rw[a1_] at h5
  exact h5.1
noncomputable def rdC (g:ac_) (d:List Bool) (lock:Int) (l:ab_):Int:=((rdg l ((bl2 g d lock))).length:Int)
theorem aq5 {g:ac_} (hg:SmG g) (ok:OkG g) (d:List Bool) {lock:Int} (h0:0≤lock) {l:ab_} (hl:at? g.2.1 lock=some l):df_ l (bl2 g d lock)=some (rdC g d lock l,(0,())):=by
 obtain⟨_,_,l1⟩:=dg_ hl
 refine aq8 (ok.lk _ l l1).1 (bf7 hg d lock) λc hc => ?_
 obtain⟨i,n,hn,rfl,rfl⟩:=aj7 hc
 exact bt9 ok hn h0 hl
noncomputable def opn (g:ac_) (d:List Bool) (lock:Int):Bool:=cond (decide (lock<0)) true ((at? g.2.1 lock).elim false λl=>decide (rdC g d lock l≤g.2.2.2.2))
noncomputable def abB (a0:ac_) (v1:List Bool) (lock:Int):(List Int×(List al_×(Int×Unit)))→Option ((List Int×(List al_×(Int×Unit)))⊕(List Int×(List al_×Unit))) :=
 (λ(v4:((List Int)×((List al_)×(Int×Unit)))) =>
 (cond (decide (v4.2.2.1<(a0.2.2.2.1.length:Int)))
 ((((at? a0.2.2.2.1 v4.2.2.1).bind λv5 =>
 (((cond (v5.2.2.1==lock)
 ((at? v1 v4.2.2.1).bind λv6 =>
 ((at? v1 v4.2.2.1).bind λv7 =>
 (some (v7,()))))
 (some (false,())))).bind λv8 =>
 (cond v8.1
 ((push? (α:=Int) v4.1 [v4.2.2.1]).bind λv9 =>
 ((push? (α:=al_) v4.2.1 [v5.2.2.2.2]).bind λv10 =>
 (some (v9,(v10,())))))
 (some (v4.1,(v4.2.1,()))))))).bind λv11 =>
 (some (inl (v11.1,(v11.2.1,((w64 (v4.2.2.1+1)),()))))))
 (some (inr (v4.1,(v4.2.1,()))))))
theorem ce8 {g:ac_} (hg:SmG g) {d:List Bool} (hd:d.length=g.2.2.2.1.length) (lock:Int):∃ q,af_ (abB g d lock) ([],([],(0,())))=some (q,(bl2 g d lock,())):=by
 have hn:=hg.nt
 suffices hk:∃ r,af_ (abB g d lock) ([],([],(0,())))=some r∧∃ q,r=(q,(bl2 g d lock,())) by
  obtain⟨z,ez,q,rfl⟩:=hk
  exact⟨q,ez⟩
 refine mx_ (λ(i:Nat) (z:List Int×(List al_×(Int×Unit)))=>∃ q,z=(q,(((g.2.2.2.1.zip d).take i).filterMap (λx=>cond (x.1.2.2.1==lock&&x.2) (some x.1.2.2.2.2) none),((i:Int),())))∧q.length≤i) (λw=>∃ q,w=(q,(bl2 g d lock,()))) g.2.2.2.1.length 0 ([],([],(0,()))) ⟨[],rfl,c3_ _⟩ (λj z h1 h2 hz=>.inl ?_) (λz hz => ?_)
 ·obtain⟨q,rfl,hq⟩:=hz
  obtain⟨x,hx⟩:=bf_ (l:=g.2.2.2.1) (i:=j) (by omega)
  obtain⟨y,hy⟩:=bf_ (l:=d) (i:=j) (by omega)
  have hzip:(g.2.2.2.1.zip d)[j]?=some (x,y):=by rw[h3_];exact⟨hx,hy⟩
  have hlen:(((g.2.2.2.1.zip d).take j).filterMap (λx=>cond (x.1.2.2.1==lock&&x.2) (some x.1.2.2.2.2) none)).length≤j:=by
   refine c5_ (p1_ ..) ?_
   rw[c7_];omega
  have hstep:((g.2.2.2.1.zip d).take (j+1)).filterMap (λx=>cond (x.1.2.2.1==lock&&x.2) (some x.1.2.2.2.2) none)=((g.2.2.2.1.zip d).take j).filterMap (λx=>cond (x.1.2.2.1==lock&&x.2) (some x.1.2.2.2.2) none)++cond (x.2.2.1==lock&&y) [x.2.2.2.2] []:=by
   rw[d6_,hzip,o1_]
   cases hc:(x.2.2.1==lock&&y) with
   | false=>simp[hc]
   | true=>simp[hc]
  unfold abB
  simp only[dlt (am_ hx),a5_,ai_ hx,ai_ hy,a0_,bb_ (show Sm j by omega)]
  cases h1:x.2.2.1==lock with
  | false =>
   refine⟨_,rfl,q,?_,by omega⟩
   rw[hstep,h1,e4_,a2_,e7_]
  | true =>
  cases y with
  | false =>
   refine⟨_,rfl,q,?_,by omega⟩
   rw[hstep,f7_,a2_,e7_]
  | true =>
   simp only[a5_,a0_,cv_ (show Sm q.length by show _≤1000000000;omega),cv_ (show Sm _ from c5_ hlen (by omega))]
   refine⟨_,rfl,q++[(j:Int)],?_,by rw[a9_,d9_];omega⟩
   rw[hstep,h1,h1_,a5_]
 ·obtain⟨q,rfl,hq⟩:=hz
  rw[b0_]
  unfold abB
  simp only[dnl,a2_]
  refine⟨_,rfl,q,?_⟩
  unfold bl2
  rw[g6_ (by rw[m9_];omega)]
end
section
set_option maxRecDepth 100000
noncomputable def opX (a0:ac_) (v1:List Bool) (a2:ah_):Option (Bool×(List ab_×Unit)) :=
 (cond (a2.2.1==4)
 ((cf_ a2.2.2 0 (w64 ((a0.1.2.2.2.2.1.length:Int) - 1))).bind λv2 =>
 (cond v2.1
 ((at? a0.1.2.2.2.2.1 a2.2.2).bind λv3 =>
 (cond (decide (v3.2.2.1<0))
 (some ((!true),([],())))
 ((((af_ (abB a0 v1 v3.2.2.1) ([],([],(0,())))).bind λv12 =>
 ((at? a0.2.1 v3.2.2.1).bind λv13 =>
 ((df_ v13 v12.2.1).bind λv14 =>
 (((cond (v14.2.1==0)
 (some ((decide (v14.1≤a0.2.2.2.2)),()))
 (some (false,())))).bind λv15 =>
 (cond v15.1
 (some ((iq_ (iq_ [] v3.2.2.1 2) v3.2.2.1 1),()))
 (some ((iq_ [] v3.2.2.1 2),())))))))).bind λv16 =>
 (some ((!((de_ 0 v16.1 v3.2.2.1)==1)),(v16.1,()))))))
 (some (false,([],())))))
 (some (false,([],()))))
noncomputable def pstX (a0:ac_) (a1:aa_) (a2:ah_):Option (aa_×(Int×Unit)) :=
 ((en_ a0 a1).bind λv0 =>
 (cond (v0.1 != 0)
 (cond (v0.1 != 0)
 (some ((([],([],[])),[]),(v0.1,())))
 none)
 ((push? (α:=Bool) [] a1.2).bind λv1 =>
 ((((opX a0 v1 a2).bind λv17 =>
 (cond v17.1
 (some ((!false),(v1,(v17.2.1,((a1.1.1,(a1.1.2.1,(a1.1.2.2,()))),())))))
 ((fs_ a0.1 a1.1 a2).bind λv18 =>
 (cond (v18.2.1 != 0)
 (some ((!false),(v1,(v17.2.1,((a1.1.1,(a1.1.2.1,(a1.1.2.2,()))),())))))
 ((af_ (ρ:=((List Bool)×((List ab_)×Unit))) (pbgB a0 v18.1) (0,(v1,(v17.2.1,())))).bind λv29 =>
 (some ((!true),(v29.1,(v29.2.1,((v18.1.1,(v18.1.2.1,(v18.1.2.2,()))),()))))))))))).bind λv30 =>
 (cond v30.1
 (some ((([],([],[])),[]),(29,())))
 ((push? (α:=Int) [] v30.2.2.2.1.1).bind λv31 =>
 ((push? (α:=Int) [] v30.2.2.2.1.2.1).bind λv32 =>
 ((push? (α:=Int) [] v30.2.2.2.1.2.2.1).bind λv33 =>
 ((push? (α:=Bool) [] v30.2.1).bind λv34 =>
 (some (((v31,(v32,v33)),v34),(0,()))))))))))))
theorem pstX_eq:lj_=pstX:=by kernel_rfl
noncomputable def okM (g:ac_) (d:List Bool) (m:ah_):Bool:=cond (m.2.1==4) ((at? g.1.2.2.2.2.1 m.2.2).elim true λa=>opn g d a.2.2.1) true
noncomputable def stepP (g:ac_) (p:aa_) (m:ah_):Option aa_ :=
 cond (okM g p.2 m&&lgl g.1 p.1 m) ((zi_ g.1 p.1 m).map λs=>(s,rdN g s p.2)) none
abbrev eP:aa_:=(eS,[])
theorem bk0 {g:ac_} (hg:SmG g) (p:aa_):en_ g p=some (cond (ct_ g != 0) (ct_ g) (cond (og_ g.1 p.1 != 0) (og_ g.1 p.1) (cond ((p.2.length:Int) != (g.2.2.2.1.length:Int)) 28 0)),()):=by
 unfold en_
 rw[aa1 hg,a0_]
 cases ct_ g != 0 with
 | true=>rfl
 | false =>
 simp only[a2_]
 rw[fm_ hg.room,a0_]
 cases og_ g.1 p.1 != 0 with
 | true=>rfl
 | false =>
 simp only[a2_]
 cases (p.2.length:Int) != (g.2.2.2.1.length:Int)<;>rfl
structure VP (g:ac_) (p:aa_):Prop where
 st:VS g.1 p.1
 rd:p.2.length=g.2.2.2.1.length
theorem xp_ {g:ac_} (hg:SmG g) (h0:ct_ g=0) {p:aa_} (hv:VP g p):en_ g p=some (0,()):=by
 rw[bk0 hg,h0,hu_ (dt_ h0).room hv.st,hv.rd,show ((g.2.2.2.1.length:Int) != (g.2.2.2.1.length:Int))=false by simp]
 rfl
theorem opX_eq {g:ac_} (hg:SmG g) (ok:OkG g) {d:List Bool} (hd:d.length=g.2.2.2.1.length) (m:ah_):∃ x,opX g d m=some (!(okM g d m),(x,())):=by
 have hac:=hg.ac
 unfold opX okM
 cases hk:m.2.1==4 with
 | false=>exact⟨[],rfl⟩
 | true =>
 simp only[a5_,la_,a0_]
 rcases cu_ (l:=g.1.2.2.2.2.1) (by show _≤1000000000;omega) m.2.2 with ⟨f1,f2⟩ | ⟨j,a,hj,ha,f1,f2⟩
 ·rw[f1,f2];exact⟨[],rfl⟩
 ·rw[f1,f2]
  simp only[a5_,a0_,Option.elim]
  unfold opn
  cases hz:decide (a.2.2.1<0) with
  | true=>exact⟨[],rfl⟩
  | false =>
  have hz:=d7_ hz
  have hlt:=ok.ac j a ha
  obtain⟨l,hl⟩:=bf_ (l:=g.2.1) (i:=a.2.2.1.toNat) (by omega)
  have hl2:at? g.2.1 a.2.2.1=some l:=by rw[show a.2.2.1=((a.2.2.1.toNat:Nat):Int) by omega];exact ai_ hl
  obtain⟨q,e⟩:=ce8 hg hd a.2.2.1
  rw[e]
  simp only[a2_,a0_,hl2,aq5 hg ok d (by omega) hl2,Option.elim]
  simp only[show ((0:Int)==0)=true from rfl,a5_,a0_]
  cases decide (rdC g d a.2.2.1 l≤g.2.2.2.2) with
  | true=>exact⟨_,by simp[iq_,de_,mget?];rfl⟩
  | false=>exact⟨_,by simp[iq_,de_,mget?];rfl⟩
theorem bs1 {g:ac_} (hg:SmG g) (h0:ct_ g=0) {p:aa_} (hv:VP g p) (m:ah_) :
  lj_ g p m=some ((stepP g p m).elim (eP,(29,())) λq=>(q,(0,()))):=by
 have ok:=dt_ h0
 have hn:=hg.nt
 have hrd:=hv.rd
 rw[pstX_eq]
 unfold pstX
 rw[xp_ hg h0 hv,a0_]
 simp only[show ((0:Int) != 0)=false from rfl,a2_]
 rw[bj_ (show Sm p.2.length by show _≤1000000000;omega),a0_]
 obtain⟨x,ex⟩:=opX_eq hg ok hv.rd m
 rw[ex,a0_]
 unfold stepP
 cases okM g p.2 m with
 | false=>rfl
 | true =>
 simp only[e2_,a2_,c0_]
 rw[al7 hg.room ok.room hv.st m,a0_]
 cases hl:lgl g.1 p.1 m with
 | false=>rfl
 | true =>
 simp only[a5_]
 cases hs:zi_ g.1 p.1 m with
 | none=>rfl
 | some s =>
 have hv2:=wb_ hg.room ok.room hv.st hl hs
 obtain⟨m1,m2,m3⟩:=ra_ hg.room (bs_ ok.room) hv2
 have hrl:=tx_ (s:=s) hv.rd
 obtain⟨z,ez,hz⟩:=xq_ hg ok hv2 hv.rd x
 simp only[Option.elim,show ((0:Int) != 0)=false from rfl,a2_]
 rw[ez,a0_,a0_]
 simp only[e2_,a2_]
 rw[bj_ m1,a0_,bj_ m2,a0_,bj_ m3,a0_,hz,bj_ (show Sm (rdN g s p.2).length by show _≤1000000000;omega),a0_]
 rfl
theorem ad3 {g:ac_} (hg:SmG g) (h0:ct_ g=0) {p q:aa_} (hv:VP g p) {m:ah_} (h:stepP g p m=some q):VP g q:=by
 have ok:=dt_ h0
 unfold stepP at h
 cases hc:(okM g p.2 m&&lgl g.1 p.1 m) with
 | false=>rw[hc] at h;cases h
 | true =>
 rw[hc,a5_] at h
 obtain⟨s,hs,rfl⟩:=f4_.1 h
 rw[a1_] at hc
 exact⟨wb_ hg.room ok.room hv.st hc.2 hs,tx_ hv.rd⟩
end
end Go.Proofs.YtgeehfnbhbibeaaGreatDoor.Rx
namespace Go.Proofs.YtgeehfnbhbibeaaGreatDoor.Rx
open Go Pad Rex Sum
section
set_option maxRecDepth 10000
theorem bq2 {r:ad_} (h:SmR r) (h0:dd_ r=0) {s:aj_} (hv:VS r s):lg_ r s=some (du_ s.1 r.2.2.2.2.2.2.2,(0,())):=by
 have ok:=bs_ h0
 obtain⟨m1,m2,m3⟩:=ra_ h ok hv
 unfold lg_
 rw[fm_ h,a0_,hu_ h0 hv]
 simp only[show ((0:Int) != 0)=false from rfl,a2_]
 obtain⟨c1,c2⟩:=vi_ h.th ok.go
 have hl:=hv.l1
 rw[bj_ m1,bj_ m2,bj_ m3]
 simp only[a0_]
 rw[nn_ (t:=(r,(s.1,(s.2.1,s.2.2)))) (show r.2.2.2.2.2.2.2.length≤1000000000 by omega) (by show InC s.1.length r.2.2.2.2.2.2.2;rw[hl];exact c1)]
 rfl
end
section
set_option maxRecDepth 10000
theorem bj4 {s:aj_} (h:Sm s.2.1.length) (p:Int):hs_ s p=some ((mt_ s.2.1 (w64 ((-2) - p)):Int),()):=by
 unfold hs_
 refine ar5 s.2.1 (λ_ (c:Nat) x=>cond (x==w64 ((-2) - p)) (c+1) c) (λi c=>((c:Int),((i:Int),()))) (λc=>((c:Int),())) 0 (λi c=>c=mt_ (s.2.1.take i) (w64 ((-2) - p))) rfl (λi x c hx hc => ?_) (λc hc => ?_) (λc hc => ?_)
 ·have hi:=am_ hx
  have hcl:c≤i:=by rw[hc];refine c5_ (wl_ _ _) ?_;rw[c7_];omega
  have hn:mt_ (s.2.1.take (i+1)) (w64 ((-2) - p))=cond (x==w64 ((-2) - p)) (c+1) c:=by
   unfold mt_
   rw[d6_,hx,hc,List.countP_append]
   unfold mt_
   cases hq:x==w64 ((-2) - p) with
   | true=>simp[hq]
   | false=>simp[hq]
  refine⟨?_,hn.symm⟩
  simp only[dlt hi,a5_,ai_ hx,a0_,bb_ (show Sm i by omega)]
  cases hq:x==w64 ((-2) - p) with
  | true=>simp only[a5_,a0_,bb_ (show Sm c by omega)]
  | false=>rfl
 ·simp only[dnl,a2_]
 ·rw[e1_] at hc
  rw[hc]
theorem ak2 (a b:Int):(a != b) = !(a==b):=rfl
theorem av4 {r:ad_} (h:SmR r) (ok:OkR r) {s:aj_} (hv:VS r s) (m:ah_):kk_ r s m=some (lgl r s m,()):=by
 obtain⟨m1,m2,m3⟩:=ra_ h ok hv
 have hl1:=hv.l1
 have hl2:=hv.l2
 have hl3:=hv.l3
 have hH:∀ {c:List bn_},cOk r.2.1 c=true→bp_ s c=some (du_ s.1 c,()):=λ{c} hc=>by
  obtain⟨c1,c2⟩:=vi_ h.th hc
  exact kd_ (show c.length≤1000000000 by omega) (by show InC s.1.length c;rw[hl1];exact c1)
 have hD:hs_ s m.1=some ((mt_ s.2.1 (hdl m):Int),()):=bj4 m2 m.1
 have hDl:=wl_ s.2.1 (hdl m)
 unfold kk_ lgl
 rw[← hl3]
 simp only[ga_,a0_]
 rcases cu_ m3 m.1 with ⟨e1,_⟩ | ⟨pj,px,hpj,hp,e1,e2⟩
 ·rw[e1];rfl
 ·have eg:gi s.2.2 m.1=px:=ok_ e2
  simp only[e1,e2,eg,e2_,a2_,a0_,c0_]
  cases hk1:m.2.1==1 with
  | true =>
   simp only[a5_]
   rcases cu_ h.wy m.2.2 with ⟨f1,f2⟩ | ⟨j,w,hj,hw,f1,f2⟩
   ·simp only[f1,f2];rfl
   ·simp only[f1,f2,a5_,a0_,hH (ok.wy j w hw).2]
    show _=some ((w.1==px||w.2.1==px)&&du_ s.1 w.2.2,())
    cases w.1==px with
    | true=>rfl
    | false=>cases w.2.1==px<;>rfl
  | false =>
  simp only[a2_]
  cases hk2:m.2.1==2 with
  | true =>
   simp only[a5_]
   rcases cu_ h.pr m.2.2 with ⟨f1,f2⟩ | ⟨j,x,hj,hx,f1,f2⟩
   ·simp only[f1,f2];rfl
   ·obtain⟨p,hp⟩:=bf_ (l:=s.2.1) (i:=j) (by have:=am_ hx;omega)
    have f3:at? s.2.1 m.2.2=some p:=by rw[hj];exact ai_ hp
    have f4:gi s.2.1 m.2.2=p:=ok_ f3
    simp only[f1,f2,f3,f4,a5_,a0_,hH (ok.pr j x hx).2,hD]
    show _=some (p==px&&(du_ s.1 x.2.2&&decide ((mt_ s.2.1 (hdl m):Int)<3)),())
    cases p==px with
    | false=>rfl
    | true=>cases du_ s.1 x.2.2<;>rfl
  | false =>
  simp only[a2_]
  cases hk3:m.2.1==3 with
  | true =>
   simp only[a5_]
   rcases cu_ m2 m.2.2 with ⟨f1,f2⟩ | ⟨j,p,hj,hp,f1,f2⟩
   ·rw[hl2] at f1
    simp only[f1,f2];rfl
   ·rw[hl2] at f1
    simp only[f1,f2,a5_,a0_];rfl
  | false =>
  simp only[a2_]
  cases hk4:m.2.1==4 with
  | false=>rfl
  | true =>
   simp only[a5_]
   rcases cu_ h.ac m.2.2 with ⟨f1,f2⟩ | ⟨j,a,hj,ha,f1,f2⟩
   ·simp only[f1,f2];rfl
   ·obtain⟨oa,oc⟩:=ok.ac j a ha
    have ai:=bh3 oa
    obtain⟨s1,s2,s3,s4,s5,s6⟩:=h.acn a (bh_ ha)
    simp only[f1,f2,e2_,a2_,a0_]
    show _=some (a.2.1==px&&((a.2.2.2.1.all λp=>gi s.2.1 p==hdl m)&&(du_ s.1 a.2.2.2.2.1&&((a.2.2.2.2.2.2.2.all λp=>gi s.2.1 p==-1)&&decide ((mt_ s.2.1 (hdl m):Int) - (a.2.2.2.2.2.2.1.length:Int)+(a.2.2.2.2.2.2.2.length:Int)≤3)))),())
    refine bw_ a.2.2.2.1 (λ_ p=>cond (gi s.2.1 p==hdl m) none (some (inr (false,()):Unit⊕(Bool×Unit)))) (λi=>((i:Int),())) (r0:=inl ()) (λi y hy => ?_) ?_ ?_
    ·have:=ai.us y (bh_ hy)
     simp only[dlt (am_ hy),a5_,ai_ hy,a0_,tl_ this.1 (show y<(s.2.1.length:Int) by omega),bb_ (show Sm i by have:=am_ hy;omega),ak2]
     cases gi s.2.1 y==hdl m<;>rfl
    ·simp only[dnl,a2_]
    rw[kc_ (q:=λp=>gi s.2.1 p==hdl m)]
    cases a.2.2.2.1.all λp=>gi s.2.1 p==hdl m with
    | false=>simp only[e4_,f7_];rfl
    | true =>
    simp only[a5_,j0_]
    unfold ca_
    refine bw_ a.2.2.2.2.2.2.2 (λ_ p=>cond (gi s.2.1 p==-1) none (some (inr (false,()):Unit⊕(Bool×Unit)))) (λi=>((i:Int),())) (r0:=inl ()) (λi y hy => ?_) ?_ ?_
    ·have:=ai.br y (bh_ hy)
     simp only[dlt (am_ hy),a5_,ai_ hy,a0_,tl_ this.1 (show y<(s.2.1.length:Int) by omega),bb_ (show Sm i by have:=am_ hy;omega),ak2]
     cases gi s.2.1 y==-1<;>rfl
    ·simp only[dnl,a2_]
    rw[kc_ (q:=λp=>gi s.2.1 p==-1)]
    cases a.2.2.2.2.2.2.2.all λp=>gi s.2.1 p==-1 with
    | false=>simp only[e4_,f7_];rfl
    | true =>
    simp only[a5_,j0_]
    cases a.2.1==px with
    | false=>rfl
    | true =>
    simp only[a5_,hH oc,a0_,c0_]
    cases du_ s.1 a.2.2.2.2.1 with
    | false=>rfl
    | true =>
    simp only[a5_,hD,a0_,c0_]
    rw[hd_ (n:=(mt_ s.2.1 (hdl m):Int) - _) (by omega) (by omega),hd_ (by omega) (by omega)]
end
section
set_option maxRecDepth 10000
theorem run_cnt {σ ρ:Type} (n:Nat) (S:Nat→σ) {body:σ→Option (σ⊕ρ)} {r:ρ} (h:∀ i,i<n→body (S i)=some (.inl (S (i+1)))) (e:body (S n)=some (.inr r)):af_ body (S 0)=some r:=by
 have gen:∀ (k i:Nat),i+k=n→af_ body (S i)=some r:=by
  intro k
  induction k with
  | zero =>
   intro i hi
   obtain rfl:i=n:=by omega
   exact cc_ e
  | succ k ih =>
   intro i hi
   exact bu_ (h i (by omega)) (ih (i+1) (by omega))
 exact gen n 0 (by omega)
theorem kq_ {σ ρ υ:Type} (n:Nat) (S:Nat→σ) {body:σ→Option (σ⊕ρ)} {r:ρ} {s0:σ} {K:ρ→Option υ} {x:Option υ} (h0:S 0=s0) (h:∀ i,i<n→body (S i)=some (.inl (S (i+1)))) (e:body (S n)=some (.inr r)) (hk:K r=x):(af_ body s0).bind K=x:=by
 rw[← h0,run_cnt n S h e,a0_,hk]
section
variable (q:ah_→Bool)
def mvK (i k:Int):Nat→List ah_→List ah_
 | 0,l=>l
 | n+1,l=>cond (q (i,(k,(n:Int)))) (mvK i k n l++[(i,(k,(n:Int)))]) (mvK i k n l)
def mvJ (i:Int) (c:Nat→Nat):Nat→List ah_→List ah_
 | 0,l=>l
 | k+1,l=>mvK q i (k:Int) (c k) (mvJ i c k l)
def mvs (c:Nat→Nat):Nat→List ah_
 | 0=>[]
 | n+1=>mvJ q (n:Int) c 5 (mvs c n)
theorem ag5 (i k:Int):∀ n l,(mvK q i k n l).length≤l.length+n
 | 0,l=>c3_ _
 | n+1,l=>by
  have:=ag5 i k n l
  unfold mvK
  cases q (i,(k,(n:Int))) with
  | true=>simp only[a5_,a9_,c4_,j7_];omega
  | false=>simp only[a2_];omega
theorem ag6 (i:Int) {c:Nat→Nat} (hc:∀ k,c k≤24):∀ k l,(mvJ q i c k l).length≤l.length+k * 24
 | 0,l=>c3_ _
 | k+1,l=>by
  have h1:=ag6 i hc k l
  have h2:=ag5 q i (k:Int) (c k) (mvJ q i c k l)
  have h3:=hc k
  unfold mvJ
  omega
theorem ag4 {c:Nat→Nat} (hc:∀ k,c k≤24):∀ n,(mvs q c n).length≤n * 120
 | 0=>c3_ _
 | n+1=>by
  have h1:=ag4 hc n
  have h2:=ag6 q (n:Int) hc 5 (mvs q c n)
  unfold mvs
  omega
theorem bu7 (i k:Int) {n:Nat} (l:List ah_):∀ m,n≤m→(∀ j:Nat,n≤j→j<m→q (i,(k,(j:Int)))=false)→mvK q i k m l=mvK q i k n l
  | 0, h, _ => by obtain rfl : n = 0 := by omega
                  rfl
  | m+1,h,hf=>by
    rcases l3_ m n with hm | hm
    · obtain rfl:n=m+1:=by omega
      rfl
    · show cond (q (i,(k,(m:Int)))) _ (mvK q i k m l)=_
      rw[hf m hm (by omega),a2_]
      exact bu7 i k l m hm λj a b=>hf j a (by omega)
theorem bu9 (i:Int) {c d:Nat→Nat} (K:Nat) (l:List ah_) (hc:∀ k,k<K→c k≤d k) (hf:∀ k,k<K→∀ j:Nat,c k≤j→j<d k→q (i,((k:Int),(j:Int)))=false):∀ k,k≤K→mvJ q i d k l=mvJ q i c k l
 | 0,_=>rfl
 | k+1,hk=>by
  unfold mvJ
  rw[bu9 i K l hc hf k (by omega)]
  exact bu7 q i (k:Int) _ (d k) (hc k (by omega)) (hf k (by omega))
theorem bu6 {c d:Nat→Nat} (hc:∀ k,k<5→c k≤d k) (hf:∀ i k,k<5→∀ j:Nat,c k≤j→j<d k→q (i,((k:Int),(j:Int)))=false):∀ n,mvs q d n=mvs q c n
 | 0=>rfl
 | n+1=>by
  unfold mvs
  rw[bu6 hc hf n]
  exact bu9 q (n:Int) 5 _ hc (hf (n:Int)) 5 (c3_ _)
end
def as8 (r:ad_) (k:Nat):Nat:=[0,r.2.2.2.1.length,r.2.2.1.length,r.2.2.1.length,r.2.2.2.2.1.length].getD k 0
def up_ (k:Nat):Nat:=match k with
 | 0=>0
 | _+1=>24
theorem at5 (a b c d:Nat):∀ {k:Nat},k<5→decide ((k:Int)<(([0,(a:Int),(b:Int),(c:Int),(d:Int)]:List Int).length:Int))=true∧at? [0,(a:Int),(b:Int),(c:Int),(d:Int)] (k:Int)=some ((([0,a,b,c,d]:List Nat).getD k 0:Nat):Int)
 | 0,_=>⟨rfl,rfl⟩
 | 1,_=>⟨rfl,rfl⟩
 | 2,_=>⟨rfl,rfl⟩
 | 3,_=>⟨rfl,rfl⟩
 | 4,_=>⟨rfl,rfl⟩
 | _+5,h=>absurd h (by omega)
theorem cnt_le {r:ad_} (ok:OkR r):∀ k,as8 r k≤up_ k:=by
 have hm:=ok.many
 unfold ah1 at hm
 simp only[b8_,p4_] at hm
 intro k
 match k with
 | 0=>exact c3_ _
 | 1=>show r.2.2.2.1.length≤24;omega
 | 2=>show r.2.2.1.length≤24;omega
 | 3=>show r.2.2.1.length≤24;omega
 | 4=>show r.2.2.2.2.1.length≤24;omega
 | k+5=>exact k4_ _
theorem aj6:∀ k,up_ k≤24
 | 0=>k4_ _
 | _+1=>c3_ _
theorem bg7 {α:Type} {l:List α} {j:Nat} (h:l.length≤j):at? l (j:Int)=none:=by
 rw[bg8]
 exact b4_ h
theorem lgl_out {r:ad_} {s:aj_} (hv:VS r s) (i:Int) {k:Nat} (hk:k<5) {j:Nat} (hj:as8 r k≤j):lgl r s (i,((k:Int),(j:Int)))=false:=by
 unfold lgl
 match k,hk with
 | 0,_ =>
  show (_&&false)=false
  rw[f7_]
 | 1,_ =>
  show (_&&(at? r.2.2.2.1 (j:Int)).elim false _)=false
  rw[bg7 (show r.2.2.2.1.length≤j from hj)]
  exact f7_ _
 | 2,_ =>
  show (_&&(at? r.2.2.1 (j:Int)).elim false _)=false
  rw[bg7 (show r.2.2.1.length≤j from hj)]
  exact f7_ _
 | 3,_ =>
  show (_&&(at? s.2.1 (j:Int)).elim false _)=false
  have hl:=hv.l2
  have hj:r.2.2.1.length≤j:=hj
  rw[bg7 (show s.2.1.length≤j by omega)]
  exact f7_ _
 | 4,_ =>
  show (_&&(at? r.2.2.2.2.1 (j:Int)).elim false _)=false
  rw[bg7 (show r.2.2.2.2.1.length≤j from hj)]
  exact f7_ _
 | k+5,h=>exact absurd h (by omega)
def lmv (r:ad_) (s:aj_):List ah_:=mvs (lgl r s) (as8 r) r.2.2.2.2.2.2.1.toNat
theorem bi9 {r:ad_} (h:SmR r) (h0:dd_ r=0) {s:aj_} (hv:VS r s):ft_ r s=some (lmv r s,(0,())):=by
 have ok:=bs_ h0
 obtain⟨m1,m2,m3⟩:=ra_ h ok hv
 have hpy:=cl_.1 ok.py
 obtain⟨P,hP⟩:∃ P:Nat,r.2.2.2.2.2.2.1=(P:Int):=⟨_,(Int.toNat_of_nonneg (by omega)).symm⟩
 have hc:∀ k,as8 r k≤24:=λk=>c5_ (cnt_le ok k) (aj6 k)
 unfold ft_ lmv
 rw[fm_ h,a0_,hu_ h0 hv]
 simp only[show ((0:Int) != 0)=false from rfl,a2_,bj_ m1,bj_ m2,bj_ m3,a0_,hP,c1_]
 refine kq_ P (λi=>((i:Int),((),((mvs (lgl r s) (as8 r) i,()),())))) rfl (λi hi => ?_) (by simp only[dnl,a2_];rfl) rfl
 simp only[dlt hi,a5_]
 have l1:=ag4 (lgl r s) hc i
 refine kq_ 5 (λk=>((k:Int),((),((mvJ (lgl r s) (i:Int) (as8 r) k (mvs (lgl r s) (as8 r) i),()),())))) rfl (λk hk => ?_) rfl ?_
 ·have l2:=ag6 (lgl r s) (i:Int) hc k (mvs (lgl r s) (as8 r) i)
  obtain⟨a1,a2⟩:=at5 r.2.2.2.1.length r.2.2.1.length r.2.2.1.length r.2.2.2.2.1.length hk
  simp only[a1,a2,a5_,a0_]
  refine kq_ (as8 r k) (λj=>((j:Int),((),((mvK (lgl r s) (i:Int) (k:Int) j (mvJ (lgl r s) (i:Int) (as8 r) k (mvs (lgl r s) (as8 r) i)),()),())))) rfl (λj hj => ?_) (by exact congrArg (λb=>cond b _ _) (dnl (as8 r k))) ?_
  ·have l3:=ag5 (lgl r s) (i:Int) (k:Int) j (mvJ (lgl r s) (i:Int) (as8 r) k (mvs (lgl r s) (as8 r) i))
   have hk24:=hc k
   have hp:=cv_ (x:=((i:Int),((k:Int),(j:Int)))) (show Sm (mvK (lgl r s) (i:Int) (k:Int) j (mvJ (lgl r s) (i:Int) (as8 r) k (mvs (lgl r s) (as8 r) i))).length by show _≤1000000000;omega)
   have hd:decide ((j:Int)<((([0,r.2.2.2.1.length,r.2.2.1.length,r.2.2.1.length,r.2.2.2.2.1.length]:List Nat).getD k 0:Nat):Int))=true:=dlt hj
   simp only[hd,a5_,show ((r,(s.1,(s.2.1,s.2.2))):hx_)=(r,s) from rfl,xb_ h ok hv,a0_,bb_ (show Sm j by show j≤1000000000;omega),mvK]
   cases hq:lgl r s ((i:Int),((k:Int),(j:Int))) with
   | true=>simp only[a5_,hp,a0_]
   | false=>simp only[a2_,a0_]
  ·simp only[bb_ (show Sm k by show k≤1000000000;omega)]
   rfl
 ·simp only[bb_ (show Sm i by show i≤1000000000;omega)]
  rfl
theorem vm_ {r:ad_} (h:SmR r) (ok:OkR r) {s:aj_} (hv:VS r s):fd_ r s=some (lmv r s,()):=by
 have hpy:=cl_.1 ok.py
 obtain⟨P,hP⟩:∃ P:Nat,r.2.2.2.2.2.2.1=(P:Int):=⟨_,(Int.toNat_of_nonneg (by omega)).symm⟩
 have hc:=aj6
 have hE:lmv r s=mvs (lgl r s) up_ P:=by
  unfold lmv
  rw[hP,c1_]
  exact (bu6 (lgl r s) (λk _=>cnt_le ok k) (λi k hk j a _=>lgl_out hv i hk a) P).symm
 unfold fd_
 rw[hE]
 simp only[hP]
 refine kq_ P (λi=>(mvs (lgl r s) up_ i,((i:Int),()))) rfl (λi hi => ?_) (by simp only[dnl,a2_];rfl) rfl
 simp only[dlt hi,a5_]
 have l1:=ag4 (lgl r s) hc i
 refine kq_ 4 (λk=>(mvJ (lgl r s) (i:Int) up_ (k+1) (mvs (lgl r s) up_ i),(((k+1:Nat):Int),()))) rfl (λk hk => ?_) rfl ?_
 ·have l2:=ag6 (lgl r s) (i:Int) hc (k+1) (mvs (lgl r s) up_ i)
  simp only[show decide (((k+1:Nat):Int)≤4)=true from b9_ (by omega),a5_]
  refine kq_ 24 (λj=>(mvK (lgl r s) (i:Int) ((k+1:Nat):Int) j (mvJ (lgl r s) (i:Int) up_ (k+1) (mvs (lgl r s) up_ i)),((j:Int),()))) rfl (λj hj => ?_) rfl ?_
  ·have l3:=ag5 (lgl r s) (i:Int) ((k+1:Nat):Int) j (mvJ (lgl r s) (i:Int) up_ (k+1) (mvs (lgl r s) up_ i))
   have hp:=cv_ (x:=((i:Int),(((k+1:Nat):Int),(j:Int)))) (show Sm (mvK (lgl r s) (i:Int) ((k+1:Nat):Int) j (mvJ (lgl r s) (i:Int) up_ (k+1) (mvs (lgl r s) up_ i))).length by show _≤1000000000;omega)
   simp only[show decide ((j:Int)<24)=true from b9_ (by omega),a5_,av4 h ok hv,a0_,bb_ (show Sm j by show j≤1000000000;omega),mvK]
   cases hq:lgl r s ((i:Int),(((k+1:Nat):Int),(j:Int))) with
   | true=>simp only[a5_,hp,a0_]
   | false=>simp only[a2_,a0_]
  ·simp only[bb_ (show Sm (k+1) by show k+1≤1000000000;omega)]
   rfl
 ·simp only[bb_ (show Sm i by show i≤1000000000;omega)]
  rfl
end
section
set_option maxRecDepth 10000
theorem bl4 {α υ:Type} (l:List α) (hl:Sm l.length) (q:α→Bool) {body:(Int×(Int×Unit))→Option ((Int×(Int×Unit))⊕(Int×Unit))} {K:(Int×Unit)→Option υ} {x:Option υ}
  (hq:∀ (i:Nat) y,l[i]?=some y→body (-1,((i:Int),()))=some (.inl (cond (q y) (i:Int) (-1),(w64 ((i:Int)+1),()))))
  (he:body (-1,((l.length:Int),()))=some (.inr (-1,())))
  (hx:∀ i j:Nat,body ((i:Int),((j:Int),()))=some (.inr ((i:Int),())))
  (hk:∀ n:Int,((n = -1∧l.find? q=none)∨∃ (i:Nat) (y:α),n=(i:Int)∧l[i]?=some y∧l.find? q=some y)→K (n,())=x) :
  (af_ body (-1,(0,()))).bind K=x:=by
 have gen:∀ (k i:Nat),i+k=l.length→∃ n:Int,af_ body (-1,((i:Int),()))=some (n,())∧((n = -1∧(l.drop i).find? q=none)∨∃ (j:Nat) (y:α),n=(j:Int)∧l[j]?=some y∧(l.drop i).find? q=some y):=by
  intro k
  induction k with
  | zero =>
   intro i hi
   obtain rfl:i=l.length:=by omega
   exact⟨-1,cc_ he,.inl ⟨rfl,by rw[o3_];rfl⟩⟩
  | succ k ih =>
   intro i hi
   have hil:i<l.length:=by omega
   obtain⟨y,hy⟩:=bf_ hil
   have hd:l.drop i=y::l.drop (i+1):=by
    rw[i5_ hil]
    rw[a7_ hil] at hy
    rw[a6_ hy]
   have hb:=hq i y hy
   rw[bb_ (show Sm i by unfold Sm at hl ⊢; omega)] at hb
   cases hqy:q y with
   | true =>
    rw[hqy] at hb
    exact⟨(i:Int),bu_ hb (cc_ (hx i (i+1))),.inr ⟨i,y,rfl,hy,by rw[hd,List.find?_cons_of_pos hqy]⟩⟩
   | false =>
    rw[hqy] at hb
    obtain⟨n,e,c⟩:=ih (i+1) (by omega)
    refine⟨n,bu_ hb e,?_⟩
    rw[hd,List.find?_cons_of_neg (by rw[hqy];decide)]
    exact c
 obtain⟨n,e,c⟩:=gen l.length 0 (by omega)
 have e:af_ body (-1,(0,()))=some (n,()):=e
 rw[e,a0_]
 exact hk n c
theorem bc3 {r:ad_} (h:SmR r) (ok:OkR r) {σ ρ:Type} (F:Nat→List Int→σ) (G E:List Int→ρ) {body:σ→Option (σ⊕ρ)}
  (hb:∀ (i:Nat) th,i<101→VT r th→body (F i th)=some (match fstA r th with
   | none=>.inr (G th)
   | some y=>.inl (F (i+1) (th.set y.2.1.toNat y.2.2))))
  (he:∀ th,body (F 101 th)=some (.inr (E th))) :
  ∀ (n i:Nat) (th:List Int),i+n=101→VT r th→∃ z,af_ body (F i th)=some z∧match stl r n th with
   | some th'=>z=G th'∧VT r th'
   | none=>∃ w,z=E w
 | 0,i,th,hi,hv=>by
  obtain rfl:i=101:=by omega
  exact⟨_,cc_ (he th),th,rfl⟩
 | n+1,i,th,hi,hv=>by
  have hb1:=hb i th (by omega) hv
  unfold stl
  cases hf:fstA r th with
  | none =>
   rw[hf] at hb1
   exact⟨_,cc_ hb1,rfl,hv⟩
  | some y =>
   rw[hf] at hb1
   have hm:y ∈ r.2.2.2.2.2.1:=List.mem_of_find?_eq_some hf
   obtain⟨j,hj⟩:=f2_ hm
   obtain⟨z,ez,hz⟩:=bc3 h ok F G E hb he n (i+1) (th.set y.2.1.toNat y.2.2) (by omega) (ce9 h ok hv (ok.au j y hj).1)
   exact⟨z,bu_ hb1 ez,hz⟩
theorem uz_ {r:ad_} (h:SmR r) (ok:OkR r) {s:aj_} (hv:VT r s.1) (m1:Sm s.1.length) (m2:Sm s.2.1.length) (m3:Sm s.2.2.length) :
    gt_ r s=some ((stl r 101 s.1).elim (eS,(false,())) λth=>((th,s.2),(true,()))):=by
  unfold gt_
  simp only[bj_ m1,bj_ m2,bj_ m3,a0_]
  obtain⟨z,ez,hz⟩:=bc3 h ok (F:=λi th=>((i:Int),(th,((([]:List Int),(([]:List Int),(([]:List Int),()))),())))) (G:=λth=>(inr ((th,(s.2.1,s.2.2)),(true,())):((List Int)×(((List Int)×((List Int)×((List Int)×Unit)))×Unit))⊕(aj_×(Bool×Unit)))) (E:=λth=>inl (th,(([],([],([],()))),())))
    (body:=(λ(v3:(Int×((List Int)×(((List Int)×((List Int)×((List Int)×Unit)))×Unit)))) =>
 (cond (decide (v3.1≤100))
 ((af_ (ρ:=(Int×Unit)) (λ(v4:(Int×(Int×Unit))) =>
 (((cond (decide (v4.2.1<(r.2.2.2.2.2.1.length:Int)))
 (some ((decide (v4.1<0)),()))
 (some (false,())))).bind λv5 =>
 (cond v5.1
 ((((at? r.2.2.2.2.2.1 v4.2.1).bind λv6 =>
 ((((bp_ (v3.2.1,(s.2.1,s.2.2)) v6.1).bind λv7 =>
 (cond v7.1
 ((at? v3.2.1 v6.2.1).bind λv8 =>
 ((at? v3.2.1 v6.2.1).bind λv9 =>
 (some ((v9 != v6.2.2),()))))
 (some (false,()))))).bind λv10 =>
 (cond v10.1
 (some (v4.2.1,()))
 (some (v4.1,())))))).bind λv11 =>
 (some (inl (v11.1,((w64 (v4.2.1+1)),())))))
 (some (inr (v4.1,())))))) ((-1),(0,()))).bind λv12 =>
 (cond (decide (v12.1<0))
 (some (inr (inr ((v3.2.1,(s.2.1,s.2.2)),(true,())))))
 ((at? r.2.2.2.2.2.1 v12.1).bind λv13 =>
 ((at? r.2.2.2.2.2.1 v12.1).bind λv14 =>
 ((at? v3.2.1 v13.2.1).bind λv15 =>
 ((at? v3.2.1 v13.2.1).bind λv16 =>
 (some (inl ((w64 (v3.1+1)),((v3.2.1.set v13.2.1.toNat v14.2.2),((v3.2.2.1.1,(v3.2.2.1.2.1,(v3.2.2.1.2.2.1,()))),())))))))))))
 (some (inr (inl (v3.2.1,((v3.2.2.1.1,(v3.2.2.1.2.1,(v3.2.2.1.2.2.1,()))),())))))))) (λi th hi hvt=>by
      simp only[show decide ((i:Int)≤100)=true from b9_ (by omega),a5_]
      have hl:=hvt.1
      refine bl4 r.2.2.2.2.2.1 h.au (λy=>(gi th y.2.1 != y.2.2)&&du_ th y.1) (λj y hy => ?_) ?_ (λa b => ?_) (λn hc => ?_)
      · obtain⟨g1,g2⟩:=ok.au j y hy
        have hi:=(np_ h ok g1).1
        obtain⟨c1,c2⟩:=vi_ h.th g2
        simp only[dlt (am_ hy),a5_,show decide ((-1:Int)<0)=true from rfl,a0_,ai_ hy,kd_ (s:=(th,(s.2.1,s.2.2))) (show y.1.length≤1000000000 by omega) (by show InC th.length y.1;rw[hl];exact c1),tl_ hi.1 (show y.2.1<th.length by omega)]
        cases du_ th y.1 with
        | false=>rw[f7_];rfl
        | true=>cases gi th y.2.1 != y.2.2<;>rfl
      · simp only[dnl,a2_,a0_]
      · simp only[show decide ((a:Int)<0)=false from c2_ (by omega)]
        cases decide ((b:Int)<(r.2.2.2.2.2.1.length:Int))<;>rfl
      · rcases hc with ⟨rfl,hf⟩ | ⟨j,y,rfl,hy,hf⟩
        · rw[show fstA r th=none from hf]
          rfl
        · rw[show fstA r th=some y from hf]
          obtain⟨g1,g2⟩:=ok.au j y hy
          have hi2:=(np_ h ok g1).1
          simp only[a0_,show decide ((j:Int)<0)=false from c2_ (by omega),a2_,ai_ hy,tl_ hi2.1 (show y.2.1<th.length by omega),bb_ (show Sm i by show _≤1000000000;omega)])
    (λth=>rfl) 101 0 s.1 rfl hv
  refine e5_ (congrArg (λo=>Option.bind o _) ez) ?_
  cases hs:stl r 101 s.1 with
  | none =>
    rw[hs] at hz
    obtain⟨w,rfl⟩:=hz
    rfl
  | some th' =>
    rw[hs] at hz
    obtain⟨rfl,_⟩:=hz
    rfl
noncomputable def mwX (a0:ad_) (a2:ah_) (v0 v1 v2:List Int) (v3:Int):Option (List Int×(List Int×(List Int×Unit))) :=
 (cond (a2.2.1==1)
 ((at? a0.2.2.2.1 a2.2.2).bind λv4 =>
 ((at? a0.2.2.2.1 a2.2.2).bind λv5 =>
 ((at? v2 a2.1).bind λv6 =>
 ((at? v2 a2.1).bind λv7 =>
 (some (v0,(v1,((v2.set a2.1.toNat (w64 ((w64 (v4.1+v5.2.1)) - v3))),()))))))))
 (cond (a2.2.1==2)
 ((at? v1 a2.2.2).bind λv8 =>
 ((at? v1 a2.2.2).bind λv9 =>
 (some (v0,((v1.set a2.2.2.toNat (w64 ((-2) - a2.1))),(v2,()))))))
 (cond (a2.2.1==3)
 ((at? v1 a2.2.2).bind λv10 =>
 ((at? v1 a2.2.2).bind λv11 =>
 (some (v0,((v1.set a2.2.2.toNat v3),(v2,()))))))
 (cond (a2.2.1==4)
 ((at? a0.2.2.2.2.1 a2.2.2).bind λv12 =>
 ((af_ (ρ:=((List Int)×Unit)) (λ(v13:(Int×((List Int)×Unit))) =>
 (cond (decide (v13.1<(v12.2.2.2.2.2.2.1.length:Int)))
 ((at? v12.2.2.2.2.2.2.1 v13.1).bind λv14 =>
 ((at? v13.2.1 v14).bind λv15 =>
 ((at? v13.2.1 v14).bind λv16 =>
 (some (inl ((w64 (v13.1+1)),((v13.2.1.set v14.toNat (-1)),())))))))
 (some (inr (v13.2.1,()))))) (0,(v1,()))).bind λv17 =>
 ((af_ (ρ:=((List Int)×Unit)) (λ(v18:(Int×((List Int)×Unit))) =>
 (cond (decide (v18.1<(v12.2.2.2.2.2.2.2.length:Int)))
 ((at? v12.2.2.2.2.2.2.2 v18.1).bind λv19 =>
 ((at? v18.2.1 v19).bind λv20 =>
 ((at? v18.2.1 v19).bind λv21 =>
 (some (inl ((w64 (v18.1+1)),((v18.2.1.set v19.toNat (w64 ((-2) - a2.1))),())))))))
 (some (inr (v18.2.1,()))))) (0,(v17.1,()))).bind λv22 =>
 ((af_ (ρ:=((List Int)×Unit)) (λ(v23:(Int×((List Int)×Unit))) =>
 (cond (decide (v23.1<(v12.2.2.2.2.2.1.length:Int)))
 ((at? v12.2.2.2.2.2.1 v23.1).bind λv24 =>
 ((at? v12.2.2.2.2.2.1 v23.1).bind λv25 =>
 ((at? v23.2.1 v24.1).bind λv26 =>
 ((at? v23.2.1 v24.1).bind λv27 =>
 (some (inl ((w64 (v23.1+1)),((v23.2.1.set v24.1.toNat v25.2),()))))))))
 (some (inr (v23.2.1,()))))) (0,(v0,()))).bind λv28 =>
 (some (v28.1,(v22.1,(v2,()))))))))
 (some (v0,(v1,(v2,()))))))))
theorem dup {α β:Type} (o:Option α) (f:α→α→Option β):(o.bind λa=>o.bind λb=>f a b)=o.bind λa=>f a a:=by cases o<;>rfl
theorem mwX_eq {r:ad_} {m:ah_} {th pr py:List Int} {x:Int} (hx:at? py m.1=some x) {z} (h:mvX r m th pr py=some z):mwX r m th pr py x=some z:=by
 unfold mvX at h
 unfold mwX
 cases hk1:m.2.1==1 with
 | true =>
  rw[hk1] at h
  simp only[a5_,hx,a0_] at h ⊢
  cases hw:at? r.2.2.2.1 m.2.2 with
  | none=>rw[hw] at h;cases h
  | some w=>rw[hw] at h;exact h
 | false =>
 rw[hk1] at h
 simp only[a2_] at h ⊢
 cases hk2:m.2.1==2 with
 | true=>rw[hk2] at h;exact h
 | false =>
 rw[hk2] at h
 simp only[a2_] at h ⊢
 cases hk3:m.2.1==3 with
 | true =>
  rw[hk3] at h
  simp only[a5_,hx,a0_] at h ⊢
  exact h
 | false =>
 rw[hk3] at h
 simp only[a2_,dup] at h ⊢
 exact h
theorem va_ {r:ad_} (h:SmR r) (ok:OkR r) {s:aj_} (hv:VS r s) {m:ah_} (hl:lgl r s m=true) :
  gu_ r s m=some ((zi_ r s m).elim (eS,(false,())) λt=>(t,(true,()))):=by
 obtain⟨m1,m2,m3⟩:=ra_ h ok hv
 obtain⟨pj,px,hpj,hp,e2⟩:=bw6 m3 hl
 have hv2:=VS_mv h ok hv hl
 obtain⟨n1,n2,n3⟩:=ra_ h ok hv2
 unfold gu_
 simp only[bj_ m1,bj_ m2,bj_ m3,a0_]
 refine e5_ (congrArg (λo=>Option.bind o _) e2) ?_
 rw[a0_]
 refine e5_ (congrArg (λo=>Option.bind o _) (mwX_eq e2 (cu2 h ok hv hl))) ?_
 rw[a0_]
 simp only
 rw[uz_ (s:=((mvP r s m).1,((mvP r s m).2.1,(mvP r s m).2.2))) h ok ⟨hv2.l1,hv2.th⟩ n1 n2 n3,a0_]
 unfold zi_
 cases stl r 101 (mvP r s m).1<;>rfl
theorem am2 {r:ad_} (h:SmR r) (h0:dd_ r=0) {s:aj_} (hv:VS r s) :
  je_ r s=some ((stl r 101 s.1).elim (eS,(27,())) λth=>((th,s.2),(0,()))):=by
 have ok:=bs_ h0
 obtain⟨m1,m2,m3⟩:=ra_ h ok hv
 unfold je_
 rw[vn_ h,a0_,hu_ h0 hv]
 simp only[show ((0:Int) != 0)=false from rfl,a2_]
 rw[uz_ h ok ⟨hv.l1,hv.th⟩ m1 m2 m3,a0_]
 cases stl r 101 s.1<;>rfl
def bl6 (r:ad_):aj_:=(r.2.1.map (·.2.2.2),(r.2.2.1.map (·.2.1),List.replicate r.2.2.2.2.2.2.1.toNat 0))
theorem ay2 {r:ad_} (h:SmR r) (h0:dd_ r=0):VS r (bl6 r):=by
 have ok:=bs_ h0
 have hpy:=cl_.1 ok.py
 have hth:=h.th
 refine⟨d3_ _,d3_ _,?_,λi n hn => ?_,λi p hp => ?_,λi p hp => ?_⟩
 ·show ((List.replicate _ (0:Int)).length:Int)=_
  rw[e8_]
  omega
 ·have hn:(r.2.1.map (·.2.2.2))[i]?=some n:=hn
  rw[d5_] at hn
  obtain⟨x,hx,rfl⟩:=f4_.1 hn
  have hk:=ok.th i x hx
  unfold bn7 at hk
  simp only[a1_] at hk
  have hi:=am_ hx
  unfold ou_
  rw[ai_ hx,a1_]
  exact⟨cl_.2 (by rw[hd_ (by omega) (by omega)];omega),hk.2.2.2⟩
 ·have hp:(r.2.2.1.map (·.2.1))[i]?=some p:=hp
  rw[d5_] at hp
  obtain⟨x,hx,rfl⟩:=f4_.1 hp
  have hk:=(ok.pr i x hx).1
  unfold ck6 at hk
  simp only[a1_,c8_] at hk
  rw[cu7 h ok.py,c8_,c8_]
  rcases hk.2 with hk | hk
  ·exact .inl hk
  ·exact .inr (.inl hk)
 ·have hp:(List.replicate r.2.2.2.2.2.2.1.toNat (0:Int))[i]?=some p:=hp
  rw[j4_] at hp
  split at hp
  ·obtain rfl:=a6_ hp
   have hpl:=h.pl
   have hne:r.1.length≠0:=λe=>ok.ne (n0_.1 e)
   unfold sv_
   exact cl_.2 (by rw[hd_ (by omega) (by omega)];omega)
  ·cases hp
def begS (r:ad_):Option aj_:=(stl r 101 (bl6 r).1).map λth=>(th,(bl6 r).2)
theorem begS_VS {r:ad_} (h:SmR r) (h0:dd_ r=0) {t:aj_} (ht:begS r=some t):VS r t:=by
 have ok:=bs_ h0
 have hv:=ay2 h h0
 unfold begS at ht
 obtain⟨th,hs,rfl⟩:=f4_.1 ht
 obtain⟨z,ez,hz⟩:=ov_ h ok (pr:=(bl6 r).2.1) (py:=(bl6 r).2.2) 101 0 (bl6 r).1 rfl ⟨hv.l1,hv.th⟩
 rw[hs] at hz
 exact⟨hz.2.1,hv.l2,hv.l3,hz.2.2,hv.pr,hv.py⟩
def ak4 (r:ad_):aj_×(Int×Unit):=cond (dd_ r != 0) (eS,(dd_ r,())) ((begS r).elim (eS,(27,())) λs=>(s,(0,())))
theorem au4 {r:ad_} (h:SmR r):jk_ r=some (ak4 r):=by
 rw[ck1]
 unfold rbegX ak4
 rw[tv_ h,a0_]
 cases hr:dd_ r != 0 with
 | true=>rfl
 | false =>
 have h0:dd_ r=0:=by simpa using hr
 have ok:=bs_ h0
 have hpy:=cl_.1 ok.py
 have hv:=ay2 h h0
 obtain⟨m1,m2,m3⟩:=ra_ h ok hv
 simp only[a2_]
 have hplayers:mk? (α:=Int) r.2.2.2.2.2.2.1 0=some (List.replicate r.2.2.2.2.2.2.1.toNat 0):=vf_ (by omega) (by omega)
 rw[hplayers,a0_,az6 h,a0_,bb1 h,a0_]
 simp only
 refine e5_ (congrArg (λo=>Option.bind o _) (bj_ m1)) ?_
 rw[a0_]
 refine e5_ (congrArg (λo=>Option.bind o _) (bj_ m2)) ?_
 rw[a0_]
 refine e5_ (congrArg (λo=>Option.bind o _) (bj_ m3)) ?_
 rw[a0_]
 obtain⟨z,ez,hz⟩:=ov_ h ok (pr:=(bl6 r).2.1) (py:=(bl6 r).2.2) 101 0 (bl6 r).1 rfl ⟨hv.l1,hv.th⟩
 refine e5_ (congrArg (λo=>Option.bind (Option.bind o _) _) ez) ?_
 unfold begS
 cases hs:stl r 101 (bl6 r).1 with
 | none =>
  rw[hs] at hz
  obtain⟨w,rfl⟩:=hz
  rfl
 | some th' =>
  rw[hs] at hz
  obtain⟨rfl,_⟩:=hz
  rfl
theorem am3 {r:ad_} (h:SmR r):kl_ r=some (ak4 r):=by
 unfold kl_ ak4
 rw[rj_ h,a0_]
 cases hr:dd_ r != 0 with
 | true=>rfl
 | false =>
 have h0:dd_ r=0:=by simpa using hr
 have ok:=bs_ h0
 have hpy:=cl_.1 ok.py
 have hv:=ay2 h h0
 simp only[a2_]
 have hplayers:mk? (α:=Int) r.2.2.2.2.2.2.1 0=some (List.replicate r.2.2.2.2.2.2.1.toNat 0):=vf_ (by omega) (by omega)
 rw[hplayers,a0_]
 refine e5_ (congrArg (λo=>Option.bind o _) (az6 h)) ?_
 rw[a0_]
 refine e5_ (congrArg (λo=>Option.bind o _) (bb1 h)) ?_
 rw[a0_]
 refine e5_ (congrArg (λo=>Option.bind o _) (am2 h h0 hv)) ?_
 unfold begS
 show ((some ((stl r 101 (bl6 r).1).elim (eS,(27,())) λth=>((th,(bl6 r).2),((0:Int),())))).bind λv10=>some (v10.1,(v10.2.1,())))=_
 cases stl r 101 (bl6 r).1<;>rfl
end
section
set_option maxRecDepth 10000
theorem mp_ {σ ρ υ:Type} (n:Nat) (Inv:Nat→σ→Prop) {body:σ→Option (σ⊕ρ)} {z0:σ} {K:ρ→Option υ} {x:Option υ} (h0:Inv 0 z0)
  (hs:∀ j z,j<n→Inv j z→∃ z',body z=some (.inl z')∧Inv (j+1) z') (he:∀ z,Inv n z→∃ r,body z=some (.inr r)∧K r=x):(af_ body z0).bind K=x:=by
 have gen:∀ (k i:Nat) (z:σ),i+k=n→Inv i z→∃ r,af_ body z=some r∧K r=x:=by
  intro k
  induction k with
  | zero =>
   intro i z hi hz
   obtain rfl:i=n:=by omega
   obtain⟨r,e,hr⟩:=he z hz
   exact⟨r,cc_ e,hr⟩
  | succ k ih =>
   intro i z hi hz
   obtain⟨z',e,hz'⟩:=hs i z (by omega) hz
   obtain⟨r,er,hr⟩:=ih (i+1) z' (by omega) hz'
   exact⟨r,bu_ e er,hr⟩
 obtain⟨r,e,hr⟩:=gen n 0 z0 (by omega) h0
 rw[e,a0_]
 exact hr
theorem xk_ {s:aj_} (m1:Sm s.1.length) (m2:Sm s.2.1.length) (m3:Sm s.2.2.length):ge_ s=some (s,()):=by
 unfold ge_
 simp only[bj_ m1,bj_ m2,bj_ m3,a0_]
theorem aj4 {l:List Int} {j:Nat} {x p:Int} (hx:l[j]?=some x):(l.take (j+1)).contains p=((l.take j).contains p||x==p):=by
 rw[d6_,hx]
 have:(x==p)=(p==x):=j8_.2 (by rw[g5_,g5_];exact eq_comm)
 rw[this,List.contains_eq_any_beq,List.contains_eq_any_beq,List.any_append]
 simp
theorem zy_ {g:ac_} (hg:SmG g) (ok:OkG g) {p:aa_} (hv:VP g p):jl_ g p=some ((p.1,rdN g p.1 p.2),()):=by
 have h0:=ok.room
 have okr:=bs_ h0
 obtain⟨m1,m2,m3⟩:=ra_ hg.room okr hv.st
 have hn:=hg.nt
 have hd:=hv.rd
 have hrl:=tx_ (s:=p.1) hd
 have hl1:=hv.st.l1
 unfold jl_
 rw[xk_ m1 m2 m3,a0_,bj_ (show Sm p.2.length by show _≤1000000000;omega),a0_]
 refine mp_ g.2.2.2.1.length (λ(i:Nat) (z:Int×(List Bool×Unit))=>∃ d',z=((i:Int),(d',()))∧∀ j,d'[j]?=if j<i then (rdN g p.1 p.2)[j]? else p.2[j]?) ⟨p.2,rfl,λj=>by simp⟩ (λi z hi hz => ?_) (λz hz => ?_)
 ·obtain⟨d',rfl,hd'⟩:=hz
  obtain⟨x,hx⟩:=bf_ (l:=g.2.2.2.1) (i:=i) hi
  obtain⟨y,hy⟩:=bf_ (l:=p.2) (i:=i) (by omega)
  have hy':d'[i]?=some y:=by rw[hd' i,if_neg (by omega)];exact hy
  have hr:=br0 (s:=p.1) hx hy
  obtain⟨c1,c2⟩:=vi_ hg.room.th (ok.nt i x hx).2
  have hH:bp_ p.1 x.2.2.2.1=some (du_ p.1.1 x.2.2.2.1,()):=kd_ (show x.2.2.2.1.length≤1000000000 by omega) (by show InC p.1.1.length x.2.2.2.1;rw[hl1];exact c1)
  simp only[dlt (am_ hx),a5_,ai_ hx,a0_]
  refine⟨?z',?_,?_⟩
  case z'=>exact (((i+1:Nat):Int),(cond (du_ p.1.1 x.2.2.2.1&&p.1.2.2.contains x.2.1) (d'.set i true) d',()))
  ·refine mp_ p.1.2.2.length (λ(j:Nat) (z:Int×(List Bool×Unit))=>z=((j:Int),(cond (du_ p.1.1 x.2.2.2.1&&(p.1.2.2.take j).contains x.2.1) (d'.set i true) d',()))) ?_ (λj z hj hz => ?_) (λz hz => ?_)
   ·rw[k5_]
    show _=((0:Int),(cond (du_ p.1.1 x.2.2.2.1&&false) (d'.set i true) d',()))
    rw[f7_]
    rfl
   ·subst hz
    obtain⟨a,ha⟩:=bf_ hj
    refine⟨_,?_,rfl⟩
    simp only[dlt hj,a5_,ai_ ha,a0_,bb_ (show Sm j by unfold Sm at m3 ⊢; omega),aj4 ha]
    cases hq:a==x.2.1 with
    | false=>simp only[a2_,a0_,i0_]
    | true =>
     simp only[a5_,hH,a0_,o2_,h1_]
     cases hb:du_ p.1.1 x.2.2.2.1 with
     | false=>simp only[a2_,a0_,e4_]
     | true =>
      simp only[a5_,a0_,c0_]
      cases hc:(p.1.2.2.take j).contains x.2.1 with
      | false=>simp only[a2_,ai_ hy',a0_,c1_]
      | true =>
       have:(d'.set i true)[i]?=some true:=by rw[e9_ (am_ hy')]
       simp only[a5_,ai_ this,a0_,c1_,List.set_set]
   ·subst hz
    refine⟨_,by simp only[dnl,a2_];rfl,?_⟩
    simp only[e1_,bb_ (show Sm i by show i≤1000000000;omega)]
  ·refine⟨_,rfl,λk => ?_⟩
   unfold rdB at hr
   cases hb:(du_ p.1.1 x.2.2.2.1&&p.1.2.2.contains x.2.1) with
   | false =>
    rw[hb,i0_] at hr
    rw[a2_,hd' k]
    by_cases hk:k=i
    ·subst hk
     rw[if_neg (by omega),if_pos (by omega),hr,hy]
    ·by_cases hk2:k<i
     ·rw[if_pos hk2,if_pos (by omega)]
     ·rw[if_neg hk2,if_neg (by omega)]
   | true =>
    rw[hb,o2_] at hr
    rw[a5_,g4_]
    by_cases hk:i=k
    ·subst hk
     rw[if_pos rfl,if_pos (am_ hy'),if_pos (by omega),hr]
    ·rw[if_neg hk,hd' k]
     by_cases hk2:k<i
     ·rw[if_pos hk2,if_pos (by omega)]
     ·rw[if_neg hk2,if_neg (by omega)]
 ·obtain⟨d',rfl,hd'⟩:=hz
  simp only[dnl,a2_]
  refine⟨_,rfl,?_⟩
  have:d'=rdN g p.1 p.2:=f1_ λk=>by
   rw[hd' k]
   split
   ·rfl
   ·rw[b4_ (by omega),b4_ (by omega)]
  simp only[this]
theorem bj3 {g:ac_} (hg:SmG g) (h0:ct_ g=0) {p q:aa_} (hv:VP g p) {m:ah_} (hq:stepP g p m=some q):mg_ g p m=some (q,()):=by
 have ok:=dt_ h0
 have okr:=bs_ ok.room
 unfold stepP at hq
 cases hc:(okM g p.2 m&&lgl g.1 p.1 m) with
 | false=>rw[hc] at hq;cases hq
 | true =>
 rw[hc,a5_] at hq
 obtain⟨s,hs,rfl⟩:=f4_.1 hq
 rw[a1_] at hc
 unfold mg_
 rw[va_ hg.room okr hv.st hc.2,a0_,hs]
 simp only[Option.elim]
 rw[zy_ hg ok (p:=(s,p.2)) ⟨wb_ hg.room ok.room hv.st hc.2 hs,hv.rd⟩]
 rfl
noncomputable def ar6 (g:ac_):aa_×(Int×Unit):=cond (ct_ g != 0) (eP,(ct_ g,())) (cond ((ak4 g.1).2.1 != 0) (eP,((ak4 g.1).2.1,())) (((ak4 g.1).1,rdN g (ak4 g.1).1 (List.replicate g.2.2.2.1.length false)),(0,())))
theorem ay0 {r:ad_} (h:SmR r) (he:(ak4 r).2.1=0):VS r (ak4 r).1:=by
 unfold ak4 at he ⊢
 cases hr:dd_ r != 0 with
 | true =>
  rw[hr] at he
  rw[n4_] at hr
  exact absurd he hr
 | false =>
 have h0:dd_ r=0:=by simpa using hr
 rw[hr,a2_] at he
 cases hb:begS r with
 | none =>
  rw[hb] at he
  exact absurd (show (27:Int)=0 from he) (by decide)
 | some t=>exact begS_VS h h0 hb
theorem ay1 {g:ac_} (hg:SmG g) (he:(ar6 g).2.1=0):ct_ g=0∧VP g (ar6 g).1:=by
 unfold ar6 at he ⊢
 cases hr:ct_ g != 0 with
 | true =>
  rw[hr] at he
  rw[n4_] at hr
  exact absurd he hr
 | false =>
 rw[hr,a2_] at he
 have h0:ct_ g=0:=by simpa using hr
 cases hb:(ak4 g.1).2.1 != 0 with
 | true =>
  rw[hb] at he
  rw[n4_] at hb
  exact absurd he hb
 | false =>
 have hb:(ak4 g.1).2.1=0:=by simpa using hb
 exact⟨h0,ay0 hg.room hb,tx_ e8_⟩
theorem mk_nt {g:ac_} (hg:SmG g):mk? (α:=Bool) (g.2.2.2.1.length:Int) false=some (List.replicate g.2.2.2.1.length false):=by
 have:=hg.nt
 rw[vf_ (by omega) (by omega),c1_]
theorem am1 {g:ac_} (hg:SmG g):kj_ g=some (ar6 g):=by
 unfold kj_ ar6
 rw[xj_ hg,a0_]
 cases hr:ct_ g != 0 with
 | true=>rfl
 | false =>
 have h0:ct_ g=0:=by simpa using hr
 have ok:=dt_ h0
 simp only[a2_]
 rw[am3 hg.room,a0_]
 cases hb:(ak4 g.1).2.1 != 0 with
 | true=>rfl
 | false =>
 have hb:(ak4 g.1).2.1=0:=by simpa using hb
 simp only[a2_]
 rw[mk_nt hg,a0_,zy_ hg ok (p:=((ak4 g.1).1,List.replicate g.2.2.2.1.length false)) ⟨ay0 hg.room hb,e8_⟩]
 rfl
theorem aw0 {g:ac_} (hg:SmG g):mk_ g=some (ar6 g):=by
 rw[ck9]
 unfold pbegX ar6
 rw[aa1 hg,a0_]
 cases hr:ct_ g != 0 with
 | true=>rfl
 | false =>
 have h0:ct_ g=0:=by simpa using hr
 have ok:=dt_ h0
 have hn:=hg.nt
 simp only[a2_]
 rw[au4 hg.room,a0_]
 cases hb:(ak4 g.1).2.1 != 0 with
 | true=>rfl
 | false =>
 have hb:(ak4 g.1).2.1=0:=by simpa using hb
 have hv:=ay0 hg.room hb
 obtain⟨m1,m2,m3⟩:=ra_ hg.room (bs_ ok.room) hv
 simp only[a2_]
 rw[mk_nt hg,a0_]
 obtain⟨z,ez,hz⟩:=xq_ hg ok hv (d:=List.replicate g.2.2.2.1.length false) e8_ []
 have hrl:=tx_ (g:=g) (s:=(ak4 g.1).1) (d:=List.replicate g.2.2.2.1.length false) e8_
 rw[ez,a0_,bj_ m1,a0_,bj_ m2,a0_,bj_ m3,a0_,hz,bj_ (show Sm (rdN g _ _).length by show _≤1000000000;omega),a0_]
def cg8 (g:ac_) (q:List Nat):List al_:=q.filterMap λe=>(g.2.2.2.1[e]?).map (·.2.2.2.2)
theorem av0 {g:ac_} (hg:SmG g) {p:aa_} (hd:p.2.length=g.2.2.2.1.length) (lock:Int) :
    ∃ q:List Nat,id_ g p lock=some (q.map (λe:Nat=>(e:Int)),())∧q.length≤20∧(∀ e ∈ q,e<g.2.2.2.1.length)∧cg8 g q=bl2 g p.2 lock:=by
  have hn:=hg.nt
  suffices hk:∃ r,id_ g p lock=some r∧∃ q:List Nat,r=(q.map (λe:Nat=>(e:Int)),())∧q.length≤20∧(∀ e ∈ q,e<g.2.2.2.1.length)∧cg8 g q=bl2 g p.2 lock by
    obtain⟨r,e,q,rfl,h⟩:=hk
    exact⟨q,e,h⟩
  unfold id_
  have key:∀ (k i:Nat) (q:List Nat),i+k=g.2.2.2.1.length→q.length≤i→(∀ e ∈ q,e<g.2.2.2.1.length)→cg8 g q=((g.2.2.2.1.zip p.2).take i).filterMap (λx=>cond (x.1.2.2.1==lock&&x.2) (some x.1.2.2.2.2) none) →
      ∃ q':List Nat,af_ (ρ:=((List Int)×Unit)) (λ(v0:((List Int)×(Int×Unit))) =>
 (cond (decide (v0.2.1<(g.2.2.2.1.length:Int)))
 ((((((at? p.2 v0.2.1).bind λv1 =>
 (cond v1
 ((at? g.2.2.2.1 v0.2.1).bind λv2 =>
 (some ((v2.2.2.1==lock),())))
 (some (false,()))))).bind λv3 =>
 (cond v3.1
 ((push? (α:=Int) v0.1 [v0.2.1]).bind λv4 =>
 (some (v4,())))
 (some (v0.1,()))))).bind λv5 =>
 (some (inl (v5.1,((w64 (v0.2.1+1)),())))))
 (some (inr (v0.1,()))))) (q.map (λe:Nat=>(e:Int)),((i:Int),()))=some (q'.map (λe:Nat=>(e:Int)),())∧q'.length≤20∧(∀ e ∈ q',e<g.2.2.2.1.length)∧cg8 g q'=bl2 g p.2 lock:=by
    intro k
    induction k with
    | zero =>
      intro i q hi hq hb hc
      obtain rfl:i=g.2.2.2.1.length:=by omega
      refine⟨q,cc_ (by simp only[dnl,a2_]),by omega,hb,?_⟩
      rw[hc,g6_ (by rw[m9_];omega)]
      rfl
    | succ k ih =>
      intro i q hi hq hb hc
      obtain⟨x,hx⟩:=bf_ (l:=g.2.2.2.1) (i:=i) (by omega)
      obtain⟨y,hy⟩:=bf_ (l:=p.2) (i:=i) (by omega)
      have hzip:(g.2.2.2.1.zip p.2)[i]?=some (x,y):=by rw[h3_];exact⟨hx,hy⟩
      have hstep:((g.2.2.2.1.zip p.2).take (i+1)).filterMap (λx=>cond (x.1.2.2.1==lock&&x.2) (some x.1.2.2.2.2) none)=((g.2.2.2.1.zip p.2).take i).filterMap (λx=>cond (x.1.2.2.1==lock&&x.2) (some x.1.2.2.2.2) none)++cond (x.2.2.1==lock&&y) [x.2.2.2.2] []:=by
        rw[d6_,hzip,o1_]
        cases hc:(x.2.2.1==lock&&y) with
        | false=>simp[hc]
        | true=>simp[hc]
      cases hcc:(x.2.2.1==lock&&y) with
      | false =>
        obtain⟨q',e,r1⟩:=ih (i+1) q (by omega) (by omega) hb (by rw[hstep,hcc,a2_,e7_];exact hc)
        refine⟨q',bu_ ?_ e,r1⟩
        simp only[dlt (am_ hx),a5_,ai_ hx,ai_ hy,a0_,bb_ (show Sm i by show i≤1000000000;omega)]
        cases y with
        | false=>rfl
        | true =>
          rw[h1_] at hcc
          simp only[a5_,hcc,a0_,a2_]
      | true =>
        have hcc2:=hcc
        rw[a1_] at hcc2
        obtain⟨h1,rfl⟩:=hcc2
        obtain⟨q',e,r1⟩:=ih (i+1) (q++[i]) (by omega) (by rw[a9_,d9_];omega) (λe he=>by
          rcases b5_.1 he with he | he
          · exact hb e he
          · rw[e3_] at he
            omega) (by
          rw[hstep,hcc,a5_,← hc]
          unfold cg8
          rw[o1_]
          simp[hx])
        refine⟨q',bu_ ?_ e,r1⟩
        simp only[dlt (am_ hx),a5_,ai_ hx,ai_ hy,a0_,bb_ (show Sm i by show i≤1000000000;omega),h1,cv_ (show Sm (q.map (λe:Nat=>(e:Int))).length by rw[d3_];show _≤1000000000;omega),i6_,h8_,List.map_nil]
  obtain⟨q',e,r1⟩:=key g.2.2.2.1.length 0 [] (by omega) (k4_ _) (λe he=>by cases he) rfl
  refine⟨_,?_,q',rfl,r1⟩
  refine e5_ (congrArg (λo=>Option.bind o _) e) rfl
theorem av1 {g:ac_} {q:List Nat} (hq:q.length≤20) (hb:∀ e ∈ q,e<g.2.2.2.1.length):kh_ g (q.map (λe:Nat=>(e:Int)))=some (cg8 g q,()):=by
 unfold kh_
 refine mp_ q.length (λ(i:Nat) (z:List al_×(Int×Unit))=>z=(cg8 g (q.take i),((i:Int),()))) (by rw[k5_];rfl) (λi z hi hz => ?_) (λz hz => ?_)
 ·subst hz
  obtain⟨e,he⟩:=bf_ hi
  obtain⟨n,hn⟩:=bf_ (hb e (bh_ he))
  have hm:(q.map (λe:Nat=>(e:Int)))[i]?=some (e:Int):=by rw[d5_,he];rfl
  have hl:(cg8 g (q.take i)).length≤20:=by
   unfold cg8
   refine c5_ (p1_ ..) ?_
   rw[c7_];omega
  refine⟨_,?_,rfl⟩
  simp only[d3_,dlt hi,a5_,ai_ hm,ai_ hn,a0_,cv_ (show Sm _ from c5_ hl (by omega)),bb_ (show Sm i by show i≤1000000000;omega)]
  rw[d6_,he]
  unfold cg8
  rw[o1_]
  simp[hn]
 ·subst hz
  refine⟨_,by simp only[d3_,dnl,a2_];rfl,?_⟩
  simp only[e1_]
theorem bj2 {g:ac_} (hg:SmG g) (ok:OkG g) {p:aa_} (hd:p.2.length=g.2.2.2.1.length) {lock:Int} (h0:0≤lock) {l:ab_} (hl:at? g.2.1 lock=some l):mf_ g p lock=some (opn g p.2 lock,()):=by
 obtain⟨_,_,l1⟩:=dg_ hl
 obtain⟨q,e,hq,hb,hc⟩:=av0 hg hd lock
 unfold mf_
 rw[e,a0_]
 unfold jr_
 rw[hl,a0_,av1 hq hb,a0_,hc,am5 (ok.lk _ l l1).1 (bf7 hg p.2 lock) (λc hc=>by
  obtain⟨i,n,hn,rfl,rfl⟩:=aj7 hc
  exact bt9 ok hn h0 hl) (λc hc=>by
  obtain⟨i,n,hn,rfl,rfl⟩:=aj7 hc
  exact c5_ (hg.ntn n (bh_ hn)).2.2 (by omega))]
 unfold opn rdC
 rw[c2_ (by omega),hl]
 rfl
theorem zl_ {g:ac_} (hg:SmG g) (h0:ct_ g=0) {p:aa_} (hv:VP g p) {m:ah_} (hl:lgl g.1 p.1 m=true):hb_ g p m=some ((stepP g p m).isSome,()):=by
 have ok:=dt_ h0
 have okr:=bs_ ok.room
 have hac:=hg.ac
 unfold hb_ stepP okM
 rw[va_ hg.room okr hv.st hl,a0_,hl,h1_]
 cases hs:zi_ g.1 p.1 m with
 | none =>
  rw[Option.map_none]
  simp only[Option.elim,g9_,a5_]
  generalize (cond (m.2.1==4) _ true:Bool)=b
  cases b<;>rfl
 | some s =>
 simp only[Option.elim,e2_,a2_,g3_]
 rw[ak2]
 cases hk:m.2.1==4 with
 | false=>rfl
 | true =>
 simp only[e2_,a2_,a5_]
 unfold lgl at hl
 rw[a1_] at hl
 have hl:=hl.2
 have hk':m.2.1=4:=g5_.1 hk
 rw[hk'] at hl
 simp only[show ((4:Int)==1)=false from rfl,show ((4:Int)==2)=false from rfl,show ((4:Int)==3)=false from rfl,show ((4:Int)==4)=true from rfl,a2_,a5_] at hl
 rcases cu_ (l:=g.1.2.2.2.2.1) (by show _≤1000000000;omega) m.2.2 with ⟨f1,f2⟩ | ⟨j,a,hj,ha,f1,f2⟩
 ·rw[f2] at hl;cases hl
 ·rw[f2]
  simp only[a0_]
  cases hz:decide (a.2.2.1<0) with
  | true =>
   unfold opn
   rw[hz]
   rfl
  | false =>
  have hz':=d7_ hz
  have hlt:=ok.ac j a ha
  obtain⟨l,hl⟩:=bf_ (l:=g.2.1) (i:=a.2.2.1.toNat) (by omega)
  have hl2:at? g.2.1 a.2.2.1=some l:=by rw[show a.2.2.1=((a.2.2.1.toNat:Nat):Int) by omega];exact ai_ hl
  simp only[a2_]
  rw[bj2 hg ok hv.rd (by omega) hl2,a0_]
  cases opn g p.2 a.2.2.1<;>rfl
theorem aw5 {q:ah_→Bool} {i k:Int} {m:ah_}:∀ (n:Nat) (l:List ah_),m ∈ mvK q i k n l→m ∈ l∨q m=true
 | 0,l,h=>.inl h
 | n+1,l,h=>by
  unfold mvK at h
  cases hq:q (i,(k,(n:Int))) with
  | false=>rw[hq] at h;exact aw5 n l h
  | true =>
   rw[hq,a5_] at h
   rcases b5_.1 h with h | h
   ·exact aw5 n l h
   ·rw[e3_] at h
    exact .inr (by rw[h];exact hq)
theorem bu8 {q:ah_→Bool} {i:Int} {c:Nat→Nat} {m:ah_}:∀ (k:Nat) (l:List ah_),m ∈ mvJ q i c k l→m ∈ l∨q m=true
 | 0,l,h=>.inl h
 | k+1,l,h=>(aw5 (c k) _ h).elim (λh=>bu8 k l h) .inr
theorem bu5 {q:ah_→Bool} {c:Nat→Nat} {m:ah_}:∀ n,m ∈ mvs q c n→q m=true
 | 0,h=>by cases h
 | n+1,h=>(bu8 5 _ h).elim (λh=>bu5 n h) id
theorem aw6 {r:ad_} {s:aj_} {m:ah_} (h:m ∈ lmv r s):lgl r s m=true:=bu5 _ h
theorem aw7 {r:ad_} (ok:OkR r) (s:aj_):(lmv r s).length≤480:=by
 have hpy:=cl_.1 ok.py
 have:=ag4 (lgl r s) (λk=>c5_ (cnt_le ok k) (aj6 k)) r.2.2.2.2.2.2.1.toNat
 unfold lmv
 omega
noncomputable def pmv (g:ac_) (p:aa_):List ah_:=(lmv g.1 p.1).filter λm=>(stepP g p m).isSome
theorem yl_ {α:Type} {l:List α} {i:Nat} {x:α} (q:α→Bool) (hx:l[i]?=some x):(l.take (i+1)).filter q=cond (q x) ((l.take i).filter q++[x]) ((l.take i).filter q):=by
 rw[d6_,hx,n1_]
 cases hq:q x with
 | true=>simp[hq]
 | false=>simp[hq]
theorem av3 {g:ac_} (hg:SmG g) (h0:ct_ g=0) {p:aa_} (hv:VP g p):ki_ g p=some (pmv g p,()):=by
 have ok:=dt_ h0
 have okr:=bs_ ok.room
 have hll:=aw7 okr p.1
 unfold ki_
 rw[vm_ hg.room okr hv.st,a0_]
 refine mp_ (lmv g.1 p.1).length (λ(i:Nat) (z:List ah_×(Int×Unit))=>z=(((lmv g.1 p.1).take i).filter (λm=>(stepP g p m).isSome),((i:Int),()))) (by rw[k5_];rfl) (λi z hi hz => ?_) (λz hz => ?_)
 ·subst hz
  obtain⟨m,hm⟩:=bf_ hi
  have hfl:(((lmv g.1 p.1).take i).filter (λm=>(stepP g p m).isSome)).length≤480:=by
   refine c5_ (k1_ ..) ?_
   rw[c7_];omega
  refine⟨_,?_,rfl⟩
  simp only[dlt hi,a5_,ai_ hm,a0_,zl_ hg h0 hv (aw6 (bh_ hm)),yl_ _ hm,bb_ (show Sm i by show i≤1000000000;omega)]
  cases (stepP g p m).isSome with
  | false=>rfl
  | true=>simp only[a5_,cv_ (show Sm _ from c5_ hfl (by omega)),a0_]
 ·subst hz
  refine⟨_,by simp only[dnl,a2_];rfl,?_⟩
  simp only[e1_]
  rfl
end
section
set_option maxRecDepth 10000
theorem ao6 {K V:Type} [DecidableEq K] (m:List (K×V)) (k k':K) (v:V):mget? (iq_ m k v) k'=if k'=k then some v else mget? m k':=by
 induction m with
 | nil=>simp[iq_,mget?]
 | cons x m ih =>
  obtain⟨a,u⟩:=x
  unfold iq_
  by_cases h:k=a
  ·subst h
   rw[if_pos rfl]
   unfold mget?
   by_cases h2:k'=k
   ·rw[if_pos h2,if_pos h2]
   ·rw[if_neg h2,if_neg h2,if_neg h2]
  ·rw[if_neg h]
   unfold mget?
   by_cases h2:k'=a
   ·rw[if_pos h2,if_pos h2,if_neg (λe=>h (by rw[← e,h2]))]
   ·rw[if_neg h2,if_neg h2,ih]
theorem ku_ {K V:Type} [DecidableEq K] (z:V) (m:List (K×V)) (k k':K) (v:V):de_ z (iq_ m k v) k'=if k'=k then v else de_ z m k':=by
 unfold de_
 rw[ao6]
 split<;>rfl
noncomputable def cmpX (a0:ac_) (d:List Bool) (mm:List ab_) (lock:Int):Option (List ab_×Unit) :=
 (cond ((de_ 0 mm lock)==0)
 ((af_ (abB a0 d lock) ([],([],(0,())))).bind λv18 =>
 ((at? a0.2.1 lock).bind λv19 =>
 ((df_ v19 v18.2.1).bind λv20 =>
 (((cond (v20.2.1==0)
 (some ((decide (v20.1≤a0.2.2.2.2)),()))
 (some (false,())))).bind λv21 =>
 (cond v21.1
 (some ((iq_ (iq_ mm lock 2) lock 1),()))
 (some ((iq_ mm lock 2),())))))))
 (some (mm,())))
noncomputable def canX (a0:ac_) (a1:aa_) (v2:List Bool) (mm:List ab_) (v5:ah_):Option (Bool×(List ab_×Unit)) :=
 (((push? (α:=Bool) [] v2).bind λv6 =>
 (((((cond (v5.2.1==4)
 ((cf_ v5.2.2 0 (w64 ((a0.1.2.2.2.2.1.length:Int) - 1))).bind λv7 =>
 (some (v7.1,())))
 (some (false,())))).bind λv8 =>
 (cond v8.1
 ((at? a0.1.2.2.2.2.1 v5.2.2).bind λv9 =>
 (((cond (decide (v9.2.2.1<0))
 (some (mm,()))
 ((cmpX a0 v2 mm v9.2.2.1).bind λv22 =>
 (some (v22.1,()))))).bind λv23 =>
 (some (v23.1,((iq_ [] v9.2.2.1 (de_ 0 v23.1 v9.2.2.1)),())))))
 (some (mm,([],())))))).bind λv24 =>
 (((((cond (v5.2.1==4)
 ((cf_ v5.2.2 0 (w64 ((a0.1.2.2.2.2.1.length:Int) - 1))).bind λv25 =>
 (cond v25.1
 ((at? a0.1.2.2.2.2.1 v5.2.2).bind λv26 =>
 (cond (decide (v26.2.2.1<0))
 (some ((!true),(v24.2.1,())))
 ((cmpX a0 v6 v24.2.1 v26.2.2.1).bind λv39 =>
 (some ((!((de_ 0 v39.1 v26.2.2.1)==1)),(v39.1,()))))))
 (some (false,(v24.2.1,())))))
 (some (false,(v24.2.1,()))))).bind λv40 =>
 (cond v40.1
 (some ((!false),(v6,(v40.2.1,((a1.1.1,(a1.1.2.1,(a1.1.2.2,()))),())))))
 ((fs_ a0.1 a1.1 v5).bind λv41 =>
 (cond (v41.2.1 != 0)
 (some ((!false),(v6,(v40.2.1,((a1.1.1,(a1.1.2.1,(a1.1.2.2,()))),())))))
 ((af_ (pbgB a0 v41.1) (0,(v6,(v40.2.1,())))).bind λv52 =>
 (some ((!true),(v52.1,(v52.2.1,((v41.1.1,(v41.1.2.1,(v41.1.2.2,()))),()))))))))))).bind λv53 =>
 (cond v53.1
 (some (false,(v24.1,())))
 (some (true,(v24.1,()))))))))
noncomputable def canL (a0:ac_) (a1:aa_):Option (List ah_×(Int×Unit)) :=
 ((en_ a0 a1).bind λv0 =>
 (cond (v0.1 != 0)
 (cond (v0.1 != 0)
 (some ([],(v0.1,())))
 ((ft_ a0.1 a1.1).bind λv1 =>
 (cond (v1.2.1 != 0)
 (some ([],(v1.2.1,())))
 none)))
 ((push? (α:=Bool) [] a1.2).bind λv2 =>
 ((ft_ a0.1 a1.1).bind λv3 =>
 (cond (v3.2.1 != 0)
 (some ([],(v3.2.1,())))
 ((af_ (ρ:=((List ah_)×((List ab_)×Unit))) (λ(v4:((List ah_)×(Int×((List ab_)×Unit)))) =>
 (cond (decide (v4.2.1<(v3.1.length:Int)))
 ((((at? v3.1 v4.2.1).bind λv5 =>
 ((canX a0 a1 v2 v4.2.2.1 v5).bind λv54 =>
 (cond v54.1
 ((push? (α:=ah_) v4.1 [v5]).bind λv55 =>
 (some (v55,(v54.2.1,()))))
 (some (v4.1,(v54.2.1,()))))))).bind λv56 =>
 (some (inl (v56.1,((w64 (v4.2.1+1)),(v56.2.1,()))))))
 (some (inr (v4.1,(v4.2.2.1,())))))) ([],(0,([],())))).bind λv57 =>
 (some (v57.1,(0,())))))))))
theorem canL_eq:qt_=canL:=by
 kernel_rfl
def Mem (g:ac_) (d:List Bool) (mm:List ab_):Prop:=∀ lock,0≤lock→(de_ 0 mm lock=(0:Int)∨de_ 0 mm lock=cond (opn g d lock) 1 2)
theorem cb9 {g:ac_} (hg:SmG g) (ok:OkG g) {d:List Bool} (hd:d.length=g.2.2.2.1.length) {mm:List ab_} {lock:Int} (hz:0≤lock) {l:ab_} (hl:at? g.2.1 lock=some l)
  (hm:de_ 0 mm lock=(0:Int)∨de_ 0 mm lock=cond (opn g d lock) 1 2) :
  ∃ m',cmpX g d mm lock=some (m',())∧de_ 0 m' lock=cond (opn g d lock) 1 2∧∀ k,k≠lock→de_ 0 m' k=de_ 0 mm k:=by
 unfold cmpX
 cases h0:(de_ 0 mm lock:Int)==0 with
 | false =>
  have h0:de_ 0 mm lock≠(0:Int):=by simpa using h0
  exact⟨mm,rfl,hm.resolve_left h0,λ_ _=>rfl⟩
 | true =>
  obtain⟨q,e⟩:=ce8 hg hd lock
  have ho:opn g d lock=decide (rdC g d lock l≤g.2.2.2.2):=by
   unfold opn
   rw[c2_ (by omega),hl]
   rfl
  rw[a5_,e]
  simp only[a0_,hl,aq5 hg ok d hz hl]
  simp only[show ((0:Int)==0)=true from rfl,a5_,a0_]
  rw[ho]
  cases decide (rdC g d lock l≤g.2.2.2.2) with
  | true=>exact⟨_,rfl,by rw[ku_,if_pos rfl];rfl,λk hk=>by rw[ku_,if_neg hk,ku_,if_neg hk]⟩
  | false=>exact⟨_,rfl,by rw[ku_,if_pos rfl];rfl,λk hk=>by rw[ku_,if_neg hk]⟩
theorem canX_eq {g:ac_} (hg:SmG g) (h0:ct_ g=0) {p:aa_} (hv:VP g p) {m:ah_} (hl:lgl g.1 p.1 m=true) {mm:List ab_} (hM:Mem g p.2 mm) :
    ∃ m',canX g p p.2 mm m=some ((stepP g p m).isSome,(m',()))∧Mem g p.2 m':=by
  have ok:=dt_ h0
  have okr:=bs_ ok.room
  have hac:=hg.ac
  have hnt:=hg.nt
  have hrd:=hv.rd
  have fin:∀ (b:Bool) (u:List ab_) (m':List ab_),okM g p.2 m = !b →
      (((((some (b,(u,())):Option (Bool×(List ab_×Unit)))).bind λv40 =>
 (cond v40.1
 (some ((!false),(p.2,(v40.2.1,((p.1.1,(p.1.2.1,(p.1.2.2,()))),())))))
 ((fs_ g.1 p.1 m).bind λv41 =>
 (cond (v41.2.1 != 0)
 (some ((!false),(p.2,(v40.2.1,((p.1.1,(p.1.2.1,(p.1.2.2,()))),())))))
 ((af_ (pbgB g v41.1) (0,(p.2,(v40.2.1,())))).bind λv52 =>
 (some ((!true),(v52.1,(v52.2.1,((v41.1.1,(v41.1.2.1,(v41.1.2.2,()))),()))))))))))).bind λv53 =>
 (cond v53.1
 (some (false,(m',())))
 (some (true,(m',())))))=some ((stepP g p m).isSome,(m',())):=by
    intro b u m' hb
    unfold stepP
    rw[hb,hl,h1_,a0_]
    cases b with
    | true=>rfl
    | false =>
    simp only[a2_,g9_,a5_]
    rw[al7 hg.room ok.room hv.st m,a0_,hl,a5_]
    cases hs:zi_ g.1 p.1 m with
    | none=>rfl
    | some s =>
    have hv2:=wb_ hg.room ok.room hv.st hl hs
    obtain⟨z,ez,hz⟩:=xq_ hg ok hv2 hv.rd u
    simp only[Option.elim,show ((0:Int) != 0)=false from rfl,a2_]
    rw[ez,a0_,a0_]
    rfl
  unfold canX
  rw[bj_ (show Sm p.2.length by show _≤1000000000;omega),a0_]
  simp only[la_]
  cases hk:m.2.1==4 with
  | false =>
    refine⟨mm,?_,hM⟩
    simp only[a2_,a0_]
    refine fin false [] mm ?_
    unfold okM
    rw[hk]
    rfl
  | true =>
  simp only[a5_,a0_]
  have hl':=hl
  unfold lgl at hl'
  rw[a1_] at hl'
  have hl':=hl'.2
  have hk':m.2.1=4:=g5_.1 hk
  rw[hk'] at hl'
  simp only[show ((4:Int)==1)=false from rfl,show ((4:Int)==2)=false from rfl,show ((4:Int)==3)=false from rfl,show ((4:Int)==4)=true from rfl,a2_,a5_] at hl'
  rcases cu_ (l:=g.1.2.2.2.2.1) (by show _≤1000000000;omega) m.2.2 with ⟨f1,f2⟩ | ⟨j,a,hj,ha,f1,f2⟩
  · rw[f2] at hl';cases hl'
  · have ho:okM g p.2 m=opn g p.2 a.2.2.1:=by
      unfold okM
      rw[hk,a5_,f2]
      rfl
    simp only[f1,f2,a5_,a0_]
    cases hz:decide (a.2.2.1<0) with
    | true =>
      refine⟨mm,?_,hM⟩
      simp only[a5_,a0_]
      refine fin (!true) _ mm ?_
      rw[ho]
      unfold opn
      rw[hz]
      rfl
    | false =>
      have hz':=d7_ hz
      have hlt:=ok.ac j a ha
      obtain⟨l,hlk⟩:=bf_ (l:=g.2.1) (i:=a.2.2.1.toNat) (by omega)
      have hl2:at? g.2.1 a.2.2.1=some l:=by rw[show a.2.2.1=((a.2.2.1.toNat:Nat):Int) by omega];exact ai_ hlk
      obtain⟨m1,e1,k1,r1⟩:=cb9 hg ok hv.rd (mm:=mm) (by omega) hl2 (hM _ (by omega))
      obtain⟨m2,e2,k2,r2⟩:=cb9 hg ok hv.rd (mm:=iq_ [] a.2.2.1 (de_ 0 m1 a.2.2.1)) (by omega) hl2 (.inr (by rw[ku_,if_pos rfl,k1]))
      refine⟨m1,?_,λlock hlock => ?_⟩
      · simp only[a2_,e1,a0_,e2]
        refine fin _ m2 m1 ?_
        rw[ho,k2]
        cases opn g p.2 a.2.2.1<;>rfl
      · by_cases hE:lock=a.2.2.1
        · rw[hE]
          exact .inr k1
        · rw[r1 lock hE]
          exact hM lock hlock
theorem ck8 {g:ac_} (hg:SmG g) (h0:ct_ g=0) {p:aa_} (hv:VP g p):qt_ g p=some (pmv g p,(0,())):=by
 have ok:=dt_ h0
 have okr:=bs_ ok.room
 have hll:=aw7 okr p.1
 have hnt:=hg.nt
 have hrd:=hv.rd
 rw[canL_eq]
 unfold canL
 rw[xp_ hg h0 hv,a0_]
 simp only[show ((0:Int) != 0)=false from rfl,a2_]
 rw[bj_ (show Sm p.2.length by show _≤1000000000;omega),a0_,bi9 hg.room ok.room hv.st,a0_]
 simp only[show ((0:Int) != 0)=false from rfl,a2_]
 refine mp_ (lmv g.1 p.1).length (λ(i:Nat) (z:List ah_×(Int×(List ab_×Unit)))=>∃ mm,z=(((lmv g.1 p.1).take i).filter (λm=>(stepP g p m).isSome),((i:Int),(mm,())))∧Mem g p.2 mm) ⟨[],by rw[k5_];rfl,λlock _=>.inl rfl⟩ (λi z hi hz => ?_) (λz hz => ?_)
 ·obtain⟨mm,rfl,hM⟩:=hz
  obtain⟨m,hm⟩:=bf_ hi
  have hfl:(((lmv g.1 p.1).take i).filter (λm=>(stepP g p m).isSome)).length≤480:=by
   refine c5_ (k1_ ..) ?_
   rw[c7_];omega
  obtain⟨m',e,hM'⟩:=canX_eq hg h0 hv (aw6 (bh_ hm)) hM
  refine⟨_,?_,m',rfl,hM'⟩
  simp only[dlt hi,a5_,ai_ hm,a0_,e,yl_ _ hm,bb_ (show Sm i by show i≤1000000000;omega)]
  cases (stepP g p m).isSome with
  | false=>rfl
  | true=>simp only[a5_,cv_ (show Sm _ from c5_ hfl (by omega)),a0_]
 ·obtain⟨mm,rfl,hM⟩:=hz
  refine⟨_,by simp only[dnl,a2_];rfl,?_⟩
  simp only[e1_]
  rfl
end
section
set_option maxRecDepth 10000
theorem vh_ {a b:List UInt8} (h:a.length+b.length≤2147483648):cat? a b=some (a++b):=by
 unfold cat?
 rw[h5_ h]
 rfl
def dval (l:List UInt8):Nat:=l.foldl (λa c=>a * 10+(c.toNat - 48)) 0
theorem dgt {n:Nat} (h:n<10):(UInt8.ofNat (48+n)).toNat=48+n:=by
 rw[UInt8.toNat_ofNat']
 exact j9_ (by omega)
theorem yt_:∀ (k u:Nat),u<10 ^ k→dval (Lib.decDigits u)=u∧(∀ c ∈ Lib.decDigits u,48≤c.toNat∧c.toNat≤57)∧(Lib.decDigits u).length≤k+1
 | 0,u,h=>by
  obtain rfl:u=0:=by simpa using h
  rw[Lib.decDigits]
  exact⟨rfl,λc hc=>by
   simp at hc
   rw[hc]
   exact⟨by decide,by decide⟩,by decide⟩
 | k+1,u,h=>by
  rw[Lib.decDigits]
  by_cases hu:u<10
  ·rw[dif_pos hu]
   refine⟨?_,λc hc => ?_,by simp⟩
   ·show 0 * 10+((UInt8.ofNat (48+u)).toNat - 48)=u
    rw[dgt hu];omega
   ·rw[e3_] at hc
    rw[hc,dgt hu];omega
  ·rw[dif_neg hu]
   rw[j6_] at h
   obtain⟨a,b,c⟩:=yt_ k (u / 10) (by omega)
   have hm:u % 10<10:=Nat.mod_lt _ (by decide)
   refine⟨?_,λx hx => ?_,by rw[a9_,d9_];omega⟩
   ·unfold dval at a ⊢
    rw[n8_,a]
    show u / 10 * 10+((UInt8.ofNat (48+u % 10)).toNat - 48)=u
    rw[dgt hm];omega
   ·rcases b5_.1 hx with hx | hx
    ·exact b x hx
    ·rw[e3_] at hx
     rw[hx,dgt hm];omega
theorem xo_ (u:Nat):u<10 ^ u:=Nat.lt_pow_self (by decide)
theorem um_ {u v:Nat} (h:Lib.decDigits u=Lib.decDigits v):u=v:=by
 rw[← (yt_ u u (xo_ u)).1,← (yt_ v v (xo_ v)).1,h]
theorem yu_ {u:Nat}:∀ c ∈ Lib.decDigits u,48≤c.toNat∧c.toNat≤57:=(yt_ u u (xo_ u)).2.1
theorem ah5 {a b:Int} (h:Lib.itoa a=Lib.itoa b):a=b:=by
 unfold Lib.itoa at h
 have hd:∀ {u:Nat} {l:List UInt8},Lib.decDigits u≠45::l:=λ{u l} e=>by
  have:=yu_ (u:=u) 45 (by rw[e];exact f0_ ..)
  have h45:(45:UInt8).toNat=45:=rfl
  omega
 by_cases ha:a<0
 ·by_cases hb:b<0
  ·rw[if_pos ha,if_pos hb] at h
   have:=um_ (o5_ h).2
   omega
  ·rw[if_pos ha,if_neg hb] at h
   exact absurd h.symm hd
 ·by_cases hb:b<0
  ·rw[if_neg ha,if_pos hb] at h
   exact absurd h hd
  ·rw[if_neg ha,if_neg hb] at h
   have:=um_ h
   omega
theorem ax0 (a:Int):(32:UInt8) ∉ Lib.itoa a:=by
 have hd:∀ {u:Nat},(32:UInt8) ∉ Lib.decDigits u:=λ{u} e=>by
  have:=yu_ _ e
  have h32:(32:UInt8).toNat=32:=rfl
  omega
 unfold Lib.itoa
 split
 ·intro h
  rcases d8_.1 h with h | h
  ·exact absurd h (by decide)
  ·exact hd h
 ·exact hd
def he_ (a:List (List UInt8)):List UInt8:=a.flatMap (· ++ [32])
theorem az8:∀ {t u r s:List UInt8},(32:UInt8) ∉ t→(32:UInt8) ∉ u→t++32::r=u++32::s→t=u∧r=s
 | [],[],r,s,_,_,h=>⟨rfl,(o5_ h).2⟩
 | [],c::u,r,s,_,hu,h=>absurd (o5_ h).1 λe=>hu (by rw[e];exact f0_ ..)
 | c::t,[],r,s,ht,_,h=>absurd (o5_ h).1 λe=>ht (by rw[e];exact f0_ ..)
 | c::t,d::u,r,s,ht,hu,h=>by
  obtain⟨h1,h2⟩:=o5_ h
  obtain⟨h3,h4⟩:=az8 (λe=>ht (e6_ _ e)) (λe=>hu (e6_ _ e)) h2
  exact⟨by rw[h1,h3],h4⟩
theorem ac9:∀ {a b:List (List UInt8)},(∀ t ∈ a,(32:UInt8) ∉ t)→(∀ t ∈ b,(32:UInt8) ∉ t)→he_ a=he_ b→a=b
 | [],[],_,_,_=>rfl
 | [],t::b,_,_,h=>by
  have:=congrArg List.length h
  simp[he_] at this
 | t::a,[],_,_,h=>by
  have:=congrArg List.length h
  simp[he_] at this
 | t::a,u::b,ha,hb,h=>by
  have h:t++32::he_ a=u++32::he_ b:=by
   have:∀ (t:List UInt8) (a:List (List UInt8)),he_ (t::a)=t++32::he_ a:=λt a=>by simp[he_]
   rw[this,this] at h
   exact h
  obtain⟨h1,h2⟩:=az8 (ha t (f0_ ..)) (hb u (f0_ ..)) h
  rw[h1,ac9 (λt h=>ha t (e6_ _ h)) (λt h=>hb t (e6_ _ h)) h2]
theorem lx_ (a b:List (List UInt8)):he_ (a++b)=he_ a++he_ b:=q4_
theorem qc_ {a:List (List UInt8)} {k:Nat} (h:∀ t ∈ a,t.length≤k):(he_ a).length≤a.length * (k+1):=by
 induction a with
 | nil=>exact k4_ _
 | cons t a ih =>
  have h1:=ih λt ht=>h t (e6_ _ ht)
  have h2:=h t (f0_ ..)
  have h3:he_ (t::a)=t++32::he_ a:=by simp[he_]
  rw[h3,a9_,c4_,c4_,Nat.succ_mul]
  omega
theorem gc_ {α β:Type} {f:α→β}:∀ {a b:List α},(∀ x ∈ a,∀ y ∈ b,f x=f y→x=y)→a.map f=b.map f→a=b
 | [],[],_,_=>rfl
 | [],_::_,_,h=>by cases h
 | _::_,[],_,h=>by cases h
 | x::a,y::b,hi,h=>by
  obtain⟨h1,h2⟩:=o5_ (show f x::a.map f=f y::b.map f from h)
  rw[hi x (f0_ ..) y (f0_ ..) h1,gc_ (λx hx y hy=>hi x (e6_ _ hx) y (e6_ _ hy)) h2]
structure PB (p:aa_):Prop where
 n1:p.1.1.length≤12
 n2:p.1.2.1.length≤10
 n3:p.1.2.2.length≤4
 n4:p.2.length≤20
 b1:∀ x ∈ p.1.1,0≤x∧x≤5
 b2:∀ x ∈ p.1.2.1,-6<x∧x<8
 b3:∀ x ∈ p.1.2.2,0≤x∧x<8
theorem bl8 {g:ac_} (hg:SmG g) (ok:OkG g) {p:aa_} (hv:VP g p):PB p:=by
 have okr:=bs_ ok.room
 have hm:=okr.many
 unfold ah1 at hm
 simp only[b8_,p4_] at hm
 have hpy:=cl_.1 okr.py
 have h1:=hv.st.l1
 have h2:=hv.st.l2
 have h3:=hv.st.l3
 have h4:=hv.rd
 have h5:=hg.nt
 refine⟨by omega,by omega,by omega,by omega,λx hx => ?_,λx hx => ?_,λx hx => ?_⟩
 ·obtain⟨i,hi⟩:=f2_ hx
  exact (np_ hg.room okr (hv.st.th i x hi)).2
 ·obtain⟨i,hi⟩:=f2_ hx
  have:=(ah8 hg.room okr).1 (hv.st.pr i x hi)
  omega
 ·obtain⟨i,hi⟩:=f2_ hx
  have:=(mb_ hg.room).1 (hv.st.py i x hi)
  omega
def bt (b:Bool):List UInt8:=cond b [116,114,117,101] [102,97,108,115,101]
def ptk (p:aa_):List (List UInt8):=(p.1.1.map Lib.itoa++(p.1.2.1.map Lib.itoa++p.1.2.2.map Lib.itoa))++p.2.map bt
theorem xw_ (l:List Int):ao4 l=he_ (l.map Lib.itoa):=by
 unfold ao4 he_
 rw[List.flatMap_map]
 rfl
theorem pp_ {u:Nat} (h:u<10000000000):(Lib.decDigits u).length≤11:=(yt_ 10 u h).2.2
theorem by0 {x:Int} (h1 : -8≤x) (h2:x≤8):(Lib.itoa x).length≤21:=by
 unfold Lib.itoa
 split
 ·have:=pp_ (u:=x.natAbs) (by omega)
  rw[c4_];omega
 ·have:=pp_ (u:=x.toNat) (by omega)
  omega
theorem bj7 {p:aa_} (h:p.2.length≤20):mh_ p=some (he_ (p.2.map bt),()):=by
 unfold mh_
 have hb:∀ b,(bt b).length≤5:=λb=>by cases b<;>decide
 refine mp_ p.2.length (λ(i:Nat) (z:List UInt8×(Int×Unit))=>z=(he_ ((p.2.take i).map bt),((i:Int),()))) (by rw[k5_];rfl) (λi z hi hz => ?_) (λz hz => ?_)
 ·subst hz
  obtain⟨b,hx⟩:=bf_ hi
  have hl:(he_ ((p.2.take i).map bt)).length≤20 * 6:=by
   refine c5_ (qc_ (k:=5) λt ht => ?_) ?_
   ·obtain⟨b,_,rfl⟩:=d2_.1 ht
    exact hb b
   ·rw[d3_,c7_]
    omega
  have hf:ef_ b=some (bt b,()):=by cases b<;>rfl
  have hb5:=hb b
  refine⟨_,?_,rfl⟩
  simp only[dlt hi,a5_,ai_ hx,a0_,hf,bb_ (show Sm i by show i≤1000000000;omega)]
  rw[vh_ (show (bt b).length+1≤_ by omega),a0_,vh_ (by rw[a9_,d9_];omega),a0_,d6_,hx]
  simp[he_]
 ·subst hz
  refine⟨_,by simp only[dnl,a2_];rfl,?_⟩
  simp only[e1_]
theorem yg_ {l:List Int} (h:∀ x ∈ l,-8≤x∧x≤8):l.all inI=true:=by
 rw[f3_]
 intro x hx
 have:=h x hx
 unfold inI
 rw[a1_,l8_,l8_]
 omega
theorem an7 {p:aa_} (h:PB p):lh_ p=some (he_ (ptk p),()):=by
 have hB1:∀ x ∈ p.1.1,-8≤x∧x≤8:=λx hx=>by have:=h.b1 x hx;omega
 have hB2:∀ x ∈ p.1.2.1,-8≤x∧x≤8:=λx hx=>by have:=h.b2 x hx;omega
 have hB3:∀ x ∈ p.1.2.2,-8≤x∧x≤8:=λx hx=>by have:=h.b3 x hx;omega
 have hE:hy_ [p.1.1,p.1.2.1,p.1.2.2]=he_ (p.1.1.map Lib.itoa++(p.1.2.1.map Lib.itoa++p.1.2.2.map Lib.itoa)):=by
  rw[lx_,lx_,← xw_,← xw_,← xw_]
  simp[hy_]
 have hlen:∀ {l:List Int} {k:Nat},l.length≤k→(∀ x ∈ l,-8≤x∧x≤8)→(he_ (l.map Lib.itoa)).length≤k * 22:=λ{l k} hk hb=>by
  refine c5_ (qc_ (k:=21) λt ht => ?_) ?_
  ·obtain⟨x,hx,rfl⟩:=d2_.1 ht
   exact by0 (hb x hx).1 (hb x hx).2
  ·rw[d3_]
   exact i1_ _ hk
 have hl:(hy_ [p.1.1,p.1.2.1,p.1.2.2]).length≤1000:=by
  rw[hE,lx_,lx_,a9_,a9_]
  have h1:=hlen h.n1 hB1
  have h2:=hlen h.n2 hB2
  have h3:=hlen h.n3 hB3
  omega
 have hr:(he_ (p.2.map bt)).length≤20 * 6:=by
  refine c5_ (qc_ (k:=5) λt ht => ?_) ?_
  ·obtain⟨b,_,rfl⟩:=d2_.1 ht
   cases b<;>decide
  ·rw[d3_]
   have:=h.n4
   omega
 have hn:fx_ [p.1.1,p.1.2.1,p.1.2.2]=some (hy_ [p.1.1,p.1.2.1,p.1.2.2],()):=by
  unfold fx_
  have h1:([p.1.1,p.1.2.1,p.1.2.2].all λl=>l.all inI)=true:=by
   simp[yg_ hB1,yg_ hB2,yg_ hB3]
  rw[h1,h5_ (show _≤2147483648 by omega)]
  rfl
 unfold lh_
 rw[hn,a0_,bj7 h.n4,a0_,vh_ (by show (hy_ _).length+(he_ (p.2.map bt)).length≤_;omega),a0_]
 unfold ptk
 rw[lx_,← hE]
theorem bt_inj {a b:Bool} (h:bt a=bt b):a=b:=by
 cases a<;>cases b<;>first | rfl | cases h
theorem ct3 (p:aa_):∀ t ∈ ptk p,(32:UInt8) ∉ t:=by
 intro t ht
 unfold ptk at ht
 simp only[b5_,d2_] at ht
 rcases ht with (⟨x,_,rfl⟩ | ⟨x,_,rfl⟩ | ⟨x,_,rfl⟩) | ⟨b,_,rfl⟩
 ·exact ax0 x
 ·exact ax0 x
 ·exact ax0 x
 ·cases b<;>decide
def SmL (p q:aa_):Prop:=p.1.1.length=q.1.1.length∧p.1.2.1.length=q.1.2.1.length∧p.1.2.2.length=q.1.2.2.length∧p.2.length=q.2.length
theorem cw8 {g:ac_} {p q:aa_} (hp:VP g p) (hq:VP g q):SmL p q:=by
 have h1:=hp.st.l1
 have h2:=hp.st.l2
 have h3:=hp.st.l3
 have h4:=hp.rd
 have k1:=hq.st.l1
 have k2:=hq.st.l2
 have k3:=hq.st.l3
 have k4:=hq.rd
 exact⟨by omega,by omega,by omega,by omega⟩
theorem ut_ {α:Type} {a b c d:List α} (h:a.length=c.length) (e:a++b=c++d):a=c∧b=d:=List.append_inj e h
theorem br9 {p q:aa_} (h1:p.1.1=q.1.1) (h2:p.1.2.1=q.1.2.1) (h3:p.1.2.2=q.1.2.2) (h4:p.2=q.2):p=q :=
 Prod.ext (Prod.ext h1 (Prod.ext h2 h3)) h4
theorem ptk_inj {p q:aa_} (hs:SmL p q) (h:he_ (ptk p)=he_ (ptk q)):p=q:=by
 obtain⟨s1,s2,s3,s4⟩:=hs
 have h:=ac9 (ct3 p) (ct3 q) h
 unfold ptk at h
 obtain⟨h,e4⟩:=ut_ (by simp only[a9_,d3_];omega) h
 obtain⟨e1,h⟩:=ut_ (by simp only[d3_];omega) h
 obtain⟨e2,e3⟩:=ut_ (by simp only[d3_];omega) h
 exact br9 (gc_ (λ_ _ _ _=>ah5) e1) (gc_ (λ_ _ _ _=>ah5) e2) (gc_ (λ_ _ _ _=>ah5) e3) (gc_ (λ_ _ _ _=>bt_inj) e4)
def dec (n:Int):List UInt8:=Lib.decDigits n.toNat
theorem sub_dig:∀ {r:Nat},r<10→sub? ([48,49,50,51,52,53,54,55,56,57]:List UInt8) (r:Int) (w64 ((r:Int)+1))=some [UInt8.ofNat (48+r)]
 | 0,_=>rfl
 | 1,_=>rfl
 | 2,_=>rfl
 | 3,_=>rfl
 | 4,_=>rfl
 | 5,_=>rfl
 | 6,_=>rfl
 | 7,_=>rfl
 | 8,_=>rfl
 | 9,_=>rfl
 | _+10,h=>absurd h (by omega)
theorem bh5:∀ (k u:Nat),u≤1000000000→u<10 ^ (k+1)→dv_ (k+1) (u:Int)=some (Lib.decDigits u,())
  | k,u,hu,h=>by
    have hm:u % 10<10:=Nat.mod_lt _ (by decide)
    have e1:Int.tmod (u:Int) 10=((u % 10:Nat):Int):=by rw[Int.tmod_eq_emod_of_nonneg (by omega)];omega
    have e2:Int.tdiv (u:Int) 10=((u / 10:Nat):Int):=by rw[Int.tdiv_eq_ediv_of_nonneg (by omega)];omega
    show ((sub? [48,49,50,51,52,53,54,55,56,57] (Int.tmod (u:Int) 10) (w64 ((Int.tmod (u:Int) 10)+1))).bind λv0 =>
 (cond (decide ((u:Int)<10))
 (some (v0,()))
 ((dv_ k (w64 (Int.tdiv (u:Int) 10))).bind λv1 =>
 ((cat? v1.1 v0).bind λv2 =>
 (some (v2,()))))))=_
    rw[e1,sub_dig hm,a0_,e2,hd_ (by omega) (by omega),Lib.decDigits]
    by_cases h10:u<10
    · rw[dif_pos h10,b9_ (show (u:Int)<10 by omega),a5_,j9_ h10]
    · rw[dif_neg h10,c2_ (show ¬ (u:Int)<10 by omega),a2_]
      match k,h with
      | 0,h=>exact absurd h (by simp;omega)
      | k+1,h =>
        rw[j6_] at h
        rw[bh5 k (u / 10) (by omega) (by omega),a0_]
        have:=pp_ (u:=u / 10) (by omega)
        rw[vh_ (by show (Lib.decDigits (u / 10)).length+1≤_;omega),a0_]
theorem ac8 {n:Int} (h0:0≤n) (h1:n≤1000000):ci_ n=some (dec n,()):=by
 obtain⟨u,rfl⟩:∃ u:Nat,n=(u:Int):=⟨n.toNat,by omega⟩
 unfold ci_ dec
 rw[c1_]
 exact bh5 19 u (by omega) (by omega)
theorem keyL (l:List Int) (h:Int→Int) (acc:List UInt8) (hl:l.length≤20) (ha:acc.length≤100000) (hb:∀ x ∈ l,0≤h x∧h x≤100) {body:(List UInt8×(Int×Unit))→Option ((List UInt8×(Int×Unit))⊕(List UInt8×Unit))} {υ:Type} {K:(List UInt8×Unit)→Option υ} {x:Option υ}
  (hs:∀ (i:Nat) y t,l[i]?=some y→body (t,((i:Int),()))=((ci_ (h y)).bind λv8=>((cat? t v8.1).bind λv9=>((cat? v9 [32]).bind λv10=>(some (inl (v10,((w64 ((i:Int)+1)),()))))))))
  (he:∀ t,body (t,((l.length:Int),()))=some (.inr (t,()))) (hk:K (acc++he_ (l.map λx=>dec (h x)),())=x):(af_ body (acc,(0,()))).bind K=x:=by
 refine mp_ l.length (λ(i:Nat) (z:List UInt8×(Int×Unit))=>z=(acc++he_ ((l.take i).map λx=>dec (h x)),((i:Int),()))) (by rw[k5_,List.map_nil,show he_ []=[] from rfl,e7_];rfl) (λi z hi hz => ?_) (λz hz => ?_)
 ·subst hz
  obtain⟨y,hy⟩:=bf_ hi
  have hlen:(he_ ((l.take i).map λx=>dec (h x))).length≤20 * 12:=by
   refine c5_ (qc_ (k:=11) λt ht => ?_) ?_
   ·obtain⟨x,hx,rfl⟩:=d2_.1 ht
    have:=hb x (k7_ hx)
    exact pp_ (by omega)
   ·rw[d3_,c7_]
    omega
  have hyb:=hb y (bh_ hy)
  have hd:(dec (h y)).length≤11:=pp_ (by omega)
  refine⟨_,?_,rfl⟩
  rw[hs i y _ hy,ac8 hyb.1 (by omega),a0_,vh_ (by show (acc++he_ _).length+(dec (h y)).length≤_;rw[a9_];omega),a0_,vh_ (by show ((acc++he_ _)++dec (h y)).length+1≤_;rw[a9_,a9_];omega),a0_,bb_ (show Sm i by show i≤1000000000;omega),d6_,hy]
  simp[he_]
 ·subst hz
  refine⟨_,he _,?_⟩
  rw[e1_]
  exact hk
def idx (d:List Bool):List Nat:=(List.range d.length).filter λi=>d[i]?==some true
theorem by3 {d:List Bool} {i:Nat}:i ∈ idx d↔d[i]?=some true:=by
 unfold idx
 rw[d0_,n9_,g5_]
 exact⟨λh=>h.2,λh=>⟨am_ h,h⟩⟩
theorem idx_inj {d e:List Bool} (hl:d.length=e.length) (h:idx d=idx e):d=e:=by
 refine f1_ λi => ?_
 rcases l3_ i d.length with hi | hi
 ·obtain⟨x,hx⟩:=bf_ hi
  obtain⟨y,hy⟩:=bf_ (l:=e) (i:=i) (by omega)
  have hm:i ∈ idx d↔i ∈ idx e:=by rw[h]
  rw[by3,by3,hx,hy] at hm
  rw[hx,hy]
  cases x with
  | true=>rw[hm.1 rfl]
  | false =>
   cases y with
   | true=>exact (hm.2 rfl)
   | false=>rfl
 ·rw[b4_ hi,b4_ (by omega)]
def rtk (p:aa_):List (List UInt8):=((p.1.1.map (λx=>dec x)++p.1.2.1.map (λx=>dec (w64 (x+10))))++p.1.2.2.map (λx=>dec x))++(idx p.2).map (λi:Nat=>dec (i:Int))
theorem am0 {p:aa_} (h:PB p):ja_ p=some (he_ (rtk p),()):=by
 have hlen:∀ {l:List Int} (f:Int→Int),l.length≤20→(∀ x ∈ l,0≤f x∧f x≤100)→(he_ (l.map λx=>dec (f x))).length≤20 * 12:=λ{l} f hk hb=>by
  refine c5_ (qc_ (k:=11) λt ht => ?_) ?_
  ·obtain⟨x,hx,rfl⟩:=d2_.1 ht
   have:=hb x hx
   exact pp_ (by omega)
  ·rw[d3_]
   exact i1_ _ hk
 have n1:=h.n1
 have n2:=h.n2
 have n3:=h.n3
 have n4:=h.n4
 have q1:∀ x ∈ p.1.1,0≤x∧x≤100:=λx hx=>by have:=h.b1 x hx;omega
 have q2:∀ x ∈ p.1.2.1,0≤w64 (x+10)∧w64 (x+10)≤100:=λx hx=>by have:=h.b2 x hx;rw[hd_ (by omega) (by omega)];omega
 have q3:∀ x ∈ p.1.2.2,0≤x∧x≤100:=λx hx=>by have:=h.b3 x hx;omega
 have l1:=hlen (l:=p.1.1) (λx=>x) (by omega) q1
 have l2:=hlen (l:=p.1.2.1) (λx=>w64 (x+10)) (by omega) q2
 have l3:=hlen (l:=p.1.2.2) (λx=>x) (by omega) q3
 unfold ja_
 refine keyL p.1.1 (λx=>x) [] (by omega) (by simp) q1 (λi y t hy=>by simp only[dlt (am_ hy),a5_,ai_ hy,a0_]) (λt=>by simp only[dnl,a2_]) ?_
 refine keyL p.1.2.1 (λx=>w64 (x+10)) ([]++_) (by omega) (by rw[g8_];omega) q2 (λi y t hy=>by simp only[dlt (am_ hy),a5_,ai_ hy,a0_]) (λt=>by simp only[dnl,a2_]) ?_
 refine keyL p.1.2.2 (λx=>x) (([]++_)++_) (by omega) (by rw[g8_,a9_];omega) q3 (λi y t hy=>by simp only[dlt (am_ hy),a5_,ai_ hy,a0_]) (λt=>by simp only[dnl,a2_]) ?_
 refine mp_ p.2.length (λ(i:Nat) (z:List UInt8×(Int×Unit))=>z=((([]++he_ (p.1.1.map λx=>dec x))++he_ (p.1.2.1.map λx=>dec (w64 (x+10))))++he_ (p.1.2.2.map λx=>dec x)++he_ (((List.range i).filter λi=>p.2[i]?==some true).map λi:Nat=>dec (i:Int)),((i:Int),()))) (by rw[List.range_zero,List.filter_nil,List.map_nil,show he_ []=[] from rfl,e7_];rfl) (λi z hi hz => ?_) (λz hz => ?_)
 ·subst hz
  obtain⟨b,hb⟩:=bf_ hi
  have hl4:(he_ (((List.range i).filter λi=>p.2[i]?==some true).map λi:Nat=>dec (i:Int))).length≤20 * 12:=by
   refine c5_ (qc_ (k:=11) λt ht => ?_) ?_
   ·obtain⟨x,hx,rfl⟩:=d2_.1 ht
    have:=n9_.1 (d0_.1 hx).1
    exact pp_ (by omega)
   ·refine i1_ _ ?_
    rw[d3_]
    refine c5_ (k1_ ..) ?_
    rw[i4_]
    omega
  have hd:(dec (i:Int)).length≤11:=pp_ (by omega)
  refine⟨_,?_,rfl⟩
  simp only[dlt hi,a5_,ai_ hb,a0_,bb_ (show Sm i by show i≤1000000000;omega)]
  rw[List.range_succ,n1_]
  cases b with
  | false=>simp[hb]
  | true =>
   rw[a5_,ac8 (by omega) (by omega),a0_,vh_ (by simp only[a9_,j7_];omega),a0_,vh_ (by simp only[a9_,j7_,c4_];omega)]
   simp[hb,he_]
 ·subst hz
  refine⟨_,by simp only[dnl,a2_];rfl,?_⟩
  unfold rtk idx
  rw[lx_,lx_,lx_,g8_]
theorem bf5 (x:Int):(32:UInt8) ∉ dec x:=λe=>by
 have:=yu_ _ e
 have h32:(32:UInt8).toNat=32:=rfl
 omega
theorem cs7 (p:aa_):∀ t ∈ rtk p,(32:UInt8) ∉ t:=by
 intro t ht
 unfold rtk at ht
 simp only[b5_,d2_] at ht
 rcases ht with ((⟨x,_,rfl⟩ | ⟨x,_,rfl⟩) | ⟨x,_,rfl⟩) | ⟨b,_,rfl⟩
 ·exact bf5 x
 ·exact bf5 _
 ·exact bf5 x
 ·exact bf5 _
theorem rtk_inj {p q:aa_} (hp:PB p) (hq:PB q) (hs:SmL p q) (h:he_ (rtk p)=he_ (rtk q)):p=q:=by
 obtain⟨s1,s2,s3,s4⟩:=hs
 have h:=ac9 (cs7 p) (cs7 q) h
 unfold rtk at h
 obtain⟨h,e4⟩:=ut_ (by simp only[a9_,d3_];omega) h
 obtain⟨h,e3⟩:=ut_ (by simp only[a9_,d3_];omega) h
 obtain⟨e1,e2⟩:=ut_ (by simp only[d3_];omega) h
 refine br9 (gc_ (λx hx y hy e => ?_) e1) (gc_ (λx hx y hy e => ?_) e2) (gc_ (λx hx y hy e => ?_) e3) (idx_inj s4 (gc_ (λx hx y hy e => ?_) e4))
 ·have:=um_ (show Lib.decDigits x.toNat=Lib.decDigits y.toNat from e)
  have:=hp.b1 x hx
  have:=hq.b1 y hy
  omega
 ·have:=um_ (show Lib.decDigits (w64 (x+10)).toNat=Lib.decDigits (w64 (y+10)).toNat from e)
  have:=hp.b2 x hx
  have:=hq.b2 y hy
  rw[hd_ (by omega) (by omega),hd_ (by omega) (by omega)] at *
  omega
 ·have:=um_ (show Lib.decDigits x.toNat=Lib.decDigits y.toNat from e)
  have:=hp.b3 x hx
  have:=hq.b3 y hy
  omega
 ·have:=um_ (show Lib.decDigits (x:Int).toNat=Lib.decDigits (y:Int).toNat from e)
  omega
end
section
set_option maxRecDepth 10000
def wh (ps:List aa_) (q:aa_):Option Nat:=ps.findIdx? (λx=>decide (x=q))
theorem wh_some {ps:List aa_} {q:aa_} {n:Nat} (h:wh ps q=some n):ps[n]?=some q:=by
 unfold wh at h
 obtain⟨hn,h1,_⟩:=List.findIdx?_eq_some_iff_getElem.1 h
 rw[a7_ hn,f8_ h1]
theorem wh_push (ps:List aa_) (q x:aa_):wh (ps++[q]) x=(wh ps x).or (if x=q then some ps.length else none):=by
 unfold wh
 rw[List.findIdx?_append]
 congr 1
 by_cases h:x=q
 ·rw[if_pos h]
  simp[h]
 ·rw[if_neg h]
  have:¬ q=x:=λe=>h e.symm
  simp[this]
def MI (g:ac_) (key:aa_→List UInt8) (ps:List aa_) (M:List (List UInt8×Int)):Prop:=∀ q,VP g q→mget? M (key q)=(wh ps q).map λn=>(n:Int)
theorem ay6 {g:ac_} {key:aa_→List UInt8} (hk:∀ p q,VP g p→VP g q→key p=key q→p=q) {ps:List aa_} {M:List (List UInt8×Int)} (hM:MI g key ps M) {q:aa_} (hq:VP g q) (hw:wh ps q=none) :
  MI g key (ps++[q]) (iq_ M (key q) (ps.length:Int)):=by
 intro x hx
 rw[ao6,wh_push]
 by_cases h:x=q
 ·subst h
  rw[if_pos rfl,hw,if_pos rfl]
  rfl
 ·rw[if_neg (λe=>h (hk x q hx hq e)),if_neg h,hM x hx,Option.or_none]
noncomputable def inn (g:ac_) (p:aa_):List ah_→List ae_→List aa_→Option (List ae_×List aa_)
 | [],e,ps=>some (e,ps)
 | m::ms,e,ps=>match wh ps ((stepP g p m).getD eP) with
  | some n=>inn g p ms (e++[(m,(n:Int))]) ps
  | none=>if ps.length=3000 then none else inn g p ms (e++[(m,(ps.length:Int))]) (ps++[(stepP g p m).getD eP])
noncomputable def out (g:ac_):Nat→Nat→List aa_→List (List ae_)→Option (List aa_×List (List ae_))
 | 0,i,ps,es=>some (ps,es)
 | n+1,i,ps,es=>match ps[i]? with
  | none=>some (ps,es)
  | some p=>match inn g p (pmv g p) [] ps with
   | none=>none
   | some (e,ps')=>out g n (i+1) ps' (es++[e])
noncomputable def exG (g:ac_):aw_×(Int×Unit) :=
 cond ((ar6 g).2.1 != 0) (([],[]),((ar6 g).2.1,())) (match out g 3001 0 [(ar6 g).1] [] with
  | none=>(([],[]),(2,()))
  | some (ps,es)=>((ps,es),(0,())))
structure PI (g:ac_) (ps:List aa_):Prop where
 n:ps.length≤3000
 v:∀ x ∈ ps,VP g x
theorem cf2 {g:ac_} {ps:List aa_} (h:PI g ps) {q:aa_} (hq:VP g q) (hn:ps.length≠3000):PI g (ps++[q]):=by
 have:=h.n
 refine⟨by rw[a9_,d9_];omega,λx hx => ?_⟩
 rcases b5_.1 hx with hx | hx
 ·exact h.v x hx
 ·rw[e3_] at hx
  rw[hx]
  exact hq
theorem sp_ {g:ac_} {p:aa_} {m:ah_} (hm:m ∈ pmv g p):∃ q,stepP g p m=some q:=by
 unfold pmv at hm
 exact Option.isSome_iff_exists.1 (d0_.1 hm).2
theorem av9 {g:ac_} (ok:OkG g) (p:aa_):(pmv g p).length≤480:=by
 unfold pmv
 exact c5_ (k1_ ..) (aw7 (bs_ ok.room) p.1)
theorem bd4 {g:ac_} (hg:SmG g) (h0:ct_ g=0) {p:aa_} (hv:VP g p):∀ (ms:List ah_) (e e':List ae_) (ps ps':List aa_),(∀ m ∈ ms,∃ q,stepP g p m=some q)→PI g ps→inn g p ms e ps=some (e',ps') →
  PI g ps'∧(∃ r,ps'=ps++r)∧((∀ x ∈ e,0≤x.2∧x.2<(ps.length:Int))→∀ x ∈ e',0≤x.2∧x.2<(ps'.length:Int))∧(∀ x ∈ e',x ∈ e∨x.1 ∈ ms)∧e'.length=e.length+ms.length
 | [],e,e',ps,ps',hms,hI,h=>by
  unfold inn at h
  obtain⟨rfl,rfl⟩:=i3_ (a6_ h)
  exact⟨hI,⟨[],(e7_ _).symm⟩,λh=>h,λx hx=>.inl hx,rfl⟩
 | m::ms,e,e',ps,ps',hms,hI,h=>by
  obtain⟨q,hq⟩:=hms m (f0_ ..)
  have hms':∀ m ∈ ms,∃ q,stepP g p m=some q:=λm hm=>hms m (e6_ _ hm)
  have hvq:=ad3 hg h0 hv hq
  unfold inn at h
  rw[hq,g2_] at h
  cases hw:wh ps q with
  | some n =>
   rw[hw] at h
   obtain⟨a,b,c,d,f⟩:=bd4 hg h0 hv ms _ e' ps ps' hms' hI h
   refine⟨a,b,λhe=>c λx hx => ?_,λx hx => ?_,by rw[f,a9_,d9_,c4_];omega⟩
   rotate_left
   ·rcases d x hx with hx | hx
    ·rcases b5_.1 hx with hx | hx
     ·exact .inl hx
     ·rw[e3_] at hx
      rw[hx]
      exact .inr (f0_ ..)
    ·exact .inr (e6_ _ hx)
   rcases b5_.1 hx with hx | hx
   ·exact he x hx
   ·rw[e3_] at hx
    have:=am_ (wh_some hw)
    rw[hx]
    exact⟨by show (0:Int)≤(n:Int);omega,by show (n:Int)<_;omega⟩
  | none =>
   rw[hw] at h
   have h:(if ps.length=3000 then none else inn g p ms (e++[(m,(ps.length:Int))]) (ps++[q]))=some (e',ps'):=h
   split at h
   ·cases h
   ·next hn =>
    obtain⟨a,⟨r,hr⟩,c,d,f⟩:=bd4 hg h0 hv ms _ e' (ps++[q]) ps' hms' (cf2 hI hvq hn) h
    refine⟨a,⟨q::r,by rw[hr,b3_];rfl⟩,λhe=>c λx hx => ?_,λx hx => ?_,by rw[f,a9_,d9_,c4_];omega⟩
    rotate_left
    ·rcases d x hx with hx | hx
     ·rcases b5_.1 hx with hx | hx
      ·exact .inl hx
      ·rw[e3_] at hx
       rw[hx]
       exact .inr (f0_ ..)
     ·exact .inr (e6_ _ hx)
    have hl:(ps++[q]).length=ps.length+1:=by rw[a9_,d9_]
    rcases b5_.1 hx with hx | hx
    ·have:=he x hx
     omega
    ·rw[e3_] at hx
     rw[hx]
     exact⟨by show (0:Int)≤(ps.length:Int);omega,by show (ps.length:Int)<_;omega⟩
theorem lgl_num {r:ad_} {s:aj_} {m:ah_} (h:lgl r s m=true) (hk:m.2.1=4):m.2.2≠-1:=by
 intro e
 unfold lgl at h
 rw[a1_,hk,e] at h
 have h:=h.2
 simp only[show ((4:Int)==1)=false from rfl,show ((4:Int)==2)=false from rfl,show ((4:Int)==3)=false from rfl,show ((4:Int)==4)=true from rfl,a2_,a5_] at h
 have:at? r.2.2.2.2.1 (-1)=none:=rfl
 rw[this] at h
 cases h
theorem pmv_num {g:ac_} {p:aa_} {m:ah_} (hm:m ∈ pmv g p):m.2.1=4→m.2.2≠-1:=by
 unfold pmv at hm
 exact lgl_num (aw6 (d0_.1 hm).1)
structure GI (g:ac_) (ps:List aa_) (es:List (List ae_)):Prop where
 pI:PI g ps
 eI:∀ l ∈ es,∀ x ∈ l,(0≤x.2∧x.2<(ps.length:Int))∧(x.1.2.1=4→x.1.2.2≠-1)
 eL:∀ l ∈ es,l.length≤480
theorem ct7 {g:ac_} (hg:SmG g) (h0:ct_ g=0):∀ (n i:Nat) (ps ps':List aa_) (es es':List (List ae_)),i+n=3001→i≤ps.length→es.length=i→GI g ps es→out g n i ps es=some (ps',es')→GI g ps' es'∧es'.length=ps'.length
 | 0,i,ps,ps',es,es',hi,hip,hl,hG,h=>by
  have:=hG.pI.n
  omega
 | n+1,i,ps,ps',es,es',hi,hip,hl,hG,h=>by
  unfold out at h
  cases hp:ps[i]? with
  | none =>
   rw[hp] at h
   obtain⟨rfl,rfl⟩:=i3_ (a6_ h)
   have:=o9_.1 hp
   exact⟨hG,by omega⟩
  | some p =>
   rw[hp] at h
   have hvp:=hG.pI.v p (bh_ hp)
   have hok:=dt_ h0
   cases hin:inn g p (pmv g p) [] ps with
   | none =>
    simp only[hin] at h
    cases h
   | some z =>
    obtain⟨e,ps1⟩:=z
    simp only[hin] at h
    obtain⟨a,⟨r,rfl⟩,c,d,f⟩:=bd4 hg h0 hvp _ _ _ _ _ (λm hm=>sp_ hm) hG.pI hin
    have hpl:=am_ hp
    have hpm:=av9 hok p
    have hll:(ps++r).length=ps.length+r.length:=a9_
    refine ct7 hg h0 n (i+1) _ ps' _ es' (by omega) (by omega) (by rw[a9_,d9_];omega) ⟨a,λl hl x hx => ?_,λl hl => ?_⟩ h
    ·rcases b5_.1 hl with hl | hl
     ·have:=hG.eI l hl x hx
      exact⟨by omega,this.2⟩
     ·rw[e3_] at hl
      rw[hl] at hx
      refine⟨c (λx hx=>by cases hx) x hx,?_⟩
      rcases d x hx with hx | hx
      ·cases hx
      ·exact pmv_num hx
    ·rcases b5_.1 hl with hl | hl
     ·exact hG.eL l hl
     ·rw[e3_] at hl
      rw[hl,f]
      show 0+_≤480
      omega
theorem bf1 {g:ac_} (hg:SmG g) (he:(exG g).2.1=0):ct_ g=0∧GI g (exG g).1.1 (exG g).1.2∧(exG g).1.2.length=(exG g).1.1.length:=by
 unfold exG at he ⊢
 cases hb:(ar6 g).2.1 != 0 with
 | true =>
  rw[hb] at he
  rw[n4_] at hb
  exact absurd he hb
 | false =>
 rw[hb,a2_] at he
 have hb:(ar6 g).2.1=0:=by simpa using hb
 obtain⟨h0,hv⟩:=ay1 hg hb
 cases ho:out g 3001 0 [(ar6 g).1] [] with
 | none =>
  rw[ho] at he
  exact absurd (show (2:Int)=0 from he) (by decide)
 | some z =>
  obtain⟨ps,es⟩:=z
  exact⟨h0,ct7 hg h0 3001 0 _ ps _ es rfl (k4_ _) rfl ⟨⟨by show 1≤3000;decide,λx hx=>by rw[e3_] at hx;rw[hx];exact hv⟩,(λl hl=>by cases hl),(λl hl=>by cases hl)⟩ ho⟩
noncomputable def ap5 (key:aa_→List UInt8) (g:ac_) (p:aa_):List ah_→List ae_→List aa_→List (List UInt8×Int)→Option (List ae_×(List aa_×List (List UInt8×Int)))
 | [],e,ps,M=>some (e,(ps,M))
 | m::ms,e,ps,M=>match wh ps ((stepP g p m).getD eP) with
  | some n=>ap5 key g p ms (e++[(m,(n:Int))]) ps M
  | none=>if ps.length=3000 then none else ap5 key g p ms (e++[(m,(ps.length:Int))]) (ps++[(stepP g p m).getD eP]) (iq_ M (key ((stepP g p m).getD eP)) (ps.length:Int))
theorem ah6 (key:aa_→List UInt8) (g:ac_) (p:aa_):∀ ms e ps M,(ap5 key g p ms e ps M).map (λz=>(z.1,z.2.1))=inn g p ms e ps
 | [],e,ps,M=>rfl
 | m::ms,e,ps,M=>by
  unfold ap5 inn
  cases wh ps ((stepP g p m).getD eP) with
  | some n=>exact ah6 key g p ms _ _ _
  | none =>
   by_cases hn:ps.length=3000
   ·simp only[if_pos hn,Option.map_none]
   ·simp only[if_neg hn]
    exact ah6 key g p ms _ _ _
section
variable {g:ac_} (hg:SmG g) (h0:ct_ g=0) {key:aa_→List UInt8} (hk:∀ p q,VP g p→VP g q→key p=key q→p=q)
include hg h0 hk
theorem ax3 {p:aa_} (hv:VP g p):∀ (ms:List ah_) e ps M e' ps' M',(∀ m ∈ ms,∃ q,stepP g p m=some q)→MI g key ps M→ap5 key g p ms e ps M=some (e',(ps',M'))→MI g key ps' M'
 | [],e,ps,M,e',ps',M',_,hM,h=>by
  unfold ap5 at h
  obtain⟨_,h⟩:=i3_ (a6_ h)
  obtain⟨rfl,rfl⟩:=i3_ h
  exact hM
 | m::ms,e,ps,M,e',ps',M',hms,hM,h=>by
  obtain⟨q,hq⟩:=hms m (f0_ ..)
  have hms':∀ m ∈ ms,∃ q,stepP g p m=some q:=λm hm=>hms m (e6_ _ hm)
  have hvq:=ad3 hg h0 hv hq
  unfold ap5 at h
  rw[hq,g2_] at h
  cases hw:wh ps q with
  | some n =>
   rw[hw] at h
   exact ax3 hv ms _ _ _ _ _ _ hms' hM h
  | none =>
   rw[hw] at h
   have h:(if ps.length=3000 then none else ap5 key g p ms (e++[(m,(ps.length:Int))]) (ps++[q]) (iq_ M (key q) (ps.length:Int)))=some (e',(ps',M')):=h
   split at h
   ·cases h
   ·exact ax3 hv ms _ _ _ _ _ _ hms' (ay6 hk hM hvq hw) h
theorem ah2 {p:aa_} (hv:VP g p) {at_:Nat} {σ ρ:Type} (F:List ae_→Nat→List (List UInt8×Int)→List aa_→σ) (G:List ae_→List (List UInt8×Int)→List aa_→ρ) {EE:ρ} {body:σ→Option (σ⊕ρ)} (ms:List ah_) (hms:∀ m ∈ ms,∃ q,stepP g p m=some q)
  (hb:∀ i m e M ps q,ms[i]?=some m→stepP g p m=some q→VP g q→mget? M (key q)=(wh ps q).map (λn=>(n:Int))→PI g ps→ps[at_]?=some p→e.length=i →
   body (F e i M ps)=some (match wh ps q with
    | some n=>.inl (F (e++[(m,(n:Int))]) (i+1) M ps)
    | none=>if ps.length=3000 then .inr EE else .inl (F (e++[(m,(ps.length:Int))]) (i+1) (iq_ M (key q) (ps.length:Int)) (ps++[q]))))
  (he:∀ e M ps,body (F e ms.length M ps)=some (.inr (G e M ps))) :
  ∀ (k i:Nat) e M ps,i+k=ms.length→e.length=i→PI g ps→ps[at_]?=some p→MI g key ps M→af_ body (F e i M ps)=some ((ap5 key g p (ms.drop i) e ps M).elim EE λz=>G z.1 z.2.2 z.2.1)
 | 0,i,e,M,ps,hi,hl,hI,hat,hM=>by
  obtain rfl:i=ms.length:=by omega
  rw[o3_]
  exact cc_ (he e M ps)
 | k+1,i,e,M,ps,hi,hl,hI,hat,hM=>by
  have hil:i<ms.length:=by omega
  obtain⟨m,hm⟩:=bf_ hil
  obtain⟨q,hq⟩:=hms m (bh_ hm)
  have hvq:=ad3 hg h0 hv hq
  have hd:ms.drop i=m::ms.drop (i+1):=by
   rw[i5_ hil]
   rw[a7_ hil] at hm
   rw[a6_ hm]
  have hbb:=hb i m e M ps q hm hq hvq (hM q hvq) hI hat hl
  rw[hd]
  unfold ap5
  rw[hq,g2_]
  cases hw:wh ps q with
  | some n =>
   rw[hw] at hbb
   exact bu_ hbb (ah2 hv F G ms hms hb he k (i+1) (e++[(m,(n:Int))]) M ps (by omega) (by rw[a9_,d9_,hl]) hI hat hM)
  | none =>
   rw[hw] at hbb
   have hbb:body (F e i M ps)=some (if ps.length=3000 then .inr EE else .inl (F (e++[(m,(ps.length:Int))]) (i+1) (iq_ M (key q) (ps.length:Int)) (ps++[q]))):=hbb
   by_cases hn:ps.length=3000
   ·rw[if_pos hn] at hbb
    simp only[if_pos hn]
    exact cc_ hbb
   ·rw[if_neg hn] at hbb
    simp only[if_neg hn]
    exact bu_ hbb (ah2 hv F G ms hms hb he k (i+1) (e++[(m,(ps.length:Int))]) (iq_ M (key q) (ps.length:Int)) (ps++[q]) (by omega) (by rw[a9_,d9_,hl]) (cf2 hI hvq hn) (by rw[b1_ (am_ hat)];exact hat) (ay6 hk hM hvq hw))
theorem ar4 {p:aa_} (hv:VP g p) {at_:Nat} {σ ρ υ:Type} (F:List ae_→Nat→List (List UInt8×Int)→List aa_→σ) (G:List ae_→List (List UInt8×Int)→List aa_→ρ) (EE:ρ) {body:σ→Option (σ⊕ρ)} (ms:List ah_) (hms:∀ m ∈ ms,∃ q,stepP g p m=some q)
  {M:List (List UInt8×Int)} {ps:List aa_} (hI:PI g ps) (hat:ps[at_]?=some p) (hM:MI g key ps M) {K:ρ→Option υ} {x:Option υ}
  (hb:∀ i m e M ps q,ms[i]?=some m→stepP g p m=some q→VP g q→mget? M (key q)=(wh ps q).map (λn=>(n:Int))→PI g ps→ps[at_]?=some p→e.length=i →
   body (F e i M ps)=some (match wh ps q with
    | some n=>.inl (F (e++[(m,(n:Int))]) (i+1) M ps)
    | none=>if ps.length=3000 then .inr EE else .inl (F (e++[(m,(ps.length:Int))]) (i+1) (iq_ M (key q) (ps.length:Int)) (ps++[q]))))
  (he:∀ e M ps,body (F e ms.length M ps)=some (.inr (G e M ps))) (hx:(ap5 key g p ms [] ps M).elim (K EE) (λz=>K (G z.1 z.2.2 z.2.1))=x):(af_ body (F [] 0 M ps)).bind K=x:=by
 rw[ah2 hg h0 hk hv F G ms hms hb he ms.length 0 [] M ps (by omega) rfl hI hat hM,a0_,← hx]
 rw[List.drop_zero]
 cases ap5 key g p ms [] ps M<;>rfl
theorem bc4 {σ ρ:Type} (F:Nat→List (List UInt8×Int)→List aa_→List (List ae_)→σ) (G:List (List UInt8×Int)→List aa_→List (List ae_)→ρ) {EE:ρ} {body:σ→Option (σ⊕ρ)}
    (hb:∀ i M ps es p,ps[i]?=some p→VP g p→PI g ps→es.length=i→MI g key ps M→body (F i M ps es)=some ((ap5 key g p (pmv g p) [] ps M).elim (.inr EE) λz=>.inl (F (i+1) z.2.2 z.2.1 (es++[z.1]))))
    (he:∀ M ps es,body (F ps.length M ps es)=some (.inr (G M ps es))) :
    ∀ (n i:Nat) M ps es,i+n=3001→i≤ps.length→es.length=i→PI g ps→MI g key ps M→match out g n i ps es with
      | none=>af_ body (F i M ps es)=some EE
      | some (ps',es')=>∃ M',af_ body (F i M ps es)=some (G M' ps' es')
  | 0,i,M,ps,es,hi,hip,hl,hI,hM=>by
    have:=hI.n
    omega
  | n+1,i,M,ps,es,hi,hip,hl,hI,hM=>by
    unfold out
    cases hp:ps[i]? with
    | none =>
      have:=o9_.1 hp
      obtain rfl:i=ps.length:=by omega
      exact⟨M,cc_ (he M ps es)⟩
    | some p =>
      have hvp:=hI.v p (bh_ hp)
      have hbb:=hb i M ps es p hp hvp hI hl hM
      have hmap:=ah6 key g p (pmv g p) [] ps M
      show (match (match inn g p (pmv g p) [] ps with
            | none=>none
            | some (e,ps')=>out g n (i+1) ps' (es++[e])) with
          | none=>af_ body (F i M ps es)=some EE
          | some (ps',es')=>∃ M',af_ body (F i M ps es)=some (G M' ps' es'))
      cases hin:ap5 key g p (pmv g p) [] ps M with
      | none =>
        rw[hin] at hbb hmap
        rw[← hmap]
        exact cc_ hbb
      | some z =>
        obtain⟨e,ps1,M1⟩:=z
        have hM1:=ax3 hg h0 hk hvp _ _ _ _ _ _ _ (λm hm=>sp_ hm) hM hin
        rw[hin] at hbb hmap
        obtain⟨a,⟨r,rfl⟩,_,_,_⟩:=bd4 hg h0 hvp _ _ _ _ _ (λm hm=>sp_ hm) hI hmap.symm
        rw[← hmap]
        have hpl:=am_ hp
        have hll:(ps++r).length=ps.length+r.length:=a9_
        have ih:=bc4 F G hb he n (i+1) M1 (ps++r) (es++[e]) (by omega) (by omega) (by rw[a9_,d9_];omega) a hM1
        show (match out g n (i+1) (ps++r) (es++[e]) with
          | none=>af_ body (F i M ps es)=some EE
          | some (ps',es')=>∃ M',af_ body (F i M ps es)=some (G M' ps' es'))
        cases ho:out g n (i+1) (ps++r) (es++[e]) with
        | none=>rw[ho] at ih;exact bu_ hbb ih
        | some z =>
          rw[ho] at ih
          obtain⟨M',hz⟩:=ih
          exact⟨M',bu_ hbb hz⟩
theorem bg5 {σ ρ:Type} (F:Nat→List (List UInt8×Int)→List aa_→List (List ae_)→σ) (G:List (List UInt8×Int)→List aa_→List (List ae_)→ρ) (EE:ρ) {body:σ→Option (σ⊕ρ)} {p0:aa_} (hv:VP g p0) {K:ρ→Option (aw_×(Int×Unit))}
  (hb:∀ i M ps es p,ps[i]?=some p→VP g p→PI g ps→es.length=i→MI g key ps M→body (F i M ps es)=some ((ap5 key g p (pmv g p) [] ps M).elim (.inr EE) λz=>.inl (F (i+1) z.2.2 z.2.1 (es++[z.1]))))
  (he:∀ M ps es,body (F ps.length M ps es)=some (.inr (G M ps es)))
  (hE:K EE=some (([],[]),(2,()))) (hG:∀ M ps es,K (G M ps es)=some ((ps,es),(0,()))) :
  (af_ body (F 0 (iq_ [] (key p0) 0) [p0] [])).bind K=some (match out g 3001 0 [p0] [] with
   | none=>(([],[]),(2,()))
   | some (ps,es)=>((ps,es),(0,()))):=by
 have hI:PI g [p0]:=⟨by show 1≤3000;decide,λx hx=>by rw[e3_] at hx;rw[hx];exact hv⟩
 have hM:MI g key [p0] (iq_ [] (key p0) 0):=by
  have:=ay6 (ps:=[]) (M:=[]) (q:=p0) hk (λq _=>rfl) hv rfl
  exact this
 have:=bc4 hg h0 hk F G hb he 3001 0 (iq_ [] (key p0) 0) [p0] [] rfl (k4_ _) rfl hI hM
 cases ho:out g 3001 0 [p0] [] with
 | none =>
  rw[ho] at this
  rw[this,a0_]
  exact hE
 | some z =>
  obtain⟨ps,es⟩:=z
  rw[ho] at this
  obtain⟨M',hz⟩:=this
  rw[hz,a0_]
  exact hG M' ps es
end
end
section
set_option maxRecDepth 10000
theorem ba4 {g:ac_} (hg:SmG g) (ok:OkG g) (p q:aa_) (hp:VP g p) (hq:VP g q) (h:he_ (rtk p)=he_ (rtk q)):p=q:=rtk_inj (bl8 hg ok hp) (bl8 hg ok hq) (cw8 hp hq) h
theorem bb2 {g:ac_} (p q:aa_) (hp:VP g p) (hq:VP g q) (h:he_ (ptk p)=he_ (ptk q)):p=q:=ptk_inj (cw8 hp hq) h
theorem nq_ {g:ac_} (hg:SmG g):ds_ g=some (exG g):=by
 unfold ds_ exG
 rw[am1 hg,a0_]
 cases hb:(ar6 g).2.1 != 0 with
 | true=>rfl
 | false =>
 have hb:(ar6 g).2.1=0:=by simpa using hb
 obtain⟨h0,hv⟩:=ay1 hg hb
 have ok:=dt_ h0
 simp only[a2_]
 rw[am0 (bl8 hg ok hv),a0_]
 refine bg5 hg h0 (key:=λq=>he_ (rtk q)) (ba4 hg ok) (λi M ps es=>((i:Int),(M,(([],([],())),((ps,(es,())),()))))) (λM ps es=>inl (M,(([],([],())),((ps,(es,())),())))) (inr (([],[]),(2,()))) hv (λi M ps es p hp hvp hI hl hM => ?_) (λM ps es=>by simp only[dnl,a2_]) rfl (λM ps es=>rfl)
 have hi:=am_ hp
 have hn:=hI.n
 have hml:=av9 ok p
 simp only[dlt hi,a5_,ai_ hp,a0_]
 rw[av3 hg h0 hvp,a0_]
 refine ar4 hg h0 (key:=λq=>he_ (rtk q)) (ba4 hg ok) hvp (at_:=i) (λe j M ps=>(e,((j:Int),(M,(([],([],())),((ps,()),())))))) (λe M ps=>inl (e,(M,(([],([],())),((ps,()),()))))) (inr (inr (inr (([],[]),(2,()))))) (pmv g p) (λm hm=>sp_ hm) hI hp hM (λj m e M ps q hm hq hvq hMq hI hat hl => ?_) (λe M ps=>by simp only[dnl,a2_]) ?_
 ·have hj:=am_ hm
  have hn:=hI.n
  have hkq:=am0 (bl8 hg ok hvq)
  simp only[dlt hj,a5_,ai_ hm,ai_ hat,a0_,bj3 hg h0 hvp hq,hkq]
  cases hw:wh ps q with
  | some n =>
   rw[hw] at hMq
   have e1:ag8 M (he_ (rtk q))=true:=by unfold ag8;rw[hMq];rfl
   have e2:de_ 0 M (he_ (rtk q))=(n:Int):=by unfold de_;rw[hMq];rfl
   simp only[e1,e2,e2_,a2_,a0_,ca_,ai_ hm,cv_ (show Sm e.length by show _≤1000000000;omega),bb_ (show Sm j by show _≤1000000000;omega)]
  | none =>
   rw[hw] at hMq
   have e1:ag8 M (he_ (rtk q))=false:=by unfold ag8;rw[hMq];rfl
   simp only[e1,g9_,a5_]
   by_cases hc:ps.length=3000
   ·have:((ps.length:Int)==3000)=true:=by rw[hc];rfl
    simp only[this,a5_,a0_,ca_,if_pos hc]
   ·have:((ps.length:Int)==3000)=false:=by rw[o6_];omega
    simp only[this,a2_,a0_,ca_,if_neg hc,cv_ (show Sm ps.length by show _≤1000000000;omega),cv_ (show Sm e.length by show _≤1000000000;omega),bb_ (show Sm j by show _≤1000000000;omega),ai_ hm]
 ·cases hin:ap5 (λq=>he_ (rtk q)) g p (pmv g p) [] ps M with
  | none=>rfl
  | some z =>
   simp only[Option.elim,ca_,cv_ (show Sm es.length by show _≤1000000000;omega),a0_,bb_ (show Sm i by show _≤1000000000;omega)]
theorem sm_ {g:ac_} (hg:SmG g):ej_ g=some (exG g):=by
 unfold ej_ exG
 rw[aw0 hg,a0_]
 cases hb:(ar6 g).2.1 != 0 with
 | true=>rfl
 | false =>
 have hb:(ar6 g).2.1=0:=by simpa using hb
 obtain⟨h0,hv⟩:=ay1 hg hb
 have ok:=dt_ h0
 simp only[a2_]
 rw[an7 (bl8 hg ok hv),a0_,a0_]
 refine bg5 hg h0 (key:=λq=>he_ (ptk q)) bb2 (λi M ps es=>((i:Int),(M,(([],([],())),((ps,(es,())),()))))) (λM ps es=>inl (M,(([],([],())),((ps,(es,())),())))) (inr (([],[]),(2,()))) hv (λi M ps es p hp hvp hI hl hM => ?_) (λM ps es=>by simp only[dnl,a2_]) rfl (λM ps es=>rfl)
 have hi:=am_ hp
 have hn:=hI.n
 have hml:=av9 ok p
 simp only[dlt hi,a5_,ai_ hp,a0_]
 rw[ck8 hg h0 hvp,a0_]
 simp only[show ((0:Int) != 0)=false from rfl,a2_]
 refine ar4 hg h0 (key:=λq=>he_ (ptk q)) bb2 hvp (at_:=i) (λe j M ps=>(e,((j:Int),(M,(([],([],())),((ps,()),())))))) (λe M ps=>inl (e,(M,(([],([],())),((ps,()),()))))) (inr (inr (inr (([],[]),(2,()))))) (pmv g p) (λm hm=>sp_ hm) hI hp hM (λj m e M ps q hm hq hvq hMq hI hat hl => ?_) (λe M ps=>by simp only[dnl,a2_]) ?_
 ·have hj:=am_ hm
  have hn:=hI.n
  have hkq:=an7 (bl8 hg ok hvq)
  have hstep:lj_ g p m=some (q,(0,())):=by rw[bs1 hg h0 hvp m,hq];rfl
  simp only[dlt hj,a5_,ai_ hm,ai_ hat,a0_,hstep,hkq,show ((0:Int) != 0)=false from rfl,a2_]
  cases hw:wh ps q with
  | some n =>
   rw[hw] at hMq
   have e1:ag8 M (he_ (ptk q))=true:=by unfold ag8;rw[hMq];rfl
   have e2:de_ 0 M (he_ (ptk q))=(n:Int):=by unfold de_;rw[hMq];rfl
   simp only[e1,e2,a5_,e2_,a2_,a0_,cv_ (show Sm e.length by show _≤1000000000;omega),bb_ (show Sm j by show _≤1000000000;omega)]
  | none =>
   rw[hw] at hMq
   have e1:ag8 M (he_ (ptk q))=false:=by unfold ag8;rw[hMq];rfl
   simp only[e1,a2_]
   by_cases hc:ps.length=3000
   ·have:((ps.length:Int)==3000)=true:=by rw[hc];rfl
    simp only[this,a5_,a0_,g9_,if_pos hc]
   ·have:((ps.length:Int)==3000)=false:=by rw[o6_];omega
    simp only[this,a2_,a0_,e2_,if_neg hc,cv_ (show Sm ps.length by show _≤1000000000;omega),cv_ (show Sm e.length by show _≤1000000000;omega),bb_ (show Sm j by show _≤1000000000;omega)]
 ·cases hin:ap5 (λq=>he_ (ptk q)) g p (pmv g p) [] ps M with
  | none=>rfl
  | some z =>
   simp only[Option.elim,ca_,cv_ (show Sm es.length by show _≤1000000000;omega),a0_,bb_ (show Sm i by show _≤1000000000;omega)]
end
section
set_option maxRecDepth 10000
structure LC (es:List (List ae_)) (fin:Nat→Bool) (a:List Int):Prop where
 lo:∀ (i:Nat) (v:Int),a[i]?=some v→-1≤v
 z:∀ (i:Nat) (v:Int),a[i]?=some v→(v=0↔fin i=true)
 dn:∀ (i k:Nat),a[i]?=some ((k+1:Nat):Int)→∃ l x,es[i]?=some l∧x ∈ l∧at? a x.2=some (k:Int)
 up:∀ (i:Nat) (l:List ae_) (x:ae_) (k:Nat),es[i]?=some l→x ∈ l→at? a x.2=some (k:Int)→∃ v,a[i]?=some v∧0≤v∧v≤(k:Int)+1
theorem cf3 {es:List (List ae_)} {fin:Nat→Bool} {a b:List Int} (ha:LC es fin a) (hb:LC es fin b) (hl:a.length=b.length) (k:Nat) (ih:∀ j,j<k→∀ i:Nat,a[i]?=some (j:Int)↔b[i]?=some (j:Int)) (i:Nat) (h:a[i]?=some (k:Int)):b[i]?=some (k:Int):=by
 obtain⟨w,hw⟩:=bf_ (l:=b) (i:=i) (by have:=am_ h;omega)
 match k with
 | 0 =>
  have h1:=(ha.z i _ h).1 rfl
  have h2:=(hb.z i w hw).2 h1
  rw[hw,h2]
  rfl
 | k+1 =>
  obtain⟨l,x,hl',hx,hat⟩:=ha.dn i k h
  obtain⟨q1,q2,q3⟩:=dg_ hat
  have h3:=(ih k (by omega) _).1 q3
  have h4:at? b x.2=some (k:Int):=by
   rw[show x.2=((x.2.toNat:Nat):Int) by omega]
   exact ai_ h3
  obtain⟨v,e,v0,v1⟩:=hb.up i l x k hl' hx h4
  rw[hw] at e
  obtain rfl:=a6_ e
  rcases Int.lt_or_eq_of_le v1 with hlt | heq
  ·exfalso
   obtain⟨n,rfl⟩:∃ n:Nat,w=(n:Int):=⟨w.toNat,by omega⟩
   have:=(ih n (by omega) i).2 hw
   rw[h] at this
   have:=a6_ this
   omega
  ·rw[hw,heq]
   rfl
theorem LC_uniq {es:List (List ae_)} {fin:Nat→Bool} {a b:List Int} (ha:LC es fin a) (hb:LC es fin b) (hl:a.length=b.length):a=b:=by
 have key:∀ k i:Nat,a[i]?=some (k:Int)↔b[i]?=some (k:Int):=by
  intro k
  induction k using Nat.strongRecOn with
  | _ k ih =>
   intro i
   exact⟨cf3 ha hb hl k ih i,cf3 hb ha hl.symm k (λj hj i=>(ih j hj i).symm) i⟩
 refine f1_ λi => ?_
 rcases l3_ i a.length with hi | hi
 ·obtain⟨v,hv⟩:=bf_ hi
  obtain⟨w,hw⟩:=bf_ (l:=b) (i:=i) (by omega)
  have h1:=ha.lo i v hv
  have h2:=hb.lo i w hw
  rw[hv,hw]
  by_cases hv0:0≤v
  ·obtain⟨n,rfl⟩:∃ n:Nat,v=(n:Int):=⟨v.toNat,by omega⟩
   have:=(key n i).1 hv
   rw[hw] at this
   exact this.symm
  ·by_cases hw0:0≤w
   ·obtain⟨n,rfl⟩:∃ n:Nat,w=(n:Int):=⟨w.toNat,by omega⟩
    have:=(key n i).2 hw
    rw[hv] at this
    exact this
   ·rw[show v = -1 by omega,show w = -1 by omega]
 ·rw[b4_ hi,b4_ (by omega)]
def ab7 (g:ac_) (ps:List aa_) (i:Nat):Bool:=match ps[i]? with
 | some p=>du_ p.1.1 g.1.2.2.2.2.2.2.2
 | none=>false
theorem ca3 {g:ac_} {ps:List aa_} {i:Nat} {p:aa_} (h:ps[i]?=some p):ab7 g ps i=du_ p.1.1 g.1.2.2.2.2.2.2.2:=by
 unfold ab7
 rw[h]
def yn_ (g:ac_) (ps:List aa_):List Int:=ps.map λp=>cond (du_ p.1.1 g.1.2.2.2.2.2.2.2) 0 (-1)
theorem rs_ {g:ac_} {ps:List aa_} {i:Nat} {v:Int} (h:(yn_ g ps)[i]?=some v):(v=0∧ab7 g ps i=true)∨(v = -1∧ab7 g ps i=false):=by
 unfold yn_ at h
 rw[d5_] at h
 obtain⟨p,hp,rfl⟩:=f4_.1 h
 rw[ca3 hp]
 cases du_ p.1.1 g.1.2.2.2.2.2.2.2 with
 | true=>exact .inl ⟨rfl,rfl⟩
 | false=>exact .inr ⟨rfl,rfl⟩
def nu_ (a:List Int):Nat:=a.countP λv=>decide (v<0)
theorem bu3 (a:List Int):nu_ a≤a.length:=k2_
theorem bc1:∀ {a:List Int} {i:Nat} {v w:Int},a[i]?=some v→v<0→0≤w→nu_ (a.set i w)+1=nu_ a
 | x::a,0,v,w,h,hv,hw=>by
  obtain rfl:x=v:=a6_ h
  unfold nu_
  rw[List.set_cons_zero,j3_,j3_,b9_ hv,c2_ (by omega)]
  simp
 | x::a,i+1,v,w,h,hv,hw=>by
  have:=bc1 (a:=a) (i:=i) h hv hw
  unfold nu_ at this ⊢
  rw[List.set_cons_succ,j3_,j3_]
  omega
 | [],i,v,w,h,_,_=>by simp at h
end
section
set_option maxRecDepth 10000
def nv (es:List (List ae_)) (a:List Int) (r:Nat) (i:Nat) (v:Int):Int:=cond (decide (v<0)&&(es[i]?.getD []).any (λx=>gi a x.2==(r:Int) - 1)) (r:Int) v
structure RnI (es:List (List ae_)) (fin:Nat→Bool) (r:Nat) (a:List Int):Prop where
 b:∀ (i:Nat) (v:Int),a[i]?=some v→v = -1∨(0≤v∧v+1≤(r:Int))
 z:∀ (i:Nat) (v:Int),a[i]?=some v→(v=0↔fin i=true)
 dn:∀ (i k:Nat),a[i]?=some ((k+1:Nat):Int)→∃ l x,es[i]?=some l∧x ∈ l∧at? a x.2=some (k:Int)
 up:∀ (i:Nat) (l:List ae_) (x:ae_) (k:Nat),es[i]?=some l→x ∈ l→at? a x.2=some (k:Int)→k+2≤r→∃ v,a[i]?=some v∧0≤v∧v≤(k:Int)+1
theorem ag0 {es:List (List ae_)} {a:List Int} {r i:Nat} {v:Int} (h:0≤v):nv es a r i v=v:=by
 unfold nv
 rw[c2_ (by omega)]
 rfl
theorem nt_ (es:List (List ae_)) (a:List Int) (r i:Nat) (v:Int):nv es a r i v=v∨(nv es a r i v=(r:Int)∧v<0∧∃ l x,es[i]?=some l∧x ∈ l∧gi a x.2=(r:Int) - 1):=by
 unfold nv
 cases hc:(decide (v<0)&&(es[i]?.getD []).any (λx=>gi a x.2==(r:Int) - 1)) with
 | false=>exact .inl rfl
 | true =>
  rw[a1_,l8_,l7_] at hc
  obtain⟨h1,x,hx,hg⟩:=hc
  cases he:es[i]? with
  | none =>
   rw[he] at hx
   cases hx
  | some l =>
   rw[he] at hx
   exact .inr ⟨rfl,h1,l,x,rfl,hx,g5_.1 hg⟩
theorem cd9 {a b:List Int} {f:Nat→Int→Int} (h:∀ j:Nat,b[j]?=(a[j]?).map (f j)) {x v:Int} (hx:at? a x=some v):at? b x=some (f x.toNat v):=by
 obtain⟨q1,q2,q3⟩:=dg_ hx
 rw[show x=((x.toNat:Nat):Int) by omega,bg8,h,c1_,q3]
 rfl
theorem cr2 {es:List (List ae_)} {fin:Nat→Bool} {r:Nat} {a b:List Int} (hr:1≤r) (hes:es.length=a.length) (hx:∀ l ∈ es,∀ x ∈ l,0≤x.2∧x.2<(a.length:Int)) (h:RnI es fin r a) (hb:∀ j:Nat,b[j]?=(a[j]?).map (nv es a r j)):RnI es fin (r+1) b:=by
 have back:∀ {i:Nat} {w:Int},b[i]?=some w→∃ v,a[i]?=some v∧w=nv es a r i v:=λ{i w} hw=>by
  rw[hb] at hw
  obtain⟨v,hv,rfl⟩:=f4_.1 hw
  exact⟨v,hv,rfl⟩
 refine⟨λi w hw => ?_,λi w hw => ?_,λi k hk => ?_,λi l x k hl hxl hat hkr => ?_⟩
 ·obtain⟨v,hv,rfl⟩:=back hw
  have:=h.b i v hv
  rcases nt_ es a r i v with e | ⟨e,_⟩
  ·rw[e];omega
  ·rw[e];omega
 ·obtain⟨v,hv,rfl⟩:=back hw
  have hz:=h.z i v hv
  rcases nt_ es a r i v with e | ⟨e,hneg,_⟩
  ·rw[e];exact hz
  ·rw[e,← hz]
   constructor
   ·intro h;omega
   ·intro h;omega
 ·obtain⟨v,hv,e0⟩:=back hk
  rcases nt_ es a r i v with e | ⟨e,hneg,l,x,hl,hxl,hg⟩
  ·rw[e] at e0
   obtain⟨l,x,hl,hxl,hat⟩:=h.dn i k (by rw[hv,← e0])
   exact⟨l,x,hl,hxl,by rw[cd9 hb hat,ag0 (by omega)]⟩
  ·rw[e] at e0
   have hb2:=hx l (bh_ hl) x hxl
   have hat:=tl_ (l:=a) hb2.1 hb2.2
   refine⟨l,x,hl,hxl,?_⟩
   rw[cd9 hb hat,ag0 (by omega),hg]
   congr 1
   omega
 ·have hb2:=hx l (bh_ hl) x hxl
  have hata:=tl_ (l:=a) hb2.1 hb2.2
  have hatb:=cd9 hb hata
  rw[hat] at hatb
  have hk:=a6_ hatb
  obtain⟨q1,q2,q3⟩:=dg_ hata
  have hbnd:=h.b _ _ q3
  have hgk:gi a x.2=(k:Int):=by
   rcases nt_ es a r x.2.toNat (gi a x.2) with e | ⟨e,_⟩
   ·rw[← e,← hk]
   ·rw[e] at hk;omega
  obtain⟨v,hv⟩:=bf_ (l:=a) (i:=i) (by have:=am_ hl;omega)
  have hvb:b[i]?=some (nv es a r i v):=by rw[hb,hv];rfl
  by_cases hv0:0≤v
  ·by_cases hkr2:k+2≤r
   ·obtain⟨v',e,r1,r2⟩:=h.up i l x k hl hxl (by rw[hata,hgk]) hkr2
    rw[hv] at e
    obtain rfl:=a6_ e
    exact⟨v,by rw[hvb,ag0 hv0],r1,r2⟩
   ·have:=h.b i v hv
    exact⟨v,by rw[hvb,ag0 hv0],hv0,by omega⟩
  ·by_cases hkr2:k+2≤r
   ·obtain⟨v',e,r1,r2⟩:=h.up i l x k hl hxl (by rw[hata,hgk]) hkr2
    rw[hv] at e
    obtain rfl:=a6_ e
    exact absurd r1 hv0
   ·have:nv es a r i v=(r:Int):=by
     unfold nv
     rw[b9_ (by omega),hl,c0_]
     rw[show ((some l).getD [])=l from rfl,l7_.2 ⟨x,hxl,by rw[g5_,hgk];omega⟩]
     rfl
    exact⟨_,hvb,by rw[this];omega,by rw[this];omega⟩
theorem RnI_end {es:List (List ae_)} {fin:Nat→Bool} {r:Nat} {a:List Int} (hx:∀ l ∈ es,∀ x ∈ l,0≤x.2∧x.2<(a.length:Int)) (hes:es.length=a.length) (h:RnI es fin r a) (hs:∀ (i:Nat) (v:Int),a[i]?=some v→nv es a r i v=v):LC es fin a:=by
 refine⟨λi v hv=>by have:=h.b i v hv;omega,h.z,h.dn,λi l x k hl hxl hat => ?_⟩
 obtain⟨v,hv⟩:=bf_ (l:=a) (i:=i) (by have:=am_ hl;omega)
 by_cases hkr2:k+2≤r
 ·exact h.up i l x k hl hxl hat hkr2
 ·obtain⟨q1,q2,q3⟩:=dg_ hat
  have hb1:=h.b _ _ q3
  have hb2:=h.b _ _ hv
  have hn:=hs i v hv
  by_cases hv0:0≤v
  ·exact⟨v,hv,hv0,by omega⟩
  ·exfalso
   unfold nv at hn
   rw[b9_ (by omega),hl,c0_] at hn
   rw[show ((some l).getD [])=l from rfl,l7_.2 ⟨x,hxl,by rw[g5_,ok_ hat];omega⟩] at hn
   have:(r:Int)=v:=hn
   omega
theorem cf0 {g:ac_} {ps:List aa_} (es:List (List ae_)):RnI es (ab7 g ps) 1 (yn_ g ps):=by
 refine⟨λi v hv => ?_,λi v hv => ?_,λi k hk => ?_,λi l x k _ _ _ hk=>by omega⟩
 ·rcases rs_ hv with ⟨rfl,_⟩ | ⟨rfl,_⟩
  ·exact .inr ⟨by omega,by omega⟩
  ·exact .inl rfl
 ·rcases rs_ hv with ⟨rfl,h⟩ | ⟨rfl,h⟩
  ·exact⟨λ_=>h,λ_=>rfl⟩
  ·rw[h]
   exact⟨λe=>by omega,λe=>by cases e⟩
 ·rcases rs_ hk with ⟨e,_⟩ | ⟨e,_⟩<;>omega
theorem cd6 {l:List ae_} (q:ae_→Bool) {b:List Int} {i:Nat} {v r:Int} (hv:b[i]?=some v) (hr:0≤r) {υ:Type} {body:(Bool×(Int×(List Int×Unit)))→Option ((Bool×(Int×(List Int×Unit)))⊕(Bool×(List Int×Unit)))} {c:Bool} {K:(Bool×(List Int×Unit))→Option υ} {x:Option υ} (hl:Sm l.length)
  (hA:∀ (k:Nat) c b' y,b'[i]?=some y→0≤y→body (c,((k:Int),(b',())))=some (.inr (c,(b',()))))
  (hB:∀ c b',body (c,((l.length:Int),(b',())))=some (.inr (c,(b',()))))
  (hC:∀ (k:Nat) e,l[k]?=some e→v<0→body (c,((k:Int),(b,())))=some (.inl (cond (q e) (true,(w64 ((k:Int)+1),(b.set i r,()))) (c,(w64 ((k:Int)+1),(b,()))))))
  (hk:K (cond (decide (v<0)&&l.any q) (true,(b.set i r,())) (c,(b,())))=x):(af_ body (c,(0,(b,())))).bind K=x:=by
 by_cases hv0:0≤v
 ·rw[c2_ (by omega)] at hk
  have e0:af_ body (c,(0,(b,())))=some (c,(b,())):=cc_ (hA 0 c b v hv hv0)
  rw[e0,a0_]
  exact hk
 ·rw[b9_ (by omega),c0_] at hk
  have gen:∀ (m k:Nat),k+m=l.length→af_ body (c,((k:Int),(b,())))=some (cond ((l.drop k).any q) (true,(b.set i r,())) (c,(b,()))):=by
   intro m
   induction m with
   | zero =>
    intro k hk
    obtain rfl:k=l.length:=by omega
    rw[o3_]
    exact cc_ (hB c b)
   | succ m ih =>
    intro k hk
    have hkl:k<l.length:=by omega
    obtain⟨e,he⟩:=bf_ hkl
    have hd:l.drop k=e::l.drop (k+1):=by
     rw[i5_ hkl]
     rw[a7_ hkl] at he
     rw[a6_ he]
    have h1:=hC k e he (by omega)
    rw[bb_ (show Sm k by unfold Sm at hl ⊢; omega)] at h1
    rw[hd,p7_]
    cases hq:q e with
    | true =>
     rw[hq] at h1
     refine bu_ h1 (cc_ (hA (k+1) true (b.set i r) r ?_ hr))
     rw[e9_ (am_ hv)]
    | false =>
     rw[hq] at h1
     exact bu_ h1 (ih (k+1) (by omega))
  have:=gen l.length 0 (by omega)
  rw[List.drop_zero] at this
  have e0:af_ body (c,(0,(b,())))=some (cond (l.any q) (true,(b.set i r,())) (c,(b,()))):=this
  rw[e0,a0_]
  exact hk
def kp (act:Int) (x:ae_):Bool:=!(x.1.2.1==4&&x.1.2.2==act)
def esF (act:Int) (es:List (List ae_)):List (List ae_):=es.map λl=>l.filter (kp act)
theorem does_eq (x:ae_) (act:Int):md_ x act=some (!(kp act x),()):=by
 unfold md_ kp
 cases x.1.2.1==4 with
 | false=>rfl
 | true=>cases x.1.2.2==act<;>rfl
theorem esF_len (act:Int) (es:List (List ae_)):(esF act es).length=es.length:=d3_ _
theorem esF_at {act:Int} {es:List (List ae_)} {i:Nat} {l:List ae_} (h:es[i]?=some l):(esF act es)[i]?=some (l.filter (kp act)):=by
 unfold esF
 rw[d5_,h]
 rfl
theorem esF_mem {act:Int} {es:List (List ae_)} {l:List ae_} (h:l ∈ esF act es):∃ l' ∈ es,l=l'.filter (kp act):=by
 obtain⟨l',h1,h2⟩:=d2_.1 h
 exact⟨l',h1,h2.symm⟩
theorem esF_all {es:List (List ae_)} {act:Int} (h:∀ l ∈ es,∀ x ∈ l,x.1.2.1=4→x.1.2.2≠act):esF act es=es:=by
 unfold esF
 refine e5_ (m2_ λl hl => ?_) (List.map_id _)
 refine m4_.2 λx hx => ?_
 unfold kp
 cases hk:x.1.2.1==4 with
 | false=>rfl
 | true =>
  have:=h l hl x hx (g5_.1 hk)
  rw[c0_,l1_,o6_]
  exact this
theorem us_ {σ ρ υ:Type} (n:Nat) (Inv:Nat→σ→Prop) {body:σ→Option (σ⊕ρ)} {z0:σ} {K:ρ→Option υ} {Q:υ→Prop} (h0:Inv 0 z0)
  (hs:∀ j z,j<n→Inv j z→∃ z',body z=some (.inl z')∧Inv (j+1) z') (he:∀ z,Inv n z→∃ r,body z=some (.inr r)∧∃ y,K r=some y∧Q y):∃ y,(af_ body z0).bind K=some y∧Q y:=by
 have gen:∀ (k i:Nat) (z:σ),i+k=n→Inv i z→∃ r,af_ body z=some r∧∃ y,K r=some y∧Q y:=by
  intro k
  induction k with
  | zero =>
   intro i z hi hz
   obtain rfl:i=n:=by omega
   obtain⟨r,e,hr⟩:=he z hz
   exact⟨r,cc_ e,hr⟩
  | succ k ih =>
   intro i z hi hz
   obtain⟨z',e,hz'⟩:=hs i z (by omega) hz
   obtain⟨r,er,hr⟩:=ih (i+1) z' (by omega) hz'
   exact⟨r,bu_ e er,hr⟩
 obtain⟨r,e,hr⟩:=gen n 0 z0 (by omega) h0
 rw[e,a0_]
 exact hr
theorem bu2:∀ {a b:List Int},a.length=b.length→(∀ (j:Nat) (v w:Int),a[j]?=some v→b[j]?=some w→w<0→v<0)→(nu_ b≤nu_ a∧((∃ (j:Nat) (v w:Int),a[j]?=some v∧b[j]?=some w∧v<0∧0≤w)→nu_ b<nu_ a))
 | [],[],_,_=>⟨c3_ _,λ⟨j,v,w,h,_⟩=>by simp at h⟩
 | [],_::_,h,_=>by cases h
 | _::_,[],h,_=>by cases h
 | x::a,y::b,h,hm=>by
  obtain⟨h1,h2⟩:=bu2 (a:=a) (b:=b) (by simpa using h) λj v w hv hw=>hm (j+1) v w hv hw
  have h3:=hm 0 x y rfl rfl
  have ea:nu_ (x::a)=nu_ a+(if x<0 then 1 else 0):=by unfold nu_;rw[j3_];simp
  have eb:nu_ (y::b)=nu_ b+(if y<0 then 1 else 0):=by unfold nu_;rw[j3_];simp
  rw[ea,eb]
  refine⟨by split<;>split<;>omega,λ⟨j,v,w,hv,hw,hv0,hw0⟩ => ?_⟩
  match j with
  | 0 =>
   obtain rfl:x=v:=a6_ hv
   obtain rfl:y=w:=a6_ hw
   rw[if_pos hv0,if_neg (by omega)]
   omega
  | j+1 =>
   have:=h2 ⟨j,v,w,hv,hw,hv0,hw0⟩
   split<;>split<;>omega
theorem ax9 {es:List (List ae_)} {fin:Nat→Bool} {n:Nat} (hn:n≤3000) (hes:es.length=n) (hx:∀ l ∈ es,∀ x ∈ l,0≤x.2∧x.2<(n:Int)) {υ:Type} {body:(Int×(Bool×(List Int×Unit)))→Option ((Int×(Bool×(List Int×Unit)))⊕(List Int×Unit))} {K:(List Int×Unit)→Option υ} {Q:υ→Prop} {a0:List Int}
  (h0:RnI es fin 1 a0) (hl0:a0.length=n)
  (hend:∀ (r:Int) a,body (r,(false,(a,())))=some (.inr (a,())))
  (hstep:∀ (r:Nat) a,1≤r→r≤n+1→a.length=n→RnI es fin r a→∃ y,body ((r:Int),(true,(a,())))=some y∧∃ ch b,y = .inl (((r+1:Nat):Int),(ch,(b,())))∧b.length=n∧(∀ j:Nat,b[j]?=(a[j]?).map (nv es a r j))∧(ch=true↔∃ (j:Nat) (v:Int),a[j]?=some v∧nv es a r j v≠v))
  (hK:∀ D:List Int,D.length=n→LC es fin D→∃ y,K (D,())=some y∧Q y):∃ y,(af_ body (1,(true,(a0,())))).bind K=some y∧Q y:=by
 have gen:∀ (m:Nat) (r:Nat) (a:List Int),nu_ a=m→1≤r→r+m≤n+1→a.length=n→RnI es fin r a→∃ D,af_ body ((r:Int),(true,(a,())))=some (D,())∧D.length=n∧LC es fin D:=by
  intro m
  induction m using Nat.strongRecOn with
  | _ m ih =>
   intro r a hm hr hrm hl hR
   obtain⟨y,ey,ch,b,rfl,hb,hbj,hch⟩:=hstep r a hr (by omega) hl hR
   have hR2:=cr2 hr (by omega) (by rw[hl];exact hx) hR hbj
   cases ch with
   | false =>
    refine⟨b,bu_ ey (cc_ (hend _ b)),hb,?_⟩
    have hs:∀ (i:Nat) (v:Int),a[i]?=some v→nv es a r i v=v:=λi v hv=>Classical.byContradiction λhne=>by
     have:=hch.2 ⟨i,v,hv,hne⟩
     cases this
    have hab:a=b:=f1_ λi=>by
     rw[hbj]
     cases hv:a[i]? with
     | none=>rfl
     | some v=>rw[g3_,hs i v hv]
    rw[← hab]
    exact RnI_end (by rw[hl];exact hx) (by omega) hR hs
   | true =>
    obtain⟨j,v,hv,hne⟩:=hch.1 rfl
    have hlt:nu_ b<nu_ a:=by
     refine (bu2 (a:=a) (b:=b) (by omega) λj v w hv hw hw0 => ?_).2 ?_
     ·rw[hbj,hv] at hw
      have hw:=a6_ hw
      rcases nt_ es a r j v with e | ⟨e,h1,_⟩
      ·rw[e] at hw;omega
      ·exact h1
     ·rcases nt_ es a r j v with e | ⟨e,h1,_⟩
      ·exact absurd e hne
      ·exact⟨j,v,nv es a r j v,hv,by rw[hbj,hv];rfl,h1,by rw[e];omega⟩
    obtain⟨D,eD,hD⟩:=ih (nu_ b) (by omega) (r+1) b rfl (by omega) (by omega) hb hR2
    exact⟨D,bu_ ey eD,hD⟩
 have hneg:=bu3 a0
 obtain⟨D,eD,hD1,hD2⟩:=gen (nu_ a0) 1 a0 rfl (c3_ _) (by omega) hl0 h0
 have eD:af_ body (1,(true,(a0,())))=some (D,()):=eD
 rw[eD,a0_]
 exact hK D hD1 hD2
theorem vl_ {g:ac_} (hg:SmG g) (h0:ct_ g=0) {ps:List aa_} {es:List (List ae_)} (hG:GI g ps es) (hes:es.length=ps.length)
  (act:Int):∃ D,dl_ g (ps,es) act=some (D,())∧D.length=ps.length∧LC (esF act es) (ab7 g ps) D:=by
 have ok:=dt_ h0
 have okr:=bs_ ok.room
 have hn:=hG.pI.n
 have hgo:=hg.go
 have hx:∀ l ∈ es,∀ x ∈ l,0≤x.2∧x.2<(ps.length:Int):=λl hl x hx=>(hG.eI l hl x hx).1
 have hfin:∀ p ∈ ps,ha_ g p=some (du_ p.1.1 g.1.2.2.2.2.2.2.2,()):=λp hp=>by
  have hv:=(hG.pI.v p hp).st
  have hl1:=hv.l1
  obtain⟨c1,c2⟩:=vi_ hg.room.th okr.go
  unfold ha_
  rw[kd_ (s:=p.1) (show Sm _ by show _≤1000000000;omega) (by show InC p.1.1.length _;rw[hl1];exact c1)]
  rfl
 have hxF:∀ l ∈ esF act es,∀ x ∈ l,0≤x.2∧x.2<(ps.length:Int):=λl hl x hxl=>by
  obtain⟨l',h1,rfl⟩:=esF_mem hl
  exact hx l' h1 x (d0_.1 hxl).1
 have hesF:(esF act es).length=ps.length:=by rw[esF_len,hes]
 suffices hk:∃ D,dl_ g (ps,es) act=some D∧(D.1.length=ps.length∧LC (esF act es) (ab7 g ps) D.1) by
  obtain⟨⟨D,u⟩,e,h⟩:=hk
  exact⟨D,e,h⟩
 unfold dl_
 simp only
 rw[vf_ (by omega) (by omega),a0_,c1_]
 refine us_ ps.length (λ(i:Nat) (z:Int×(List Int×Unit))=>∃ d:List Int,z=((i:Int),(d,()))∧d.length=ps.length∧∀ j:Nat,j<i→d[j]?=(yn_ g ps)[j]?) ⟨_,rfl,e8_,λj hj=>by omega⟩ (λi z hi hz => ?_) (λz hz => ?_)
 ·obtain⟨d,rfl,hd,hdj⟩:=hz
  obtain⟨p,hp⟩:=bf_ hi
  obtain⟨y,hy⟩:=bf_ (l:=d) (i:=i) (by omega)
  have h2:(d.set i (-1))[i]?=some (-1):=e9_ (by omega)
  have hf0:(yn_ g ps)[i]?=some (cond (du_ p.1.1 g.1.2.2.2.2.2.2.2) 0 (-1)):=by
   unfold yn_
   rw[d5_,hp]
   rfl
  have fin:∀ v:Int,(yn_ g ps)[i]?=some v→∀ j:Nat,j<i+1→(d.set i v)[j]?=(yn_ g ps)[j]?:=λv hv j hj=>by
   rw[g4_]
   by_cases hij:i=j
   ·rw[if_pos hij,if_pos (by omega),← hij,hv]
   ·rw[if_neg hij,hdj j (by omega)]
  refine⟨(((i+1:Nat):Int),(d.set i (cond (du_ p.1.1 g.1.2.2.2.2.2.2.2) 0 (-1)),())),?_,_,rfl,by rw[f6_,hd],fin _ hf0⟩
  simp only[hd,dlt hi,a5_,ai_ hp,ai_ hy,a0_,hfin p (bh_ hp),c1_,ai_ h2,bb_ (show Sm i by show _≤1000000000;omega),List.set_set]
  cases du_ p.1.1 g.1.2.2.2.2.2.2.2<;>rfl
 ·obtain⟨d,rfl,hd,hdj⟩:=hz
  have hdd:d=yn_ g ps:=f1_ λj=>by
   rcases l3_ j ps.length with hj | hj
   ·exact hdj j hj
   ·rw[b4_ (by omega),b4_ (by unfold yn_;rw[d3_];omega)]
  subst hdd
  refine⟨_,by simp only[hd,dnl,a2_];rfl,?_⟩
  simp only
  refine ax9 (es:=esF act es) (fin:=ab7 g ps) hn hesF hxF (cf0 (esF act es)) hd (λr a=>rfl) (λr a hr hrn hl hR => ?_) (λD hD1 hD2=>⟨_,rfl,hD1,hD2⟩)
  simp only[a5_]
  refine us_ ps.length (λ(i:Nat) (z:Bool×(Int×(List Int×Unit)))=>∃ (ch:Bool) (b:List Int),z=(ch,((i:Int),(b,())))∧b.length=ps.length∧(∀ j:Nat,b[j]?=if j<i then (a[j]?).map (nv (esF act es) a r j) else a[j]?)∧(ch=true↔∃ (j:Nat) (v:Int),j<i∧a[j]?=some v∧nv (esF act es) a r j v≠v)) ⟨false,a,rfl,hl,λj=>by simp,by simp⟩ (λi z hi hz => ?_) (λz hz => ?_)
  ·obtain⟨ch,b,rfl,hb,hbj,hch⟩:=hz
   obtain⟨row,hrow⟩:=bf_ (l:=es) (i:=i) (by omega)
   obtain⟨v,hv⟩:=bf_ (l:=a) (i:=i) (by omega)
   have hvb:b[i]?=some v:=by rw[hbj,if_neg (by omega),hv]
   have hrl:=hG.eL row (bh_ hrow)
   have hgi:∀ x ∈ row,(gi b x.2==(r:Int) - 1)=(gi a x.2==(r:Int) - 1):=λx hxr=>by
    obtain⟨x0,x1⟩:=hx row (bh_ hrow) x hxr
    obtain⟨u,hu⟩:=bf_ (l:=a) (i:=x.2.toNat) (by omega)
    have ea:gi a x.2=u:=ok_ (by rw[show x.2=((x.2.toNat:Nat):Int) by omega];exact ai_ hu)
    have eb:∀ w,b[x.2.toNat]?=some w→gi b x.2=w:=λw hw=>ok_ (by rw[show x.2=((x.2.toNat:Nat):Int) by omega];exact ai_ hw)
    have hbx:=hbj x.2.toNat
    split at hbx
    ·rw[hu] at hbx
     rw[ea,eb _ hbx]
     rcases nt_ (esF act es) a r x.2.toNat u with e | ⟨e,h1,_⟩
     ·rw[e]
     ·rw[e,j8_,g5_,g5_]
      omega
    ·rw[hu] at hbx
     rw[ea,eb _ hbx]
   have hany:row.any (λx=>kp act x&&gi b x.2==(r:Int) - 1)=(row.filter (kp act)).any (λx=>gi a x.2==(r:Int) - 1):=by
    rw[List.any_filter,j8_,l7_,l7_]
    exact⟨λ⟨x,h1,h2⟩=>⟨x,h1,by rw[← hgi x h1];exact h2⟩,λ⟨x,h1,h2⟩=>⟨x,h1,by rw[hgi x h1];exact h2⟩⟩
   have hnv:nv (esF act es) a r i v=cond (decide (v<0)&&row.any (λx=>kp act x&&gi b x.2==(r:Int) - 1)) (r:Int) v:=by
    unfold nv
    rw[esF_at hrow,hany]
    rfl
   refine⟨(cond (decide (v<0)&&row.any (λx=>kp act x&&gi b x.2==(r:Int) - 1)) true ch,(((i+1:Nat):Int),(cond (decide (v<0)&&row.any (λx=>kp act x&&gi b x.2==(r:Int) - 1)) (b.set i (r:Int)) b,()))),?_,_,_,rfl,?_,λj => ?_,?_⟩
   ·simp only[hb,dlt hi,a5_]
    refine cd6 (l:=row) (λx=>kp act x&&gi b x.2==(r:Int) - 1) (r:=(r:Int)) hvb (by omega) (by show _≤1000000000;omega) (λk c b' y hy hy0 => ?_) (λc b' => ?_) (λk e he hv0 => ?_) ?_
    ·simp only[ai_ hrow,a0_,ai_ hy,c2_ (show ¬ y<0 by omega)]
     cases decide ((k:Int)<(row.length:Int))<;>rfl
    ·simp only[ai_ hrow,a0_,dnl,a2_]
    ·obtain⟨x0,x1⟩:=hx row (bh_ hrow) e (bh_ he)
     simp only[ai_ hrow,a0_,dlt (am_ he),a5_,ai_ hvb,b9_ hv0,ai_ he,tl_ (l:=b) x0 (by omega),does_eq,hd_ (n:=(r:Int) - 1) (by omega) (by omega),c1_]
     cases gi b e.2==(r:Int) - 1<;>cases kp act e<;>rfl
    ·simp only[bb_ (show Sm i by show _≤1000000000;omega)]
     cases (decide (v<0)&&row.any (λx=>kp act x&&gi b x.2==(r:Int) - 1))<;>rfl
   ·cases (decide (v<0)&&row.any (λx=>kp act x&&gi b x.2==(r:Int) - 1)) with
    | true=>simp only[a5_,f6_,hb]
    | false=>exact hb
   ·rcases n6_ j i with hj | hj | hj
    ·rw[if_pos (by omega)]
     have:=hbj j
     rw[if_pos hj] at this
     cases (decide (v<0)&&row.any (λx=>kp act x&&gi b x.2==(r:Int) - 1)) with
     | true=>rw[a5_,b7_ (by omega),this]
     | false=>exact this
    ·subst hj
     rw[if_pos (by omega),hv,g3_,hnv]
     cases (decide (v<0)&&row.any (λx=>kp act x&&gi b x.2==(r:Int) - 1)) with
     | true=>rw[a5_,a5_,e9_ (by omega)]
     | false=>exact hvb
    ·rw[if_neg (by omega)]
     have:=hbj j
     rw[if_neg (by omega)] at this
     cases (decide (v<0)&&row.any (λx=>kp act x&&gi b x.2==(r:Int) - 1)) with
     | true=>rw[a5_,b7_ (by omega),this]
     | false=>exact this
   ·cases hc:(decide (v<0)&&row.any (λx=>kp act x&&gi b x.2==(r:Int) - 1)) with
    | true =>
     rw[hc] at hnv
     rw[a1_,l8_] at hc
     exact⟨λ_=>⟨i,v,by omega,hv,by rw[hnv];show (r:Int)≠v;omega⟩,λ_=>rfl⟩
    | false =>
     rw[hc] at hnv
     rw[a2_,hch]
     constructor
     ·rintro⟨j,w,h1,h2⟩
      exact⟨j,w,by omega,h2⟩
     ·rintro⟨j,w,h1,h2,h3⟩
      rcases l3_ j i with hj | hj
      ·exact⟨j,w,hj,h2,h3⟩
      ·obtain rfl:j=i:=by omega
       rw[hv] at h2
       obtain rfl:=a6_ h2
       exact absurd hnv h3
  ·obtain⟨ch,b,rfl,hb,hbj,hch⟩:=hz
   refine⟨_,by simp only[hb,dnl,a2_];rfl,?_⟩
   refine⟨_,rfl,ch,b,by simp only[bb_ (show Sm r by show _≤1000000000;omega)],hb,λj => ?_,?_⟩
   ·rw[hbj]
    split
    ·rfl
    ·rw[b4_ (by omega)]
     rfl
   ·rw[hch]
    constructor
    ·rintro⟨j,w,_,h2⟩
     exact⟨j,w,h2⟩
    ·rintro⟨j,w,h2,h3⟩
     exact⟨j,w,by have:=am_ h2;omega,h2,h3⟩
theorem xh_ {g:ac_} (hg:SmG g) (h0:ct_ g=0) {ps:List aa_} {es:List (List ae_)} (hG:GI g ps es) (hes:es.length=ps.length) :
  ∃ D,dl_ g (ps,es) (-1)=some (D,())∧D.length=ps.length∧LC es (ab7 g ps) D:=by
 have:=vl_ hg h0 hG hes (-1)
 rw[esF_all λl hl x hx=>(hG.eI l hl x hx).2] at this
 exact this
end
section
set_option maxRecDepth 10000
def BkI (es:List (List ae_)) (n i:Nat) (bk:List (List Int)):Prop :=
 bk.length=n∧∀ (t:Nat) l,bk[t]?=some l→l.length≤i * 480∧∀ y:Int,y ∈ l↔∃ j:Nat,j<i∧y=(j:Int)∧∃ row,es[j]?=some row∧∃ x ∈ row,x.2=(t:Int)
theorem BkI_all {es:List (List ae_)} {n:Nat} {bk:List (List Int)} (h:BkI es n es.length bk) {t:Nat} {l:List Int} (hl:bk[t]?=some l) (y:Int):y ∈ l↔∃ j:Nat,y=(j:Int)∧∃ row,es[j]?=some row∧∃ x ∈ row,x.2=(t:Int):=by
 rw[(h.2 t l hl).2 y]
 exact⟨λ⟨j,_,h⟩=>⟨j,h⟩,λ⟨j,h1,row,h2,h3⟩=>⟨j,am_ h2,h1,row,h2,h3⟩⟩
structure BI (es:List (List ae_)) (fin:Nat→Bool) (n:Nat) (near far:List Int):Prop where
 len:far.length=n
 lo:∀ (i:Nat) (v:Int),far[i]?=some v→-1≤v
 z:∀ (i:Nat) (v:Int),far[i]?=some v→(v=0↔fin i=true)
 dn:∀ (i k:Nat),far[i]?=some ((k+1:Nat):Int)→∃ l x,es[i]?=some l∧x ∈ l∧at? far x.2=some (k:Int)
 nr:∀ x ∈ near,∃ v,at? far x=some v∧0≤v
 pw:near.Pairwise (λx y=>gi far x≤gi far y)
 top:∀ x ∈ near,∀ (i:Nat) (v:Int),far[i]?=some v→v≤gi far x+1
 up:∀ (i:Nat) (l:List ae_) (x:ae_) (k:Nat),es[i]?=some l→x ∈ l→at? far x.2=some (k:Int)→x.2 ∉ near→∃ v,far[i]?=some v∧0≤v∧v≤(k:Int)+1
 bd:∀ (i:Nat) (v:Int),far[i]?=some v→v+(nu_ far:Int)≤(n:Int)
 ms:near.length+nu_ far≤n
theorem BI_end {es:List (List ae_)} {fin:Nat→Bool} {n:Nat} {far:List Int} (h:BI es fin n [] far):LC es fin far :=
 ⟨h.lo,h.z,h.dn,λi l x k hl hx hat=>h.up i l x k hl hx hat (λh=>by cases h)⟩
structure AI (bs:List Int) (d:Int) (far:List Int) (b:Nat) (pu far':List Int):Prop where
 len:far'.length=far.length
 keep:∀ (i:Nat) (v:Int),far[i]?=some v→0≤v→far'[i]?=some v
 neg:∀ (i:Nat) (v:Int),far[i]?=some v→v<0→far'[i]?=some v∨(far'[i]?=some (d+1)∧(i:Int) ∈ pu∧(i:Int) ∈ bs)
 pI:∀ x ∈ pu,at? far' x=some (d+1)∧∃ w,at? far x=some w∧w<0
 done:∀ y ∈ bs.take b,∃ v,at? far' y=some v∧0≤v
 ms:nu_ far'+pu.length=nu_ far
theorem cr7 (bs:List Int) (d:Int) (far:List Int):AI bs d far 0 [] far :=
 ⟨rfl,λ_ _ h _=>h,λ_ _ h _=>.inl h,λ_ h=>(by cases h),λy h=>by rw[k5_] at h; (cases h),rfl⟩
theorem ar7 {α:Type} {a:List α} {x:Int} {v:α} (h:at? a x=some v):∃ i:Nat,x=(i:Int)∧a[i]?=some v:=by
 obtain⟨q1,q2,q3⟩:=dg_ h
 exact⟨x.toNat,by omega,q3⟩
theorem AI_skip {bs:List Int} {d:Int} {far:List Int} {b:Nat} {pu far':List Int} (h:AI bs d far b pu far') {y v:Int} (hy:bs[b]?=some y) (hv:at? far' y=some v) (hv0:0≤v):AI bs d far (b+1) pu far':=by
 refine⟨h.len,h.keep,h.neg,h.pI,λz hz => ?_,h.ms⟩
 rw[d6_,hy] at hz
 rcases b5_.1 hz with hz | hz
 ·exact h.done z hz
 ·have:z=y:=by simpa using hz
  rw[this]
  exact⟨v,hv,hv0⟩
theorem AI_add {bs:List Int} {d:Int} (hd:0≤d) {far:List Int} {b:Nat} {pu far':List Int} (h:AI bs d far b pu far') {y v:Int} (hy:bs[b]?=some y) (hv:at? far' y=some v) (hv0:v<0):AI bs d far (b+1) (pu++[y]) (far'.set y.toNat (d+1)):=by
 obtain⟨i,rfl,hi⟩:=ar7 hv
 rw[c1_]
 have hlt:=am_ hi
 have hself:(far'.set i (d+1))[i]?=some (d+1):=e9_ hlt
 have hfi:∃ w,far[i]?=some w∧w<0:=by
  obtain⟨w,hw⟩:=bf_ (l:=far) (i:=i) (by have:=h.len;omega)
  refine⟨w,hw,Classical.byContradiction λhc => ?_⟩
  have:=h.keep i w hw (by omega)
  rw[hi] at this
  have:=a6_ this
  omega
 have hat:∀ {x w:Int},at? far' x=some w→0≤w→at? (far'.set i (d+1)) x=some w:=λ{x w} hx hw=>by
  obtain⟨j,rfl,hj⟩:=ar7 hx
  refine ai_ ?_
  by_cases hij:i=j
  ·subst hij
   rw[hi] at hj
   have:=a6_ hj
   omega
  ·rw[b7_ hij]
   exact hj
 refine⟨by rw[f6_,h.len],λj w hw hw0 => ?_,λj w hw hw0 => ?_,λx hx => ?_,λz hz => ?_,?_⟩
 ·have:=h.keep j w hw hw0
  by_cases hij:i=j
  ·subst hij
   rw[hi] at this
   have:=a6_ this
   omega
  ·rw[b7_ hij]
   exact this
 ·by_cases hij:i=j
  ·subst hij
   exact .inr ⟨hself,o0_ _ (e3_.2 rfl),bh_ hy⟩
  ·rw[b7_ hij]
   rcases h.neg j w hw hw0 with h1 | ⟨h1,h2,h3⟩
   ·exact .inl h1
   ·exact .inr ⟨h1,o4_ _ h2,h3⟩
 ·rcases b5_.1 hx with hx | hx
  ·obtain⟨h1,h2⟩:=h.pI x hx
   exact⟨hat h1 (by omega),h2⟩
  ·rw[e3_] at hx
   rw[hx]
   obtain⟨w,hw,hw0⟩:=hfi
   exact⟨ai_ hself,w,ai_ hw,hw0⟩
 ·rw[d6_,hy] at hz
  rcases b5_.1 hz with hz | hz
  ·obtain⟨w,h1,h2⟩:=h.done z hz
   exact⟨w,hat h1 h2,h2⟩
  ·have:z=(i:Int):=by simpa using hz
   rw[this]
   exact⟨d+1,ai_ hself,by omega⟩
 ·have:=bc1 hi hv0 (show (0:Int)≤d+1 by omega)
  have:=h.ms
  rw[a9_,d9_]
  omega
theorem BI_step {es:List (List ae_)} {fin:Nat→Bool} {n:Nat} (hes:es.length=n) (hx:∀ l ∈ es,∀ x ∈ l,0≤x.2∧x.2<(n:Int)) {h:Int} {tl far:List Int} (I:BI es fin n (h::tl) far) {bs:List Int} {d:Int} (hd:at? far h=some d)
  (hbs:∀ y:Int,y ∈ bs↔∃ j:Nat,y=(j:Int)∧∃ row,es[j]?=some row∧∃ x ∈ row,x.2=h) {pu far':List Int} (A:AI bs d far bs.length pu far'):BI es fin n (tl++pu) far':=by
 have hd0:0≤d:=by
  obtain⟨v,h1,h2⟩:=I.nr h (f0_ ..)
  rw[hd] at h1
  have:=a6_ h1
  omega
 have hgd:gi far h=d:=ok_ hd
 have hms:=A.ms
 have cs:∀ (i:Nat) (v:Int),far'[i]?=some v→far[i]?=some v∨(v=d+1∧(i:Int) ∈ pu∧(i:Int) ∈ bs∧1≤pu.length∧∃ w,far[i]?=some w∧w<0):=λi v hv=>by
  obtain⟨w,hw⟩:=bf_ (l:=far) (i:=i) (by have:=am_ hv;have:=A.len;omega)
  by_cases hw0:0≤w
  ·have:=A.keep i w hw hw0
   rw[hv] at this
   rw[a6_ this]
   exact .inl hw
  ·rcases A.neg i w hw (by omega) with h1 | ⟨h1,h2,h3⟩
   ·rw[hv] at h1
    rw[a6_ h1]
    exact .inl hw
   ·rw[hv] at h1
    have hne:1≤pu.length:=by
     cases pu with
     | nil=>cases h2
     | cons _ _=>simp
    exact .inr ⟨a6_ h1,h2,h3,hne,w,hw,by omega⟩
 have keepA:∀ {x v:Int},at? far x=some v→0≤v→at? far' x=some v:=λ{x v} hx hv=>by
  obtain⟨i,rfl,hi⟩:=ar7 hx
  exact ai_ (A.keep i v hi hv)
 have gk:∀ x ∈ tl,gi far' x=gi far x:=λx hx=>by
  obtain⟨v,h1,h2⟩:=I.nr x (e6_ _ hx)
  rw[ok_ h1,ok_ (keepA h1 h2)]
 have gp:∀ x ∈ pu,gi far' x=d+1:=λx hx=>ok_ (A.pI x hx).1
 have htop:=I.top h (f0_ ..)
 rw[hgd] at htop
 obtain⟨pw1,pw2⟩:=List.pairwise_cons.1 I.pw
 have htl:∀ x ∈ tl,gi far x≤d+1:=λx hx=>by
  obtain⟨v,h1,h2⟩:=I.nr x (e6_ _ hx)
  obtain⟨i,_,hi⟩:=ar7 h1
  rw[ok_ h1]
  exact htop i v hi
 have hle:∀ (i:Nat) (v:Int),far'[i]?=some v→v≤d+1:=λi v hv=>by
  rcases cs i v hv with h1 | ⟨h1,_⟩
  ·exact htop i v h1
  ·omega
 refine⟨by rw[A.len,I.len],λi v hv => ?_,λi v hv => ?_,λi k hk => ?_,λx hx => ?_,?_,λx hx i v hv => ?_,λi l x k hl hxl hat hnn => ?_,λi v hv => ?_,?_⟩
 ·rcases cs i v hv with h1 | ⟨h1,_⟩
  ·exact I.lo i v h1
  ·omega
 ·rcases cs i v hv with h1 | ⟨h1,_,_,_,w,hw,hw0⟩
  ·exact I.z i v h1
  ·have:=I.z i w hw
   rw[← this]
   constructor
   ·intro e;omega
   ·intro e;omega
 ·rcases cs i _ hk with h1 | ⟨h1,h2,h3,_⟩
  ·obtain⟨l,x,a1,a2,a3⟩:=I.dn i k h1
   exact⟨l,x,a1,a2,keepA a3 (by omega)⟩
  ·obtain⟨j,hj,row,hrow,x,hxr,hxe⟩:=(hbs _).1 h3
   obtain rfl:i=j:=by omega
   refine⟨row,x,hrow,hxr,?_⟩
   rw[hxe,show (k:Int)=d by omega]
   exact keepA hd hd0
 ·rcases b5_.1 hx with hx | hx
  ·obtain⟨v,h1,h2⟩:=I.nr x (e6_ _ hx)
   exact⟨v,keepA h1 h2,h2⟩
  ·exact⟨d+1,(A.pI x hx).1,by omega⟩
 ·refine List.pairwise_append.2 ⟨?_,?_,λx hx y hy => ?_⟩
  ·refine List.Pairwise.imp_of_mem (λ{x y} hx hy hr => ?_) pw2
   rw[gk x hx,gk y hy]
   exact hr
  ·refine List.pairwise_of_forall_mem_list (λx hx y hy => ?_)
   rw[gp x hx,gp y hy]
   exact m5_ _
  ·rw[gk x hx,gp y hy]
   exact htl x hx
 ·have h2:=hle i v hv
  rcases b5_.1 hx with hx | hx
  ·rw[gk x hx]
   have:=pw1 x hx
   rw[hgd] at this
   omega
  ·rw[gp x hx]
   omega
 ·have hb:=hx l (bh_ hl) x hxl
  obtain⟨xi,hxi,hxk⟩:=ar7 hat
  obtain⟨w,hw⟩:=bf_ (l:=far') (i:=i) (by have:=am_ hl;have:=A.len;have:=I.len;omega)
  rcases cs xi _ hxk with h1 | ⟨_,h2,_⟩
  ·by_cases hxh:x.2=h
   ·have hm:(i:Int) ∈ bs:=(hbs _).2 ⟨i,rfl,l,hl,x,hxl,hxh⟩
    obtain⟨v,h3,h4⟩:=A.done (i:Int) (by rw[e1_];exact hm)
    have h3:far'[i]?=some v:=by rw[← bg8];exact h3
    refine⟨v,h3,h4,?_⟩
    have:(k:Int)=d:=by
     have:at? far h=some (k:Int):=by rw[← hxh,hxi];exact ai_ h1
     rw[hd] at this
     exact (a6_ this).symm
    have:=hle i v h3
    omega
   ·obtain⟨v,h3,h4,h5⟩:=I.up i l x k hl hxl (by rw[hxi];exact ai_ h1) (λhm=>by
     rcases d8_.1 hm with hm | hm
     ·exact hxh hm
     ·exact hnn (o4_ _ hm))
    exact⟨v,A.keep i v h3 h4,h4,h5⟩
  ·exact absurd (o0_ _ (by rw[hxi];exact h2)) hnn
 ·rcases cs i v hv with h1 | ⟨h1,_,_,h4,_⟩
  ·have:=I.bd i v h1
   omega
  ·obtain⟨hi,_,hh⟩:=ar7 hd
   have:=I.bd hi d hh
   omega
 ·have:=I.ms
  rw[a9_]
  rw[c4_] at this
  omega
theorem bl3 {υ:Type} {body:(List Int×(List Int×Unit))→Option ((List Int×(List Int×Unit))⊕(List Int×Unit))} {K:(List Int×Unit)→Option υ} {Q:υ→Prop} (Inv:List Int→List Int→Prop) (μ:List Int→List Int→Nat)
  (hs:∀ h tl far,Inv (h::tl) far→∃ y,body (h::tl,(far,()))=some y∧∃ near' far',y = .inl (near',(far',()))∧Inv near' far'∧μ near' far'<μ (h::tl) far)
  (he:∀ far,Inv [] far→∃ r,body ([],(far,()))=some (.inr r)∧∃ y,K r=some y∧Q y) {near far:List Int} (hI:Inv near far):∃ y,(af_ body (near,(far,()))).bind K=some y∧Q y:=by
 have gen:∀ (m:Nat) (near far:List Int),μ near far=m→Inv near far→∃ r,af_ body (near,(far,()))=some r∧∃ y,K r=some y∧Q y:=by
  intro m
  induction m using Nat.strongRecOn with
  | _ m ih =>
   intro near far hm hI
   cases near with
   | nil =>
    obtain⟨r,e,h⟩:=he far hI
    exact⟨r,cc_ e,h⟩
   | cons h tl =>
    obtain⟨y,ey,near',far',rfl,h1,h2⟩:=hs h tl far hI
    obtain⟨r,er,hr⟩:=ih _ (by omega) near' far' rfl h1
    exact⟨r,bu_ ey er,hr⟩
 obtain⟨r,e,hr⟩:=gen _ near far rfl hI
 rw[e,a0_]
 exact hr
theorem cf1 {n:Nat} (h:n≤1000000):fp_ [-1] (n:Int)=some (List.replicate n (-1)):=by
 show mk? (n:Int) (-1)=_
 rw[vf_ (by omega) (by omega),c1_]
theorem bu4 (x:Int) (a:List Int):nu_ (x::a)=nu_ a+(if x<0 then 1 else 0):=by unfold nu_;rw[j3_];simp
end
section
set_option maxRecDepth 10000
theorem cm2 (a b:List Int):nu_ (a++b)=nu_ a+nu_ b:=by unfold nu_;rw[List.countP_append]
theorem bu1 {a:List Int} {i:Nat} {v:Int} (h:a[i]?=some v):nu_ (a.take (i+1))=nu_ (a.take i)+(if v<0 then 1 else 0):=by
 rw[d6_,h,cm2,show (some v).toList=[v] from rfl,bu4,show nu_ []=0 from rfl,b0_]
theorem cr6 {g:ac_} {ps:List aa_} {es:List (List ae_)} {near:List Int} (h1:∀ x ∈ near,∃ j:Nat,x=(j:Int)∧j<ps.length∧ab7 g ps j=true) (h2:∀ j:Nat,j<ps.length→ab7 g ps j=true→(j:Int) ∈ near) (h3:near.length+nu_ (yn_ g ps)=ps.length) :
  BI es (ab7 g ps) ps.length near (yn_ g ps):=by
 have hl:(yn_ g ps).length=ps.length:=d3_ _
 have hg:∀ x ∈ near,at? (yn_ g ps) x=some 0:=λx hx=>by
  obtain⟨j,rfl,hj,hf⟩:=h1 x hx
  obtain⟨v,hv⟩:=bf_ (l:=yn_ g ps) (i:=j) (by omega)
  rcases rs_ hv with ⟨rfl,_⟩ | ⟨rfl,hf2⟩
  ·exact ai_ hv
  ·rw[hf] at hf2;cases hf2
 have hle:∀ (i:Nat) (v:Int),(yn_ g ps)[i]?=some v→-1≤v∧v≤0:=λi v hv=>by
  rcases rs_ hv with ⟨rfl,_⟩ | ⟨rfl,_⟩<;>omega
 refine⟨hl,λi v hv=>(hle i v hv).1,λi v hv => ?_,λi k hk => ?_,λx hx=>⟨0,hg x hx,m5_ _⟩,?_,λx hx i v hv => ?_,λi l x k hl hxl hat hnn => ?_,λi v hv => ?_,by omega⟩
 ·rcases rs_ hv with ⟨rfl,h⟩ | ⟨rfl,h⟩
  ·exact⟨λ_=>h,λ_=>rfl⟩
  ·rw[h]
   exact⟨λe=>by omega,λe=>by cases e⟩
 ·have:=hle i _ hk
  omega
 ·refine List.pairwise_of_forall_mem_list (λx hx y hy => ?_)
  rw[ok_ (hg x hx),ok_ (hg y hy)]
  exact m5_ _
 ·rw[ok_ (hg x hx)]
  have:=hle i v hv
  omega
 ·obtain⟨xi,hxi,hxk⟩:=ar7 hat
  have hlt:=am_ hxk
  rcases rs_ hxk with ⟨_,hf⟩ | ⟨e,_⟩
  ·exact absurd (by rw[hxi];exact h2 xi (by omega) hf) hnn
  ·omega
 ·have:=hle i v hv
  have:=bu3 (yn_ g ps)
  omega
noncomputable def meaG (rowB:Int→List ae_→(Int×(List (List Int)×Unit))→Option ((Int×(List (List Int)×Unit))⊕(List (List Int)×Unit))) {τ:Type} (a0:ac_) (G:aw_) (K:List Int×Unit→Option τ):Option τ :=
 ((fp_ [(-1)] (G.1.length:Int)).bind λv1 =>
 ((af_ (ρ:=((List Int)×((List Int)×Unit))) (λ(v2:((List Int)×(Int×((List Int)×Unit)))) =>
 (cond (decide (v2.2.1<(G.1.length:Int)))
 ((((at? G.1 v2.2.1).bind λv3 =>
 ((lg_ a0.1 v3.1).bind λv4 =>
 (((cond (v4.2.1==0)
 (some (v4.1,()))
 (some (false,())))).bind λv5 =>
 (cond v5.1
 ((at? v2.2.2.1 v2.2.1).bind λv6 =>
 ((at? v2.2.2.1 v2.2.1).bind λv7 =>
 ((push? (α:=Int) v2.1 [v2.2.1]).bind λv8 =>
 (some (v8,((v2.2.2.1.set v2.2.1.toNat 0),()))))))
 (some (v2.1,(v2.2.2.1,())))))))).bind λv9 =>
 (some (inl (v9.1,((w64 (v2.2.1+1)),(v9.2.1,()))))))
 (some (inr (v2.1,(v2.2.2.1,())))))) ([],(0,(v1,())))).bind λv10 =>
 ((mk? (α:=(List Int)) (G.1.length:Int) []).bind λv11 =>
 ((af_ (ρ:=((List (List Int))×Unit)) (λ(v12:(Int×((List (List Int))×Unit))) =>
 (cond (decide (v12.1<(G.2.length:Int)))
 ((at? G.2 v12.1).bind λv13 =>
 ((af_ (ρ:=((List (List Int))×Unit)) (rowB v12.1 v13) (0,(v12.2.1,()))).bind λv22 =>
 (some (inl ((w64 (v12.1+1)),(v22.1,()))))))
 (some (inr (v12.2.1,()))))) (0,(v11,()))).bind λv23 =>
 ((af_ (ρ:=((List Int)×Unit)) (λ(v24:((List Int)×((List Int)×Unit))) =>
 (cond (decide (0<(v24.1.length:Int)))
 ((at? v24.1 0).bind λv25 =>
 ((at? v24.1 0).bind λv26 =>
 ((sub? v24.1 1 (v24.1.length:Int)).bind λv27 =>
 ((at? v23.1 v26).bind λv28 =>
 ((af_ (ρ:=((List Int)×((List Int)×Unit))) (λ(v29:((List Int)×(Int×((List Int)×Unit)))) =>
 (cond (decide (v29.2.1<(v28.length:Int)))
 ((((at? v28 v29.2.1).bind λv30 =>
 ((at? v29.2.2.1 v30).bind λv31 =>
 ((at? v29.2.2.1 v30).bind λv32 =>
 (cond (decide (v32<0))
 ((at? v29.2.2.1 v26).bind λv33 =>
 ((at? v29.2.2.1 v26).bind λv34 =>
 ((at? v29.2.2.1 v30).bind λv35 =>
 ((at? v29.2.2.1 v30).bind λv36 =>
 ((push? (α:=Int) v29.1 [v30]).bind λv37 =>
 (some (v37,((v29.2.2.1.set v30.toNat (w64 (v34+1))),()))))))))
 (some (v29.1,(v29.2.2.1,())))))))).bind λv38 =>
 (some (inl (v38.1,((w64 (v29.2.1+1)),(v38.2.1,()))))))
 (some (inr (v29.1,(v29.2.2.1,())))))) (v27,(0,(v24.2.1,())))).bind λv39 =>
 (some (inl (v39.1,(v39.2.1,())))))))))
 (some (inr (v24.2.1,()))))) (v10.1,(v10.2.1,()))).bind λv40 =>
 (K v40))))))
def rowE (i:Int) (row:List ae_):(Int×(List (List Int)×Unit))→Option ((Int×(List (List Int)×Unit))⊕(List (List Int)×Unit)) :=
 (λ(v14:(Int×((List (List Int))×Unit))) =>
 (cond (decide (v14.1<(row.length:Int)))
 ((((at? row v14.1).bind λv15 =>
 ((at? v14.2.1 v15.2).bind λv16 =>
 ((at? v14.2.1 v15.2).bind λv17 =>
 ((push? (α:=Int) v17 [i]).bind λv18 =>
 ((at? v14.2.1 v15.2).bind λv19 =>
 (cond ((v15.2==v15.2)&&true)
 ((at? v14.2.1 v15.2).bind λv20 =>
 (some ((v14.2.1.set v15.2.toNat v18),())))
 none))))))).bind λv21 =>
 (some (inl ((w64 (v14.1+1)),(v21.1,())))))
 (some (inr (v14.2.1,())))))
noncomputable abbrev meaK {τ:Type} (a0:ac_) (G:aw_) (K:List Int×Unit→Option τ):Option τ:=meaG rowE a0 G K
theorem bv5 (rowB:Int→List ae_→(Int×(List (List Int)×Unit))→Option ((Int×(List (List Int)×Unit))⊕(List (List Int)×Unit))) {τ:Type} (a0:ac_) (G:aw_) (K:List Int×Unit→Option τ):meaG rowB a0 G K=(meaG rowB a0 G some).bind K:=by
 unfold meaG
 simp only[Option.bind_assoc,a0_]
def esQ (Q:ae_→Bool) (es:List (List ae_)):List (List ae_):=es.map λl=>l.filter Q
theorem cv7 {Q:ae_→Bool} {es:List (List ae_)} {i:Nat} {l:List ae_} (h:es[i]?=some l):(esQ Q es)[i]?=some (l.filter Q):=by
 unfold esQ
 rw[d5_,h]
 rfl
structure RowOk (rowB:Int→List ae_→(Int×(List (List Int)×Unit))→Option ((Int×(List (List Int)×Unit))⊕(List (List Int)×Unit))) (Q:ae_→Bool):Prop where
 st:∀ (i:Int) row (k:Nat) x bk l,row[k]?=some x→at? bk x.2=some l→l.length≤2000000→k≤1000→rowB i row ((k:Int),(bk,()))=some (.inl (((k+1:Nat):Int),(cond (Q x) (bk.set x.2.toNat (l++[i])) bk,())))
 en:∀ (i:Int) row bk,rowB i row ((row.length:Int),(bk,()))=some (.inr (bk,()))
theorem cm9 {rowB} {Q:ae_→Bool} (hR:RowOk rowB Q) {g:ac_} (hg:SmG g) (h0:ct_ g=0) {ps:List aa_} {es:List (List ae_)} (hG:GI g ps es) (hes:es.length=ps.length):∃ y,meaG rowB g (ps,es) some=some y∧∃ D,y=(D,())∧(D.length=ps.length∧LC (esQ Q es) (ab7 g ps) D)∧∀ (i:Nat) (v:Int),D[i]?=some v→v≤(ps.length:Int):=by
 have ok:=dt_ h0
 have okr:=bs_ ok.room
 have hn:=hG.pI.n
 have hx:∀ l ∈ es,∀ x ∈ l,0≤x.2∧x.2<(ps.length:Int):=λl hl x hx=>(hG.eI l hl x hx).1
 have hesQ:(esQ Q es).length=es.length:=d3_ _
 have hxQ:∀ l ∈ esQ Q es,∀ x ∈ l,0≤x.2∧x.2<(ps.length:Int):=λl hl x hxl=>by
  obtain⟨l',h1,rfl⟩:=d2_.1 hl
  exact hx l' h1 x (d0_.1 hxl).1
 unfold meaG
 simp only
 rw[cf1 (by omega),a0_]
 have hfl:(yn_ g ps).length=ps.length:=d3_ _
 refine us_ ps.length (λ(i:Nat) (z:List Int×(Int×(List Int×Unit)))=>∃ near far:List Int,z=(near,((i:Int),(far,())))∧far.length=ps.length∧(∀ j:Nat,far[j]?=if j<i then (yn_ g ps)[j]? else (List.replicate ps.length (-1:Int))[j]?)∧(∀ x ∈ near,∃ j:Nat,x=(j:Int)∧j<i∧ab7 g ps j=true)∧(∀ j:Nat,j<i→ab7 g ps j=true→(j:Int) ∈ near)∧near.length+nu_ ((yn_ g ps).take i)=i)
  ⟨[],_,rfl,e8_,(λj=>by simp),(λx hx=>by cases hx),(λj hj=>by omega),rfl⟩ (λi z hi hz => ?_) (λz hz => ?_)
 ·obtain⟨near,far,rfl,hl,hj,h1,h2,h3⟩:=hz
  obtain⟨p,hp⟩:=bf_ hi
  obtain⟨v,hv⟩:=bf_ (l:=far) (i:=i) (by omega)
  have hv1:v = -1:=by
   rw[hj,if_neg (by omega),j4_,if_pos hi] at hv
   exact (a6_ hv).symm
  have hf0:(yn_ g ps)[i]?=some (cond (du_ p.1.1 g.1.2.2.2.2.2.2.2) 0 (-1)):=by
   unfold yn_
   rw[d5_,hp]
   rfl
  have hfp:=ca3 (g:=g) hp
  have hnt:=bu1 hf0
  simp only[dlt hi,a5_,ai_ hp,ai_ hv,a0_,bq2 hg.room ok.room (hG.pI.v p (bh_ hp)).st,show ((0:Int)==0)=true from rfl,c1_,bb_ (show Sm i by show _≤1000000000;omega),cv_ (show Sm near.length by show _≤1000000000;omega)]
  cases hc:du_ p.1.1 g.1.2.2.2.2.2.2.2 with
  | true =>
   rw[hc] at hf0 hfp hnt
   refine⟨_,rfl,near++[(i:Int)],far.set i 0,rfl,by rw[f6_,hl],λj => ?_,λx hx => ?_,λj hj hf => ?_,?_⟩
   ·rcases n6_ j i with hji | hji | hji
    ·rw[b7_ (by omega),hj,if_pos hji,if_pos (by omega)]
    ·subst hji
     rw[e9_ (by omega),if_pos (by omega),hf0]
     rfl
    ·rw[b7_ (by omega),hj,if_neg (by omega),if_neg (by omega)]
   ·rcases b5_.1 hx with hx | hx
    ·obtain⟨j,a,b,c⟩:=h1 x hx
     exact⟨j,a,by omega,c⟩
    ·rw[e3_] at hx
     exact⟨i,hx,by omega,hfp⟩
   ·rcases l3_ j i with hji | hji
    ·exact o4_ _ (h2 j hji hf)
    ·obtain rfl:j=i:=by omega
     exact o0_ _ (e3_.2 rfl)
   ·rw[a9_,d9_,hnt]
    show _+1+(_+if (0:Int)<0 then 1 else 0)=i+1
    rw[if_neg (by omega)]
    omega
  | false =>
   rw[hc] at hf0 hfp hnt
   refine⟨_,rfl,near,far,rfl,hl,λj => ?_,λx hx => ?_,λj hj hf => ?_,?_⟩
   ·rcases n6_ j i with hji | hji | hji
    ·rw[hj,if_pos hji,if_pos (by omega)]
    ·subst hji
     rw[hv,if_pos (by omega),hf0,hv1]
     rfl
    ·rw[hj,if_neg (by omega),if_neg (by omega)]
   ·obtain⟨j,a,b,c⟩:=h1 x hx
    exact⟨j,a,by omega,c⟩
   ·rcases l3_ j i with hji | hji
    ·exact h2 j hji hf
    ·obtain rfl:j=i:=by omega
     rw[hfp] at hf
     cases hf
   ·rw[hnt]
    show _+(_+if (-1:Int)<0 then 1 else 0)=i+1
    rw[if_pos (by omega)]
    omega
 ·obtain⟨near,far,rfl,hl,hj,h1,h2,h3⟩:=hz
  have hff:far=yn_ g ps:=f1_ λj=>by
   rw[hj]
   split
   ·rfl
   ·rw[b4_ (by rw[e8_];omega),b4_ (by omega)]
  subst hff
  rw[g6_ (by omega)] at h3
  refine⟨_,by simp only[dnl,a2_];rfl,?_⟩
  simp only
  rw[vf_ (by omega) (by omega),a0_,c1_]
  refine us_ es.length (λ(i:Nat) (z:Int×(List (List Int)×Unit))=>∃ bk,z=((i:Int),(bk,()))∧BkI (esQ Q es) ps.length i bk) ⟨_,rfl,e8_,λt l hl => ?_⟩ (λi z hi hz => ?_) (λz hz => ?_)
  ·rw[j4_] at hl
   split at hl
   ·obtain rfl:=a6_ hl
    exact⟨k4_ _,λy=>⟨(λh=>by cases h),λ⟨j,h,_⟩=>by omega⟩⟩
   ·cases hl
  ·obtain⟨bk,rfl,hb1,hb2⟩:=hz
   obtain⟨row,hrow⟩:=bf_ hi
   have hrl:=hG.eL row (bh_ hrow)
   simp only[dlt hi,a5_,ai_ hrow,a0_]
   have:=us_ (υ:=(Int×(List (List Int)×Unit))⊕(List (List Int)×Unit)) row.length (λ(k:Nat) (z:Int×(List (List Int)×Unit))=>∃ bk',z=((k:Int),(bk',()))∧bk'.length=ps.length∧∀ (t:Nat) l,bk'[t]?=some l→l.length≤i * 480+k∧∀ y:Int,y ∈ l↔((∃ j:Nat,j<i∧y=(j:Int)∧∃ row,(esQ Q es)[j]?=some row∧∃ x ∈ row,x.2=(t:Int))∨(y=(i:Int)∧∃ x ∈ (row.take k).filter Q,x.2=(t:Int))))
    (body:=rowB (i:Int) row) (z0:=(0,(bk,()))) (K:=λv22=>some (inl ((w64 ((i:Int)+1)),(v22.1,())))) (Q:=λy=>∃ z',y=inl z'∧∃ bk,z'=(((i+1:Nat):Int),(bk,()))∧BkI (esQ Q es) ps.length (i+1) bk)
    ⟨bk,rfl,hb1,λt l hl=>⟨(hb2 t l hl).1,λy=>by
     rw[(hb2 t l hl).2 y,k5_,List.filter_nil]
     exact⟨.inl,λh=>h.elim id λ⟨_,x,h,_⟩=>(by cases h)⟩⟩⟩ (λk z hk hz => ?_) (λz hz => ?_)
   ·obtain⟨y,ey,z',rfl,bk2,rfl,hB⟩:=this
    exact⟨_,ey,bk2,rfl,hB⟩
   ·obtain⟨bk',rfl,hb3,hb4⟩:=hz
    obtain⟨x,hxk⟩:=bf_ hk
    obtain⟨x0,x1⟩:=hx row (bh_ hrow) x (bh_ hxk)
    obtain⟨l,hl⟩:=bf_ (l:=bk') (i:=x.2.toNat) (by omega)
    have hat:at? bk' x.2=some l:=by rw[show x.2=((x.2.toNat:Nat):Int) by omega];exact ai_ hl
    obtain⟨q1,q2⟩:=hb4 _ l hl
    refine⟨_,hR.st (i:Int) row k x bk' l hxk hat (by omega) (by omega),_,rfl,by cases Q x<;>simp[hb3],λt l' hl' => ?_⟩
    have htk:∀ y:Int,(∃ e ∈ (row.take (k+1)).filter Q,e.2=y)↔((∃ e ∈ (row.take k).filter Q,e.2=y)∨(Q x=true∧x.2=y)):=λy=>by
     rw[d6_,hxk,n1_]
     constructor
     ·rintro⟨e,he,h⟩
      rcases b5_.1 he with he | he
      ·exact .inl ⟨e,he,h⟩
      ·have h2:=d0_.1 he
       have:e=x:=by simpa using h2.1
       rw[this] at h h2
       exact .inr ⟨h2.2,h⟩
     ·rintro (⟨e,he,h⟩ | ⟨hq,h⟩)
      ·exact⟨e,o4_ _ he,h⟩
      ·exact⟨x,o0_ _ (d0_.2 ⟨by simp,hq⟩),h⟩
    have skip:∀ l',bk'[t]?=some l'→(Q x=true→x.2≠(t:Int))→l'.length≤i * 480+(k+1)∧∀ y:Int,y ∈ l'↔((∃ j:Nat,j<i∧y=(j:Int)∧∃ row,(esQ Q es)[j]?=some row∧∃ x ∈ row,x.2=(t:Int))∨(y=(i:Int)∧∃ x ∈ (row.take (k+1)).filter Q,x.2=(t:Int))):=λl' hl' hne=>by
     obtain⟨r1,r2⟩:=hb4 t l' hl'
     refine⟨by omega,λy => ?_⟩
     rw[r2 y,htk]
     constructor
     ·rintro (h | ⟨h,h'⟩)
      ·exact .inl h
      ·exact .inr ⟨h,.inl h'⟩
     ·rintro (h | ⟨h,h' | ⟨h1,h2⟩⟩)
      ·exact .inl h
      ·exact .inr ⟨h,h'⟩
      ·exact absurd h2 (hne h1)
    cases hQ:Q x with
    | false =>
     rw[hQ] at hl'
     exact skip l' hl' (λe=>by rw[hQ] at e;cases e)
    | true =>
     rw[hQ,a5_] at hl'
     by_cases ht:x.2.toNat=t
     ·rw[ht,e9_ (by omega)] at hl'
      obtain rfl:=a6_ hl'
      rw[ht] at q2
      have hxt:x.2=(t:Int):=by omega
      refine⟨by rw[a9_,d9_];omega,λy => ?_⟩
      rw[b5_,e3_,q2 y,htk]
      constructor
      ·rintro ((h | ⟨h,h'⟩) | h)
       ·exact .inl h
       ·exact .inr ⟨h,.inl h'⟩
       ·exact .inr ⟨h,.inr ⟨hQ,hxt⟩⟩
      ·rintro (h | ⟨h,h' | h'⟩)
       ·exact .inl (.inl h)
       ·exact .inl (.inr ⟨h,h'⟩)
       ·exact .inr h
     ·rw[b7_ ht] at hl'
      exact skip l' hl' (λ_=>by omega)
   ·obtain⟨bk',rfl,hb3,hb4⟩:=hz
    refine⟨_,hR.en (i:Int) row bk',_,rfl,_,rfl,bk',by simp only[bb_ (show Sm i by show _≤1000000000;omega)],hb3,λt l hl => ?_⟩
    obtain⟨r1,r2⟩:=hb4 t l hl
    refine⟨by omega,λy => ?_⟩
    rw[r2 y,e1_]
    constructor
    ·rintro (⟨j,a,b⟩ | ⟨h,h'⟩)
     ·exact⟨j,by omega,b⟩
     ·exact⟨i,by omega,h,_,cv7 hrow,h'⟩
    ·rintro⟨j,a,b,row',c,d⟩
     rcases l3_ j i with hji | hji
     ·exact .inl ⟨j,hji,b,row',c,d⟩
     ·obtain rfl:j=i:=by omega
      rw[cv7 hrow] at c
      obtain rfl:=a6_ c
      exact .inr ⟨b,d⟩
  ·obtain⟨bk,rfl,hB⟩:=hz
   rw[← hesQ] at hB
   refine⟨_,by simp only[dnl,a2_];rfl,?_⟩
   simp only
   refine bl3 (λnear far=>BI (esQ Q es) (ab7 g ps) ps.length near far) (λnear far=>near.length+nu_ far) (λh tl far I => ?_) (λfar I => ?_) (cr6 h1 h2 h3)
   rotate_left
   ·exact⟨_,rfl,_,rfl,far,rfl,⟨I.len,BI_end I⟩,λi v h=>by have:=I.bd i v h;omega⟩
   obtain⟨d,hd,hd0⟩:=I.nr h (f0_ ..)
   obtain⟨hi,hhi,hdi⟩:=ar7 hd
   have hlt:=am_ hdi
   have hIl:=I.len
   have hIm:=I.ms
   have hIb:=I.bd hi d hdi
   obtain⟨bs,hbs⟩:=bf_ (l:=bk) (i:=hi) (by have:=hB.1;omega)
   have hbsl:=(hB.2 hi bs hbs).1
   rw[hesQ] at hbsl
   have hbe:=BkI_all hB hbs
   have hatb:at? bk h=some bs:=by rw[hhi];exact ai_ hbs
   have hat0:at? (h::tl) 0=some h:=rfl
   have hsub:sub? (h::tl) 1 ((h::tl).length:Int)=some tl:=by
    unfold sub?
    rw[if_pos ⟨by omega,by rw[c4_];omega,m5_ _⟩,c1_,e1_]
    rfl
   simp only[show decide ((0:Int)<((h::tl).length:Int))=true from b9_ (by rw[c4_];omega),a5_,hat0,hsub,hatb,a0_]
   refine us_ bs.length (λ(k:Nat) (z:List Int×(Int×(List Int×Unit)))=>∃ pu far',z=(tl++pu,((k:Int),(far',())))∧AI bs d far k pu far') ⟨[],far,by rw[e7_];rfl,cr7 bs d far⟩ (λk z hk hz => ?_) (λz hz => ?_)
   ·obtain⟨pu,far',rfl,A⟩:=hz
    obtain⟨y,hy⟩:=bf_ hk
    obtain⟨j,hj2,row,hrow,x,hxr,hxe⟩:=(hbe y).1 (bh_ hy)
    have hrow':=am_ hrow
    rw[hesQ] at hrow'
    have hAl:=A.len
    have hAm:=A.ms
    obtain⟨v,hv⟩:=bf_ (l:=far') (i:=j) (by omega)
    have hvy:at? far' y=some v:=by rw[hj2];exact ai_ hv
    have hdh:at? far' h=some d:=by rw[hhi];exact ai_ (A.keep hi d hdi hd0)
    rw[c4_] at hIm
    by_cases hv0:v<0
    ·refine⟨_,?_,pu++[y],_,rfl,AI_add hd0 A hy hvy hv0⟩
     simp only[dlt hk,a5_,ai_ hy,hvy,hdh,a0_,b9_ hv0,cv_ (show Sm (tl++pu).length by rw[a9_];show _≤1000000000;omega),bb_ (show Sm k by show _≤1000000000;omega),b3_,hd_ (n:=d+1) (by omega) (by omega)]
    ·refine⟨_,?_,pu,far',rfl,AI_skip A hy hvy (by omega)⟩
     simp only[dlt hk,a5_,ai_ hy,hvy,a0_,c2_ hv0,a2_,bb_ (show Sm k by show _≤1000000000;omega)]
   ·obtain⟨pu,far',rfl,A⟩:=hz
    refine⟨_,by simp only[dnl,a2_];rfl,_,rfl,_,_,rfl,BI_step (by rw[hesQ,hes]) hxQ I hd (λy=>by rw[hhi];exact hbe y) A,?_⟩
    have:=A.ms
    show (tl++pu).length+nu_ far'<(h::tl).length+nu_ far
    rw[a9_,c4_]
    omega
theorem meaG_eq {rowB} {Q:ae_→Bool} (hR:RowOk rowB Q) {g:ac_} (hg:SmG g) (h0:ct_ g=0) {ps:List aa_} {es:List (List ae_)} (hG:GI g ps es) (hes:es.length=ps.length):∃ D,(D.length=ps.length∧LC (esQ Q es) (ab7 g ps) D)∧(∀ (i:Nat) (v:Int),D[i]?=some v→v≤(ps.length:Int))∧∀ {τ:Type} (K:List Int×Unit→Option τ),meaG rowB g (ps,es) K=K (D,()):=by
 obtain⟨y,e,D,rfl,h,hb⟩:=cm9 hR hg h0 hG hes
 refine⟨D,h,hb,λK => ?_⟩
 rw[bv5,e,a0_]
theorem rowE_ok:RowOk rowE (λ_=>true):=by
 refine⟨λi row k x bk l hx hl h1 h2 => ?_,λi row bk => ?_⟩
 ·unfold rowE
  simp only[dlt (am_ hx),a5_,ai_ hx,a0_,hl,cv_ (show Sm l.length by show _≤1000000000;omega),d4_,h1_,bb_ (show Sm k by show _≤1000000000;omega)]
 ·unfold rowE
  simp only[dnl,a2_]
theorem cp4 (es:List (List ae_)):esQ (λ_=>true) es=es:=by
 unfold esQ
 refine e5_ (m2_ λl hl => ?_) (List.map_id _)
 exact m4_.2 λx hx=>rfl
theorem mea_eq {g:ac_} (hg:SmG g) (h0:ct_ g=0) {ps:List aa_} {es:List (List ae_)} (hG:GI g ps es) (hes:es.length=ps.length):∃ D,(D.length=ps.length∧LC es (ab7 g ps) D)∧(∀ (i:Nat) (v:Int),D[i]?=some v→v≤(ps.length:Int))∧∀ {τ:Type} (K:List Int×Unit→Option τ),meaK g (ps,es) K=K (D,()):=by
 have:=meaG_eq rowE_ok hg h0 hG hes
 rw[cp4] at this
 exact this
end
section
set_option maxRecDepth 10000
theorem aw9 (g:ac_):∃ b,ko_ g=some (b,())∧(b=false→SmG g):=by
  obtain⟨b,e,hb⟩:=bx0 g
  unfold ko_
  rw[e,a0_]
  cases b with
  | true=>exact⟨true,by simp only[a5_,a0_,e],λh=>by cases h⟩
  | false =>
  have hg:=hb rfl
  simp only[a2_]
  rw[xj_ hg,a0_,a0_]
  cases hc:ct_ g != 0 with
  | true=>exact⟨false,by simp only[a5_,e,a0_],λ_=>hg⟩
  | false =>
  simp only[a2_]
  have key:∀ c:Bool,∃ b,(((some (c,()):Option (Bool×Unit))).bind λv4 =>
 (cond v4.1
 (some (true,()))
 ((ds_ g).bind λv5 =>
 (cond (v5.2.1==2)
 (some (true,()))
 (some ((decide (200<(v5.1.1.length:Int))),()))))))=some (b,())∧(b=false→SmG g):=λc=>by
    rw[a0_,nq_ hg,a0_]
    cases c with
    | true=>exact⟨true,rfl,λ_=>hg⟩
    | false =>
      cases hE:(exG g).2.1==2 with
      | true=>exact⟨true,by simp only[a2_,hE,a5_],λ_=>hg⟩
      | false=>exact⟨_,by simp only[a2_,hE];rfl,λ_=>hg⟩
  have one:∀ (c:Bool) (o:Option (Bool×Unit)),(∃ d,o=some (d,()))→∃ d,cond c (some (true,())) o=some (d,()):=λc o h=>by
    cases c with
    | true=>exact⟨true,rfl⟩
    | false=>exact h
  obtain⟨d,hd⟩:=one (decide (4<(g.1.1.length:Int))) _ (one (decide (4<(g.1.2.1.length:Int))) _ (one (decide (3<(g.1.2.2.1.length:Int))) _ (one (decide (2<g.1.2.2.2.2.2.2.1)) _ (one (decide (6<(g.1.2.2.2.2.1.length:Int))) _ (one (decide (4<(g.1.2.2.2.2.2.1.length:Int))) _ (one (decide (5<(g.2.2.2.1.length:Int))) _ ⟨decide (3<(g.2.1.length:Int)),rfl⟩))))))
  rw[hd]
  exact key d
end
section
set_option maxRecDepth 10000
def shp (es:List (List ae_)) (D:List Int):Nat→Int→List ah_
 | 0,_=>[]
 | k+1,i=>match ((at? es i).getD []).find? (λx=>gi D x.2==(k:Int)) with
  | none=>[]
  | some x=>x.1::shp es D k x.2
def g0:ac_:=(([[104,97,108,108],[118,97,117,108,116]],([([98,111,120],(0,(2,0))),([100,111,111,114],(0,(2,0)))],([([107,101,121],(0,[(0,(1,false))]))],([(0,(1,[(1,(1,false))]))],([([111,112,101,110],(0,(0,([],([],([(0,1)],([],[]))))))),([116,117,114,110],(0,((-1),([0],([],([(1,1)],([0],[])))))))],([],(1,[(1,(1,false))]))))))),([(2,4)],([[3,1]],([([108,101,97,102],(0,(0,([],(2,(0,(1,(4,(0,([],false)))))))))),([98,97,99,107],(0,(0,([(0,(0,false))],(3,(1,(0,(0,(0,([],false)))))))))),([99,97,114,100],(1,((-1),([],(0,(0,(0,(0,(0,([],false))))))))))],1))))
end
section
set_option maxRecDepth 100000
def G0:aw_:=([(([0,0],([0],[0])),[true,true,false]),(([1,0],([0],[0])),[true,true,false]),(([1,0],([-2],[0])),[true,true,false]),(([1,1],([-1],[0])),[true,true,false]),(([1,1],([-1],[1])),[true,true,true]),(([1,1],([-1],[0])),[true,true,true])],
 [[((0,(4,0)),1)],[((0,(2,0)),2),((0,(4,0)),1)],[((0,(3,0)),1),((0,(4,0)),2),((0,(4,1)),3)],[((0,(1,0)),4),((0,(4,0)),3)],[((0,(1,0)),5)],[((0,(1,0)),4),((0,(4,0)),5)]])
def D0:List Int:=[3,2,1,0,0,0]
end
section
set_option maxRecDepth 10000
theorem af4 {g:ac_} (hg:SmG g):ih_ g=some (exG g):=by
 unfold ih_
 rw[sm_ hg,a0_]
theorem dist_eq:ek_=λa0=>(ej_ a0).bind λv0=>cond (v0.2.1 != 0) (cond (v0.2.1 != 0) (some ([],(v0.2.1,()))) none) (meaK a0 v0.1 λv40=>some (v40.1,(0,()))):=by
 kernel_rfl
theorem xn_ {g:ac_} (hg:SmG g):∃ D,ek_ g=some (D,((exG g).2.1,()))∧(((exG g).2.1≠0∧D=[])∨((exG g).2.1=0∧D.length=(exG g).1.1.length∧LC (exG g).1.2 (ab7 g (exG g).1.1) D)):=by
 rw[dist_eq]
 simp only
 rw[sm_ hg,a0_]
 cases hE:(exG g).2.1 != 0 with
 | true =>
  rw[n4_] at hE
  exact⟨[],rfl,.inl ⟨hE,rfl⟩⟩
 | false =>
 have hE:(exG g).2.1=0:=by simpa using hE
 obtain⟨h0,hG,hes⟩:=bf1 hg hE
 obtain⟨D,h1,_,h2⟩:=mea_eq hg h0 hG hes
 refine⟨D,?_,.inr ⟨hE,h1⟩⟩
 simp only[a2_]
 rw[show (exG g).1=((exG g).1.1,(exG g).1.2) from rfl,h2,hE]
theorem xi_ {g:ac_} (hg:SmG g):∃ D,ei_ g=some (D,((exG g).2.1,()))∧(((exG g).2.1≠0∧D=[])∨((exG g).2.1=0∧D.length=(exG g).1.1.length∧LC (exG g).1.2 (ab7 g (exG g).1.1) D)):=by
 unfold ei_
 rw[nq_ hg,a0_]
 cases hE:(exG g).2.1 != 0 with
 | true =>
  rw[n4_] at hE
  exact⟨[],rfl,.inl ⟨hE,rfl⟩⟩
 | false =>
 have hE:(exG g).2.1=0:=by simpa using hE
 obtain⟨h0,hG,hes⟩:=bf1 hg hE
 obtain⟨D,e,h1,h2⟩:=xh_ hg h0 hG hes
 refine⟨D,?_,.inr ⟨hE,h1,h2⟩⟩
 simp only[a2_]
 rw[show (exG g).1=((exG g).1.1,(exG g).1.2) from rfl,e,a0_,hE]
theorem zs_ {g:ac_} (hg:SmG g):∃ D,ek_ g=some (D,((exG g).2.1,()))∧ei_ g=some (D,((exG g).2.1,()))∧D.length≤3000:=by
 obtain⟨D,e1,h1⟩:=xn_ hg
 obtain⟨D',e2,h2⟩:=xi_ hg
 rcases h1 with ⟨n1,rfl⟩ | ⟨z1,l1,c1⟩
 ·rcases h2 with ⟨n2,rfl⟩ | ⟨z2,l2,c2⟩
  ·exact⟨[],e1,e2,k4_ _⟩
  ·exact absurd z2 n1
 ·rcases h2 with ⟨n2,rfl⟩ | ⟨z2,l2,c2⟩
  ·exact absurd z1 n2
  ·obtain rfl:=LC_uniq c1 c2 (by omega)
   exact⟨D,e1,e2,by have:=(bf1 hg z1).2.1.pI.n;omega⟩
end
end Go.Proofs.YtgeehfnbhbibeaaGreatDoor.Rx
namespace Go.Proofs.YtgeehfnbhbibeaaGreatDoor.Pad
open Go
section
def Le {α:Type} (x y:Option α):Prop:=∀ r,x=some r→y=some r
namespace Le
theorem refl {α:Type} (x:Option α):Le x x:=λ_ h=>h
theorem bind {α β:Type} {x y:Option α} {f g:α→Option β} (h:Le x y) (k:∀ a,Le (f a) (g a)):Le (x.bind f) (y.bind g):=by
 intro r hr
 cases x with
 | none=>cases hr
 | some a=>rw[h a rfl];exact k a r hr
theorem forS {σ:Type} {f g:Nat→σ→Option σ} (h:∀ i s,Le (f i s) (g i s)):∀ (k i:Nat) (s:σ),Le (Go.Proofs.YtgeehfnbhbibeaaGreatDoor.Pad.forS f k i s) (Go.Proofs.YtgeehfnbhbibeaaGreatDoor.Pad.forS g k i s)
 | 0,_,_=>refl _
 | k+1,i,s=>by
  intro r hr
  simp only[Go.Proofs.YtgeehfnbhbibeaaGreatDoor.Pad.forS] at hr ⊢
  cases hf:f i s with
  | none=>rw[hf] at hr;cases hr
  | some s'=>rw[hf] at hr;rw[h i s s' hf];exact forS h k (i+1) s' r hr
theorem forN {σ ρ:Type} {f g:Nat→σ→Option (σ⊕ρ)} (h:∀ i s,Le (f i s) (g i s)):∀ (k i:Nat) (s:σ),Le (Go.Proofs.YtgeehfnbhbibeaaGreatDoor.Pad.forN f k i s) (Go.Proofs.YtgeehfnbhbibeaaGreatDoor.Pad.forN g k i s)
 | 0,_,_=>refl _
 | k+1,i,s=>by
  intro r hr
  simp only[Go.Proofs.YtgeehfnbhbibeaaGreatDoor.Pad.forN] at hr ⊢
  cases hf:f i s with
  | none=>rw[hf] at hr;cases hr
  | some o =>
   rw[hf] at hr;rw[h i s o hf]
   cases o with
   | inl s'=>exact forN h k (i+1) s' r hr
   | inr r'=>exact hr
theorem while_ {σ ρ:Type} {f g:σ→Option (σ⊕ρ)} (h:∀ s,Le (f s) (g s)) (k:Nat) (s:σ):Le (fk_ f k s) (af_ g s):=by
 intro r hr
 refine ho_.2 ⟨k,?_⟩
 induction k generalizing s with
 | zero=>simp[fk_] at hr
 | succ k ih =>
  unfold fk_ at hr ⊢
  cases hf:f s with
  | none=>rw[hf] at hr;cases hr
  | some o =>
   rw[hf] at hr;rw[h s o hf]
   cases o with
   | inl s'=>exact ih s' hr
   | inr r'=>exact hr
end Le
end
end Go.Proofs.YtgeehfnbhbibeaaGreatDoor.Pad
