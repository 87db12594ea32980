/- A part of the proof: what the functions of the program compute, shown over the model. -/
import Derived.KernelRfl
import Derived.Test.YtmdlefagpcmllaaGreatDoorPart4
set_option linter.unusedSectionVars false
set_option linter.unusedVariables false
set_option linter.unusedSimpArgs false
namespace Go.Proofs.YtmdlefagpcmllaaGreatDoor.Rx
open Go Pad Rex Go.Proofs
section
set_option maxRecDepth 100000
set_option maxHeartbeats 0
def an_7:An:=(.p .z (.p .z (.p (.j0 [.v 14 .bool] .z .z) (.p (.j0 [.v 61 .bool] .z .z) .z))))
noncomputable def cs_7:List (Con Tryz.prog):=[c_21,c_22,c_23]
noncomputable def cl_7:List (Cpy Tryz.prog):=[]
noncomputable def cx_7:Cx Tryz.prog:=cxC cs_7 cl_7
noncomputable def je_ (a0:ac_):Option (Bool×Unit) :=
 ((((kc_ a0).bind fun v0 =>
 (cond v0.1
 (some (true,()))
 ((hc_ a0).bind fun v1 =>
 (some ((v1.1 != 0),())))))).bind fun v2 =>
 (cond v2.1
 ((kc_ a0).bind fun v3 =>
 (some (v3.1,())))
 (((cond (decide (4<(a0.1.1.length:Int)))
 (some (true,()))
 (cond (decide (4<(a0.1.2.1.length:Int)))
 (some (true,()))
 (cond (decide (3<(a0.1.2.2.1.length:Int)))
 (some (true,()))
 (cond (decide (2<a0.1.2.2.2.2.2.2.1))
 (some (true,()))
 (cond (decide (6<(a0.1.2.2.2.2.1.length:Int)))
 (some (true,()))
 (cond (decide (4<(a0.1.2.2.2.2.2.1.length:Int)))
 (some (true,()))
 (cond (decide (5<(a0.2.2.2.1.length:Int)))
 (some (true,()))
 (some ((decide (3<(a0.2.1.length:Int))),())))))))))).bind fun v4 =>
 (cond v4.1
 (some (true,()))
 ((du_ a0).bind fun v5 =>
 (cond (v5.2.1==2)
 (some (true,()))
 (some ((decide (200<(v5.1.1.length:Int))),()))))))))
theorem x_7:au_ cx_7 an_7 7 [ao_] [.bool]=fun x=>je_ x.1:=by kernel_rfl
noncomputable def c_7:Con Tryz.prog:=aw_ _ _ 7 [ao_] [.bool] _ x_7
def an_25:An:=.z
def at_25:FuncId→An:=fun k=>cond (Nat.beq k 27) (.p .z (.p .z (.p .z (.p (.p .z (.lp [.r 8 .int 3,.v 33 .int] [.r 8 .int 3] [.o (.s 27) .int] 0 (.p .z (.p .z (.j0 [.r 8 .int 3,.o (.s 27) .int] (.p .z (.p .z (.j0 [.v 50 .bool] .z .z))) .z))))) (.p .z (.p (.p .z (.lp [.v 69 .int] [] [.g (.s 13) (.list .int)] 2 (.p .z (.p .z (.p (.p .z (.p .z (.lp [.v 76 .int] [] [.g (.s 13) (.list .int)] 4 (.p .z (.p .z (.j0 [.g (.s 13) (.list .int)] .z .z)))))) .z))))) (.q [(.s 13)] (.lp [.r 8 .int 3] [] [.o (.s 27) .int] 6 (.p .z (.p .z (.p .z (.p .z (.lp [.r 8 .int 3,.v 110 .int] [.r 8 .int 3] [.o (.s 27) .int] 8 (.p .z (.p .z (.j0 [.r 8 .int 3,.o (.s 27) .int] .z .z))))))))) .z))))))) (cond (Nat.beq k 34) (.p .z (.p (.p .z (.lp [.a 3 .int 3] [] [.b (.s 2) [.row ar_ 71]] 0 (.p .z (.j0 [.o (.s 3) .int,.b (.s 2) [.row ar_ 71]] (.p .z (.rf [2,3] .z .z)) .z)))) .z)) (cond (Nat.beq k 117) (.p .z (.ls [.v 15 .int] [] [.o (.y (.s 0) 3) .int,.y (.s 0),.b (.y (.s 0) 2) [.row ar_ 71]] 0 (.p .z (.p .z (.p (.p .z (.p (.sp 38 41) .z)) .z))))) (.z)))
noncomputable def cs_25:List (Con Tryz.prog):=[c_32,c_64,c_66]
noncomputable def cl_25:List (Cpy Tryz.prog):=[]
noncomputable def cx_25:Cx Tryz.prog:=cxI at_25 (fun k=>Nat.beq k 32||Nat.beq k 64||Nat.beq k 65||Nat.beq k 66||false) (cxR [rp_65] cs_25 cl_25) 8
noncomputable def fo_ (a0:ac_):Option ((List ag_)×Int×Unit) :=
 ((dv_ a0).bind fun v0 =>
 (cond (v0.2.1 != 0)
 (cond (v0.2.1 != 0)
 (some ([],(v0.2.1,())))
 none)
 ((eu_ [(-1)] (v0.1.1.length:Int)).bind fun v1 =>
 ((af_ (ρ:=((List Int)×((List Int)×Unit))) (fun (v2:((List Int)×(Int×((List Int)×Unit)))) =>
 (cond (decide (v2.2.1<(v0.1.1.length:Int)))
 ((((at? v0.1.1 v2.2.1).bind fun v3 =>
 ((jy_ a0.1 v3.1).bind fun v4 =>
 (((cond (v4.2.1==0)
 (some (v4.1,()))
 (some (false,())))).bind fun v5 =>
 (cond v5.1
 ((at? v2.2.2.1 v2.2.1).bind fun v6 =>
 ((at? v2.2.2.1 v2.2.1).bind fun v7 =>
 ((push? (α:=Int) v2.1 [v2.2.1]).bind fun v8 =>
 (some (v8,((v2.2.2.1.set v2.2.1.toNat 0),()))))))
 (some (v2.1,(v2.2.2.1,())))))))).bind fun v9 =>
 (some (Sum.inl (v9.1,((w64 (v2.2.1+1)),(v9.2.1,()))))))
 (some (Sum.inr (v2.1,(v2.2.2.1,())))))) ([],(0,(v1,())))).bind fun v10 =>
 ((mk? (α:=(List Int)) (v0.1.1.length:Int) []).bind fun v11 =>
 ((af_ (ρ:=((List (List Int))×Unit)) (fun (v12:(Int×((List (List Int))×Unit))) =>
 (cond (decide (v12.1<(v0.1.2.length:Int)))
 ((at? v0.1.2 v12.1).bind fun v13 =>
 ((af_ (ρ:=((List (List Int))×Unit)) (fun (v14:(Int×((List (List Int))×Unit))) =>
 (cond (decide (v14.1<(v13.length:Int)))
 ((((at? v13 v14.1).bind fun v15 =>
 ((at? v14.2.1 v15.2).bind fun v16 =>
 ((at? v14.2.1 v15.2).bind fun v17 =>
 ((push? (α:=Int) v17 [v12.1]).bind fun v18 =>
 ((at? v14.2.1 v15.2).bind fun v19 =>
 (cond ((v15.2==v15.2)&&true)
 ((at? v14.2.1 v15.2).bind fun v20 =>
 (some ((v14.2.1.set v15.2.toNat v18),())))
 none))))))).bind fun v21 =>
 (some (Sum.inl ((w64 (v14.1+1)),(v21.1,())))))
 (some (Sum.inr (v14.2.1,()))))) (0,(v12.2.1,()))).bind fun v22 =>
 (some (Sum.inl ((w64 (v12.1+1)),(v22.1,()))))))
 (some (Sum.inr (v12.2.1,()))))) (0,(v11,()))).bind fun v23 =>
 ((af_ (ρ:=((List Int)×Unit)) (fun (v24:((List Int)×((List Int)×Unit))) =>
 (cond (decide (0<(v24.1.length:Int)))
 ((at? v24.1 0).bind fun v25 =>
 ((at? v24.1 0).bind fun v26 =>
 ((sub? v24.1 1 (v24.1.length:Int)).bind fun v27 =>
 ((at? v23.1 v26).bind fun v28 =>
 ((af_ (ρ:=((List Int)×((List Int)×Unit))) (fun (v29:((List Int)×(Int×((List Int)×Unit)))) =>
 (cond (decide (v29.2.1<(v28.length:Int)))
 ((((at? v28 v29.2.1).bind fun v30 =>
 ((at? v29.2.2.1 v30).bind fun v31 =>
 ((at? v29.2.2.1 v30).bind fun v32 =>
 (cond (decide (v32<0))
 ((at? v29.2.2.1 v26).bind fun v33 =>
 ((at? v29.2.2.1 v26).bind fun v34 =>
 ((at? v29.2.2.1 v30).bind fun v35 =>
 ((at? v29.2.2.1 v30).bind fun v36 =>
 ((push? (α:=Int) v29.1 [v30]).bind fun v37 =>
 (some (v37,((v29.2.2.1.set v30.toNat (w64 (v34+1))),()))))))))
 (some (v29.1,(v29.2.2.1,())))))))).bind fun v38 =>
 (some (Sum.inl (v38.1,((w64 (v29.2.1+1)),(v38.2.1,()))))))
 (some (Sum.inr (v29.1,(v29.2.2.1,())))))) (v27,(0,(v24.2.1,())))).bind fun v39 =>
 (some (Sum.inl (v39.1,(v39.2.1,())))))))))
 (some (Sum.inr (v24.2.1,()))))) (v10.1,(v10.2.1,()))).bind fun v40 =>
 ((at? v40.1 0).bind fun v41 =>
 ((at? v40.1 0).bind fun v42 =>
 (cond (decide (v42<0))
 (some ([],(50,())))
 ((af_ (ρ:=(((List ag_)×Unit)×Unit)) (fun (v43:(Int×(((List ag_)×Unit)×Unit))) =>
 ((at? v40.1 v43.1).bind fun v44 =>
 ((at? v40.1 v43.1).bind fun v45 =>
 (cond (decide (0<v45))
 ((((at? v0.1.2 v43.1).bind fun v46 =>
 ((af_ (ρ:=(((List Int)×(Unit×(((List ag_)×Unit)×Unit)))⊕((List Int)×(((List ag_)×Unit)×Unit)))) (fun (v47:(Int×((List Int)×(Unit×(((List ag_)×Unit)×Unit))))) =>
 (cond (decide (v47.1<(v46.length:Int)))
 ((at? v46 v47.1).bind fun v48 =>
 ((at? v40.1 v48.2).bind fun v49 =>
 ((at? v40.1 v48.2).bind fun v50 =>
 ((at? v40.1 v43.1).bind fun v51 =>
 ((at? v40.1 v43.1).bind fun v52 =>
 (cond (v50==(w64 (v52 - 1)))
 ((at? v40.1 v43.1).bind fun v53 =>
 ((at? v40.1 v43.1).bind fun v54 =>
 (cond (decide (0<v54))
 ((push? (α:=ag_) v47.2.2.2.1.1 [v48.1]).bind fun v55 =>
 ((at? v47.2.1 0).bind fun v56 =>
 (some (Sum.inr (Sum.inr ((v47.2.1.set (0:Int).toNat v48.2),((v55,()),())))))))
 (some (Sum.inl ((w64 (v47.1+1)),(v47.2.1,((),((v47.2.2.2.1.1,()),())))))))))
 (some (Sum.inl ((w64 (v47.1+1)),(v47.2.1,((),((v47.2.2.2.1.1,()),()))))))))))))
 (some (Sum.inr (Sum.inl (v47.2.1,((),((v47.2.2.2.1.1,()),())))))))) (0,([v43.1],((),((v43.2.1.1,()),()))))).bind fun v57 =>
 (ca_ v57 (fun v58=>(some (v58.1,((v58.2.2.1.1,()),()))))
 (fun v59=>(some v59)))))).bind fun v60 =>
 ((at? v60.1 0).bind fun v61 =>
 (some (Sum.inl (v61,((v60.2.1.1,()),()))))))
 (some (Sum.inr ((v43.2.1.1,()),()))))))) (0,(([],()),()))).bind fun v62 =>
 (some (v62.1.1,(0,()))))))))))))))
theorem x_25:au_ cx_25 an_25 25 [ao_] [(.list ar_),.int]=fun x=>fo_ x.1:=by kernel_rfl
noncomputable def c_25:Con Tryz.prog:=aw_ _ _ 25 [ao_] [(.list ar_),.int] _ x_25
def an_16:An:=(.p .z (.p .z (.p .z (.p .z (.p (.p .z (.lp [.r 4 .int 3,.v 21 .int] [.r 4 .int 3] [] 0 (.p .z (.p .z (.j0 [.r 4 .int 3] .z .z))))) .z)))))
def at_16:FuncId→An:=fun k=>cond (Nat.beq k 36) (.p .z (.p (.p .z (.lp [.r 5 .int 3,.v 8 .int] [.r 5 .int 3] [] 0 (.p .z (.p .z (.j0 [.r 5 .int 3] .z .z))))) .z)) (cond (Nat.beq k 37) (.p .z (.j0 [.v 4 .bool] .z .z)) (cond (Nat.beq k 39) (.p .z (.j0 [.v 4 .bool] .z .z)) (cond (Nat.beq k 42) (.p .z (.j0 [.v 4 .bool] .z .z)) (cond (Nat.beq k 77) (.p .z (.p (.p .z (.ls [.v 8 .int] [] [] 0 .z)) .z)) (cond (Nat.beq k 78) (.p .z (.p (.p .z (.ls [.v 8 .int] [] [] 0 .z)) .z)) (cond (Nat.beq k 79) (.p .z (.p (.p .z (.ls [.v 8 .int] [] [] 0 .z)) .z)) (.z)))))))
noncomputable def cs_16:List (Con Tryz.prog):=[c_32,c_41]
noncomputable def cl_16:List (Cpy Tryz.prog):=[]
noncomputable def cx_16:Cx Tryz.prog:=cxI at_16 (fun k=>Nat.beq k 32||Nat.beq k 41||false) (cxC cs_16 cl_16) 11
noncomputable def ky_ (a0:ac_):Option ((List Int)×(List Int)×(List Int)×Int×Unit) :=
 ((dv_ a0).bind fun v0 =>
 (cond (v0.2.1 != 0)
 (some ([],([],([],(v0.2.1,())))))
 ((af_ (ρ:=((List Int)×Unit)) (fun (v1:((List Int)×(Int×Unit))) =>
 (cond (decide (v1.2.1<(a0.2.2.2.1.length:Int)))
 ((((((af_ (ρ:=(Unit⊕(Bool×Unit))) (fun (v2:(Int×Unit)) =>
 (cond (decide (v2.1<(v0.1.1.length:Int)))
 ((at? v0.1.1 v2.1).bind fun v3 =>
 ((at? v3.2 v1.2.1).bind fun v4 =>
 (cond v4
 (some (Sum.inr (Sum.inr ((decide (0≤v2.1)),()))))
 (some (Sum.inl ((w64 (v2.1+1)),()))))))
 (some (Sum.inr (Sum.inl ()))))) (0,())).bind fun v5 =>
 (ca_ v5 (fun v6=>(some ((decide (0≤(-1))),())))
 (fun v7=>(some v7))))).bind fun v8 =>
 (cond (!v8.1)
 ((push? (α:=Int) v1.1 [v1.2.1]).bind fun v9 =>
 (some (v9,())))
 (some (v1.1,()))))).bind fun v10 =>
 (some (Sum.inl (v10.1,((w64 (v1.2.1+1)),())))))
 (some (Sum.inr (v1.1,()))))) ([],(0,()))).bind fun v11 =>
 ((af_ (ρ:=((List Int)×Unit)) (fun (v12:((List Int)×(Int×Unit))) =>
 (cond (decide (v12.2.1<(a0.1.2.2.2.2.1.length:Int)))
 ((((((af_ (ρ:=(Unit⊕(Bool×Unit))) (fun (v13:(Int×Unit)) =>
 (cond (decide (v13.1<(v0.1.2.length:Int)))
 ((at? v0.1.2 v13.1).bind fun v14 =>
 ((((af_ (ρ:=(Unit⊕(Bool×Unit))) (fun (v15:(Int×Unit)) =>
 (cond (decide (v15.1<(v14.length:Int)))
 ((at? v14 v15.1).bind fun v16 =>
 ((gs_ v16 4 v12.2.1).bind fun v17 =>
 (cond v17.1
 (some (Sum.inr (Sum.inr ((decide (0≤v15.1)),()))))
 (some (Sum.inl ((w64 (v15.1+1)),()))))))
 (some (Sum.inr (Sum.inl ()))))) (0,())).bind fun v18 =>
 (ca_ v18 (fun v19=>(some ((decide (0≤(-1))),())))
 (fun v20=>(some v20))))).bind fun v21 =>
 (cond v21.1
 (some (Sum.inr (Sum.inr ((decide (0≤v13.1)),()))))
 (some (Sum.inl ((w64 (v13.1+1)),()))))))
 (some (Sum.inr (Sum.inl ()))))) (0,())).bind fun v22 =>
 (ca_ v22 (fun v23=>(some ((decide (0≤(-1))),())))
 (fun v24=>(some v24))))).bind fun v25 =>
 (cond (!v25.1)
 ((push? (α:=Int) v12.1 [v12.2.1]).bind fun v26 =>
 (some (v26,())))
 (some (v12.1,()))))).bind fun v27 =>
 (some (Sum.inl (v27.1,((w64 (v12.2.1+1)),())))))
 (some (Sum.inr (v12.1,()))))) ([],(0,()))).bind fun v28 =>
 ((af_ (ρ:=((List Int)×Unit)) (fun (v29:((List Int)×(Int×Unit))) =>
 (cond (decide (v29.2.1<(a0.1.2.2.1.length:Int)))
 ((((((af_ (ρ:=(Unit⊕(Bool×Unit))) (fun (v30:(Int×Unit)) =>
 (cond (decide (v30.1<(v0.1.2.length:Int)))
 ((at? v0.1.2 v30.1).bind fun v31 =>
 ((((af_ (ρ:=(Unit⊕(Bool×Unit))) (fun (v32:(Int×Unit)) =>
 (cond (decide (v32.1<(v31.length:Int)))
 ((at? v31 v32.1).bind fun v33 =>
 ((gs_ v33 2 v29.2.1).bind fun v34 =>
 (cond v34.1
 (some (Sum.inr (Sum.inr ((decide (0≤v32.1)),()))))
 (some (Sum.inl ((w64 (v32.1+1)),()))))))
 (some (Sum.inr (Sum.inl ()))))) (0,())).bind fun v35 =>
 (ca_ v35 (fun v36=>(some ((decide (0≤(-1))),())))
 (fun v37=>(some v37))))).bind fun v38 =>
 (cond v38.1
 (some (Sum.inr (Sum.inr ((decide (0≤v30.1)),()))))
 (some (Sum.inl ((w64 (v30.1+1)),()))))))
 (some (Sum.inr (Sum.inl ()))))) (0,())).bind fun v39 =>
 (ca_ v39 (fun v40=>(some ((decide (0≤(-1))),())))
 (fun v41=>(some v41))))).bind fun v42 =>
 (cond (!v42.1)
 ((push? (α:=Int) v29.1 [v29.2.1]).bind fun v43 =>
 (some (v43,())))
 (some (v29.1,()))))).bind fun v44 =>
 (some (Sum.inl (v44.1,((w64 (v29.2.1+1)),())))))
 (some (Sum.inr (v29.1,()))))) ([],(0,()))).bind fun v45 =>
 (some (v28.1,(v45.1,(v11.1,(0,()))))))))))
theorem x_16:au_ cx_16 an_16 16 [ao_] [(.list .int),(.list .int),(.list .int),.int]=fun x=>ky_ x.1:=by kernel_rfl
noncomputable def c_16:Con Tryz.prog:=aw_ _ _ 16 [ao_] [(.list .int),(.list .int),(.list .int),.int] _ x_16
def an_17:An:=(.p .z (.p .z (.p .z (.p .z (.p .z (.p .z (.p (.p .z (.lp [.v 11 .int] [] [.o (.s 8) .bool,.o (.s 9) .bool,.o (.s 10) .bool] 0 (.p .z (.p (.p (.p .z (.lp [.v 12 .int] [] [.o (.s 8) .bool,.o (.s 9) .bool] 2 (.p .z (.j0 [.o (.s 8) .bool,.o (.s 9) .bool] (.p .z (.j0 [.o (.s 8) .bool] .z .z)) .z)))) (.p .z (.lp [.v 14 .int] [] [.o (.s 10) .bool] 4 (.p .z (.j0 [.o (.s 10) .bool] .z .z))))) .z)))) .z)))))))
noncomputable def cs_17:List (Con Tryz.prog):=[c_23,c_44]
noncomputable def cl_17:List (Cpy Tryz.prog):=[]
noncomputable def cx_17:Cx Tryz.prog:=cxC cs_17 cl_17
noncomputable def kr_ (a0:ac_):Option ((List Int)×(List Int)×(List Int)×Int×Unit) :=
 ((du_ a0).bind fun v0 =>
 (cond (v0.2.1 != 0)
 (some ([],([],([],(v0.2.1,())))))
 ((mk? (α:=Bool) (a0.1.2.2.2.2.1.length:Int) false).bind fun v1 =>
 ((mk? (α:=Bool) (a0.1.2.2.1.length:Int) false).bind fun v2 =>
 ((mk? (α:=Bool) (a0.2.2.2.1.length:Int) false).bind fun v3 =>
 ((af_ (ρ:=((List Bool)×((List Bool)×((List Bool)×Unit)))) (fun (v4:(Int×((List Bool)×((List Bool)×((List Bool)×Unit))))) =>
 (cond (decide (v4.1<(v0.1.1.length:Int)))
 ((af_ (ρ:=((List Bool)×((List Bool)×Unit))) (fun (v5:(Int×((List Bool)×((List Bool)×Unit)))) =>
 ((at? v0.1.2 v4.1).bind fun v6 =>
 (cond (decide (v5.1<(v6.length:Int)))
 ((((at? v0.1.2 v4.1).bind fun v7 =>
 ((at? v7 v5.1).bind fun v8 =>
 (((cond (v8.1.2.1==4)
 ((at? v5.2.1 v8.1.2.2).bind fun v9 =>
 ((at? v5.2.1 v8.1.2.2).bind fun v10 =>
 (some ((v5.2.1.set v8.1.2.2.toNat true),()))))
 (some (v5.2.1,())))).bind fun v11 =>
 (cond (v8.1.2.1==2)
 ((at? v5.2.2.1 v8.1.2.2).bind fun v12 =>
 ((at? v5.2.2.1 v8.1.2.2).bind fun v13 =>
 (some (v11.1,((v5.2.2.1.set v8.1.2.2.toNat true),())))))
 (some (v11.1,(v5.2.2.1,())))))))).bind fun v14 =>
 (some (Sum.inl ((w64 (v5.1+1)),(v14.1,(v14.2.1,()))))))
 (some (Sum.inr (v5.2.1,(v5.2.2.1,()))))))) (0,(v4.2.1,(v4.2.2.1,())))).bind fun v15 =>
 ((af_ (ρ:=((List Bool)×Unit)) (fun (v16:(Int×((List Bool)×Unit))) =>
 (cond (decide (v16.1<(v16.2.1.length:Int)))
 ((((at? v16.2.1 v16.1).bind fun v17 =>
 ((at? v16.2.1 v16.1).bind fun v18 =>
 (cond v18
 ((at? v16.2.1 v16.1).bind fun v19 =>
 ((at? v16.2.1 v16.1).bind fun v20 =>
 (some ((v16.2.1.set v16.1.toNat true),()))))
 ((at? v0.1.1 v4.1).bind fun v21 =>
 ((at? v21.2 v16.1).bind fun v22 =>
 ((at? v16.2.1 v16.1).bind fun v23 =>
 ((at? v16.2.1 v16.1).bind fun v24 =>
 (some ((v16.2.1.set v16.1.toNat v22),())))))))))).bind fun v25 =>
 (some (Sum.inl ((w64 (v16.1+1)),(v25.1,())))))
 (some (Sum.inr (v16.2.1,()))))) (0,(v4.2.2.2.1,()))).bind fun v26 =>
 (some (Sum.inl ((w64 (v4.1+1)),(v15.1,(v15.2.1,(v26.1,()))))))))
 (some (Sum.inr (v4.2.1,(v4.2.2.1,(v4.2.2.2.1,()))))))) (0,(v1,(v2,(v3,()))))).bind fun v27 =>
 ((dt_ v27.1).bind fun v28 =>
 ((dt_ v27.2.1).bind fun v29 =>
 ((dt_ v27.2.2.1).bind fun v30 =>
 (some (v28.1,(v29.1,(v30.1,(0,()))))))))))))))
theorem x_17:au_ cx_17 an_17 17 [ao_] [(.list .int),(.list .int),(.list .int),.int]=fun x=>kr_ x.1:=by kernel_rfl
noncomputable def c_17:Con Tryz.prog:=aw_ _ _ 17 [ao_] [(.list .int),(.list .int),(.list .int),.int] _ x_17
end
section
set_option maxRecDepth 100000
set_option maxHeartbeats 0
def an_8:An:=.z
noncomputable def cs_8:List (Con Tryz.prog):=[c_24,c_25]
noncomputable def cl_8:List (Cpy Tryz.prog):=[]
noncomputable def cx_8:Cx Tryz.prog:=cxC cs_8 cl_8
noncomputable def he_  : Option (Bool×Unit) :=
 ((fo_ (([[104,97,108,108],[118,97,117,108,116]],([([98,111,120],(0,(2,0))),([100,111,111,114],(0,(2,0)))],([([107,101,121],(0,[(0,(1,false))]))],([(0,(1,[(1,(1,false))]))],([([111,112,101,110],(0,(0,([],([],([(0,1)],([],[]))))))),([116,117,114,110],(0,((-1),([0],([],([(1,1)],([0],[])))))))],([],(1,[(1,(1,false))]))))))),([(2,4)],([[3,1]],([([108,101,97,102],(0,(0,([],(2,(0,(1,(4,(0,([],false)))))))))),([98,97,99,107],(0,(0,([(0,(0,false))],(3,(1,(0,(0,(0,([],false)))))))))),([99,97,114,100],(1,((-1),([],(0,(0,(0,(0,(0,([],false))))))))))],1))))).bind fun v0 =>
 (cond (v0.2.1==0)
 (cond ((v0.1.length:Int)==3)
 ((at? v0.1 0).bind fun v1 =>
 (cond ((v1.1==0)&&((v1.2.1==4)&&(v1.2.2==0)))
 ((at? v0.1 1).bind fun v2 =>
 (cond (v2.2.1==2)
 ((at? v0.1 2).bind fun v3 =>
 (some ((v3.2.2==1),())))
 (some (false,()))))
 (some (false,()))))
 (some (false,())))
 (some (false,()))))
theorem x_8:au_ cx_8 an_8 8 [] [.bool]=fun x=>he_:=by kernel_rfl
noncomputable def c_8:Con Tryz.prog:=aw_ _ _ 8 [] [.bool] _ x_8
end
section
set_option maxRecDepth 100000
set_option maxHeartbeats 0
def an_5:An:=.z
noncomputable def cs_5:List (Con Tryz.prog):=[c_7,c_8,c_10,c_12,c_16,c_17]
noncomputable def cl_5:List (Cpy Tryz.prog):=[]
noncomputable def cx_5:Cx Tryz.prog:=cxC cs_5 cl_5
noncomputable def hs_ (a0:ac_):Option (Bool×Unit) :=
 ((je_ a0).bind fun v0 =>
 (cond v0.1
 ((he_).bind fun v1 =>
 (some (v1.1,())))
 ((kv_ a0).bind fun v2 =>
 ((ky_ v2.1).bind fun v3 =>
 ((kr_ a0).bind fun v4 =>
 ((dj_ v3.1 v4.1).bind fun v5 =>
 (cond v5.1
 ((dj_ v3.2.1 v4.2.1).bind fun v6 =>
 (cond v6.1
 ((dj_ v3.2.2.1 v4.2.2.1).bind fun v7 =>
 (cond v7.1
 (cond (v3.2.2.2.1==v4.2.2.2.1)
 ((he_).bind fun v8 =>
 (some (v8.1,())))
 (some (false,())))
 (some (false,()))))
 (some (false,()))))
 (some (false,())))))))))
theorem x_5:au_ cx_5 an_5 5 [ao_] [.bool]=fun x=>hs_ x.1:=by kernel_rfl
noncomputable def c_5:Con Tryz.prog:=aw_ _ _ 5 [ao_] [.bool] _ x_5
end
end Go.Proofs.YtmdlefagpcmllaaGreatDoor.Rx
namespace Go.Proofs.YtmdlefagpcmllaaGreatDoor.Rx
open Go Pad Rex
section
theorem av_ {α:Type} {l:List α} (h:Sm l.length):push? [] l=some l:=by
  rw [zt_ (by simp only [j6_]; omega)]
  rfl
theorem cd_ {α:Type} {l:List α} {x:α} (h:Sm l.length):push? l [x]=some (l++[x]):=zt_ (by simp only [c6_,j6_]; omega)
theorem qj_ {α:Type} {l:List α} {i:Nat} {x:α} (h:l[i]?=some x):l.set ((i:Nat):Int).toNat x=l:=by
  show l.set i x=l
  refine f0_ fun j => ?_
  rw [h8_]
  split
  · next e =>
    subst e
    rw [if_pos (am_ h),h]
  · rfl
theorem rd_ (c:List bd_) (h:Sm c.length):cj_ c=some (c,()):=by
  unfold cj_
  rw [av_ h]
  rfl
theorem copyInts (c:List Int) (h:Sm c.length):di_ c=some (c,()):=by
  unfold di_
  rw [av_ h]
  rfl
theorem oa_ {α τ:Type} {l:List α} (hl:Sm l.length) {body:(Int×(List α×Unit))→Option ((Int×(List α×Unit))⊕(List α×Unit))} {K:(List α×Unit)→Option τ} {x:Option τ}
    (h:∀ (i:Nat) y,l[i]?=some y→body ((i:Int),(l,()))=some (.inl ((w64 ((i:Int)+1)),(l,())))) (e:body ((l.length:Int),(l,()))=some (.inr (l,()))) (hk:K (l,())=x):(af_ body (0,(l,()))).bind K=x:=by
  refine bn_ l (fun _ _=>none) (fun i=>((i:Int),(l,()))) (r0:=(l,())) (fun i y hy => ?_) e ?_
  · have hi:=am_ hy
    rw [h i y hy,ay_ (show Sm i by omega)]
  · have:fy_ (fun (_:Nat) (_:α)=>(none:Option (List α×Unit))) 0 l=none:=(hy_ l 0).2 fun _ _ _=>rfl
    rw [this]
    exact hk
theorem ref02_Copy {r:ad_} (h:SmR r):kw_ r=some (r,()):=by
  unfold kw_
  simp only [av_ h.pl,av_ h.th,av_ h.pr,av_ h.wy,av_ h.ac,av_ h.au,rd_ _ h.go,a0_]
  refine oa_ h.pr (fun i y hy => ?_) ?_ ?_
  · have:=h.prn y (ax_ hy)
    simp only [dlt (am_ hy),a4_,ah_ hy,a0_,rd_ _ this.2,qj_ hy]
  · simp only [dnl,a2_]
  refine oa_ h.wy (fun i y hy => ?_) ?_ ?_
  · have:=h.wyn y (ax_ hy)
    simp only [dlt (am_ hy),a4_,ah_ hy,a0_,rd_ _ this,qj_ hy]
  · simp only [dnl,a2_]
  refine oa_ h.ac (fun i y hy => ?_) ?_ ?_
  · obtain ⟨h1,h2,h3,h4,h5,h6⟩:=h.acn y (ax_ hy)
    simp only [dlt (am_ hy),a4_,ah_ hy,a0_,rd_ _ h3,copyInts _ h2,copyInts _ h5,copyInts _ h6,av_ h4,qj_ hy]
  · simp only [dnl,a2_]
  refine oa_ h.au (fun i y hy => ?_) ?_ ?_
  · have:=h.aun y (ax_ hy)
    simp only [dlt (am_ hy),a4_,ah_ hy,a0_,rd_ _ this,qj_ hy]
  · simp only [dnl,a2_]
  rfl
theorem xm_ (c:ak_) (h:Sm c.2.2.2.2.2.1.length):gi_ c=some (c,()):=by
  unfold gi_
  rw [av_ h]
  rfl
theorem ref04_Copy {g:ac_} (h:SmG g):kv_ g=some (g,()):=by
  have hl:Sm g.2.1.length:=by have:=h.lk; omega
  have hn:Sm g.2.2.2.1.length:=by have:=h.nt; omega
  have hc:Sm g.2.2.1.length:=by have:=h.cd; omega
  unfold kv_
  rw [ref02_Copy h.room]
  simp only [av_ hl,av_ hn,a0_]
  have hgo:=jw_ g.2.2.1 (fun _ t x=>t++[x]) (fun i t=>((i:Int),((t,()),()))) (fun t=>((t,()),())) [] (body:=(fun (v3:(Int×(((List (List Int))×Unit)×Unit))) =>
 (cond (decide (v3.1<(g.2.2.1.length:Int)))
 ((at? g.2.2.1 v3.1).bind fun v4 =>
 ((push? (α:=Int) [] v4).bind fun v5 =>
 ((push? (α:=(List Int)) v3.2.1.1 [v5]).bind fun v6 =>
 (some (Sum.inl ((w64 (v3.1+1)),((v6,()),())))))))
 (some (Sum.inr ((v3.2.1.1,()),())))))) (fun i t=>t=g.2.2.1.take i) (by simp) (fun i x t hx ht=>by
    have hi:=am_ hx
    have hx2:Sm x.length:=by have:=h.cdn x (ax_ hx); omega
    have ht2:Sm t.length:=by rw [ht,c7_]; omega
    refine ⟨?_,?_⟩
    · simp only [dlt hi,a4_,ah_ hx,a0_,av_ hx2,cd_ ht2,ay_ (show Sm i by omega)]
    · rw [ht,d2_,hx]
      rfl) (fun t ht=>by simp only [dnl,a2_])
  obtain ⟨t,ht,hw⟩:=hgo
  rw [d1_] at ht
  subst ht
  refine d8_ (congrArg (fun o=>Option.bind o _) hw) ?_
  rw [a0_]
  refine oa_ hn (fun i y hy => ?_) ?_ ?_
  · have hy2:=h.ntn y (ax_ hy)
    simp only [dlt (am_ hy),a4_,ah_ hy,a0_,av_ (show Sm y.2.2.2.1.length by omega),qj_ hy,xm_ _ (show Sm y.2.2.2.2.2.2.2.2.2.1.length by omega)]
  · simp only [dnl,a2_]
  rfl
end
section
set_option maxRecDepth 10000
theorem tot_loop {σ ρ τ:Type} (n:Nat) (F:Nat→τ→σ) (R:τ→ρ) (t0:τ) {body:σ→Option (σ⊕ρ)} (I:Nat→τ→Prop) (h0:I 0 t0)
    (h:∀ i t,i<n→I i t→Tot (body (F i t)) (fun r=>∃ t',r = .inl (F (i+1) t')∧I (i+1) t')) (e:∀ t,I n t→body (F n t)=some (.inr (R t))) :
    Tot (af_ body (F 0 t0)) (fun r=>∃ t,r=R t∧I n t):=by
  refine ll_ (fun i s=>∃ t,s=F i t∧I i t) _ n 0 (F 0 t0) ⟨t0,rfl,h0⟩ (fun j s h1 h2 hs => ?_) (fun s hs => ?_)
  · obtain ⟨t,rfl,ht⟩:=hs
    obtain ⟨r,hr,t',rfl,ht'⟩:=h j t (by omega) ht
    exact .inl ⟨_,hr,t',rfl,ht'⟩
  · obtain ⟨t,rfl,ht⟩:=hs
    rw [b0_] at ht ⊢
    exact ⟨_,e t ht,t,rfl,ht⟩
structure VS (r:ad_) (s:ai_):Prop where
  l1:s.1.length=r.2.1.length
  l2:s.2.1.length=r.2.2.1.length
  l3:(s.2.2.length:Int)=r.2.2.2.2.2.2.1
  th:∀ (i:Nat) n,s.1[i]?=some n→nb_ r.2.1 (i:Int) n=true
  pr:∀ (i:Nat) p,s.2.1[i]?=some p→inR r p=true
  py:∀ (i:Nat) p,s.2.2[i]?=some p→qv_ r p=true
theorem ckS_zero {r:ad_} {s:ai_} (h:VS r s):ckS r s=0:=by
  unfold ckS
  have hl:lensS r s=false:=by
    unfold lensS
    have:=h.l1
    have:=h.l2
    have:=h.l3
    simp only [c2_,bne_eq_false_iff_eq]
    omega
  rw [hl,a2_]
  rw [(hy_ s.1 0).2 (fun j x hx=>by rw [b0_,h.th j x hx]; rfl),j0_]
  rw [(hy_ s.2.1 0).2 (fun j x hx=>by rw [h.pr j x hx]; rfl),j0_]
  rw [(hy_ s.2.2 0).2 (fun j x hx=>by rw [h.py j x hx]; rfl),j0_]
theorem md_ {r:ad_} (h:SmR r) (ok:OkR r) {i n:Int} (hs:nb_ r.2.1 i n=true):(0≤i∧i<r.2.1.length)∧(0≤n∧n≤5):=by
  unfold nb_ at hs
  rw [a1_] at hs
  have hi:=cc_.1 hs.1
  have hth:=h.th
  rw [fv_ (by omega) (by omega)] at hi
  obtain ⟨t,ht,hg⟩:=at?_int (l:=r.2.1) (i:=i) (by omega) (by omega)
  have h2:=hs.2
  rw [ht] at h2
  have hn:=cc_.1 h2
  have:=ok.th _ _ hg
  unfold thOk at this
  simp only [a1_] at this
  have h3:=cc_.1 this.2.2.1
  rw [fv_ (by omega) (by omega)] at hn
  omega
end
end Go.Proofs.YtmdlefagpcmllaaGreatDoor.Rx
namespace Go.Proofs.YtmdlefagpcmllaaGreatDoor.Rx
open Go Pad Rex Go.Proofs
section
set_option maxRecDepth 100000
noncomputable def autB (a0:ad_) (th pr py:List Int):(Int×Unit)→Option ((Int×Unit)⊕(Unit⊕(Int×Unit))) :=
 (fun (v14:(Int×Unit)) =>
 (cond (decide (v14.1<(a0.2.2.2.2.2.1.length:Int)))
 ((at? a0.2.2.2.2.2.1 v14.1).bind fun v15 =>
 ((((at? th v15.2.1).bind fun v16 =>
 ((at? th v15.2.1).bind fun v17 =>
 (cond (v17 != v15.2.2)
 ((ba_ (a0,(th,(pr,py))) v15.1).bind fun v18 =>
 (some (v18.1,())))
 (some (false,())))))).bind fun v19 =>
 (cond v19.1
 (some (Sum.inr (Sum.inr (v14.1,()))))
 (some (Sum.inl ((w64 (v14.1+1)),()))))))
 (some (Sum.inr (Sum.inl ())))))
noncomputable def setB (a0:ad_) (v11 v12:List Int):(Int×((List Int)×Unit))→Option ((Int×((List Int)×Unit))⊕(((List Int)×Unit)⊕(Bool×((List Int)×Unit)))) :=
 (fun (v13:(Int×((List Int)×Unit))) =>
 (cond (decide (v13.1<101))
 ((((af_ (ρ:=(Unit⊕(Int×Unit))) (autB a0 v13.2.1 v11 v12) (0,())).bind fun v20 =>
 (ca_ v20 (fun v21=>(some ((-1),())))
 (fun v22=>(some v22))))).bind fun v23 =>
 (cond (decide (v23.1<0))
 (some (Sum.inr (Sum.inr ((!true),(v13.2.1,())))))
 ((at? a0.2.2.2.2.2.1 v23.1).bind fun v24 =>
 ((at? a0.2.2.2.2.2.1 v23.1).bind fun v25 =>
 ((at? v13.2.1 v24.2.1).bind fun v26 =>
 ((at? v13.2.1 v24.2.1).bind fun v27 =>
 (some (Sum.inl ((w64 (v13.1+1)),((v13.2.1.set v24.2.1.toNat v25.2.2),()))))))))))
 (some (Sum.inr (Sum.inl (v13.2.1,()))))))
noncomputable def thgB (a0:ad_):(Int×(((List Int)×Unit)×Unit))→Option ((Int×(((List Int)×Unit)×Unit))⊕(((List Int)×Unit)×Unit)) :=
 (fun (v2:(Int×(((List Int)×Unit)×Unit))) =>
 (cond (decide (v2.1<(a0.2.1.length:Int)))
 ((at? a0.2.1 v2.1).bind fun v3 =>
 ((push? (α:=Int) v2.2.1.1 [v3.2.2.2]).bind fun v4 =>
 (some (Sum.inl ((w64 (v2.1+1)),((v4,()),()))))))
 (some (Sum.inr ((v2.2.1.1,()),())))))
noncomputable def prpB (a0:ad_):(Int×(((List Int)×Unit)×Unit))→Option ((Int×(((List Int)×Unit)×Unit))⊕(((List Int)×Unit)×Unit)) :=
 (fun (v6:(Int×(((List Int)×Unit)×Unit))) =>
 (cond (decide (v6.1<(a0.2.2.1.length:Int)))
 ((at? a0.2.2.1 v6.1).bind fun v7 =>
 ((push? (α:=Int) v6.2.1.1 [v7.2.1]).bind fun v8 =>
 (some (Sum.inl ((w64 (v6.1+1)),((v8,()),()))))))
 (some (Sum.inr ((v6.2.1.1,()),())))))
noncomputable def rbegX (a0:ad_):Option (ai_×(Int×Unit)) :=
 ((fa_ a0).bind fun v0 =>
 (cond (v0.1 != 0)
 (some (([],([],[])),(v0.1,())))
 ((mk? (α:=Int) a0.2.2.2.2.2.2.1 0).bind fun v1 =>
 ((af_ (ρ:=(((List Int)×Unit)×Unit)) (thgB a0) (0,(([],()),()))).bind fun v5 =>
 ((af_ (ρ:=(((List Int)×Unit)×Unit)) (prpB a0) (0,(([],()),()))).bind fun v9 =>
 ((push? (α:=Int) [] v5.1.1).bind fun v10 =>
 ((push? (α:=Int) [] v9.1.1).bind fun v11 =>
 ((push? (α:=Int) [] v1).bind fun v12 =>
 ((((af_ (ρ:=(((List Int)×Unit)⊕(Bool×((List Int)×Unit)))) (setB a0 v11 v12) (0,(v10,()))).bind fun v28 =>
 (ca_ v28 (fun v29=>(some ((!false),(v29.1,()))))
 (fun v30=>(some v30))))).bind fun v31 =>
 (cond v31.1
 (some (([],([],[])),(27,())))
 (some ((v31.2.1,(v11,v12)),(0,())))))))))))))
theorem rbegX_eq:ib_=rbegX:=by kernel_rfl
end
end Go.Proofs.YtmdlefagpcmllaaGreatDoor.Rx
namespace Go.Proofs.YtmdlefagpcmllaaGreatDoor.Rx
open Go Pad Rex
section
set_option maxRecDepth 10000
def VT (r:ad_) (th:List Int):Prop:=th.length=r.2.1.length∧∀ (i:Nat) n,th[i]?=some n→nb_ r.2.1 (i:Int) n=true
theorem VT_set {r:ad_} (h:SmR r) (ok:OkR r) {th:List Int} (hv:VT r th) {i n:Int} (hs:nb_ r.2.1 i n=true):VT r (th.set i.toNat n):=by
  refine ⟨by rw [g1_]; exact hv.1,fun j m hj => ?_⟩
  have hi:=(md_ h ok hs).1
  rw [h8_] at hj
  split at hj
  · next e =>
    split at hj
    · obtain rfl:=a6_ hj
      rw [show (j:Int)=i by omega]
      exact hs
    · cases hj
  · exact hv.2 j m hj
theorem thg_loop {r:ad_} (h:SmR r):af_ (thgB r) (0,(([],()),()))=some ((r.2.1.map (·.2.2.2),()),()):=by
  have hth:=h.th
  obtain ⟨z,hz,q,rfl,hq⟩:=tot_loop r.2.1.length (fun i (q:List Int)=>((i:Int),((q,()),()))) (fun q=>((q,()),())) [] (body:=thgB r) (fun i q=>q=(r.2.1.take i).map (·.2.2.2)) rfl (fun i q hi hq=>by
    obtain ⟨x,hx⟩:=bb_ hi
    have hq2:Sm q.length:=by rw [hq,c9_,c7_]; omega
    refine ⟨_,?_,q++[x.2.2.2],rfl,?_⟩
    · unfold thgB
      simp only [dlt hi,a4_,ah_ hx,a0_,cd_ hq2,ay_ (show Sm i by omega)]
    · rw [d2_,hx,hq,i6_]
      rfl) (fun q hq=>by
    unfold thgB
    simp only [dnl,a2_])
  rw [d1_] at hq
  subst hq
  exact hz
theorem prp_loop {r:ad_} (h:SmR r):af_ (prpB r) (0,(([],()),()))=some ((r.2.2.1.map (·.2.1),()),()):=by
  have hth:=h.pr
  obtain ⟨z,hz,q,rfl,hq⟩:=tot_loop r.2.2.1.length (fun i (q:List Int)=>((i:Int),((q,()),()))) (fun q=>((q,()),())) [] (body:=prpB r) (fun i q=>q=(r.2.2.1.take i).map (·.2.1)) rfl (fun i q hi hq=>by
    obtain ⟨x,hx⟩:=bb_ hi
    have hq2:Sm q.length:=by rw [hq,c9_,c7_]; omega
    refine ⟨_,?_,q++[x.2.1],rfl,?_⟩
    · unfold prpB
      simp only [dlt hi,a4_,ah_ hx,a0_,cd_ hq2,ay_ (show Sm i by omega)]
    · rw [d2_,hx,hq,i6_]
      rfl) (fun q hq=>by
    unfold prpB
    simp only [dnl,a2_])
  rw [d1_] at hq
  subst hq
  exact hz
end
end Go.Proofs.YtmdlefagpcmllaaGreatDoor.Rx
namespace Go.Proofs.YtmdlefagpcmllaaGreatDoor.Rx
open Go Pad Rex Go.Proofs
section
set_option maxRecDepth 100000
noncomputable def pbgB (a0:ac_) (s:ai_):(Int×((List Bool)×((List ab_)×Unit)))→Option ((Int×((List Bool)×((List ab_)×Unit)))⊕((List Bool)×((List ab_)×Unit))) :=
 (fun (v3:(Int×((List Bool)×((List ab_)×Unit)))) =>
 (cond (decide (v3.1<(a0.2.2.2.1.length:Int)))
 ((((at? a0.2.2.2.1 v3.1).bind fun v4 =>
 ((ez_ a0.1 s v4.2.2.2.1).bind fun v5 =>
 (((cond v5.1
 ((bh_ s.2.2 v4.2.1).bind fun v6 =>
 (cond v6.1
 ((at? v3.2.1 v3.1).bind fun v7 =>
 ((at? v3.2.1 v3.1).bind fun v8 =>
 (some ((!v8),()))))
 (some (false,()))))
 (some (false,())))).bind fun v9 =>
 (cond v9.1
 ((at? v3.2.1 v3.1).bind fun v10 =>
 ((at? v3.2.1 v3.1).bind fun v11 =>
 (some ((v3.2.1.set v3.1.toNat true),((mdel v3.2.2.1 v4.2.2.1),())))))
 (some (v3.2.1,(v3.2.2.1,())))))))).bind fun v12 =>
 (some (Sum.inl ((w64 (v3.1+1)),(v12.1,(v12.2.1,()))))))
 (some (Sum.inr (v3.2.1,(v3.2.2.1,()))))))
noncomputable def pbegX (a0:ac_):Option (aa_×(Int×Unit)) :=
 ((gt_ a0).bind fun v0 =>
 (cond (v0.1 != 0)
 (some ((([],([],[])),[]),(v0.1,())))
 ((ib_ a0.1).bind fun v1 =>
 (cond (v1.2.1 != 0)
 (some ((([],([],[])),[]),(v1.2.1,())))
 ((mk? (α:=Bool) (a0.2.2.2.1.length:Int) false).bind fun v2 =>
 ((af_ (ρ:=((List Bool)×((List ab_)×Unit))) (pbgB a0 v1.1) (0,(v2,([],())))).bind fun v13 =>
 ((push? (α:=Int) [] v1.1.1).bind fun v14 =>
 ((push? (α:=Int) [] v1.1.2.1).bind fun v15 =>
 ((push? (α:=Int) [] v1.1.2.2).bind fun v16 =>
 ((push? (α:=Bool) [] v13.1).bind fun v17 =>
 (some (((v14,(v15,v16)),v17),(0,())))))))))))))
theorem pbegX_eq:lb_=pbegX:=by kernel_rfl
end
end Go.Proofs.YtmdlefagpcmllaaGreatDoor.Rx
namespace Go.Proofs.YtmdlefagpcmllaaGreatDoor.Rx
open Go Pad Rex
section
set_option maxRecDepth 10000
theorem pi_ {r:ad_} (h:SmR r) (ok:OkR r) {s:ai_} (hv:VS r s):Sm s.1.length∧Sm s.2.1.length∧Sm s.2.2.length:=by
  have:=cc_.1 ok.py
  have h1:=hv.l1
  have h2:=hv.l2
  have h3:=hv.l3
  have:=h.th
  have:=h.pr
  refine ⟨by show s.1.length≤1000000000; omega,by show s.2.1.length≤1000000000; omega,by show s.2.2.length≤1000000000; omega⟩
theorem gu_ {r:ad_} {s:ai_} (h0:cv_ r=0) (hv:VS r s):mt_ r s=0:=by
  unfold mt_
  rw [h0]
  exact ckS_zero hv
end
section
theorem lc_ (a b c:Int):bu_ a b c=some (wi a b c,()):=wi_of a b c
theorem ne_ (a b c:Int):bj_ a b c=some (wi a b c,()):=wi_of a b c
def okL (l:ab_):Bool:=wi l.1 1 4&&wi l.2 2 10
structure Lk (l:ab_):Prop where
  w1:1≤l.1
  w2:l.1≤4
  s1:2≤l.2
  s2:l.2≤10
theorem ni_ {l:ab_}:okL l=true↔Lk l:=by
  unfold okL
  rw [a1_,cc_,cc_]
  exact ⟨fun h=>⟨h.1.1,h.1.2,h.2.1,h.2.2⟩,fun h=>⟨⟨h.w1,h.w2⟩,h.s1,h.s2⟩⟩
theorem kp_ (l:ab_):ec_ l=some (if okL l then 0 else 10,()):=by
  unfold ec_ okL
  simp only [ne_,a0_]
  cases wi l.1 1 4 <;> cases wi l.2 2 10 <;> rfl
theorem ld_ (l:ab_):ed_ l=some (if okL l then 0 else 10,()):=by
  unfold ed_ okL
  simp only [lc_,a0_]
  cases wi l.1 1 4 <;> cases wi l.2 2 10 <;> rfl
def cz_ (l:ab_) (c:List Int):Bool:=decide ((c.length:Int)=l.1)&&c.all fun n=>wi n 0 (l.2 - 1)
theorem Lk.ws {l:ab_} (h:Lk l):w64 (l.2 - 1)=l.2 - 1:=by have:=h.s1; have:=h.s2; exact km_ (by omega) (by omega)
theorem Lk.ww {l:ab_} (h:Lk l):w64 (l.1 - 1)=l.1 - 1:=by have:=h.w1; have:=h.w2; exact km_ (by omega) (by omega)
theorem lx_ {l:ab_} (h:Lk l) (n:Int):cl_ l n=some (wi n 0 (l.2 - 1),()):=by
  unfold cl_
  rw [lc_,h.ws]
  rfl
theorem tt_ {l:ab_} (h:Lk l) (n:Int):bq_ l n=some (wi n 0 (l.1 - 1),()):=by
  unfold bq_
  rw [lc_,h.ww]
  rfl
theorem all_any {α:Type} (l:List α) (q:α→Bool):(!(l.any fun x=>!(q x)))=l.all q:=sq_ l q
theorem sw_ {l:ab_} (h:Lk l) (c:List Int):gf_ l c=some (cz_ l c,()):=by
  have w2:=h.w2
  unfold gf_ cz_
  by_cases he:(c.length:Int)=l.1
  · have hb:((c.length:Int) != l.1)=false:=by simp [he]
    rw [hb,b2_ he,c0_,a2_]
    refine bn_ c (fun _ y=>cond (wi y 0 (l.2 - 1)) none (some (Sum.inr (false,()):Unit⊕(Bool×Unit)))) (fun i=>((i:Int),())) (r0:=Sum.inl ()) (fun i y hy => ?_) ?_ ?_
    · have hi:=am_ hy
      simp only [dlt hi,a4_,ah_ hy,a0_,ne_,h.ws,ay_ (show Sm i by unfold Sm; omega)]
      cases wi y 0 (l.2 - 1) <;> rfl
    · simp only [dnl,a2_]
    · rw [ir_ (q:=fun y=>wi y 0 (l.2 - 1))]
      cases c.all fun y=>wi y 0 (l.2 - 1) <;> rfl
  · have hb:((c.length:Int) != l.1)=true:=by simp [he]
    rw [hb,b7_ he]
    rfl
theorem nw_ {l:ab_} (h:Lk l) (c:List Int):de_ l c=some (cz_ l c,()):=by
  have w2:=h.w2
  unfold de_ cz_
  by_cases he:(c.length:Int)=l.1
  · have hb:((c.length:Int)==l.1)=true:=by simp [he]
    rw [hb,b2_ he,c0_,a4_,lf_ (l:=c) (by unfold Sm; omega) (fun n=>!(wi n 0 (l.2 - 1))) (fun i y hy=>by
      simp only [dlt (am_ hy),a4_,ah_ hy,a0_,lx_ h]
      cases wi y 0 (l.2 - 1) <;> rfl) (by simp only [dnl,a2_]),a0_,all_any]
  · have hb:((c.length:Int)==l.1)=false:=by simp [he]
    rw [hb,b7_ he]
    rfl
theorem tn_ (l:ab_) (c:List Int):fm_ l c=some (if okL l then (if cz_ l c then 0 else 12) else 10,()):=by
  unfold fm_
  rw [kp_,a0_]
  cases h:okL l with
  | true =>
    rw [if_pos rfl,sw_ (ni_.1 h)]
    cases cz_ l c <;> rfl
  | false=>rfl
theorem my_ (l:ab_) (c:List Int):dw_ l c=some (if okL l then (if cz_ l c then 0 else 12) else 10,()):=by
  unfold dw_ hf_
  rw [ld_,a0_]
  cases h:okL l with
  | true =>
    have hl:=ni_.1 h
    have:=lf_ (l:=[c]) (by unfold Sm; simp) (fun c=>!(cz_ l c)) (body:=fun (v1:(Int×Unit)) =>
      (cond (decide (v1.1<(([c]:List (List Int)).length:Int)))
      ((at? [c] v1.1).bind fun v2 =>
      ((de_ l v2).bind fun v3 =>
      (cond (!v3.1)
      (some (Sum.inr (Sum.inr ((decide (0≤v1.1)),()))))
      (some (Sum.inl ((w64 (v1.1+1)),()))))))
      (some (Sum.inr (Sum.inl ()))))) (fun i y hy=>by
      simp only [dlt (am_ hy),a4_,ah_ hy,a0_,nw_ hl]
      cases cz_ l y <;> rfl) (by simp only [dnl,a2_])
    rw [this]
    simp only [p0_,List.any_nil,g0_]
    cases cz_ l c <;> rfl
  | false=>rfl
theorem same_loop {α:Type} [BEq α] [LawfulBEq α] [DecidableEq α] {a b:List α} (ha:Sm a.length) (he:a.length=b.length) {body:(Int×Unit)→Option ((Int×Unit)⊕(Unit⊕(Bool×Unit)))} {K:(Unit⊕(Bool×Unit))→Option (Bool×Unit)}
    (h:∀ (i:Nat) x y,a[i]?=some x→b[i]?=some y→body ((i:Int),())=some (cond (x != y) (.inr (.inr (false,()))) (.inl (w64 ((i:Int)+1),())))) (e:body ((a.length:Int),())=some (.inr (.inl ()))) (k1:K (.inl ())=some (true,())) (k2:K (.inr (false,()))=some (false,())) :
    (af_ body (0,())).bind K=some (decide (a=b),()):=by
  refine bn_ (a.zip b) (fun _ p=>cond (p.1==p.2) none (some (Sum.inr (false,()):Unit⊕(Bool×Unit)))) (fun i=>((i:Int),())) (r0:=Sum.inl ()) (fun i p hp => ?_) ?_ ?_
  · obtain ⟨h1,h2⟩:=h2_.1 hp
    rw [h i p.1 p.2 h1 h2,ay_ (show Sm i by have:=am_ h1; unfold Sm at *; omega)]
    cases hq:p.1==p.2 <;> simp [bne,hq]
  · rw [m8_,← he,Nat.min_self]
    exact e
  · rw [ir_ (q:=fun p:α×α=>p.1==p.2)]
    have hk:((a.zip b).all fun p=>p.1==p.2)=decide (a=b):=by
      refine j7_.2 ?_
      rw [e8_,g4_]
      constructor
      · intro hz
        refine f0_ fun i => ?_
        by_cases hi:i<a.length
        · obtain ⟨x,hx⟩:=bb_ hi
          obtain ⟨y,hy⟩:=bb_ (l:=b) (i:=i) (by omega)
          have:=hz (x,y) (b5_ (h2_.2 ⟨hx,hy⟩))
          rw [hx,hy,show x=y from eq_of_beq this]
        · rw [b1_ (by omega),b1_ (by omega)]
      · rintro rfl p hp
        obtain ⟨i,hi⟩:=f9_ hp
        obtain ⟨h1,h2⟩:=h2_.1 hi
        rw [h1] at h2
        exact f5_.2 (a6_ h2)
    rw [hk]
    cases decide (a=b)
    · exact k2
    · exact k1
theorem xn_ {a b:List Int} (ha:Sm a.length):gj_ a b=some (decide (a=b),()):=by
  unfold gj_
  by_cases he:a.length=b.length
  · have hb:((a.length:Int) != (b.length:Int))=false:=by simp [he]
    rw [hb,a2_]
    refine same_loop ha he (fun i x y hx hy => ?_) ?_ rfl rfl
    · simp only [dlt (am_ hx),a4_,ah_ hx,ah_ hy,a0_]
      cases x != y <;> rfl
    · simp only [dnl,a2_]
  · have hb:((a.length:Int) != (b.length:Int))=true:=by simp; omega
    rw [hb,b7_ (fun e=>he (by rw [e]))]
    rfl
def da_ (l:ab_) (c:ak_):Bool :=
  if c.1=1 then wi c.2.1 0 (l.1 - 1)&&(wi c.2.2.2.1 0 (l.2 - 1)&&(c.2.2.1==0&&(c.2.2.2.2.1==0&&decide (c.2.2.2.2.2.1=[]))))
  else if c.1=2 then wi c.2.1 0 (l.1 - 1)&&(wi c.2.2.1 0 (l.1 - 1)&&(decide (c.2.1≤c.2.2.1)&&(wi c.2.2.2.1 0 100&&(c.2.2.2.2.1==0&&decide (c.2.2.2.2.2.1=[])))))
  else if c.1=3∨c.1=4 then wi c.2.1 0 (l.1 - 1)&&(wi c.2.2.1 0 (l.1 - 1)&&(c.2.1 != c.2.2.1&&(c.2.2.2.1==0&&(c.2.2.2.2.1==0&&decide (c.2.2.2.2.2.1=[])))))
  else if c.1=5 then wi c.2.2.2.1 0 (l.2 - 1)&&(wi c.2.2.2.2.1 0 l.1&&(c.2.1==0&&(c.2.2.1==0&&decide (c.2.2.2.2.2.1=[]))))
  else if c.1=6 then cz_ l c.2.2.2.2.2.1&&(wi c.2.2.2.1 0 l.1&&(wi c.2.2.2.2.1 0 l.1&&(c.2.1==0&&c.2.2.1==0)))
  else if c.1=7 then wi c.2.1 0 (l.1 - 1)&&(wi c.2.2.2.1 2 10&&(wi c.2.2.2.2.1 0 (c.2.2.2.1 - 1)&&(c.2.2.1==0&&decide (c.2.2.2.2.2.1=[]))))
  else false
theorem len0 (l:List Int):((l.length:Int)==((([]:List Int)).length:Int))=decide (l=[]):=by cases l <;> simp <;> omega
theorem sx_ {l:ab_} (h:Lk l) {c:ak_} (hs:Sm c.2.2.2.2.2.1.length):gg_ l c=some (da_ l c,()):=by
  unfold gg_ da_ im_
  simp only [ne_,sw_ h,xn_ hs,a0_,h.ww,h.ws,d5_,a4_]
  by_cases h1:c.1=1
  · simp only [h1]
    cases wi c.2.1 0 (l.1 - 1) <;> cases wi c.2.2.2.1 0 (l.2 - 1) <;> simp only [a4_,a2_,a0_,d5_,c0_,e0_,Int.reduceBEq,k7_,h9_,Int.reduceEq,n0_,m9_,m6_] <;> cases c.2.2.1==0 <;> cases c.2.2.2.2.1==0 <;> rfl
  by_cases h2:c.1=2
  · simp only [h2]
    cases wi c.2.1 0 (l.1 - 1) <;> cases wi c.2.2.1 0 (l.1 - 1) <;> cases decide (c.2.1≤c.2.2.1) <;> cases wi c.2.2.2.1 0 100 <;> simp only [a4_,a2_,a0_,d5_,c0_,e0_,Int.reduceBEq,k7_,h9_,Int.reduceEq,n0_,m9_,m6_] <;> cases c.2.2.2.2.1==0 <;> rfl
  by_cases h3:c.1=3
  · simp only [h3]
    cases wi c.2.1 0 (l.1 - 1) <;> cases wi c.2.2.1 0 (l.1 - 1) <;> cases c.2.1 != c.2.2.1 <;> simp only [a4_,a2_,a0_,d5_,c0_,e0_,Int.reduceBEq,k7_,h9_,Int.reduceEq,n0_,m9_,m6_] <;> cases c.2.2.2.1==0 <;> cases c.2.2.2.2.1==0 <;> rfl
  by_cases h4:c.1=4
  · simp only [h4]
    cases wi c.2.1 0 (l.1 - 1) <;> cases wi c.2.2.1 0 (l.1 - 1) <;> cases c.2.1 != c.2.2.1 <;> simp only [a4_,a2_,a0_,d5_,c0_,e0_,Int.reduceBEq,k7_,h9_,Int.reduceEq,n0_,m9_,m6_] <;> cases c.2.2.2.1==0 <;> cases c.2.2.2.2.1==0 <;> rfl
  by_cases h5:c.1=5
  · simp only [h5]
    cases wi c.2.2.2.1 0 (l.2 - 1) <;> cases wi c.2.2.2.2.1 0 l.1 <;> simp only [a4_,a2_,a0_,d5_,c0_,e0_,Int.reduceBEq,k7_,h9_,Int.reduceEq,n0_,m9_,m6_] <;> cases c.2.1==0 <;> cases c.2.2.1==0 <;> rfl
  by_cases h6:c.1=6
  · simp only [h6]
    cases cz_ l c.2.2.2.2.2.1 <;> cases wi c.2.2.2.1 0 l.1 <;> cases wi c.2.2.2.2.1 0 l.1 <;> simp only [a4_,a2_,a0_,d5_,c0_,e0_,Int.reduceBEq,k7_,h9_,Int.reduceEq,n0_,m9_,m6_] <;> cases c.2.1==0 <;> cases c.2.2.1==0 <;> simp
  by_cases h7:c.1=7
  · simp only [h7]
    cases wi c.2.1 0 (l.1 - 1)
    · rfl
    cases hn:wi c.2.2.2.1 2 10
    · rfl
    have:=cc_.1 hn
    rw [km_ (n:=c.2.2.2.1 - 1) (by omega) (by omega)]
    cases wi c.2.2.2.2.1 0 (c.2.2.2.1 - 1) <;> simp only [a4_,a2_,a0_,d5_,c0_,e0_,Int.reduceBEq,k7_,h9_,Int.reduceEq,n0_,m9_,m6_] <;> cases c.2.2.1==0 <;> rfl
  have b1:(c.1==1)=false:=by simp [h1]
  have b2:(c.1==2)=false:=by simp [h2]
  have b3:(c.1==3)=false:=by simp [h3]
  have b4:(c.1==4)=false:=by simp [h4]
  have b5:(c.1==5)=false:=by simp [h5]
  have b6:(c.1==6)=false:=by simp [h6]
  have b7:(c.1==7)=false:=by simp [h7]
  simp only [b1,b2,b3,b4,b5,b6,b7,h1,h2,h3,h4,h5,h6,h7,a2_,a0_,h9_,m6_]
theorem nx_ {l:ab_} (h:Lk l) (c:ak_):df_ l c=some (da_ l c,()):=by
  unfold df_ da_
  simp only [lc_,tt_ h,lx_ h,nw_ h,a0_]
  by_cases h1:c.1=1
  · simp only [h1]
    cases wi c.2.1 0 (l.1 - 1) <;> cases wi c.2.2.2.1 0 (l.2 - 1) <;> simp only [a4_,a2_,a0_,d5_,c0_,e0_,Int.reduceBEq,k7_,h9_,Int.reduceEq,n0_,m9_,m6_,len0] <;> cases c.2.2.1==0 <;> cases c.2.2.2.2.1==0 <;> rfl
  by_cases h2:c.1=2
  · simp only [h2]
    cases wi c.2.1 0 (l.1 - 1) <;> cases wi c.2.2.1 0 (l.1 - 1) <;> cases decide (c.2.1≤c.2.2.1) <;> cases wi c.2.2.2.1 0 100 <;> simp only [a4_,a2_,a0_,d5_,c0_,e0_,Int.reduceBEq,k7_,h9_,Int.reduceEq,n0_,m9_,m6_,len0] <;> cases c.2.2.2.2.1==0 <;> rfl
  by_cases h3:c.1=3
  · simp only [h3]
    cases wi c.2.1 0 (l.1 - 1) <;> cases wi c.2.2.1 0 (l.1 - 1) <;> cases c.2.1 != c.2.2.1 <;> simp only [a4_,a2_,a0_,d5_,c0_,e0_,Int.reduceBEq,k7_,h9_,Int.reduceEq,n0_,m9_,m6_,len0] <;> cases c.2.2.2.1==0 <;> cases c.2.2.2.2.1==0 <;> rfl
  by_cases h4:c.1=4
  · simp only [h4]
    cases wi c.2.1 0 (l.1 - 1) <;> cases wi c.2.2.1 0 (l.1 - 1) <;> cases c.2.1 != c.2.2.1 <;> simp only [a4_,a2_,a0_,d5_,c0_,e0_,Int.reduceBEq,k7_,h9_,Int.reduceEq,n0_,m9_,m6_,len0] <;> cases c.2.2.2.1==0 <;> cases c.2.2.2.2.1==0 <;> rfl
  by_cases h5:c.1=5
  · simp only [h5]
    cases wi c.2.2.2.1 0 (l.2 - 1) <;> cases wi c.2.2.2.2.1 0 l.1 <;> simp only [a4_,a2_,a0_,d5_,c0_,e0_,Int.reduceBEq,k7_,h9_,Int.reduceEq,n0_,m9_,m6_,len0] <;> cases c.2.1==0 <;> cases c.2.2.1==0 <;> rfl
  by_cases h6:c.1=6
  · simp only [h6]
    cases cz_ l c.2.2.2.2.2.1 <;> cases wi c.2.2.2.1 0 l.1 <;> cases wi c.2.2.2.2.1 0 l.1 <;> simp only [a4_,a2_,a0_,d5_,c0_,e0_,Int.reduceBEq,k7_,h9_,Int.reduceEq,n0_,m9_,m6_,len0] <;> cases c.2.1==0 <;> cases c.2.2.1==0 <;> rfl
  by_cases h7:c.1=7
  · simp only [h7]
    cases wi c.2.1 0 (l.1 - 1)
    · rfl
    cases hn:wi c.2.2.2.1 2 10
    · rfl
    have:=cc_.1 hn
    rw [km_ (n:=c.2.2.2.1 - 1) (by omega) (by omega)]
    cases wi c.2.2.2.2.1 0 (c.2.2.2.1 - 1) <;> simp only [a4_,a2_,a0_,d5_,c0_,e0_,Int.reduceBEq,k7_,h9_,Int.reduceEq,n0_,m9_,m6_,len0] <;> cases c.2.2.1==0 <;> rfl
  have b1:(c.1==1)=false:=by simp [h1]
  have b2:(c.1==2)=false:=by simp [h2]
  have b3:(c.1==3)=false:=by simp [h3]
  have b4:(c.1==4)=false:=by simp [h4]
  have b5:(c.1==5)=false:=by simp [h5]
  have b6:(c.1==6)=false:=by simp [h6]
  have b7:(c.1==7)=false:=by simp [h7]
  simp only [b1,b2,b3,b4,b5,b6,b7,h1,h2,h3,h4,h5,h6,h7,a2_,a0_,h9_,m6_]
theorem tp_ {l:ab_} (hl:Lk l) {c:ak_} (hs:Sm c.2.2.2.2.2.1.length):fn_ l c=some (cond (da_ l c) 0 11,()):=by
  unfold fn_
  rw [kp_,ni_.2 hl,if_pos rfl,a0_,sx_ hl hs]
  cases da_ l c <;> rfl
theorem tu_ {l:ab_} (hl:Lk l) (c:ak_):fr_ l c=some (cond (da_ l c) 0 11,()):=by
  unfold fr_
  rw [ld_,ni_.2 hl,if_pos rfl,a0_,nx_ hl]
  cases da_ l c <;> rfl
end
section
theorem yo_ {α τ σ ρ:Type} (l:List α) (f:τ→α→τ) (F:Nat→τ→σ) (R:τ→ρ) (t0:τ) {body:σ→Option (σ⊕ρ)}
    (h:∀ i x t,l[i]?=some x→body (F i t)=some (.inl (F (i+1) (f t x)))) (e:∀ t,body (F l.length t)=some (.inr (R t))):af_ body (F 0 t0)=some (R (l.foldl f t0)):=by
  obtain ⟨t,h1,h2⟩:=jw_ l (fun _=>f) F R t0 (fun i t=>t=(l.take i).foldl f t0) rfl (fun i x t hx ht=>⟨h i x t hx,by
    rw [ht,d2_,hx,n3_]
    rfl⟩) (fun t _=>e t)
  rw [h2,h1,d1_]
theorem ly_ {α τ σ ρ υ:Type} (l:List α) (f:τ→α→τ) (F:Nat→τ→σ) (R:τ→ρ) (t0:τ) {body:σ→Option (σ⊕ρ)} {K:ρ→Option υ} {x:Option υ}
    (h:∀ i x t,l[i]?=some x→body (F i t)=some (.inl (F (i+1) (f t x)))) (e:∀ t,body (F l.length t)=some (.inr (R t))) (hk:K (R (l.foldl f t0))=x):(af_ body (F 0 t0)).bind K=x:=by
  rw [yo_ l f F R t0 h e,a0_,hk]
theorem take_zipL {α β:Type}:∀ (l:List α) (m:List β) (i:Nat),(l.zip m).take i=(l.take i).zip (m.take i)
  | [],m,i=>by simp
  | x::l,[],i=>by cases i <;> simp
  | x::l,y::m,0=>rfl
  | x::l,y::m,i+1=>by simp [take_zipL l m i]
theorem jj_ {l:ab_} {c:List Int}:cz_ l c=true↔(c.length:Int)=l.1∧∀ n ∈ c,0≤n∧n≤l.2 - 1:=by
  unfold cz_
  rw [a1_,g4_,e8_]
  exact ⟨fun h=>⟨h.1,fun n hn=>cc_.1 (h.2 n hn)⟩,fun h=>⟨h.1,fun n hn=>cc_.2 (h.2 n hn)⟩⟩
def yr_ (l:List Int) (k:Int):Int:=l.foldl (fun s x=>cond (x==k) (w64 (s+1)) s) 0
def rgtW (code guess:List Int):Int:=(code.zip guess).foldl (fun s p=>cond (p.1==p.2) (w64 (s+1)) s) 0
def comW (code guess:List Int):Int:=(List.range 10).foldl (fun s (k:Nat)=>w64 (s+minI (yr_ code k) (yr_ guess k))) 0
theorem cntW_step {l:List Int} {j:Nat} {x k:Int} (h:l[j]?=some x):yr_ (l.take (j+1)) k=cond (x==k) (w64 (yr_ (l.take j) k+1)) (yr_ (l.take j) k):=by
  unfold yr_
  rw [d2_,h,n3_]
  rfl
theorem pv_ {l:List Int} {k:Int} (hl:Sm l.length):eb_ l k=some (yr_ l k,()):=by
  unfold eb_ yr_
  refine ly_ l (fun s x=>cond (x==k) (w64 (s+1)) s) (fun i s=>(s,((i:Int),()))) (fun s=>(s,())) 0 (fun i x s hx=>by
    have hi:=am_ hx
    simp only [dlt hi,a4_,ah_ hx,a0_,ay_ (show Sm i by unfold Sm at *; omega)]
    cases x==k <;> rfl) (fun s=>by simp only [dnl,a2_]) rfl
theorem ref01_answer {l:ab_} (hl:Lk l) {code guess:List Int} (hc:cz_ l code=true) (hg:cz_ l guess=true):hw_ code guess=some (rgtW code guess,(w64 (comW code guess - rgtW code guess),())):=by
  obtain ⟨c1,_⟩:=jj_.1 hc
  obtain ⟨g1,_⟩:=jj_.1 hg
  have w2:=hl.w2
  have sc:Sm code.length:=by unfold Sm; omega
  have sg:Sm guess.length:=by unfold Sm; omega
  have hz:(code.zip guess).length=code.length:=by rw [m8_]; omega
  unfold hw_
  refine ly_ (code.zip guess) (fun s p=>cond (p.1==p.2) (w64 (s+1)) s) (fun i s=>(s,((i:Int),()))) (fun s=>(s,())) 0 (fun i p s hp=>by
    obtain ⟨h1,h2⟩:=h2_.1 hp
    simp only [dlt (am_ h1),a4_,ah_ h1,ah_ h2,a0_,ay_ (show Sm i by have:=am_ h1; unfold Sm at *; omega)]
    cases p.1==p.2 <;> rfl) (fun s=>by rw [hz]; simp only [dnl,a2_]) ?_
  refine ly_ (List.range 10) (fun s (k:Nat)=>w64 (s+minI (yr_ code k) (yr_ guess k))) (fun i s=>(s,((i:Int),()))) (fun s=>(s,())) 0 (fun i k s hk=>by
    have hi:=am_ hk
    rw [g9_] at hi
    rw [l1_ hi] at hk
    obtain rfl:=a6_ hk
    simp only [show decide ((i:Int)<10)=true from b2_ (by omega),a4_,pv_ sc,pv_ sg,a0_,ay_ (show Sm i by unfold Sm; omega)]) (fun s=>by
    rw [g9_]
    rfl) rfl
theorem codes_answer {l:ab_} (hl:Lk l) {code guess:List Int} (hc:cz_ l code=true) (hg:cz_ l guess=true):hx_ code guess=some (rgtW code guess,(w64 (comW code guess - rgtW code guess),())):=by
  obtain ⟨c1,c2⟩:=jj_.1 hc
  obtain ⟨g1,g2⟩:=jj_.1 hg
  have w2:=hl.w2
  have s2:=hl.s2
  have hz:(code.zip guess).length=code.length:=by rw [m8_]; omega
  have tk:∀ i,(code.zip guess).take i=(code.take i).zip (guess.take i):=fun i=>take_zipL _ _ i
  let I:Nat→(Int×(List Int×List Int))→Prop:=fun i t=>t.1=rgtW (code.take i) (guess.take i)∧t.2.1.length=10∧t.2.2.length=10∧∀ k:Nat,k<10→t.2.1[k]?=some (yr_ (code.take i) k)∧t.2.2[k]?=some (yr_ (guess.take i) k)
  have h1:=jw_ (code.zip guess) (fun _ (t:Int×(List Int×List Int)) p=>(cond (p.1==p.2) (w64 (t.1+1)) t.1,(t.2.1.set p.1.toNat (w64 ((t.2.1[p.1.toNat]?).getD 0+1)),t.2.2.set p.2.toNat (w64 ((t.2.2[p.2.toNat]?).getD 0+1)))))
    (fun i t=>(t.1,((i:Int),(t.2.1,(t.2.2,()))))) (fun t=>(t.1,(t.2.1,(t.2.2,())))) (0,([0,0,0,0,0,0,0,0,0,0],[0,0,0,0,0,0,0,0,0,0])) I
    (body:=fun (v0:(Int×(Int×((List Int)×((List Int)×Unit))))) =>
 (cond (decide (v0.2.1<(code.length:Int)))
 ((at? code v0.2.1).bind fun v1 =>
 ((((at? guess v0.2.1).bind fun v2 =>
 (cond (v1==v2)
 (some ((w64 (v0.1+1)),()))
 (some (v0.1,()))))).bind fun v3 =>
 (cond (decide (v1<(10:Int)))
 ((at? v0.2.2.1 v1).bind fun v4 =>
 ((at? v0.2.2.1 v1).bind fun v5 =>
 (cond (decide (v1<(10:Int)))
 ((at? v0.2.2.1 v1).bind fun v6 =>
 ((at? v0.2.2.1 v1).bind fun v7 =>
 ((at? guess v0.2.1).bind fun v8 =>
 (cond (decide (v8<(10:Int)))
 ((at? v0.2.2.2.1 v8).bind fun v9 =>
 ((at? v0.2.2.2.1 v8).bind fun v10 =>
 (cond (decide (v8<(10:Int)))
 ((at? v0.2.2.2.1 v8).bind fun v11 =>
 ((at? v0.2.2.2.1 v8).bind fun v12 =>
 (some (Sum.inl (v3.1,((w64 (v0.2.1+1)),((v0.2.2.1.set v1.toNat (w64 (v5+1))),((v0.2.2.2.1.set v8.toNat (w64 (v10+1))),()))))))))
 none)))
 none))))
 none)))
 none)))
 (some (Sum.inr (v0.1,(v0.2.2.1,(v0.2.2.2.1,())))))))
    ⟨rfl,rfl,rfl,fun k hk=>⟨by
      match k,hk with
      | 0,_ | 1,_ | 2,_ | 3,_ | 4,_ | 5,_ | 6,_ | 7,_ | 8,_ | 9,_=>rfl,by
      match k,hk with
      | 0,_ | 1,_ | 2,_ | 3,_ | 4,_ | 5,_ | 6,_ | 7,_ | 8,_ | 9,_=>rfl⟩⟩ (fun i p t hp ht=>by
      obtain ⟨x,y⟩:=p
      obtain ⟨hx,hy⟩:=h2_.1 hp
      obtain ⟨t1,t2,t3,t4⟩:=ht
      have hx':=c2 x (b5_ hx)
      have hy':=g2 y (b5_ hy)
      have ax:at? t.2.1 x=some (yr_ (code.take i) x):=by
        have:=(t4 x.toNat (by omega)).1
        rw [show ((x.toNat:Nat):Int)=x by omega] at this
        unfold at?
        rw [if_pos hx'.1]
        exact this
      have ay:at? t.2.2 y=some (yr_ (guess.take i) y):=by
        have:=(t4 y.toNat (by omega)).2
        rw [show ((y.toNat:Nat):Int)=y by omega] at this
        unfold at?
        rw [if_pos hy'.1]
        exact this
      have gx:t.2.1[x.toNat]?=some (yr_ (code.take i) x):=by
        have:=(t4 x.toNat (by omega)).1
        rwa [show ((x.toNat:Nat):Int)=x by omega] at this
      have gy:t.2.2[y.toNat]?=some (yr_ (guess.take i) y):=by
        have:=(t4 y.toNat (by omega)).2
        rwa [show ((y.toNat:Nat):Int)=y by omega] at this
      refine ⟨?_,?_,?_,?_,fun k hk => ?_⟩
      · simp only [dlt (am_ hx),a4_,ah_ hx,ah_ hy,a0_,ax,ay,show decide (x<10)=true from b2_ (by omega),show decide (y<10)=true from b2_ (by omega),ay_ (show Sm i by have:=am_ hx; unfold Sm; omega),gx,gy,f3_]
        cases x==y <;> rfl
      · show cond (x==y) (w64 (t.1+1)) t.1=rgtW (code.take (i+1)) (guess.take (i+1))
        unfold rgtW
        rw [← tk,d2_,hp,n3_,tk,t1]
        rfl
      · simp [t2]
      · simp [t3]
      · obtain ⟨q1,q2⟩:=t4 k hk
        constructor
        · show (t.2.1.set x.toNat (w64 ((t.2.1[x.toNat]?).getD 0+1)))[k]?=_
          rw [cntW_step hx,gx,f3_,h8_]
          by_cases e:x.toNat=k
          · have e2:x=(k:Int):=by omega
            rw [if_pos e,if_pos (by omega),e2,d5_,a4_]
          · have e2:(x==(k:Int))=false:=by simp; omega
            rw [if_neg e,q1,e2,a2_]
        · show (t.2.2.set y.toNat (w64 ((t.2.2[y.toNat]?).getD 0+1)))[k]?=_
          rw [cntW_step hy,gy,f3_,h8_]
          by_cases e:y.toNat=k
          · have e2:y=(k:Int):=by omega
            rw [if_pos e,if_pos (by omega),e2,d5_,a4_]
          · have e2:(y==(k:Int))=false:=by simp; omega
            rw [if_neg e,q2,e2,a2_]) (fun t _=>by rw [hz]; simp only [dnl,a2_])
  obtain ⟨t,⟨t1,t2,t3,t4⟩,h2⟩:=h1
  rw [hz] at t1 t4
  rw [d1_,show guess.take code.length=guess by rw [g3_ (by omega)]] at t1
  unfold hx_
  refine (congrArg (fun o=>Option.bind o _) h2).trans ?_
  rw [a0_]
  refine ly_ (List.range 10) (fun s (k:Nat)=>w64 (s+minI (yr_ code k) (yr_ guess k))) (fun i s=>(s,((i:Int),()))) (fun s=>(s,())) 0 (fun i k s hk=>by
    have hi:=am_ hk
    rw [g9_] at hi
    rw [l1_ hi] at hk
    obtain rfl:=a6_ hk
    obtain ⟨q1,q2⟩:=t4 i hi
    rw [d1_] at q1
    rw [show guess.take code.length=guess by rw [g3_ (by omega)]] at q2
    simp only [show decide ((i:Int)<10)=true from b2_ (by omega),a4_,ah_ q1,ah_ q2,a0_,ay_ (show Sm i by unfold Sm; omega)]) (fun s=>by
    rw [g9_]
    rfl) ?_
  rw [t1]
  rfl
end
section
def vn_ (code:List Int) (a b:Int):List Int:=(code.take (b+1).toNat).drop a.toNat
def sumW (l:List Int):Int:=l.foldl (fun s x=>w64 (s+x)) 0
def gt0 (code:List Int) (i:Int):Int:=(at? code i).getD 0
def plV (c:ak_) (code:List Int):Bool :=
  cond (c.1==1) (gt0 code c.2.1==c.2.2.2.1) <|
  cond (c.1==2) (sumW (vn_ code c.2.1 c.2.2.1)==c.2.2.2.1) <|
  cond (c.1==3) (decide (gt0 code c.2.1<gt0 code c.2.2.1)) <|
  cond (c.1==4) (gt0 code c.2.1==gt0 code c.2.2.1) <|
  cond (c.1==5) (yr_ code c.2.2.2.1==c.2.2.2.2.1) <|
  cond (c.1==6) (cond (rgtW code c.2.2.2.2.2.1==c.2.2.2.1) (w64 (comW code c.2.2.2.2.2.1 - rgtW code c.2.2.2.2.2.1)==c.2.2.2.2.1) false) <|
  cond (c.1==7) ((gt0 code c.2.1).tmod c.2.2.2.1==c.2.2.2.2.1) false
def tr (c:ak_) (code:List Int):Bool:=plV c code != c.2.2.2.2.2.2
theorem gt0_at {code:List Int} {i x:Int} (h:at? code i=some x):gt0 code i=x:=by unfold gt0; rw [h]; rfl
theorem oz_ {l:ab_} (hl:Lk l) {c:ak_} {code:List Int} (hc:da_ l c=true) (hk:cz_ l code=true):fb_ c code=some (tr c code,())∧fp_ c code=some (tr c code,()):=by
  obtain ⟨c1,c2⟩:=jj_.1 hk
  have w1:=hl.w1; have w2:=hl.w2; have s1:=hl.s1; have s2:=hl.s2
  have sc:Sm code.length:=by unfold Sm; omega
  unfold da_ at hc
  have hat:∀ i,wi i 0 (l.1 - 1)=true→at? code i=some (gt0 code i):=by
    intro i hi
    obtain ⟨a,b⟩:=cc_.1 hi
    obtain ⟨x,h1⟩:=bb_ (l:=code) (i:=i.toNat) (by omega)
    have h2:at? code i=some x:=by unfold at?; rw [if_pos a]; exact h1
    rw [h2,gt0_at h2]
  unfold fb_ fp_ mr_ tr plV
  by_cases h1:c.1=1
  · simp only [h1,k7_,a1_] at hc
    have hx:=hat _ hc.1
    simp only [h1,hx,d5_,a4_,a0_,and_self]
  have b1:(c.1==1)=false:=by simp [h1]
  simp only [b1,a2_]
  by_cases h2:c.1=2
  · simp only [h2,k7_,a1_,show ¬ ((2:Int)=1) by omega,h9_] at hc
    obtain ⟨hA,hB,hAB,_⟩:=hc
    obtain ⟨a1,a2⟩:=cc_.1 hA
    obtain ⟨d1,d2⟩:=cc_.1 hB
    have hab:c.2.1≤c.2.2.1:=by simpa using hAB
    have hsub:sub? code c.2.1 (w64 (c.2.2.1+1))=some (vn_ code c.2.1 c.2.2.1):=by
      rw [km_ (by omega) (by omega)]
      unfold sub? vn_
      rw [if_pos ⟨a1,by omega,by omega⟩]
    have hsl:(vn_ code c.2.1 c.2.2.1).length=(c.2.2.1 - c.2.1+1).toNat:=by
      unfold vn_
      rw [j9_,c7_]
      omega
    have hsg:∀ (j:Nat) x,(vn_ code c.2.1 c.2.2.1)[j]?=some x→at? code (c.2.1+(j:Int))=some x:=by
      intro j x hj
      have hlt:=am_ hj
      unfold vn_ at hj
      rw [List.getElem?_drop,i8_,if_pos (by omega)] at hj
      unfold at?
      rw [if_pos (by omega),show (c.2.1+(j:Int)).toNat=c.2.1.toNat+j by omega]
      exact hj
    simp only [h2,d5_,a4_,hsub,a0_]
    constructor
    · have:=yo_ (vn_ code c.2.1 c.2.2.1) (fun s x=>w64 (s+x)) (fun i s=>(s,(c.2.1+(i:Int),()))) (fun s=>(s,())) 0 (body:=fun (v1:(Int×(Int×Unit))) =>
        (cond (decide (v1.2.1≤c.2.2.1))
        ((at? code v1.2.1).bind fun v2 =>
        (some (Sum.inl ((w64 (v1.1+v2)),((w64 (v1.2.1+1)),())))))
        (some (Sum.inr (v1.1,()))))) (fun i x s hx=>by
        have hi:=am_ hx
        simp only [show decide (c.2.1+(i:Int)≤c.2.2.1)=true from b2_ (by omega),a4_,hsg i x hx,a0_,km_ (n:=c.2.1+(i:Int)+1) (by omega) (by omega)]
        rw [show c.2.1+(i:Int)+1=c.2.1+((i+1:Nat):Int) by omega]) (fun s=>by
        simp only [show decide (c.2.1+((vn_ code c.2.1 c.2.2.1).length:Int)≤c.2.2.1)=false from b7_ (by omega),a2_])
      simp only [Int.natCast_zero,Int.add_zero] at this
      rw [this]
      rfl
    · refine congrArg (fun o=>Option.bind o _) (?_:_=some (sumW (vn_ code c.2.1 c.2.2.1)==c.2.2.2.1,())) |>.trans rfl
      refine ly_ (vn_ code c.2.1 c.2.2.1) (fun s x=>w64 (s+x)) (fun i s=>(s,((i:Int),()))) (fun s=>(s,())) 0 (fun i x s hx=>by
        have hi:=am_ hx
        simp only [dlt hi,a4_,ah_ hx,a0_,ay_ (show Sm i by unfold Sm; omega)]) (fun s=>by simp only [dnl,a2_]) rfl
  have b2:(c.1==2)=false:=by simp [h2]
  simp only [b2,a2_]
  by_cases h3:c.1=3
  · simp only [h3,k7_,a1_,show ¬ ((3:Int)=1) by omega,show ¬ ((3:Int)=2) by omega,h9_,m9_] at hc
    simp only [h3,hat _ hc.1,hat _ hc.2.1,d5_,a4_,a0_,and_self]
  have b3:(c.1==3)=false:=by simp [h3]
  simp only [b3,a2_]
  by_cases h4:c.1=4
  · simp only [h4,k7_,a1_,show ¬ ((4:Int)=1) by omega,show ¬ ((4:Int)=2) by omega,h9_,n0_] at hc
    simp only [h4,hat _ hc.1,hat _ hc.2.1,d5_,a4_,a0_,and_self]
  have b4:(c.1==4)=false:=by simp [h4]
  simp only [b4,a2_]
  by_cases h5:c.1=5
  · have hs:=pv_ (k:=c.2.2.2.1) sc
    simp only [h5,d5_,a4_,hs,a0_,true_and]
    have:=hs
    unfold eb_ at this
    obtain ⟨y,h6,h7⟩:=bnd this
    rw [h6]
    have e:y.1=yr_ code c.2.2.2.1:=congrArg Prod.fst (a6_ h7)
    rw [a0_,a0_,e]
  have b5:(c.1==5)=false:=by simp [h5]
  simp only [b5,a2_]
  by_cases h6:c.1=6
  · simp only [h6,k7_,a1_,show ¬ ((6:Int)=1) by omega,show ¬ ((6:Int)=2) by omega,show ¬ ((6:Int)=3∨(6:Int)=4) by omega,show ¬ ((6:Int)=5) by omega,h9_] at hc
    simp only [h6,d5_,a4_,ref01_answer hl hk hc.1,codes_answer hl hk hc.1,a0_]
    cases rgtW code c.2.2.2.2.2.1==c.2.2.2.1 <;> exact ⟨rfl,rfl⟩
  have b6:(c.1==6)=false:=by simp [h6]
  simp only [b6,a2_]
  by_cases h7:c.1=7
  · simp only [h7,k7_,a1_,show ¬ ((7:Int)=1) by omega,show ¬ ((7:Int)=2) by omega,show ¬ ((7:Int)=3∨(7:Int)=4) by omega,show ¬ ((7:Int)=5) by omega,show ¬ ((7:Int)=6) by omega,h9_] at hc
    obtain ⟨n1,n2⟩:=cc_.1 hc.2.1
    have hm:md (gt0 code c.2.1) c.2.2.2.1=some ((gt0 code c.2.1).tmod c.2.2.2.1):=md_pos (by omega)
    simp only [h7,hat _ hc.1,hm,d5_,a4_,a0_,and_self]
  · simp [h1,h2,h3,h4,h5,h6,h7] at hc
end
section
def ie_ (S:Nat):Nat→List (List Int)
  | 0=>[[]]
  | W+1=>(List.range S).flatMap fun (x:Nat)=>(ie_ S W).map fun c=>(x:Int)::c
theorem flat_len {α β:Type} {f:α→List β} {m:Nat}:∀ (l:List α),(∀ x ∈ l,(f x).length=m)→(l.flatMap f).length=l.length * m
  | [],_=>by simp
  | x::l,h=>by
    rw [o7_,a8_,h x (by simp),flat_len l (fun y hy=>h y (by simp [hy])),c6_,j1_]
    omega
theorem flat_get {α β:Type} {f:α→List β} {m:Nat}:∀ (l:List α) (q r:Nat) (x:α),(∀ x ∈ l,(f x).length=m)→r<m→l[q]?=some x→(l.flatMap f)[q * m+r]?=(f x)[r]?
  | [],q,r,x,h,hr,hq=>by simp at hq
  | y::l,0,r,x,h,hr,hq=>by
    have e:y=x:=by simpa using hq
    subst e
    rw [o7_,Nat.zero_mul,b0_,b3_ (by rw [h y (by simp)]; exact hr)]
  | y::l,q+1,r,x,h,hr,hq=>by
    have hq':l[q]?=some x:=by simpa using hq
    have hl:=h y (by simp)
    rw [o7_,d3_ (by rw [hl,j1_]; omega),hl,show (q+1) * m+r - m=q * m+r by rw [j1_]; omega]
    exact flat_get l q r x (fun z hz=>h z (by simp [hz])) hr hq'
theorem pd_ (S:Nat):∀ W,(ie_ S W).length=S ^ W
  | 0=>rfl
  | W+1=>by
    unfold ie_
    rw [flat_len (m:=S ^ W) _ (fun x _=>by rw [c9_,pd_ S W]),g9_,j4_,k1_]
theorem si_ (S:Nat):∀ W c,c ∈ ie_ S W↔c.length=W∧∀ n ∈ c,0≤n∧n<(S:Int)
  | 0,c=>by
    unfold ie_
    rw [e2_]
    constructor
    · rintro rfl; exact ⟨rfl,by simp⟩
    · rintro ⟨h,_⟩; exact o9_.1 h
  | W+1,c=>by
    unfold ie_
    rw [List.mem_flatMap]
    constructor
    · rintro ⟨x,hx,hc⟩
      obtain ⟨d,hd,rfl⟩:=d9_.1 hc
      obtain ⟨h1,h2⟩:=(si_ S W d).1 hd
      have:=m1_.1 hx
      refine ⟨by rw [c6_,h1],fun n hn => ?_⟩
      rcases e3_.1 hn with rfl | hn
      · omega
      · exact h2 n hn
    · rintro ⟨h1,h2⟩
      cases c with
      | nil=>simp at h1
      | cons x c =>
        obtain ⟨a,b⟩:=h2 x (by simp)
        refine ⟨x.toNat,m1_.2 (by omega),d9_.2 ⟨c,(si_ S W c).2 ⟨by simpa using h1,fun n hn=>h2 n (by simp [hn])⟩,?_⟩⟩
        rw [show ((x.toNat:Nat):Int)=x by omega]
def dig (S:Nat):Nat→Nat→List Int
  | 0,_=>[]
  | W+1,i=>dig S W (i / S)++[((i % S:Nat):Int)]
theorem dig_len (S:Nat):∀ W i,(dig S W i).length=W
  | 0,_=>rfl
  | W+1,i=>by unfold dig; rw [a8_,dig_len S W]; rfl
theorem dig_cons {S:Nat} (hS:0<S):∀ (W q r:Nat),q<S→r<S ^ W→dig S (W+1) (q * S ^ W+r)=(q:Int)::dig S W r
  | 0,q,r,hq,hr=>by
    have:r=0:=by simpa using hr
    subst this
    simp [dig,j8_ hq]
  | W+1,q,r,hq,hr=>by
    have e1:(q * S ^ (W+1)+r) / S=q * S ^ W+r / S:=by
      rw [j4_,← Nat.mul_assoc,k1_ (q * S ^ W) S,Nat.mul_add_div hS]
    have e2:(q * S ^ (W+1)+r) % S=r % S:=by
      rw [j4_,← Nat.mul_assoc,k1_ (q * S ^ W) S,Nat.mul_add_mod]
    have hr':r / S<S ^ W:=Nat.div_lt_of_lt_mul (by rw [k1_,← j4_]; exact hr)
    rw [dig,e1,e2,dig_cons hS W q (r / S) hq hr']
    rfl
theorem pe_ {S:Nat} (hS:0<S):∀ (W i:Nat),i<S ^ W→(ie_ S W)[i]?=some (dig S W i)
  | 0,i,h=>by
    have:i=0:=by simpa using h
    subst this; rfl
  | W+1,i,h=>by
    have hP:0<S ^ W:=Nat.pow_pos hS
    have hr:i % S ^ W<S ^ W:=Nat.mod_lt _ hP
    have hq:i / S ^ W<S:=Nat.div_lt_of_lt_mul (by rw [← j4_]; exact h)
    have he:i=i / S ^ W * S ^ W+i % S ^ W:=by rw [k1_]; exact (Nat.div_add_mod i (S ^ W)).symm
    rw [he,dig_cons hS W _ _ hq hr]
    unfold ie_
    rw [flat_get (m:=S ^ W) _ _ _ (i / S ^ W) (fun x _=>by rw [c9_,pd_]) hr (by rw [l1_ hq]),d7_,pe_ hS W _ hr]
    rfl
def rdg (l:ab_) (cl:List ak_):List (List Int):=(ie_ l.2.toNat l.1.toNat).filter fun c=>cl.all (tr · c)
theorem codes_ok {l:ab_} (hl:Lk l) {c:List Int}:c ∈ ie_ l.2.toNat l.1.toNat↔cz_ l c=true:=by
  have:=hl.w1; have:=hl.s1
  rw [si_,jj_]
  constructor
  · rintro ⟨a,b⟩; exact ⟨by omega,fun n hn=>by have:=b n hn; omega⟩
  · rintro ⟨a,b⟩; exact ⟨by omega,fun n hn=>by have:=b n hn; omega⟩
theorem pow_bd {l:ab_} (hl:Lk l):l.2.toNat ^ l.1.toNat≤10000:=by
  have:=hl.w1; have:=hl.w2; have:=hl.s1; have:=hl.s2
  have h1:l.2.toNat ^ l.1.toNat≤10 ^ l.1.toNat:=Nat.pow_le_pow_left (by omega) _
  have h2:10 ^ l.1.toNat≤10 ^ 4:=Nat.pow_le_pow_right (by omega) (by omega)
  omega
theorem any_all (cl:List ak_) (code:List Int):(!(cl.any fun c=>!(tr c code)))=cl.all (tr · code):=sq_ cl fun c=>tr c code
theorem ref01_first {l:ab_} (hl:Lk l) {cl:List ak_} (hn:cl.length≤20) {code:List Int} (hc:∀ c ∈ cl,da_ l c=true) (hk:cz_ l code=true):∃ r,jc_ cl code=some (r,())∧decide (r<0)=cl.all (tr · code):=by
  obtain ⟨n,h1,h2,_⟩:=if_lt (l:=cl) (by unfold Sm; omega) (fun c=>!(tr c code)) (body:=fun (v0:(Int×Unit)) =>
    (cond (decide (v0.1<(cl.length:Int)))
    ((at? cl v0.1).bind fun v1 =>
    ((fb_ v1 code).bind fun v2 =>
    (cond (!v2.1)
    (some (Sum.inr (Sum.inr (v0.1,()))))
    (some (Sum.inl ((w64 (v0.1+1)),()))))))
    (some (Sum.inr (Sum.inl ()))))) (fun i c hi=>by
    simp only [dlt (am_ hi),a4_,ah_ hi,a0_,(oz_ hl (hc c (b5_ hi)) hk).1]
    cases tr c code <;> rfl) (by simp only [dnl,a2_])
  exact ⟨n,h1,by rw [h2,any_all]⟩
theorem codes_fails {l:ab_} (hl:Lk l) {cl:List ak_} (hn:cl.length≤20) {code:List Int} (hc:∀ c ∈ cl,da_ l c=true) (hk:cz_ l code=true):∃ r,fq_ cl code=some (r,())∧decide (r<0)=cl.all (tr · code):=by
  obtain ⟨n,h1,h2,_⟩:=if_lt (l:=cl) (by unfold Sm; omega) (fun c=>!(tr c code)) (body:=fun (v0:(Int×Unit)) =>
    (cond (decide (v0.1<(cl.length:Int)))
    ((at? cl v0.1).bind fun v1 =>
    ((fp_ v1 code).bind fun v2 =>
    (cond (!v2.1)
    (some (Sum.inr (Sum.inr (v0.1,()))))
    (some (Sum.inl ((w64 (v0.1+1)),()))))))
    (some (Sum.inr (Sum.inl ()))))) (fun i c hi=>by
    simp only [dlt (am_ hi),a4_,ah_ hi,a0_,(oz_ hl (hc c (b5_ hi)) hk).2]
    cases tr c code <;> rfl) (by simp only [dnl,a2_])
  exact ⟨n,h1,by rw [h2,any_all]⟩
theorem rep_set {p:Nat} {x:Int} {t:List Int}:(List.replicate (p+1) (0:Int)++t).set p x=List.replicate p 0++(x::t):=by
  rw [List.set_append_left _ _ (by rw [f1_]; omega),p3_,p2_ _ _ (by rw [f1_]; omega),f1_,l6_]
  simp
theorem dig_loop {l:ab_} (hl:Lk l) {S:Nat} (hS:l.2=(S:Int)):∀ (p n:Nat) (t:List Int),p≤4→n≤10000→af_ (ρ:=((List Int)×Unit)) (fun (v4:(Int×(Int×((List Int)×Unit)))) =>
 (cond (decide (0≤v4.2.1))
 ((md v4.1 l.2).bind fun v5 =>
 ((at? v4.2.2.1 v4.2.1).bind fun v6 =>
 ((at? v4.2.2.1 v4.2.1).bind fun v7 =>
 ((dv v4.1 l.2).bind fun v8 =>
 (some (Sum.inl (v8,((w64 (v4.2.1 - 1)),((v4.2.2.1.set v4.2.1.toNat v5),())))))))))
 (some (Sum.inr (v4.2.2.1,()))))) ((n:Int),((p:Int) - 1,(List.replicate p 0++t,())))=some (dig S p n++t,()):=by
  have s1:=hl.s1; have s2:=hl.s2
  intro p
  induction p with
  | zero =>
    intro n t _ _
    refine lm_ ?_
    simp [dig]
  | succ p ih =>
    intro n t hp hn
    have hd:dv (n:Int) l.2=some ((n / S:Nat):Int):=by
      unfold dv
      have:n / S≤n:=Nat.div_le_self n S
      rw [hS,if_neg (by omega),show (n:Int).tdiv (S:Int)=((n / S:Nat):Int) from (Int.ofNat_tdiv ..).symm]
      generalize n / S=q at this
      rw [km_ (by omega) (by omega)]
    have hm:md (n:Int) l.2=some ((n % S:Nat):Int):=by
      rw [hS,md_pos (by omega),show (n:Int).tmod (S:Int)=((n % S:Nat):Int) from (Int.ofNat_tmod ..).symm]
    obtain ⟨y,hy⟩:=bb_ (l:=List.replicate (p+1) (0:Int)++t) (i:=p) (by simp; omega)
    have e:((p+1:Nat):Int) - 1=((p:Nat):Int):=by omega
    refine (rm_ (s':=(((n / S:Nat):Int),((p:Int) - 1,(List.replicate p 0++(((n % S:Nat):Int)::t),())))) ?_).trans ?_
    · simp only [e,show decide (0≤(p:Int))=true from b2_ (by omega),a4_,hm,hd,ah_ hy,a0_,c1_,rep_set,km_ (n:=(p:Int) - 1) (by omega) (by omega)]
    · rw [ih (n / S) _ (by omega) (c3_ (Nat.div_le_self n S) hn)]
      simp [dig]
theorem ref01_All {l:ab_} (hl:Lk l) {cl:List ak_} (hn:cl.length≤20) (hc:∀ c ∈ cl,da_ l c=true):mo_ l cl=some (rdg l cl,()):=by
  have w1:=hl.w1; have w2:=hl.w2; have s1:=hl.s1; have s2:=hl.s2
  obtain ⟨W,hW⟩:∃ W:Nat,l.1=(W:Int):=⟨l.1.toNat,by omega⟩
  obtain ⟨S,hS⟩:∃ S:Nat,l.2=(S:Int):=⟨l.2.toNat,by omega⟩
  have hpow:S ^ W≤10000:=by have:=pow_bd hl; rwa [hW,hS,c1_,c1_] at this
  have hSp:0<S:=by omega
  have hlen:=pd_ S W
  have e1:af_ (ρ:=(Int×Unit)) (fun (v0:(Int×(Int×Unit))) =>
      (cond (decide (v0.2.1<l.1))
      (some (Sum.inl ((w64 (v0.1 * l.2)),((w64 (v0.2.1+1)),()))))
      (some (Sum.inr (v0.1,()))))) (1,(0,()))=some (((S ^ W:Nat):Int),()):=by
    obtain ⟨t,rfl,h2⟩:=jw_ (List.range W) (fun i t x=>t * S) (fun i (t:Nat)=>((t:Int),((i:Int),()))) (fun t=>((t:Int),())) 1 (fun i t=>t=S ^ i) (body:=fun (v0:(Int×(Int×Unit))) =>
      (cond (decide (v0.2.1<l.1))
      (some (Sum.inl ((w64 (v0.1 * l.2)),((w64 (v0.2.1+1)),()))))
      (some (Sum.inr (v0.1,()))))) rfl (fun i x t hi ht=>by
      have hi2:=am_ hi
      rw [g9_] at hi2
      have:S ^ (i+1)≤10000:=c3_ (Nat.pow_le_pow_right hSp (by omega)) hpow
      refine ⟨?_,by rw [ht,j4_]⟩
      simp only [show decide ((i:Int)<l.1)=true from b2_ (by omega),a4_,ay_ (show Sm i by unfold Sm; omega)]
      rw [hS,← Int.natCast_mul,ht,show S ^ i * S=S ^ (i+1) from (j4_ ..).symm,km_ (by omega) (by omega)]) (fun t _=>by
      rw [g9_]
      simp only [show decide ((W:Int)<l.1)=false from b7_ (by omega),a2_])
    rw [g9_] at h2
    exact h2
  unfold mo_
  refine (congrArg (fun o=>Option.bind o _) e1).trans ?_
  rw [a0_]
  obtain ⟨t,h1,h2⟩:=jw_ (ie_ S W) (fun j t c=>cond (cl.all (tr · c)) (t++[c]) t) (fun j (t:List (List Int))=>(t,((j:Int),()))) (fun t=>(t,())) [] (fun j t=>t=((ie_ S W).take j).filter fun c=>cl.all (tr · c)) (body:=fun (v2:((List (List Int))×(Int×Unit))) =>
 (cond (decide (v2.2.1<((S ^ W:Nat):Int)))
 ((((mk? (α:=Int) l.1 0).bind fun v3 =>
 ((af_ (ρ:=((List Int)×Unit)) (fun (v4:(Int×(Int×((List Int)×Unit)))) =>
 (cond (decide (0≤v4.2.1))
 ((md v4.1 l.2).bind fun v5 =>
 ((at? v4.2.2.1 v4.2.1).bind fun v6 =>
 ((at? v4.2.2.1 v4.2.1).bind fun v7 =>
 ((dv v4.1 l.2).bind fun v8 =>
 (some (Sum.inl (v8,((w64 (v4.2.1 - 1)),((v4.2.2.1.set v4.2.1.toNat v5),())))))))))
 (some (Sum.inr (v4.2.2.1,()))))) (v2.2.1,((w64 (l.1 - 1)),(v3,())))).bind fun v9 =>
 ((jc_ cl v9.1).bind fun v10 =>
 (cond (decide (v10.1<0))
 ((push? (α:=(List Int)) v2.1 [v9.1]).bind fun v11 =>
 (some (v11,())))
 (some (v2.1,()))))))).bind fun v12 =>
 (some (Sum.inl (v12.1,((w64 (v2.2.1+1)),())))))
 (some (Sum.inr (v2.1,()))))) rfl (fun j c t hj ht=>by
    have hj2:=am_ hj
    rw [hlen] at hj2
    have hg:=pe_ hSp W j hj2
    rw [hj] at hg
    obtain rfl:=a6_ hg
    have hok:cz_ l (dig S W j)=true:=(codes_ok hl (c:=dig S W j)).1 (by rw [hW,hS,c1_,c1_]; exact b5_ hj)
    obtain ⟨r,r1,r2⟩:=ref01_first hl hn hc hok
    have hdig:=dig_loop hl hS W j [] (by omega) (by omega)
    rw [e6_,e6_] at hdig
    have hb:=i7_ (fun c=>cl.all (tr · c)) ((ie_ S W).take j)
    rw [c7_] at hb
    refine ⟨?_,?_⟩
    · simp only [show decide ((j:Int)<((S ^ W:Nat):Int))=true from b2_ (by omega),a4_,sz_ (show 0≤l.1 by omega) (show l.1≤2147483648 by omega),a0_,hl.ww,show l.1.toNat=W by omega,ay_ (show Sm j by unfold Sm; omega)]
      rw [show l.1 - 1=(W:Int) - 1 by omega]
      have:∀ (K:(List Int×Unit)→Option ((List (List Int)×(Int×Unit))⊕(List (List Int)×Unit))),Option.bind (some (dig S W j,())) K=K (dig S W j,()):=fun K=>rfl
      rw [hdig,a0_,r1,a0_,r2]
      cases hp:cl.all (tr · (dig S W j)) with
      | false=>rfl
      | true =>
        rw [a4_,zt_ (by rw [ht]; simp only [d4_]; omega)]
        rfl
    · rw [ht,d2_,hj,l4_]
      cases hp:cl.all (tr · (dig S W j)) <;> simp [hp]) (fun t _=>by
    rw [hlen]
    simp only [dnl,a2_])
  refine (congrArg (fun o=>Option.bind o _) h2).trans ?_
  rw [a0_,h1,d1_]
  unfold rdg
  rw [hW,hS,c1_,c1_]
end
section
theorem whileO_ix {σ ρ:Type} {body:σ→Option (σ⊕ρ)} (F:Nat→σ) {n:Nat} {r:ρ} (h:∀ j,j<n→body (F j)=some (.inl (F (j+1)))) (e:body (F n)=some (.inr r)):af_ body (F 0)=some r:=by
  have:=ll_ (body:=body) (fun j s=>s=F j) (fun x=>x=r) n 0 (F 0) rfl (fun j s _ hj q=>by subst q; exact .inl ⟨_,h j (by omega),rfl⟩) (fun s q=>by subst q; rw [b0_]; exact ⟨_,e,rfl⟩)
  obtain ⟨x,h1,rfl⟩:=this
  exact h1
theorem set_here {p:List Int} {x y:Int} {t:List Int}:(p++x::t).set p.length y=p++y::t:=by
  rw [p2_ _ _ (c4_ _),l6_]
  rfl
theorem get_here {p:List Int} {x:Int} {t:List Int}:at? (p++x::t) ((p.length:Nat):Int)=some x:=by
  rw [at?_nat,d3_ (c4_ _),l6_]
  rfl
def odoB (l:ab_):(Int×(List Int×Unit))→Option ((Int×(List Int×Unit))⊕(Int×(List Int×Unit))):=(fun (v3:(Int×((List Int)×Unit))) =>
 (((cond (decide (0≤v3.1))
 ((at? v3.2.1 v3.1).bind fun v4 =>
 ((at? v3.2.1 v3.1).bind fun v5 =>
 (some ((v5==(w64 (l.2 - 1))),()))))
 (some (false,())))).bind fun v6 =>
 (cond v6.1
 ((at? v3.2.1 v3.1).bind fun v7 =>
 ((at? v3.2.1 v3.1).bind fun v8 =>
 (some (Sum.inl ((w64 (v3.1 - 1)),((v3.2.1.set v3.1.toNat 0),()))))))
 (some (Sum.inr (v3.1,(v3.2.1,())))))))
theorem odo {l:ab_} (hl:Lk l) {S:Nat} (hS:l.2=(S:Int)):∀ (W j k:Nat),W≤4→∃ (i:Int) (c:List Int),
    af_ (odoB l) ((W:Int) - 1,(dig S W j++List.replicate k 0,()))=some (i,(c,())) ∧
    (j+1=S ^ W→i<0)∧(j+1<S ^ W→0≤i∧∃ x,at? c i=some x∧c.set i.toNat (w64 (x+1))=dig S W (j+1)++List.replicate k 0):=by
  have s1:=hl.s1; have s2:=hl.s2
  intro W
  induction W with
  | zero =>
    intro j k _
    refine ⟨_,_,lm_ (r:=((0:Int) - 1,(dig S 0 j++List.replicate k 0,()))) rfl,fun _=>by omega,fun h => ?_⟩
    simp at h
  | succ W ih =>
    intro j k hW
    have hd:dig S (W+1) j++List.replicate k 0=dig S W (j / S)++((j % S:Nat):Int)::List.replicate k 0:=by rw [dig,b4_]; rfl
    have hlen:=dig_len S W (j / S)
    have hg:at? (dig S W (j / S)++((j % S:Nat):Int)::List.replicate k 0) ((W:Nat):Int)=some ((j % S:Nat):Int):=by
      have:=get_here (p:=dig S W (j / S)) (x:=((j % S:Nat):Int)) (t:=List.replicate k 0)
      rwa [hlen] at this
    have hse:∀ y:Int,(dig S W (j / S)++((j % S:Nat):Int)::List.replicate k 0).set W y=dig S W (j / S)++y::List.replicate k 0:=fun y=>by
      have:=set_here (p:=dig S W (j / S)) (x:=((j % S:Nat):Int)) (y:=y) (t:=List.replicate k 0)
      rwa [hlen] at this
    have hmod:j % S<S:=Nat.mod_lt _ (by omega)
    have hdm:=Nat.div_add_mod j S
    have hpos:decide (0≤(W:Int))=true:=b2_ (by omega)
    rw [hd,show ((W+1:Nat):Int) - 1=(W:Int) by omega]
    by_cases h9:j % S=S - 1
    · obtain ⟨i,c,e1,e2,e3⟩:=ih (j / S) (k+1) (by omega)
      have hj1:j+1=S * (j / S+1):=by rw [Nat.mul_add,Nat.mul_one]; omega
      have hb:(((j % S:Nat):Int)==w64 (l.2 - 1))=true:=by rw [hl.ws,hS]; simp; omega
      refine ⟨i,c,?_,fun h=>e2 ?_,fun h => ?_⟩
      · rw [← e1]
        refine rm_ ?_
        unfold odoB
        simp only [hpos,a4_,hg,a0_,hb,c1_,hse,km_ (n:=(W:Int) - 1) (by omega) (by omega)]
        rfl
      · rw [j4_,k1_] at h
        rw [hj1] at h
        exact Nat.eq_of_mul_eq_mul_left (by omega) h
      · have:j / S+1<S ^ W:=by
          rw [j4_,k1_,hj1] at h
          exact Nat.lt_of_mul_lt_mul_left h
        obtain ⟨f1,x,f2,f3⟩:=e3 this
        refine ⟨f1,x,f2,?_⟩
        rw [f3,dig,hj1,Nat.mul_div_cancel_left _ (by omega),Nat.mul_mod_right,b4_]
        rfl
    · have hb:(((j % S:Nat):Int)==w64 (l.2 - 1))=false:=by rw [hl.ws,hS]; simp; omega
      refine ⟨_,_,lm_ (r:=((W:Int),(dig S W (j / S)++((j % S:Nat):Int)::List.replicate k 0,()))) (by
        unfold odoB
        simp only [hpos,a4_,hg,a0_,hb,a2_]),fun h => ?_,fun h=>⟨by omega,_,hg,?_⟩⟩
      · exfalso
        have:(j+1) % S=0:=by rw [h,j4_]; exact Nat.mul_mod_left _ _
        have h2:(j+1) % S=j % S+1:=by rw [Nat.add_mod,j8_ (show 1<S by omega),j8_ (by omega)]
        omega
      · simp only [c1_]
        rw [hse,km_ (by omega) (by omega),dig,b4_]
        have h2:(j+1) % S=j % S+1:=by rw [Nat.add_mod,j8_ (show 1<S by omega),j8_ (by omega)]
        have h3:(j+1) / S=j / S:=by
          refine Nat.div_eq_of_lt_le ?_ ?_
          · rw [k1_]; omega
          · rw [k1_,Nat.mul_add]; omega
        rw [h2,h3]
        simp
theorem dig_zero (S:Nat):∀ W,List.replicate W (0:Int)=dig S W 0
  | 0=>rfl
  | W+1=>by rw [dig,Nat.zero_div,Nat.zero_mod,← dig_zero S W,p3_]; rfl
noncomputable def nxtB (l:ab_) (n:Int) (c:List Int):Option ((Unit×(Unit×((List Int)×((Int×Unit)×Unit))))⊕((Unit×(Unit×((List Int)×((Int×Unit)×Unit))))⊕(Int×Unit))) :=
 ((af_ (odoB l) ((w64 (l.1 - 1)),(c,()))).bind fun v9 =>
 (cond (decide (v9.1<0))
 (some (Sum.inr (Sum.inr (n,()))))
 ((at? v9.2.1 v9.1).bind fun v10 =>
 ((at? v9.2.1 v9.1).bind fun v11 =>
 ((at? v9.2.1 v9.1).bind fun v12 =>
 ((at? v9.2.1 v9.1).bind fun v13 =>
 (some (Sum.inl ((),((),((v9.2.1.set v9.1.toNat (w64 (v11+1))),((n,()),()))))))))))))
noncomputable def cntX (a0:ab_) (a1:List ak_):Option (Int×Unit) :=
 ((mk? (α:=Int) a0.1 0).bind fun v0 =>
 ((af_ (ρ:=((Unit×(Unit×((List Int)×((Int×Unit)×Unit))))⊕(Int×Unit))) (fun (v1:(Unit×(Unit×((List Int)×((Int×Unit)×Unit))))) =>
 ((fq_ a1 v1.2.2.1).bind fun v2 =>
 (cond (decide (v2.1<0)) (nxtB a0 (w64 (v1.2.2.2.1.1+1)) v1.2.2.1) (nxtB a0 v1.2.2.2.1.1 v1.2.2.1)))) ((),((),(v0,((0,()),()))))).bind fun v25 =>
 (ca_ v25 (fun v26=>(some (v26.2.2.2.1.1,())))
 (fun v27=>(some v27)))))
theorem cntX_eq:eo_=cntX:=by kernel_rfl
theorem lock_count {l:ab_} (hl:Lk l) {cl:List ak_} (hn:cl.length≤20) (hc:∀ c ∈ cl,da_ l c=true):eo_ l cl=some (((rdg l cl).length:Int),()):=by
  have w1:=hl.w1; have w2:=hl.w2; have s1:=hl.s1; have s2:=hl.s2
  obtain ⟨W,hW⟩:∃ W:Nat,l.1=(W:Int):=⟨l.1.toNat,by omega⟩
  obtain ⟨S,hS⟩:∃ S:Nat,l.2=(S:Int):=⟨l.2.toNat,by omega⟩
  have hpow:S ^ W≤10000:=by have:=pow_bd hl; rwa [hW,hS,c1_,c1_] at this
  have hSp:0<S:=by omega
  have hN:0<S ^ W:=Nat.pow_pos hSp
  have hlen:=pd_ S W
  have hok:∀ j,j<S ^ W→cz_ l (dig S W j)=true:=fun j hj=>(codes_ok hl).1 (by rw [hW,hS,c1_,c1_]; exact b5_ (pe_ hSp W j hj))
  let cn:Nat→Nat:=fun j=>(((ie_ S W).take j).filter fun c=>cl.all (tr · c)).length
  have hcn:∀ j,j<S ^ W→cn j≤j∧cn (j+1)=cond (cl.all (tr · (dig S W j))) (cn j+1) (cn j):=by
    intro j hj
    constructor
    · have hb:=i7_ (fun c=>cl.all (tr · c)) ((ie_ S W).take j)
      rw [c7_] at hb
      exact c3_ hb (Nat.min_le_left _ _)
    · show (((ie_ S W).take (j+1)).filter _).length=_
      rw [d2_,pe_ hSp W j hj,l4_,a8_]
      cases hp:cl.all (tr · (dig S W j)) <;> simp [hp,cn]
  have step:∀ j,j<S ^ W→∀ m:Int,(j+1<S ^ W→nxtB l m (dig S W j)=some (Sum.inl ((),((),(dig S W (j+1),((m,()),()))))))∧(j+1=S ^ W→nxtB l m (dig S W j)=some (Sum.inr (Sum.inr (m,())))):=by
    intro j hj m
    obtain ⟨i,c,o1,o2,o3⟩:=odo hl hS W j 0 (by omega)
    simp only [List.replicate_zero,e6_] at o1 o3
    rw [← hW,← hl.ww] at o1
    constructor
    · intro h
      obtain ⟨p1,x,p2,p3⟩:=o3 h
      unfold nxtB
      rw [o1,a0_]
      simp only [show decide (i<0)=false from b7_ (by omega),a2_,p2,a0_,p3]
    · intro h
      unfold nxtB
      rw [o1,a0_]
      simp only [show decide (i<0)=true from b2_ (o2 h),a4_]
  have body:∀ j,j<S ^ W→(((fq_ cl (dig S W j)).bind fun v2=>(cond (decide (v2.1<0)) (nxtB l (w64 ((cn j:Int)+1)) (dig S W j)) (nxtB l (cn j) (dig S W j)))))=nxtB l ((cn (j+1):Nat):Int) (dig S W j):=by
    intro j hj
    obtain ⟨r,r1,r2⟩:=codes_fails hl hn hc (hok j hj)
    obtain ⟨q1,q2⟩:=hcn j hj
    rw [r1,a0_,r2,q2]
    cases cl.all (tr · (dig S W j)) with
    | false=>rfl
    | true=>rw [a4_,a4_,ay_ (show Sm (cn j) by unfold Sm; omega)]
  rw [cntX_eq]
  unfold cntX
  rw [sz_ (by omega) (by omega),a0_,show l.1.toNat=W by omega,dig_zero S W]
  have hw:=whileO_ix (n:=S ^ W - 1) (F:=fun j=>((),((),(dig S W j,(((cn j:Int),()),()))))) (r:=Sum.inr ((cn (S ^ W):Int),())) (body:=fun (v1:(Unit×(Unit×((List Int)×((Int×Unit)×Unit))))) =>
 ((fq_ cl v1.2.2.1).bind fun v2 =>
 (cond (decide (v2.1<0)) (nxtB l (w64 (v1.2.2.2.1.1+1)) v1.2.2.1) (nxtB l v1.2.2.2.1.1 v1.2.2.1)))) (fun j hj=>(body j (by omega)).trans ((step j (by omega) _).1 (by omega))) ((body (S ^ W - 1) (by omega)).trans (by
    rw [show S ^ W - 1+1=S ^ W by omega]
    exact (step (S ^ W - 1) (by omega) _).2 (by omega)))
  refine (congrArg (fun o=>Option.bind o _) (show af_ _ _=_ from hw)).trans ?_
  have e:cn (S ^ W)=(rdg l cl).length:=by
    show (((ie_ S W).take (S ^ W)).filter _).length=_
    rw [← hlen,d1_]
    unfold rdg
    rw [hW,hS,c1_,c1_]
  rw [a0_,← e]
  rfl
theorem sh_ {l:ab_} (hl:Lk l) {cl:List ak_} (hn:cl.length≤20) (hc:∀ c ∈ cl,da_ l c=true):ep_ l cl=some (0,()):=by
  unfold ep_
  rw [ld_,ni_.2 hl,if_pos rfl,a0_]
  have:=lf_ (l:=cl) (by unfold Sm; omega) (fun c=>!(da_ l c)) (body:=fun (v1:(Int×Unit)) =>
 (cond (decide (v1.1<(cl.length:Int)))
 ((at? cl v1.1).bind fun v2 =>
 ((df_ l v2).bind fun v3 =>
 (cond (!v3.1)
 (some (Sum.inr (Sum.inr ((decide (0≤v1.1)),()))))
 (some (Sum.inl ((w64 (v1.1+1)),()))))))
 (some (Sum.inr (Sum.inl ()))))) (fun i y hy=>by
    simp only [dlt (am_ hy),a4_,ah_ hy,a0_,nx_ hl]
    cases da_ l y <;> rfl) (by simp only [dnl,a2_])
  have ha:(cl.any fun c=>!(da_ l c))=false:=by
    rw [List.any_eq_false]
    intro c h
    simp [hc c h]
  rw [ha] at this
  simp only [show decide ((20:Int)<(cl.length:Int))=false from b7_ (by omega),j5_,a2_,this,a0_]
theorem codes_Count' {l:ab_} (hl:Lk l) {cl:List ak_} (hn:cl.length≤20) (hc:∀ c ∈ cl,da_ l c=true):cx_ l cl=some (((rdg l cl).length:Int),(0,())):=by
  unfold cx_
  rw [sh_ hl hn hc,a0_]
  simp only [j5_,a2_,lock_count hl hn hc,a0_]
theorem rs_ {l:ab_} (hl:Lk l) {cl:List ak_} (hn:cl.length≤20) (hc:∀ c ∈ cl,da_ l c=true) (hs:∀ c ∈ cl,Sm c.2.2.2.2.2.1.length):en_ l cl=some (0,()):=by
  unfold en_
  rw [kp_,ni_.2 hl,if_pos rfl,a0_]
  simp only [show decide ((20:Int)<(cl.length:Int))=false from b7_ (by omega),j5_,a2_]
  refine bn_ cl (fun _ c=>cond (da_ l c) none (some (Sum.inr (11,()):Unit⊕(Int×Unit)))) (fun i=>((i:Int),())) (r0:=Sum.inl ()) (fun i c hi => ?_) ?_ ?_
  · simp only [dlt (am_ hi),a4_,ah_ hi,a0_,sx_ hl (hs c (b5_ hi)),ay_ (show Sm i by have:=am_ hi; unfold Sm; omega)]
    cases da_ l c <;> rfl
  · simp only [dnl,a2_]
  · rw [ir_ (q:=fun c=>da_ l c),e8_.2 hc]
    rfl
theorem ref01_Count' {l:ab_} (hl:Lk l) {cl:List ak_} (hn:cl.length≤20) (hc:∀ c ∈ cl,da_ l c=true) (hs:∀ c ∈ cl,Sm c.2.2.2.2.2.1.length):jd_ l cl=some (((rdg l cl).length:Int),(0,())):=by
  unfold jd_
  rw [rs_ hl hn hc hs,a0_]
  simp only [j5_,a2_,ref01_All hl hn hc,a0_]
theorem codes_Holds' {l:ab_} (hl:Lk l) (c:ak_) {k:List Int} (hk:cz_ l k=true):jf_ l c k=some (cond (da_ l c) (tr c k) false,(cond (da_ l c) 0 11,())):=by
  unfold jf_
  rw [tu_ hl,a0_]
  cases hc:da_ l c with
  | false=>rfl
  | true =>
    simp only [a4_,j5_,a2_]
    rw [my_,ni_.2 hl,if_pos rfl,hk,if_pos rfl,a0_]
    simp only [j5_,a2_,(oz_ hl hc hk).2,a0_]
theorem ref01_True' {l:ab_} (hl:Lk l) {c:ak_} {k:List Int} (hc:da_ l c=true) (hk:cz_ l k=true):fb_ c k=some (tr c k,()):=(oz_ hl hc hk).1
end
section
theorem zero_eq:ka_=ks_:=rfl
def clOk (l:ab_) (c:ak_) (k:List Int):Bool:=da_ l c&&tr c k
end
section
set_option maxRecDepth 10000
def zeroB (c:ak_):Bool:=c.1==0&&(c.2.1==0&&(c.2.2.1==0&&(c.2.2.2.1==0&&(c.2.2.2.2.1==0&&(((c.2.2.2.2.2.1.length:Int)==0)&&!c.2.2.2.2.2.2)))))
theorem play_zero (c:ak_):ka_ c=some (zeroB c,()):=by
  unfold ka_ zeroB
  cases c.1==0 with
  | false=>rfl
  | true =>
  cases c.2.1==0 with
  | false=>rfl
  | true =>
  cases c.2.2.1==0 with
  | false=>rfl
  | true =>
  cases c.2.2.2.1==0 with
  | false=>rfl
  | true =>
  cases c.2.2.2.2.1==0 with
  | false=>rfl
  | true=>cases (c.2.2.2.2.2.1.length:Int)==0 <;> rfl
theorem ref04_zero (c:ak_):ks_ c=some (zeroB c,()):=by rw [← zero_eq]; exact play_zero c
def twNt (g:ac_) (i:Nat) (n:cn_):Bool:=(g.2.2.2.1.take i).any fun y=>y.1==n.1
def cdOk (g:ac_) (i:Nat) (l:ab_):Bool:=match g.2.2.1[i]? with
  | some k=>cz_ l k
  | none=>false
noncomputable def ntOk (g:ac_) (i:Nat) (n:cn_):Bool:=okN n.1&&(!(twNt g i n)&&(wi n.2.1 0 (w64 ((g.1.1.length:Int) - 1))&&(wi n.2.2.1 (-1) (w64 ((g.2.1.length:Int) - 1))&&(cond (decide (n.2.2.1<0)) (zeroB n.2.2.2.2) (match at? g.2.1 n.2.2.1,at? g.2.2.1 n.2.2.1 with
  | some l,some k=>clOk l n.2.2.2.2 k
  | _,_=>false)))))
def LkAll (g:ac_):Prop:=∀ (i:Nat) l,g.2.1[i]?=some l→Lk l∧∃ k,g.2.2.1[i]?=some k∧cz_ l k=true
theorem LkAll.at {g:ac_} (hg:SmG g) (h:LkAll g) {i:Int} (h0:¬ i<0) (hw:wi i (-1) (w64 ((g.2.1.length:Int) - 1))=true):∃ l k,at? g.2.1 i=some l∧at? g.2.2.1 i=some k∧Lk l∧cz_ l k=true:=by
  have hlk:=hg.lk
  rw [fv_ (by omega) (by omega)] at hw
  have hw:=cc_.1 hw
  obtain ⟨l,hl⟩:=bb_ (l:=g.2.1) (i:=i.toNat) (by omega)
  obtain ⟨h1,k,hk,h2⟩:=h _ l hl
  have hi:i=((i.toNat:Nat):Int):=by omega
  exact ⟨l,k,by rw [hi]; exact ah_ hl,by rw [hi]; exact ah_ hk,h1,h2⟩
theorem play_right {g:ac_} (hg:SmG g) (hL:LkAll g) {i:Nat} {n:cn_} (hn:g.2.2.2.1[i]?=some n):la_ g (i:Int) n=some (ntOk g i n,()):=by
  have hi:=am_ hn
  have hs:=hg.nt
  have hnm:=(hg.ntn n (ax_ hn)).1
  have ht:Sm (g.2.2.2.1.take i).length:=by rw [c7_]; show _≤1000000000; omega
  unfold la_
  rw [on_ (f8_ hi),a0_]
  refine d8_ (congrArg (fun o=>Option.bind o _) (lf_ ht (fun y=>y.1==n.1) (fun k y hy => ?_) ?_)) ?_
  · simp only [dlt (am_ hy),a4_,ah_ hy,a0_]
    cases y.1==n.1 <;> rfl
  · simp only [dnl,a2_]
  rw [a0_]
  simp only [play_word (show Sm n.1.length by show _≤1000000000; omega),jr_,a0_]
  unfold ntOk okN twNt
  cases okW n.1 with
  | false=>simp only [f7_,e0_]; rfl
  | true =>
  by_cases h12:(n.1.length:Int)≤12
  · rw [b2_ h12,b7_ (by omega:¬ 12<(n.1.length:Int))]
    cases (g.2.2.2.1.take i).any fun y=>y.1==n.1 with
    | true=>rfl
    | false =>
    cases wi n.2.1 0 (w64 ((g.1.1.length:Int) - 1)) with
    | false=>rfl
    | true =>
    cases hw:wi n.2.2.1 (-1) (w64 ((g.2.1.length:Int) - 1)) with
    | false=>rfl
    | true =>
    cases hz:decide (n.2.2.1<0) with
    | true=>simp only [play_zero]; rfl
    | false =>
    obtain ⟨l,k,e1,e2,h1,h2⟩:=hL.at hg (d6_ hz) hw
    simp only [e1,e2,e5_,g7_,a2_,a0_,codes_Holds' h1 _ h2,c0_]
    unfold clOk
    cases da_ l n.2.2.2.2 <;> rfl
  · rw [b7_ h12,b2_ (by omega:12<(n.1.length:Int))]
    rfl
theorem ref04_noted {g:ac_} (hg:SmG g) (hL:LkAll g) {i:Nat} {n:cn_} (hn:g.2.2.2.1[i]?=some n):iw_ g (i:Int)=some (ntOk g i n,()):=by
  have hi:=am_ hn
  have hs:=hg.nt
  have hnm:=(hg.ntn n (ax_ hn)).1
  have hgs:Sm n.2.2.2.2.2.2.2.2.2.1.length:=c3_ (hg.ntn n (ax_ hn)).2.2 (by decide)
  have hle:(g.2.2.2.1.take i).length=i:=by rw [c7_]; omega
  unfold iw_
  rw [ah_ hn,a0_]
  refine bn_ (g.2.2.2.1.take i) (fun _ y=>cond (y.1==n.1) (some (Sum.inr (false,()):Unit⊕(Bool×Unit))) none) (fun i=>((i:Int),())) (r0:=Sum.inl ()) (fun k y hy => ?_) ?_ ?_
  · have hk:=am_ hy
    have hy':g.2.2.2.1[k]?=some y:=by
      rw [i8_] at hy
      split at hy
      · exact hy
      · cases hy
    simp only [dlt (show k<i by omega),a4_,ah_ hy',a0_,ay_ (show Sm k by show _≤1000000000; omega)]
    cases y.1==n.1 <;> rfl
  · rw [hle]
    simp only [dnl,a2_]
  rw [gz_ (q:=fun y:cn_=>y.1==n.1)]
  unfold ntOk twNt
  cases (g.2.2.2.1.take i).any fun y=>y.1==n.1 with
  | true=>simp only [e5_,e0_,f7_]; rfl
  | false =>
  simp only [a2_,j0_]
  unfold ca_
  simp only [jq_ (show Sm n.1.length by show _≤1000000000; omega),ya_,a0_]
  cases okN n.1 with
  | false=>rfl
  | true =>
  cases wi n.2.1 0 (w64 ((g.1.1.length:Int) - 1)) with
  | false=>rfl
  | true =>
  cases hw:wi n.2.2.1 (-1) (w64 ((g.2.1.length:Int) - 1)) with
  | false=>rfl
  | true =>
  cases hz:decide (n.2.2.1<0) with
  | true =>
    have hz:=g8_ hz
    have:=cc_.1 hw
    rw [show (n.2.2.1==-1)=true by rw [f5_]; omega]
    simp only [ref04_zero]
    rfl
  | false =>
    have hz:=d6_ hz
    obtain ⟨l,k,e1,e2,h1,h2⟩:=hL.at hg hz hw
    rw [show (n.2.2.1==-1)=false by rw [o0_]; omega]
    simp only [e1,e2,e5_,g7_,a2_,a0_,tp_ h1 hgs,c0_]
    unfold clOk
    cases hc:da_ l n.2.2.2.2 with
    | false=>rfl
    | true =>
      simp only [a4_,show ((0:Int)==0)=true from rfl,ref01_True' h1 hc h2]
      rfl
noncomputable def cg_ (g:ac_):Int :=
  cond (cv_ g.1 != 0) (cv_ g.1) (cond (decide (8<(g.2.1.length:Int))||decide (16<(g.2.2.2.1.length:Int))) 2
   ((fy_ (fun _ l=>ke_ (okL l) 10) 0 g.2.1).getD
    (cond ((g.2.2.1.length:Int) != (g.2.1.length:Int)) 12
     ((fy_ (fun i l=>ke_ (cdOk g i l) 12) 0 g.2.1).getD
      ((fy_ (fun _ (a:cr_)=>ke_ (!(decide ((g.2.1.length:Int)≤a.2.2.1))) 26) 0 g.1.2.2.2.2.1).getD
       ((fy_ (fun i n=>rl_ (ntOk g i n) 40 (cOk g.1.2.1 n.2.2.2.1) 25) 0 g.2.2.2.1).getD
        (cond (wi g.2.2.2.2 1 100) 0 1)))))))
theorem le_ {o:Option Int} {K:Unit→Option (Int×Unit)} {k:Int} (h:o=none→K ()=some (k,())):ca_ (left o) K (fun y=>some y)=some (o.getD k,()):=by
  cases o with
  | none=>exact h rfl
  | some e=>rfl
theorem lks_of {g:ac_} (h1:fy_ (fun _ l=>ke_ (okL l) 10) 0 g.2.1=none) (h2:fy_ (fun i l=>ke_ (cdOk g i l) 12) 0 g.2.1=none):LkAll g:=by
  intro i l hl
  refine ⟨ni_.1 (kd_ (db_ h1 hl)),?_⟩
  have:=kd_ (db_ h2 hl)
  unfold cdOk at this
  cases hk:g.2.2.1[i]? with
  | none=>rw [hk] at this; cases this
  | some k=>rw [hk] at this; exact ⟨k,rfl,this⟩
theorem mn_of (g:ac_):(cond (decide (8<(g.2.1.length:Int))) (some (true,())) (some ((decide (16<(g.2.2.2.1.length:Int))),())))=some (decide (8<(g.2.1.length:Int))||decide (16<(g.2.2.2.1.length:Int)),()):=by
  cases decide (8<(g.2.1.length:Int)) <;> rfl
theorem yc_ {g:ac_} (hg:SmG g):gt_ g=some (cg_ g,()):=by
  have hlk:=hg.lk
  have hac:=hg.ac
  have hnt:=hg.nt
  unfold gt_ cg_
  rw [rq_ hg.room,a0_]
  cases hr:cv_ g.1 != 0 with
  | true=>rfl
  | false =>
  simp only [a2_]
  refine d8_ (congrArg (fun o=>Option.bind o _) (mn_of g)) ?_
  rw [a0_]
  cases hm:(decide (8<(g.2.1.length:Int))||decide (16<(g.2.2.2.1.length:Int))) with
  | true=>rfl
  | false =>
  simp only [a2_]
  refine bs_ g.2.1 (fun _ l=>ke_ (okL l) 10) (fun i y hy => ?_) ?_ (le_ fun hA => ?_)
  · have hi:=am_ hy
    simp only [dlt hi,a4_,ah_ hy,a0_,ay_ (show Sm i by show _≤1000000000; omega),ld_]
    unfold ke_
    cases okL y <;> rfl
  · simp only [dnl,a2_]
  cases hcl:((g.2.2.1.length:Int) != (g.2.1.length:Int)) with
  | true=>rfl
  | false =>
  have hcl:(g.2.2.1.length:Int)=(g.2.1.length:Int):=by simpa using hcl
  simp only [a2_]
  refine bs_ g.2.1 (fun i l=>ke_ (cdOk g i l) 12) (fun i y hy => ?_) ?_ (le_ fun hB => ?_)
  · have hi:=am_ hy
    obtain ⟨k,hk⟩:=bb_ (l:=g.2.2.1) (i:=i) (by omega)
    have hy1:=kd_ (db_ hA hy)
    simp only [dlt hi,a4_,ah_ hy,ah_ hk,a0_,ay_ (show Sm i by show _≤1000000000; omega),my_,hy1]
    unfold ke_ cdOk
    rw [hk]
    simp only
    cases cz_ y k <;> rfl
  · simp only [dnl,a2_]
  refine bs_ g.1.2.2.2.2.1 (fun _ (a:cr_)=>ke_ (!(decide ((g.2.1.length:Int)≤a.2.2.1))) 26) (fun i y hy => ?_) ?_ (le_ fun hC => ?_)
  · have hi:=am_ hy
    simp only [dlt hi,a4_,ah_ hy,a0_,ay_ (show Sm i by show _≤1000000000; omega)]
    unfold ke_
    cases decide ((g.2.1.length:Int)≤y.2.2.1) <;> rfl
  · simp only [dnl,a2_]
  have hL:=lks_of hA hB
  refine bs_ g.2.2.2.1 (fun i n=>rl_ (ntOk g i n) 40 (cOk g.1.2.1 n.2.2.2.1) 25) (fun i y hy => ?_) ?_ (le_ fun hD => ?_)
  · have hi:=am_ hy
    simp only [dlt hi,a4_,ah_ hy,a0_,ay_ (show Sm i by show _≤1000000000; omega),play_right hg hL hy,play_valid hg.room.th]
    unfold rl_
    cases ntOk g i y with
    | false=>rfl
    | true=>cases cOk g.1.2.1 y.2.2.2.1 <;> rfl
  · simp only [dnl,a2_]
  rw [jr_,a0_]
  cases wi g.2.2.2.2 1 100 <;> rfl
theorem vg_ {g:ac_} (hg:SmG g):hc_ g=some (cg_ g,()):=by
  have hlk:=hg.lk
  have hac:=hg.ac
  have hnt:=hg.nt
  unfold hc_ cg_
  rw [pu_ hg.room,a0_]
  cases hr:cv_ g.1 != 0 with
  | true=>rfl
  | false =>
  simp only [a2_]
  refine d8_ (congrArg (fun o=>Option.bind o _) (mn_of g)) ?_
  rw [a0_]
  cases hm:(decide (8<(g.2.1.length:Int))||decide (16<(g.2.2.2.1.length:Int))) with
  | true=>rfl
  | false =>
  simp only [a2_]
  refine bs_ g.2.1 (fun _ l=>ke_ (okL l) 10) (fun i y hy => ?_) ?_ (le_ fun hA => ?_)
  · have hi:=am_ hy
    simp only [dlt hi,a4_,ah_ hy,a0_,ay_ (show Sm i by show _≤1000000000; omega),kp_]
    unfold ke_
    cases okL y <;> rfl
  · simp only [dnl,a2_]
  cases hcl:((g.2.2.1.length:Int) != (g.2.1.length:Int)) with
  | true=>rfl
  | false =>
  have hcl:(g.2.2.1.length:Int)=(g.2.1.length:Int):=by simpa using hcl
  simp only [a2_]
  refine bs_ g.2.1 (fun i l=>ke_ (cdOk g i l) 12) (fun i y hy => ?_) ?_ (le_ fun hB => ?_)
  · have hi:=am_ hy
    obtain ⟨k,hk⟩:=bb_ (l:=g.2.2.1) (i:=i) (by omega)
    have hy1:=kd_ (db_ hA hy)
    simp only [dlt (show i<g.2.2.1.length by omega),a4_,ah_ hy,ah_ hk,a0_,ay_ (show Sm i by show _≤1000000000; omega),tn_,hy1]
    unfold ke_ cdOk
    rw [hk]
    simp only
    cases cz_ y k <;> rfl
  · rw [← hcl]
    simp only [dnl,a2_]
  refine bs_ g.1.2.2.2.2.1 (fun _ (a:cr_)=>ke_ (!(decide ((g.2.1.length:Int)≤a.2.2.1))) 26) (fun i y hy => ?_) ?_ (le_ fun hC => ?_)
  · have hi:=am_ hy
    simp only [dlt hi,a4_,ah_ hy,a0_,ay_ (show Sm i by show _≤1000000000; omega)]
    unfold ke_
    cases decide ((g.2.1.length:Int)≤y.2.2.1) <;> rfl
  · simp only [dnl,a2_]
  have hL:=lks_of hA hB
  refine bs_ g.2.2.2.1 (fun i n=>rl_ (ntOk g i n) 40 (cOk g.1.2.1 n.2.2.2.1) 25) (fun i y hy => ?_) ?_ (le_ fun hD => ?_)
  · have hi:=am_ hy
    have hw:=(hg.ntn y (ax_ hy)).2.1
    simp only [dlt hi,a4_,ah_ hy,a0_,ay_ (show Sm i by show _≤1000000000; omega),ref04_noted hg hL hy,go_ hg.room.th (show Sm y.2.2.2.1.length by show _≤1000000000; omega)]
    unfold rl_
    cases ntOk g i y with
    | false=>rfl
    | true=>cases cOk g.1.2.1 y.2.2.2.1 <;> rfl
  · simp only [dnl,a2_]
  rw [ya_,a0_]
  cases wi g.2.2.2.2 1 100 <;> rfl
structure OkG (g:ac_):Prop where
  room:cv_ g.1=0
  n8:g.2.1.length≤8
  n16:g.2.2.2.1.length≤16
  lk:LkAll g
  cd:g.2.2.1.length=g.2.1.length
  ac:∀ (i:Nat) (a:cr_),g.1.2.2.2.2.1[i]?=some a→a.2.2.1<(g.2.1.length:Int)
  nt:∀ (i:Nat) n,g.2.2.2.1[i]?=some n→ntOk g i n=true∧cOk g.1.2.1 n.2.2.2.1=true
  tr:wi g.2.2.2.2 1 100=true
theorem cw_ {g:ac_} (h:cg_ g=0):OkG g:=by
  unfold cg_ at h
  cases hr:cv_ g.1 != 0 with
  | true =>
    rw [hr] at h
    rw [o3_] at hr
    exact absurd h hr
  | false =>
  rw [hr,a2_] at h
  cases hm:(decide (8<(g.2.1.length:Int))||decide (16<(g.2.2.2.1.length:Int))) with
  | true=>rw [hm] at h; exact absurd (show (2:Int)=0 from h) (by decide)
  | false =>
  rw [hm,a2_] at h
  rw [c2_] at hm
  have m1:=d6_ hm.1
  have m2:=d6_ hm.2
  obtain ⟨hA,h⟩:=gc_ h (jo_ (fun i x=>wu_ (by decide)) _ _)
  cases hcl:((g.2.2.1.length:Int) != (g.2.1.length:Int)) with
  | true=>rw [hcl] at h; exact absurd (show (12:Int)=0 from h) (by decide)
  | false =>
  rw [hcl,a2_] at h
  have hcl:(g.2.2.1.length:Int)=(g.2.1.length:Int):=by simpa using hcl
  obtain ⟨hB,h⟩:=gc_ h (jo_ (fun i x=>wu_ (by decide)) _ _)
  obtain ⟨hC,h⟩:=gc_ h (jo_ (fun i x=>wu_ (by decide)) _ _)
  obtain ⟨hD,h⟩:=gc_ h (jo_ (fun i x=>wt_ (by decide) (by decide)) _ _)
  refine ⟨by simpa using hr,by omega,by omega,lks_of hA hB,by omega,fun i a ha => ?_,fun i n hn=>nt_ (db_ hD hn),?_⟩
  · have:=kd_ (db_ hC ha)
    simpa using this
  · cases hw:wi g.2.2.2.2 1 100 with
    | true=>rfl
    | false=>rw [hw] at h; exact absurd (show (1:Int)=0 from h) (by decide)
end
section
set_option maxRecDepth 10000
theorem bo_ {σ ρ:Type} {body:σ→Option (σ⊕ρ)} {s t:σ} {r:ρ} (h:body s=some (.inl t)) (e:af_ body t=some r):af_ body s=some r:=by
  obtain ⟨k,hk⟩:=hm_.1 e
  exact og_ (k:=k+1) (by rw [iter_go h]; exact hk)
theorem bt_ {σ ρ:Type} {body:σ→Option (σ⊕ρ)} {s:σ} {r:ρ} (h:body s=some (.inr r)):af_ body s=some r:=og_ (k:=1) (ug_ h)
theorem bind_fold {α τ σ ρ υ:Type} (l:List α) (f:Nat→τ→α→τ) (F:Nat→τ→σ) (R:τ→ρ) (t0:τ) {body:σ→Option (σ⊕ρ)} (I:Nat→τ→Prop) {K:ρ→Option υ} {x:Option υ} (h0:I 0 t0)
    (h:∀ i x t,l[i]?=some x→I i t→body (F i t)=some (.inl (F (i+1) (f i t x)))∧I (i+1) (f i t x)) (e:∀ t,I l.length t→body (F l.length t)=some (.inr (R t))) (hk:∀ t,I l.length t→K (R t)=x) :
    (af_ body (F 0 t0)).bind K=x:=by
  obtain ⟨t,h1,h2⟩:=jw_ l f F R t0 I h0 h e
  rw [h2,a0_]
  exact hk t h1
theorem asc_in {np:Nat} {l:List Int} (h:ki_ np l=true):∀ x ∈ l,0≤x∧x<(np:Int):=by
  intro x hx
  obtain ⟨i,hi⟩:=f9_ hx
  rw [← asc_eq] at h
  have:=(zh_ l).1 h i x hi
  unfold badQ at this
  rw [c2_] at this
  have h1:wi x 0 ((np:Int) - 1)=true:=by simpa using this.1
  have:=cc_.1 h1
  omega
structure ActIn (r:ad_) (a:cr_):Prop where
  us:∀ p ∈ a.2.2.2.1,0≤p∧p<(r.2.2.1.length:Int)
  sp:∀ p ∈ a.2.2.2.2.2.2.1,0≤p∧p<(r.2.2.1.length:Int)
  br:∀ p ∈ a.2.2.2.2.2.2.2,0≤p∧p<(r.2.2.1.length:Int)
  st:∀ x ∈ a.2.2.2.2.2.1,nb_ r.2.1 x.1 x.2=true
theorem act_in {r:ad_} {i:Nat} {a:cr_} (h:tv_ r i a=true):ActIn r a:=by
  unfold tv_ at h
  simp only [a1_] at h
  obtain ⟨_,_,_,h1,h2,h3,_,_,_,h4⟩:=h
  refine ⟨asc_in h1,asc_in h2,asc_in h3,fun x hx => ?_⟩
  obtain ⟨j,hj⟩:=f9_ hx
  rw [Option.isNone_iff_eq_none] at h4
  have:=db_ h4 hj
  cases hs:qi_ r a.2.2.2.2.2.1 j x with
  | false=>rw [hs] at this; cases this
  | true =>
    unfold qi_ at hs
    rw [a1_] at hs
    exact hs.1
theorem co_ {α:Type} {l:List α} (hl:Sm l.length) (i:Int):(wi i 0 (w64 ((l.length:Int) - 1))=false∧at? l i=none)∨∃ (j:Nat) (x:α),i=(j:Int)∧l[j]?=some x∧wi i 0 (w64 ((l.length:Int) - 1))=true∧at? l i=some x:=by
  rw [fv_ (by omega) (by omega)]
  by_cases h:0≤i∧i<(l.length:Int)
  · obtain ⟨x,hx⟩:=bb_ (l:=l) (i:=i.toNat) (by omega)
    have hi:i=((i.toNat:Nat):Int):=by omega
    exact .inr ⟨i.toNat,x,hi,hx,cc_.2 (by omega),by rw [hi]; exact ah_ hx⟩
  · refine .inl ⟨?_,?_⟩
    · cases hw:wi i 0 ((l.length:Int) - 1) with
      | false=>rfl
      | true=>have:=cc_.1 hw; omega
    · unfold at?
      split
      · exact b1_ (by omega)
      · rfl
def lj_ (pr:List Int) (h:Int):Nat:=pr.countP (· == h)
theorem ui_ (pr:List Int) (h:Int):lj_ pr h≤pr.length:=k2_
theorem table_hand {t:gx_} (h:Sm t.2.2.1.length) (p:Int):dc_ t p=some ((lj_ t.2.2.1 (w64 ((-2) - p)):Int),()):=by
  unfold dc_
  refine bind_fold t.2.2.1 (fun _ (c:Nat) x=>cond (x==w64 ((-2) - p)) (c+1) c) (fun i c=>((c:Int),((i:Int),()))) (fun c=>((c:Int),())) 0 (fun i c=>c=lj_ (t.2.2.1.take i) (w64 ((-2) - p))) rfl (fun i x c hx hc => ?_) (fun c hc => ?_) (fun c hc => ?_)
  · have hi:=am_ hx
    have hcl:c≤i:=by rw [hc]; refine c3_ (ui_ _ _) ?_; rw [c7_]; omega
    have hn:lj_ (t.2.2.1.take (i+1)) (w64 ((-2) - p))=cond (x==w64 ((-2) - p)) (c+1) c:=by
      unfold lj_
      rw [d2_,hx,hc,List.countP_append]
      unfold lj_
      cases hq:x==w64 ((-2) - p) with
      | true=>simp [hq]
      | false=>simp [hq]
    refine ⟨?_,hn.symm⟩
    simp only [dlt hi,a4_,ah_ hx,a0_,ay_ (show Sm i by omega)]
    cases hq:x==w64 ((-2) - p) with
    | true=>simp only [a4_,a0_,ay_ (show Sm c by omega)]
    | false=>rfl
  · simp only [dnl,a2_]
  · rw [d1_] at hc
    rw [hc]
abbrev hdl (m:ag_):Int:=w64 ((-2) - m.1)
def lgl (r:ad_) (s:ai_) (m:ag_):Bool :=
  wi m.1 0 (w64 ((s.2.2.length:Int) - 1)) &&
  cond (m.2.1==1) ((at? r.2.2.2.1 m.2.2).elim false fun w=>(w.1==gi s.2.2 m.1||w.2.1==gi s.2.2 m.1)&&dh_ s.1 w.2.2)
  (cond (m.2.1==2) ((at? r.2.2.1 m.2.2).elim false fun x=>gi s.2.1 m.2.2==gi s.2.2 m.1&&(dh_ s.1 x.2.2&&decide ((lj_ s.2.1 (hdl m):Int)<3)))
  (cond (m.2.1==3) ((at? s.2.1 m.2.2).elim false fun p=>p==hdl m)
  (cond (m.2.1==4) ((at? r.2.2.2.2.1 m.2.2).elim false fun a=>a.2.1==gi s.2.2 m.1&&((a.2.2.2.1.all fun p=>gi s.2.1 p==hdl m)&&(dh_ s.1 a.2.2.2.2.1&&((a.2.2.2.2.2.2.2.all fun p=>gi s.2.1 p==-1)&&decide ((lj_ s.2.1 (hdl m):Int) - (a.2.2.2.2.2.2.1.length:Int)+(a.2.2.2.2.2.2.2.length:Int)≤3)))))
   false)))
theorem all_loop {l t:List Int} (hl:Sm l.length) (hi:∀ p ∈ l,0≤p∧p<(t.length:Int)) (h:Int) :
    ((af_ (ρ:=(Unit⊕(Bool×Unit))) (fun (v15:(Int×Unit)) =>
 (cond (decide (v15.1<(l.length:Int)))
 ((at? l v15.1).bind fun v16 =>
 ((at? t v16).bind fun v17 =>
 (cond (!(v17==h))
 (some (Sum.inr (Sum.inr ((decide (0≤v15.1)),()))))
 (some (Sum.inl ((w64 (v15.1+1)),()))))))
 (some (Sum.inr (Sum.inl ()))))) (0,())).bind fun v18 =>
 (ca_ v18 (fun v19=>(some ((decide ((0:Int)≤(-1))),())))
 (fun v20=>(some v20))))=some (!(l.all fun p=>gi t p==h),()):=by
  refine d8_ (lf_ hl (fun p=>!(gi t p==h)) (fun i y hy => ?_) ?_) ?_
  · have:=hi y (ax_ hy)
    simp only [dlt (am_ hy),a4_,ah_ hy,a0_,oc_ this.1 this.2]
    cases gi t y==h <;> rfl
  · simp only [dnl,a2_]
  · rw [← sq_,Bool.not_not]
theorem uz_ {r:ad_} (h:SmR r) (ok:OkR r) {s:ai_} (hv:VS r s) (m:ag_):cu_ (r,s) m=some (lgl r s m,()):=by
  obtain ⟨m1,m2,m3⟩:=pi_ h ok hv
  have hl1:=hv.l1
  have hl2:=hv.l2
  have hH:∀ {c:List bd_},cOk r.2.1 c=true→ba_ (r,s) c=some (dh_ s.1 c,()):=fun {c} hc=>by
    obtain ⟨c1,c2⟩:=tf_ h.th hc
    exact ma_ (t:=(r,s)) (show c.length≤1000000000 by omega) (by show InC s.1.length c; rw [hl1]; exact c1)
  have hD:dc_ (r,s) m.1=some ((lj_ s.2.1 (hdl m):Int),()):=table_hand (t:=(r,s)) m2 m.1
  have hDl:=ui_ s.2.1 (hdl m)
  unfold cu_ lgl
  simp only [dq_,a0_]
  rcases co_ m3 m.1 with ⟨e1,_⟩ | ⟨pj,px,hpj,hp,e1,e2⟩
  · rw [e1]; rfl
  · have eg:gi s.2.2 m.1=px:=mm_ e2
    simp only [e1,e2,eg,e5_,a2_,a0_,c0_]
    cases hk1:m.2.1==1 with
    | true =>
      simp only [a4_]
      rcases co_ h.wy m.2.2 with ⟨f1,f2⟩ | ⟨j,w,hj,hw,f1,f2⟩
      · simp only [f1,f2]; rfl
      · simp only [f1,f2,e5_,a2_,a0_,hH (ok.wy j w hw).2]
        show _=some ((w.1==px||w.2.1==px)&&dh_ s.1 w.2.2,())
        cases w.1==px with
        | true=>rfl
        | false=>cases w.2.1==px <;> rfl
    | false =>
    simp only [a2_]
    cases hk2:m.2.1==2 with
    | true =>
      simp only [a4_]
      rcases co_ m2 m.2.2 with ⟨f1,f2⟩ | ⟨j,p,hj,hp,f1,f2⟩
      · have f3:at? r.2.2.1 m.2.2=none:=by
          rcases co_ h.pr m.2.2 with ⟨_,g2⟩ | ⟨j,x,hj,hx,g1,g2⟩
          · exact g2
          · rw [← hl2,f1] at g1; cases g1
        simp only [f1,f3,a2_]; rfl
      · obtain ⟨x,hx⟩:=bb_ (l:=r.2.2.1) (i:=j) (by have:=am_ hp; omega)
        have f3:at? r.2.2.1 m.2.2=some x:=by rw [hj]; exact ah_ hx
        have f4:gi s.2.1 m.2.2=p:=mm_ f2
        simp only [f1,f2,f3,f4,a4_,a0_,hH (ok.pr j x hx).2,hD]
        show _=some (p==px&&(dh_ s.1 x.2.2&&decide ((lj_ s.2.1 (hdl m):Int)<3)),())
        cases p==px with
        | false=>rfl
        | true=>cases dh_ s.1 x.2.2 <;> rfl
    | false =>
    simp only [a2_]
    cases hk3:m.2.1==3 with
    | true =>
      simp only [a4_]
      rcases co_ m2 m.2.2 with ⟨f1,f2⟩ | ⟨j,p,hj,hp,f1,f2⟩
      · simp only [f1,f2]; rfl
      · simp only [f1,f2,a4_,a0_]; rfl
    | false =>
    simp only [a2_]
    cases hk4:m.2.1==4 with
    | false=>rfl
    | true =>
      simp only [a4_]
      rcases co_ h.ac m.2.2 with ⟨f1,f2⟩ | ⟨j,a,hj,ha,f1,f2⟩
      · simp only [f1,f2]; rfl
      · obtain ⟨oa,oc⟩:=ok.ac j a ha
        have ai:=act_in oa
        obtain ⟨s1,s2,s3,s4,s5,s6⟩:=h.acn a (ax_ ha)
        simp only [f1,f2,e5_,a2_,a0_]
        show _=some (a.2.1==px&&((a.2.2.2.1.all fun p=>gi s.2.1 p==hdl m)&&(dh_ s.1 a.2.2.2.2.1&&((a.2.2.2.2.2.2.2.all fun p=>gi s.2.1 p==-1)&&decide ((lj_ s.2.1 (hdl m):Int) - (a.2.2.2.2.2.2.1.length:Int)+(a.2.2.2.2.2.2.2.length:Int)≤3)))),())
        cases a.2.1==px with
        | false=>rfl
        | true =>
        simp only [a4_,c0_]
        refine d8_ (congrArg (fun o=>Option.bind o _) (all_loop s2 (fun p hp=>by have:=ai.us p hp; omega) (hdl m))) ?_
        rw [a0_]
        cases a.2.2.2.1.all fun p=>gi s.2.1 p==hdl m with
        | false=>rfl
        | true =>
        simp only [e5_,g7_,a4_,hH oc,a0_,c0_]
        cases dh_ s.1 a.2.2.2.2.1 with
        | false=>rfl
        | true =>
        simp only [a4_,c0_]
        refine d8_ (congrArg (fun o=>Option.bind o _) (all_loop s6 (fun p hp=>by have:=ai.br p hp; omega) (-1))) ?_
        rw [a0_]
        cases a.2.2.2.2.2.2.2.all fun p=>gi s.2.1 p==-1 with
        | false=>rfl
        | true =>
        simp only [e5_,g7_,a4_,hD,a0_,c0_]
        rw [fv_ (n:=(lj_ s.2.1 (hdl m):Int) - _) (by omega) (by omega),fv_ (by omega) (by omega)]
theorem zf_ {α:Type} (l:List α) (hl:Sm l.length) (ix vl:α→Int) (t:List Int) (hi:∀ x ∈ l,0≤ix x∧ix x<(t.length:Int)) {body:(Int×(List Int×Unit))→Option ((Int×(List Int×Unit))⊕(List Int×Unit))}
    (hb:∀ (i:Nat) (x:α) (t':List Int) (y:Int),l[i]?=some x→at? t' (ix x)=some y→body ((i:Int),(t',()))=some (.inl (w64 ((i:Int)+1),(t'.set (ix x).toNat (vl x),())))) (e:∀ t',body ((l.length:Int),(t',()))=some (.inr (t',()))) :
    af_ body (0,(t,()))=some (l.foldl (fun t x=>t.set (ix x).toNat (vl x)) t,()):=by
  obtain ⟨z,⟨_,hz⟩,e⟩:=jw_ l (fun _ t x=>t.set (ix x).toNat (vl x)) (fun i t=>((i:Int),(t,()))) (fun t=>(t,())) t (body:=body) (fun i t'=>t'.length=t.length∧t'=(l.take i).foldl (fun t x=>t.set (ix x).toNat (vl x)) t) ⟨rfl,rfl⟩ (fun i x t' hx ht=>by
    obtain ⟨h1,h2⟩:=ht
    have hil:=am_ hx
    have:=hi x (ax_ hx)
    refine ⟨?_,by rw [g1_,h1],?_⟩
    · rw [hb i x t' _ hx (oc_ this.1 (by omega)),ay_ (show Sm i by omega)]
    · rw [d2_,hx,n3_,← h2]
      rfl) (fun t' _=>e t')
  rw [d1_] at hz
  rw [← hz]
  exact e
def mvP (r:ad_) (s:ai_) (m:ag_):ai_ :=
  cond (m.2.1==1) ((at? r.2.2.2.1 m.2.2).elim s fun w=>(s.1,(s.2.1,s.2.2.set m.1.toNat (w.1+w.2.1 - gi s.2.2 m.1))))
  (cond (m.2.1==2) (s.1,(s.2.1.set m.2.2.toNat (hdl m),s.2.2))
  (cond (m.2.1==3) (s.1,(s.2.1.set m.2.2.toNat (gi s.2.2 m.1),s.2.2))
  (cond (m.2.1==4) ((at? r.2.2.2.2.1 m.2.2).elim s fun a=>(a.2.2.2.2.2.1.foldl (fun t x=>t.set x.1.toNat x.2) s.1,(a.2.2.2.2.2.2.2.foldl (fun t p=>t.set p.toNat (hdl m)) (a.2.2.2.2.2.2.1.foldl (fun t p=>t.set p.toNat (-1)) s.2.1),s.2.2)))
   s)))
theorem xd_ {α:Type} {l:List α} {P:α→Prop} (h:∀ (i:Nat) x,l[i]?=some x→P x) {j:Nat} {v:α} (hv:P v):∀ (i:Nat) x,(l.set j v)[i]?=some x→P x:=by
  intro i x hx
  rw [h8_] at hx
  split at hx
  · split at hx
    · obtain rfl:=a6_ hx
      exact hv
    · cases hx
  · exact h i x hx
theorem nr_ {α τ:Type} {f:τ→α→τ} {P:τ→Prop}:∀ (l:List α) (t:τ),P t→(∀ t x,x ∈ l→P t→P (f t x))→P (l.foldl f t)
  | [],t,h,_=>h
  | x::l,t,h,hf=>nr_ l (f t x) (hf t x (f2_ ..) h) fun t y hy=>hf t y (e9_ _ hy)
theorem ze_ {α:Type} (ix vl:α→Int) (l:List α) (t:List Int):(l.foldl (fun t x=>t.set (ix x).toNat (vl x)) t).length=t.length :=
  nr_ (P:=fun t'=>t'.length=t.length) l t rfl fun t' x _ h=>by rw [g1_,h]
theorem kq_ {r:ad_} (h:SmR r) {p:Int}:qv_ r p=true↔0≤p∧p<(r.1.length:Int):=by
  have:=h.pl
  unfold qv_
  rw [cc_,fv_ (by omega) (by omega)]
  omega
theorem inR_iff {r:ad_} (h:SmR r) (ok:OkR r) {p:Int}:inR r p=true↔(-2) - r.2.2.2.2.2.2.1<p∧p<(r.1.length:Int):=by
  have:=h.pl
  have hp:=cc_.1 ok.py
  unfold inR
  rw [cc_,fv_ (n:=(-2) - r.2.2.2.2.2.2.1) (by omega) (by omega),fv_ (by omega) (by omega),fv_ (by omega) (by omega)]
  omega
theorem pl_pos {r:ad_} (ok:OkR r):0<r.1.length:=by
  have hne:r.1.length≠0:=fun e=>ok.ne (o9_.1 e)
  omega
theorem hdl_eq {r:ad_} (ok:OkR r) {s:ai_} (hv:VS r s) {m:ag_} {j:Nat} {x:Int} (hj:m.1=(j:Int)) (hx:s.2.2[j]?=some x):hdl m=(-2) - m.1∧m.1<r.2.2.2.2.2.2.1:=by
  have hp:=cc_.1 ok.py
  have:=am_ hx
  have:=hv.l3
  exact ⟨fv_ (by omega) (by omega),by omega⟩
theorem lgl_pl {r:ad_} {s:ai_} {m:ag_} (m3:Sm s.2.2.length) (hl:lgl r s m=true):∃ (j:Nat) (x:Int),m.1=(j:Int)∧s.2.2[j]?=some x∧at? s.2.2 m.1=some x:=by
  unfold lgl at hl
  rw [a1_] at hl
  rcases co_ m3 m.1 with ⟨e1,_⟩ | ⟨pj,px,hpj,hp,e1,e2⟩
  · rw [e1] at hl; cases hl.1
  · exact ⟨pj,px,hpj,hp,e2⟩
theorem VS_mv {r:ad_} (h:SmR r) (ok:OkR r) {s:ai_} (hv:VS r s) {m:ag_} (hl:lgl r s m=true):VS r (mvP r s m):=by
  obtain ⟨m1,m2,m3⟩:=pi_ h ok hv
  obtain ⟨pj,px,hpj,hp,e2⟩:=lgl_pl m3 hl
  obtain ⟨d1,d2⟩:=hdl_eq ok hv hpj hp
  have hpy:=cc_.1 ok.py
  have hpos:=pl_pos ok
  have hhd:inR r (hdl m)=true:=(inR_iff h ok).2 (by omega)
  have hm1:inR r (-1)=true:=(inR_iff h ok).2 (by omega)
  unfold lgl at hl
  rw [a1_] at hl
  have hl:=hl.2
  have eg:gi s.2.2 m.1=px:=mm_ e2
  have hpx:=hv.py _ _ hp
  unfold mvP
  cases hk1:m.2.1==1 with
  | true =>
    rw [hk1] at hl
    simp only [a4_] at hl ⊢
    cases hw:at? r.2.2.2.1 m.2.2 with
    | none=>exact hv
    | some w =>
      rw [hw] at hl
      have hl:((w.1==gi s.2.2 m.1||w.2.1==gi s.2.2 m.1)&&dh_ s.1 w.2.2)=true:=hl
      rw [a1_,c5_,f5_,f5_] at hl
      rcases co_ h.wy m.2.2 with ⟨f1,f2⟩ | ⟨j,w',hj,hw',f1,f2⟩
      · rw [f2] at hw; cases hw
      · rw [f2] at hw
        obtain rfl:=a6_ hw
        have ow:=(ok.wy j w' hw').1
        unfold wyOk at ow
        simp only [a1_] at ow
        have o1:=(kq_ h).1 ow.1
        have o2:=(kq_ h).1 ow.2.1
        refine ⟨hv.l1,hv.l2,by show ((s.2.2.set _ _).length:Int)=_; rw [g1_]; exact hv.l3,hv.th,hv.pr,xd_ hv.py ((kq_ h).2 ?_)⟩
        rcases hl.1 with e | e <;> omega
  | false =>
  rw [hk1] at hl
  simp only [a2_] at hl ⊢
  cases hk2:m.2.1==2 with
  | true=>exact ⟨hv.l1,by show (s.2.1.set _ _).length=_; rw [g1_]; exact hv.l2,hv.l3,hv.th,xd_ hv.pr hhd,hv.py⟩
  | false =>
  rw [hk2] at hl
  simp only [a2_] at hl ⊢
  cases hk3:m.2.1==3 with
  | true =>
    refine ⟨hv.l1,by show (s.2.1.set _ _).length=_; rw [g1_]; exact hv.l2,hv.l3,hv.th,xd_ hv.pr ?_,hv.py⟩
    rw [eg]
    have:=(kq_ h).1 hpx
    exact (inR_iff h ok).2 (by omega)
  | false =>
  rw [hk3] at hl
  simp only [a2_] at hl ⊢
  cases hk4:m.2.1==4 with
  | false=>exact hv
  | true =>
    simp only [a4_]
    rcases co_ h.ac m.2.2 with ⟨f1,f2⟩ | ⟨j,a,hj,ha,f1,f2⟩
    · rw [f2]; exact hv
    · rw [f2]
      have ai:=act_in (ok.ac j a ha).1
      have hth:VT r (a.2.2.2.2.2.1.foldl (fun t x=>t.set x.1.toNat x.2) s.1):=nr_ (P:=VT r) _ _ ⟨hv.l1,hv.th⟩ fun t x hx ht=>VT_set h ok ht (ai.st x hx)
      have hpr:∀ (i:Nat) p,(a.2.2.2.2.2.2.2.foldl (fun t p=>t.set p.toNat (hdl m)) (a.2.2.2.2.2.2.1.foldl (fun t p=>t.set p.toNat (-1)) s.2.1))[i]?=some p→inR r p=true:=by
        refine nr_ (P:=fun t=>∀ (i:Nat) p,t[i]?=some p→inR r p=true) _ _ ?_ fun t x hx ht=>xd_ ht hhd
        exact nr_ (P:=fun t=>∀ (i:Nat) p,t[i]?=some p→inR r p=true) _ _ hv.pr fun t x hx ht=>xd_ ht hm1
      refine ⟨hth.1,?_,hv.l3,hth.2,hpr,hv.py⟩
      show (a.2.2.2.2.2.2.2.foldl (fun t p=>t.set p.toNat (hdl m)) (a.2.2.2.2.2.2.1.foldl (fun t p=>t.set p.toNat (-1)) s.2.1)).length=_
      rw [ze_ (fun p=>p) (fun _=>hdl m),ze_ (fun p=>p) (fun _=>-1)]
      exact hv.l2
end
end Go.Proofs.YtmdlefagpcmllaaGreatDoor.Rx
namespace Go.Proofs.YtmdlefagpcmllaaGreatDoor.Rx
open Go Pad Rex Go.Proofs
section
set_option maxRecDepth 100000
noncomputable def mvX (a0:ad_) (a2:ag_) (v1 v2 v3:List Int):Option (List Int×(List Int×(List Int×Unit))) :=
 (cond (a2.2.1==1)
 ((at? a0.2.2.2.1 a2.2.2).bind fun v5 =>
 ((at? v3 a2.1).bind fun v6 =>
 ((at? v3 a2.1).bind fun v7 =>
 ((at? v3 a2.1).bind fun v8 =>
 ((at? v3 a2.1).bind fun v9 =>
 (some (v1,(v2,((v3.set a2.1.toNat (w64 ((w64 (v5.1+v5.2.1)) - v7))),())))))))))
 (cond (a2.2.1==2)
 ((at? v2 a2.2.2).bind fun v10 =>
 ((at? v2 a2.2.2).bind fun v11 =>
 (some (v1,((v2.set a2.2.2.toNat (w64 ((-2) - a2.1))),(v3,()))))))
 (cond (a2.2.1==3)
 ((at? v3 a2.1).bind fun v12 =>
 ((at? v3 a2.1).bind fun v13 =>
 ((at? v2 a2.2.2).bind fun v14 =>
 ((at? v2 a2.2.2).bind fun v15 =>
 (some (v1,((v2.set a2.2.2.toNat v13),(v3,()))))))))
 (cond (a2.2.1==4)
 ((at? a0.2.2.2.2.1 a2.2.2).bind fun v16 =>
 ((af_ (ρ:=((List Int)×Unit)) (fun (v17:(Int×((List Int)×Unit))) =>
 (cond (decide (v17.1<(v16.2.2.2.2.2.2.1.length:Int)))
 ((at? v16.2.2.2.2.2.2.1 v17.1).bind fun v18 =>
 ((at? v17.2.1 v18).bind fun v19 =>
 ((at? v17.2.1 v18).bind fun v20 =>
 (some (Sum.inl ((w64 (v17.1+1)),((v17.2.1.set v18.toNat (-1)),())))))))
 (some (Sum.inr (v17.2.1,()))))) (0,(v2,()))).bind fun v21 =>
 ((af_ (ρ:=((List Int)×Unit)) (fun (v22:(Int×((List Int)×Unit))) =>
 (cond (decide (v22.1<(v16.2.2.2.2.2.2.2.length:Int)))
 ((at? v16.2.2.2.2.2.2.2 v22.1).bind fun v23 =>
 ((at? v22.2.1 v23).bind fun v24 =>
 ((at? v22.2.1 v23).bind fun v25 =>
 (some (Sum.inl ((w64 (v22.1+1)),((v22.2.1.set v23.toNat (w64 ((-2) - a2.1))),())))))))
 (some (Sum.inr (v22.2.1,()))))) (0,(v21.1,()))).bind fun v26 =>
 ((af_ (ρ:=((List Int)×Unit)) (fun (v27:(Int×((List Int)×Unit))) =>
 (cond (decide (v27.1<(v16.2.2.2.2.2.1.length:Int)))
 ((at? v16.2.2.2.2.2.1 v27.1).bind fun v28 =>
 ((at? v27.2.1 v28.1).bind fun v29 =>
 ((at? v27.2.1 v28.1).bind fun v30 =>
 (some (Sum.inl ((w64 (v27.1+1)),((v27.2.1.set v28.1.toNat v28.2),())))))))
 (some (Sum.inr (v27.2.1,()))))) (0,(v1,()))).bind fun v31 =>
 (some (v31.1,(v26.1,(v3,()))))))))
 (some (v1,(v2,(v3,()))))))))
noncomputable def rstX (a0:ad_) (a1:ai_) (a2:ag_):Option (ai_×(Int×Unit)) :=
 ((bv_ a0 a1).bind fun v0 =>
 (cond (v0.1 != 0)
 (some (([],([],[])),(v0.1,())))
 ((push? (α:=Int) [] a1.1).bind fun v1 =>
 ((push? (α:=Int) [] a1.2.1).bind fun v2 =>
 ((push? (α:=Int) [] a1.2.2).bind fun v3 =>
 ((cu_ (a0,(v1,(v2,v3))) a2).bind fun v4 =>
 (cond (!v4.1)
 (some (([],([],[])),(29,())))
 ((mvX a0 a2 v1 v2 v3).bind fun v32 =>
 ((((af_ (ρ:=(((List Int)×Unit)⊕(Bool×((List Int)×Unit)))) (setB a0 v32.2.1 v32.2.2.1) (0,(v32.1,()))).bind fun v48 =>
 (ca_ v48 (fun v49=>(some ((!false),(v49.1,()))))
 (fun v50=>(some v50))))).bind fun v51 =>
 (cond v51.1
 (some (([],([],[])),(27,())))
 (some ((v51.2.1,(v32.2.1,v32.2.2.1)),(0,())))))))))))))
theorem rstX_eq:ex_=rstX:=by kernel_rfl
theorem mvX_eq {r:ad_} (h:SmR r) (ok:OkR r) {s:ai_} (hv:VS r s) {m:ag_} (hl:lgl r s m=true):mvX r m s.1 s.2.1 s.2.2=some ((mvP r s m).1,((mvP r s m).2.1,((mvP r s m).2.2,()))):=by
  obtain ⟨m1,m2,m3⟩:=pi_ h ok hv
  have hl1:=hv.l1
  have hl2:=hv.l2
  obtain ⟨pj,px,hpj,hp,e2⟩:=lgl_pl m3 hl
  have eg:gi s.2.2 m.1=px:=mm_ e2
  have hpx:=(kq_ h).1 (hv.py _ _ hp)
  have hpl:=h.pl
  unfold lgl at hl
  rw [a1_] at hl
  have hl:=hl.2
  unfold mvX mvP
  cases hk1:m.2.1==1 with
  | true =>
    rw [hk1] at hl
    simp only [a4_] at hl ⊢
    rcases co_ h.wy m.2.2 with ⟨f1,f2⟩ | ⟨j,w,hj,hw,f1,f2⟩
    · rw [f2] at hl; cases hl
    · have ow:=(ok.wy j w hw).1
      unfold wyOk at ow
      simp only [a1_] at ow
      have o1:=(kq_ h).1 ow.1
      have o2:=(kq_ h).1 ow.2.1
      simp only [f2,e2,eg,a0_,Option.elim]
      rw [fv_ (n:=w.1+w.2.1) (by omega) (by omega),fv_ (by omega) (by omega)]
  | false =>
  rw [hk1] at hl
  simp only [a2_] at hl ⊢
  cases hk2:m.2.1==2 with
  | true =>
    rw [hk2] at hl
    simp only [a4_] at hl ⊢
    rcases co_ h.pr m.2.2 with ⟨f1,f2⟩ | ⟨j,x,hj,hx,f1,f2⟩
    · rw [f2] at hl; cases hl
    · have:=am_ hx
      rw [oc_ (l:=s.2.1) (i:=m.2.2) (by omega) (by omega)]
      rfl
  | false =>
  rw [hk2] at hl
  simp only [a2_] at hl ⊢
  cases hk3:m.2.1==3 with
  | true =>
    rw [hk3] at hl
    simp only [a4_] at hl ⊢
    rcases co_ m2 m.2.2 with ⟨f1,f2⟩ | ⟨j,x,hj,hx,f1,f2⟩
    · rw [f2] at hl; cases hl
    · simp only [f2,e2,eg,a0_]
  | false =>
  rw [hk3] at hl
  simp only [a2_] at hl ⊢
  cases hk4:m.2.1==4 with
  | false=>rfl
  | true =>
    rw [hk4] at hl
    simp only [a4_] at hl ⊢
    rcases co_ h.ac m.2.2 with ⟨f1,f2⟩ | ⟨j,a,hj,ha,f1,f2⟩
    · rw [f2] at hl; cases hl
    · have ai:=act_in (ok.ac j a ha).1
      obtain ⟨s1,s2,s3,s4,s5,s6⟩:=h.acn a (ax_ ha)
      simp only [f2,a0_,Option.elim]
      have hA:=zf_ a.2.2.2.2.2.2.1 s5 (fun p=>p) (fun _=>-1) s.2.1 (fun p hp=>by have:=ai.sp p hp; omega) (body:=(fun (v17:(Int×((List Int)×Unit))) =>
 (cond (decide (v17.1<(a.2.2.2.2.2.2.1.length:Int)))
 ((at? a.2.2.2.2.2.2.1 v17.1).bind fun v18 =>
 ((at? v17.2.1 v18).bind fun v19 =>
 ((at? v17.2.1 v18).bind fun v20 =>
 (some (Sum.inl ((w64 (v17.1+1)),((v17.2.1.set v18.toNat (-1)),())))))))
 (some (Sum.inr (v17.2.1,())))))) (fun i x t' y hx hy=>by simp only [dlt (am_ hx),a4_,ah_ hx,a0_,hy]) (fun t'=>by simp only [dnl,a2_])
      rw [hA,a0_]
      have hl3:(a.2.2.2.2.2.2.1.foldl (fun t p=>t.set p.toNat (-1)) s.2.1).length=s.2.1.length:=ze_ (fun p=>p) (fun _=>-1) _ _
      have hB:=zf_ a.2.2.2.2.2.2.2 s6 (fun p=>p) (fun _=>hdl m) (a.2.2.2.2.2.2.1.foldl (fun t p=>t.set p.toNat (-1)) s.2.1) (fun p hp=>by have:=ai.br p hp; omega) (body:=(fun (v22:(Int×((List Int)×Unit))) =>
 (cond (decide (v22.1<(a.2.2.2.2.2.2.2.length:Int)))
 ((at? a.2.2.2.2.2.2.2 v22.1).bind fun v23 =>
 ((at? v22.2.1 v23).bind fun v24 =>
 ((at? v22.2.1 v23).bind fun v25 =>
 (some (Sum.inl ((w64 (v22.1+1)),((v22.2.1.set v23.toNat (w64 ((-2) - m.1))),())))))))
 (some (Sum.inr (v22.2.1,())))))) (fun i x t' y hx hy=>by simp only [dlt (am_ hx),a4_,ah_ hx,a0_,hy]) (fun t'=>by simp only [dnl,a2_])
      simp only
      rw [hB,a0_]
      have hC:=zf_ a.2.2.2.2.2.1 s4 (fun x:Int×Int=>x.1) (fun x=>x.2) s.1 (fun x hx=>by have:=(md_ h ok (ai.st x hx)).1; omega) (body:=(fun (v27:(Int×((List Int)×Unit))) =>
 (cond (decide (v27.1<(a.2.2.2.2.2.1.length:Int)))
 ((at? a.2.2.2.2.2.1 v27.1).bind fun v28 =>
 ((at? v27.2.1 v28.1).bind fun v29 =>
 ((at? v27.2.1 v28.1).bind fun v30 =>
 (some (Sum.inl ((w64 (v27.1+1)),((v27.2.1.set v28.1.toNat v28.2),())))))))
 (some (Sum.inr (v27.2.1,())))))) (fun i x t' y hx hy=>by simp only [dlt (am_ hx),a4_,ah_ hx,a0_,hy]) (fun t'=>by simp only [dnl,a2_])
      rw [hC,a0_]
def fstA (r:ad_) (th:List Int):Option (List bd_×ab_):=r.2.2.2.2.2.1.find? fun y=>(gi th y.2.1 != y.2.2)&&dh_ th y.1
def stl (r:ad_):Nat→List Int→Option (List Int)
  | 0,_=>none
  | n+1,th=>match fstA r th with
    | none=>some th
    | some y=>stl r n (th.set y.2.1.toNat y.2.2)
theorem scan_find {α ρ:Type} {q:α→Bool} {f:Nat→ρ}:∀ (m:List α) (k:Nat),(fy_ (fun i y=>cond (q y) (some (f i)) none) k m=none∧m.find? q=none)∨∃ (i:Nat) (y:α),m[i]?=some y∧m.find? q=some y∧fy_ (fun i y=>cond (q y) (some (f i)) none) k m=some (f (k+i))
  | [],_=>.inl ⟨rfl,rfl⟩
  | x::m,k=>by
    unfold fy_
    cases hq:q x with
    | true=>exact .inr ⟨0,x,rfl,by simp [hq],rfl⟩
    | false =>
      rcases scan_find (q:=q) (f:=f) m (k+1) with ⟨h1,h2⟩ | ⟨i,y,h1,h2,h3⟩
      · exact .inl ⟨h1,by simp [hq,h2]⟩
      · exact .inr ⟨i+1,y,by simpa using h1,by simp [hq,h2],by rw [show k+(i+1)=k+1+i by omega]; exact h3⟩
theorem if_find {α:Type} {l:List α} (hl:Sm l.length) (q:α→Bool) {body:(Int×Unit)→Option ((Int×Unit)⊕(Unit⊕(Int×Unit)))}
    (h:∀ (i:Nat) y,l[i]?=some y→body ((i:Int),())=some (cond (q y) (.inr (.inr ((i:Int),()))) (.inl (w64 ((i:Int)+1),())))) (e:body ((l.length:Int),())=some (.inr (.inl ()))) :
    ∃ n:Int,((af_ body (0,())).bind fun v=>ca_ v (fun _=>some ((-1:Int),())) (fun w=>some w))=some (n,())∧((n = -1∧l.find? q=none)∨∃ (i:Nat) (y:α),n=(i:Int)∧l[i]?=some y∧l.find? q=some y):=by
  have hrun:=np_ l (fun i y=>cond (q y) (some (Sum.inr ((i:Int),()):Unit⊕(Int×Unit))) none) (fun i=>((i:Int),())) (r0:=Sum.inl ()) (body:=body) (fun i y hy=>by
    have hi:=am_ hy
    rw [h i y hy,ay_ (show Sm i by omega)]
    cases q y <;> rfl) e
  have hr2:af_ body (0,())=some ((fy_ (fun i y=>cond (q y) (some (Sum.inr ((i:Int),()):Unit⊕(Int×Unit))) none) 0 l).getD (Sum.inl ())):=hrun
  rw [hr2]
  rcases scan_find (q:=q) (f:=fun i=>(Sum.inr ((i:Int),()):Unit⊕(Int×Unit))) l 0 with ⟨h1,h2⟩ | ⟨i,y,h1,h2,h3⟩
  · exact ⟨-1,by rw [h1]; rfl,.inl ⟨rfl,h2⟩⟩
  · exact ⟨(i:Int),by rw [h3,b0_]; rfl,.inr ⟨i,y,rfl,h1,h2⟩⟩
theorem aut_find {r:ad_} (h:SmR r) (ok:OkR r) {th pr py:List Int} (hv:VT r th) :
    ∃ n:Int,((af_ (autB r th pr py) (0,())).bind fun v=>ca_ v (fun _=>some ((-1:Int),())) (fun w=>some w))=some (n,())∧((n = -1∧fstA r th=none)∨∃ (i:Nat) (y:List bd_×ab_),n=(i:Int)∧r.2.2.2.2.2.1[i]?=some y∧fstA r th=some y) :=
  if_find (l:=r.2.2.2.2.2.1) h.au (fun y=>(gi th y.2.1 != y.2.2)&&dh_ th y.1) (body:=autB r th pr py) (fun i y hy=>by
    obtain ⟨g1,g2⟩:=ok.au i y hy
    have hi:=(md_ h ok g1).1
    obtain ⟨c1,c2⟩:=tf_ h.th g2
    have hl:=hv.1
    unfold autB
    have ht:ba_ (r,(th,(pr,py))) y.1=some (dh_ th y.1,()):=ma_ (t:=(r,(th,(pr,py)))) (by omega) (by show InC th.length y.1; rw [hl]; exact c1)
    simp only [dlt (am_ hy),a4_,ah_ hy,a0_,oc_ hi.1 (show y.2.1<th.length by omega),ht]
    cases gi th y.2.1 != y.2.2 with
    | false=>rfl
    | true=>cases dh_ th y.1 <;> rfl) (by
    unfold autB
    simp only [dnl,a2_])
theorem nc_ {r:ad_} (h:SmR r) (ok:OkR r) {pr py:List Int}:∀ (n i:Nat) (th:List Int),i+n=101→VT r th →
    ∃ z,af_ (setB r pr py) ((i:Int),(th,()))=some z∧match stl r n th with
      | some th'=>z = .inr (false,(th',()))∧VT r th'
      | none=>∃ w,z = .inl w
  | 0,i,th,hi,hv=>by
    obtain rfl:i=101:=by omega
    exact ⟨.inl (th,()),bt_ (by unfold setB; rfl),_,rfl⟩
  | n+1,i,th,hi,hv=>by
    obtain ⟨k,e,hc⟩:=aut_find h ok hv (pr:=pr) (py:=py)
    have hd:decide ((i:Int)<101)=true:=b2_ (by omega)
    unfold stl
    rcases hc with ⟨rfl,hf⟩ | ⟨j,y,rfl,hy,hf⟩
    · rw [hf]
      refine ⟨.inr (false,(th,())),bt_ ?_,rfl,hv⟩
      unfold setB
      simp only [hd,a4_]
      refine d8_ (congrArg (fun o=>Option.bind o _) e) rfl
    · rw [hf]
      have g1:=(ok.au j y hy).1
      have hi2:=(md_ h ok g1).1
      have hl:=hv.1
      obtain ⟨z,ez,hz⟩:=nc_ h ok (pr:=pr) (py:=py) n (i+1) (th.set y.2.1.toNat y.2.2) (by omega) (VT_set h ok hv g1)
      refine ⟨z,bo_ ?_ ez,hz⟩
      unfold setB
      simp only [hd,a4_]
      refine d8_ (congrArg (fun o=>Option.bind o _) e) ?_
      simp only [a0_,show decide ((j:Int)<0)=false from b7_ (by omega),a2_,ah_ hy,oc_ hi2.1 (show y.2.1<th.length by omega),ay_ (show Sm i by show _≤1000000000; omega)]
def xh_ (r:ad_) (s:ai_) (m:ag_):Option ai_:=(stl r 101 (mvP r s m).1).map fun th=>(th,(mvP r s m).2)
abbrev eS:ai_:=([],([],[]))
theorem room_Step {r:ad_} (h:SmR r) (h0:cv_ r=0) {s:ai_} (hv:VS r s) (m:ag_) :
    ex_ r s m=some (cond (lgl r s m) ((xh_ r s m).elim (eS,(27,())) fun t=>(t,(0,()))) (eS,(29,()))):=by
  have ok:=bl_ h0
  obtain ⟨m1,m2,m3⟩:=pi_ h ok hv
  rw [rstX_eq]
  unfold rstX
  rw [et_ h,a0_,gu_ h0 hv]
  simp only [show ((0:Int) != 0)=false from rfl,a2_]
  rw [av_ m1,a0_,av_ m2,a0_,av_ m3,a0_]
  refine d8_ (congrArg (fun o=>Option.bind o _) (uz_ h ok hv m)) ?_
  rw [a0_]
  cases hl:lgl r s m with
  | false=>rfl
  | true =>
  simp only [e5_,a2_,a4_]
  rw [mvX_eq h ok hv hl,a0_]
  simp only
  have hv2:=VS_mv h ok hv hl
  obtain ⟨z,ez,hz⟩:=nc_ h ok (pr:=(mvP r s m).2.1) (py:=(mvP r s m).2.2) 101 0 (mvP r s m).1 rfl ⟨hv2.l1,hv2.th⟩
  refine d8_ (congrArg (fun o=>Option.bind (Option.bind o _) _) ez) ?_
  unfold xh_
  cases hs:stl r 101 (mvP r s m).1 with
  | none =>
    rw [hs] at hz
    obtain ⟨w,rfl⟩:=hz
    rfl
  | some th' =>
    rw [hs] at hz
    obtain ⟨rfl,_⟩:=hz
    rfl
theorem tz_ {r:ad_} (h:SmR r) (h0:cv_ r=0) {s t:ai_} (hv:VS r s) {m:ag_} (hl:lgl r s m=true) (ht:xh_ r s m=some t):VS r t:=by
  have ok:=bl_ h0
  have hv2:=VS_mv h ok hv hl
  unfold xh_ at ht
  obtain ⟨th,hs,rfl⟩:=f4_.1 ht
  obtain ⟨z,ez,hz⟩:=nc_ h ok (pr:=(mvP r s m).2.1) (py:=(mvP r s m).2.2) 101 0 (mvP r s m).1 rfl ⟨hv2.l1,hv2.th⟩
  rw [hs] at hz
  exact ⟨hz.2.1,hv2.l2,hv2.l3,hz.2.2,hv2.pr,hv2.py⟩
end
section
set_option maxRecDepth 100000
theorem room_Holds' {r:ad_} (h:SmR r) (h0:cv_ r=0) {s:ai_} (hv:VS r s) {c:List bd_} (hc:cOk r.2.1 c=true):ez_ r s c=some (dh_ s.1 c,(0,())):=by
  have ok:=bl_ h0
  obtain ⟨m1,m2,m3⟩:=pi_ h ok hv
  unfold ez_
  rw [et_ h,a0_,gu_ h0 hv]
  simp only [show ((0:Int) != 0)=false from rfl,a2_]
  rw [jh_ h.th,a0_,hc]
  obtain ⟨c1,c2⟩:=tf_ h.th hc
  have hl:=hv.l1
  simp only [e5_,a2_]
  rw [av_ m1,a0_,av_ m2,a0_,av_ m3,a0_,ma_ (t:=(r,(s.1,(s.2.1,s.2.2)))) (show c.length≤1000000000 by omega) (by show InC s.1.length c; rw [hl]; exact c1)]
  rfl
def rdB (s:ai_) (n:cn_) (b:Bool):Bool:=b||(dh_ s.1 n.2.2.2.1&&s.2.2.contains n.2.1)
def rdN (g:ac_) (s:ai_) (d:List Bool):List Bool:=List.zipWith (rdB s) g.2.2.2.1 d
theorem rt_ {g:ac_} {s:ai_} {d:List Bool} (hd:d.length=g.2.2.2.1.length):(rdN g s d).length=g.2.2.2.1.length:=by
  unfold rdN
  rw [List.length_zipWith]
  omega
theorem rdN_get {g:ac_} {s:ai_} {d:List Bool} {i:Nat} {n:cn_} {b:Bool} (hn:g.2.2.2.1[i]?=some n) (hb:d[i]?=some b):(rdN g s d)[i]?=some (rdB s n b):=by
  unfold rdN
  rw [List.getElem?_zipWith,hn,hb]
theorem vm_ {g:ac_} (hg:SmG g) (ok:OkG g) {s:ai_} (hv:VS g.1 s) {d:List Bool} (hd:d.length=g.2.2.2.1.length) (m:List ab_) :
    ∃ z,af_ (pbgB g s) (0,(d,(m,())))=some z∧z.1=rdN g s d:=by
  have h0:=ok.room
  have okr:=bl_ h0
  obtain ⟨m1,m2,m3⟩:=pi_ hg.room okr hv
  have hn:=hg.nt
  have hrl:=rt_ (s:=s) hd
  refine ll_ (fun (i:Nat) (z:Int×(List Bool×(List ab_×Unit)))=>∃ d' m',z=((i:Int),(d',(m',())))∧∀ j,d'[j]?=if j<i then (rdN g s d)[j]? else d[j]?) _ g.2.2.2.1.length 0 _ ⟨d,m,rfl,fun j=>by simp⟩ (fun j z h1 h2 hz=>.inl ?_) (fun z hz => ?_)
  · obtain ⟨d',m',rfl,hd'⟩:=hz
    obtain ⟨x,hx⟩:=bb_ (l:=g.2.2.2.1) (i:=j) (by omega)
    obtain ⟨y,hy⟩:=bb_ (l:=d) (i:=j) (by omega)
    have hy':d'[j]?=some y:=by rw [hd' j,if_neg (by omega)]; exact hy
    have hr:=rdN_get (s:=s) hx hy
    have hH:=room_Holds' hg.room h0 hv (ok.nt j x hx).2
    have keep:rdB s x y=y→∀ k,d'[k]?=if k<j+1 then (rdN g s d)[k]? else d[k]?:=fun e k=>by
      rw [hd' k]
      by_cases hk:k=j
      · subst hk
        rw [if_neg (by omega),if_pos (by omega),hr,hy,e]
      · by_cases hk2:k<j
        · rw [if_pos hk2,if_pos (by omega)]
        · rw [if_neg hk2,if_neg (by omega)]
    have turn:rdB s x y=true→∀ k,(d'.set ((j:Int)).toNat true)[k]?=if k<j+1 then (rdN g s d)[k]? else d[k]?:=fun e k=>by
      rw [c1_,h8_]
      by_cases hk:j=k
      · subst hk
        rw [if_pos rfl,if_pos (am_ hy'),if_pos (by omega),hr,e]
      · rw [if_neg hk,hd' k]
        by_cases hk2:k<j
        · rw [if_pos hk2,if_pos (by omega)]
        · rw [if_neg hk2,if_neg (by omega)]
    unfold pbgB
    simp only [dlt (am_ hx),a4_,ah_ hx,ah_ hy',a0_,hH,oe_ m3,ay_ (show Sm j by omega)]
    unfold rdB at keep turn
    cases hb:dh_ s.1 x.2.2.2.1 with
    | false=>exact ⟨_,rfl,_,_,rfl,keep (by rw [hb]; simp)⟩
    | true =>
    cases hc:s.2.2.contains x.2.1 with
    | false =>
      refine ⟨_,?_,d',m',rfl,keep (by rw [hc]; simp)⟩
      simp only [a4_,a2_,a0_]
    | true =>
    cases y with
    | true=>exact ⟨_,rfl,_,_,rfl,keep rfl⟩
    | false=>exact ⟨_,rfl,_,_,rfl,turn (by rw [hb,hc]; rfl)⟩
  · obtain ⟨d',m',rfl,hd'⟩:=hz
    rw [b0_]
    unfold pbgB
    simp only [dnl,a2_]
    refine ⟨_,rfl,f0_ fun k => ?_⟩
    rw [hd' k]
    split
    · rfl
    · rw [b1_ (by omega),b1_ (by omega)]
def cluN (g:ac_) (d:List Bool) (lock:Int):List ak_:=(g.2.2.2.1.zip d).filterMap fun x=>cond (x.1.2.2.1==lock&&x.2) (some x.1.2.2.2.2) none
theorem cluN_mem {g:ac_} {d:List Bool} {lock:Int} {c:ak_} (h:c ∈ cluN g d lock):∃ (i:Nat) (n:cn_),g.2.2.2.1[i]?=some n∧n.2.2.1=lock∧n.2.2.2.2=c:=by
  unfold cluN at h
  obtain ⟨x,hx,he⟩:=List.mem_filterMap.1 h
  obtain ⟨i,hi⟩:=f9_ (List.of_mem_zip hx).1
  cases hq:(x.1.2.2.1==lock&&x.2) with
  | false=>rw [hq] at he; cases he
  | true =>
    rw [hq] at he
    rw [a1_,f5_] at hq
    exact ⟨i,x.1,hi,hq.1,a6_ he⟩
theorem cluN_len {g:ac_} (hg:SmG g) (d:List Bool) (lock:Int):(cluN g d lock).length≤20:=by
  unfold cluN
  refine c3_ (o6_ ..) ?_
  rw [m8_]
  have:=hg.nt
  omega
theorem nt_clue {g:ac_} (ok:OkG g) {i:Nat} {n:cn_} (hn:g.2.2.2.1[i]?=some n) {l:ab_} (h0:0≤n.2.2.1) (hl:at? g.2.1 n.2.2.1=some l):da_ l n.2.2.2.2=true:=by
  have h:=(ok.nt i n hn).1
  unfold ntOk at h
  simp only [a1_] at h
  have h5:=h.2.2.2.2
  rw [b7_ (by omega),hl] at h5
  simp only [a2_] at h5
  cases hk:at? g.2.2.1 n.2.2.1 with
  | none=>rw [hk] at h5; cases h5
  | some k =>
    rw [hk] at h5
    have h5:clOk l n.2.2.2.2 k=true:=h5
    unfold clOk at h5
    rw [a1_] at h5
    exact h5.1
noncomputable def rdC (g:ac_) (d:List Bool) (lock:Int) (l:ab_):Int:=((rdg l ((cluN g d lock))).length:Int)
theorem count_clu {g:ac_} (hg:SmG g) (ok:OkG g) (d:List Bool) {lock:Int} (h0:0≤lock) {l:ab_} (hl:at? g.2.1 lock=some l):cx_ l (cluN g d lock)=some (rdC g d lock l,(0,())):=by
  obtain ⟨_,_,l1⟩:=cy_ hl
  refine codes_Count' (ok.lk _ l l1).1 (cluN_len hg d lock) fun c hc => ?_
  obtain ⟨i,n,hn,rfl,rfl⟩:=cluN_mem hc
  exact nt_clue ok hn h0 hl
noncomputable def opn (g:ac_) (d:List Bool) (lock:Int):Bool:=cond (decide (lock<0)) true ((at? g.2.1 lock).elim false fun l=>decide (rdC g d lock l≤g.2.2.2.2))
noncomputable def abB (a0:ac_) (v1:List Bool) (lock:Int):(List Int×(List ak_×(Int×Unit)))→Option ((List Int×(List ak_×(Int×Unit)))⊕(List Int×(List ak_×Unit))) :=
 (fun (v4:((List Int)×((List ak_)×(Int×Unit)))) =>
 (cond (decide (v4.2.2.1<(a0.2.2.2.1.length:Int)))
 ((((at? a0.2.2.2.1 v4.2.2.1).bind fun v5 =>
 (((cond (v5.2.2.1==lock)
 ((at? v1 v4.2.2.1).bind fun v6 =>
 ((at? v1 v4.2.2.1).bind fun v7 =>
 (some (v7,()))))
 (some (false,())))).bind fun v8 =>
 (cond v8.1
 ((push? (α:=Int) v4.1 [v4.2.2.1]).bind fun v9 =>
 ((push? (α:=ak_) v4.2.1 [v5.2.2.2.2]).bind fun v10 =>
 (some (v9,(v10,())))))
 (some (v4.1,(v4.2.1,()))))))).bind fun v11 =>
 (some (Sum.inl (v11.1,(v11.2.1,((w64 (v4.2.2.1+1)),()))))))
 (some (Sum.inr (v4.1,(v4.2.1,()))))))
theorem ab_loop {g:ac_} (hg:SmG g) {d:List Bool} (hd:d.length=g.2.2.2.1.length) (lock:Int):∃ q,af_ (abB g d lock) ([],([],(0,())))=some (q,(cluN g d lock,())):=by
  have hn:=hg.nt
  suffices hk:∃ r,af_ (abB g d lock) ([],([],(0,())))=some r∧∃ q,r=(q,(cluN g d lock,())) by
    obtain ⟨z,ez,q,rfl⟩:=hk
    exact ⟨q,ez⟩
  refine ll_ (fun (i:Nat) (z:List Int×(List ak_×(Int×Unit)))=>∃ q,z=(q,(((g.2.2.2.1.zip d).take i).filterMap (fun x=>cond (x.1.2.2.1==lock&&x.2) (some x.1.2.2.2.2) none),((i:Int),())))∧q.length≤i) (fun w=>∃ q,w=(q,(cluN g d lock,()))) g.2.2.2.1.length 0 ([],([],(0,()))) ⟨[],rfl,c4_ _⟩ (fun j z h1 h2 hz=>.inl ?_) (fun z hz => ?_)
  · obtain ⟨q,rfl,hq⟩:=hz
    obtain ⟨x,hx⟩:=bb_ (l:=g.2.2.2.1) (i:=j) (by omega)
    obtain ⟨y,hy⟩:=bb_ (l:=d) (i:=j) (by omega)
    have hzip:(g.2.2.2.1.zip d)[j]?=some (x,y):=by rw [h2_]; exact ⟨hx,hy⟩
    have hlen:(((g.2.2.2.1.zip d).take j).filterMap (fun x=>cond (x.1.2.2.1==lock&&x.2) (some x.1.2.2.2.2) none)).length≤j:=by
      refine c3_ (o6_ ..) ?_
      rw [c7_]; omega
    have hstep:((g.2.2.2.1.zip d).take (j+1)).filterMap (fun x=>cond (x.1.2.2.1==lock&&x.2) (some x.1.2.2.2.2) none)=((g.2.2.2.1.zip d).take j).filterMap (fun x=>cond (x.1.2.2.1==lock&&x.2) (some x.1.2.2.2.2) none)++cond (x.2.2.1==lock&&y) [x.2.2.2.2] []:=by
      rw [d2_,hzip,n5_]
      cases hc:(x.2.2.1==lock&&y) with
      | false=>simp [hc]
      | true=>simp [hc]
    unfold abB
    simp only [dlt (am_ hx),a4_,ah_ hx,ah_ hy,a0_,ay_ (show Sm j by omega)]
    cases h1:x.2.2.1==lock with
    | false =>
      refine ⟨_,rfl,q,?_,by omega⟩
      rw [hstep,h1,e0_,a2_,e6_]
    | true =>
    cases y with
    | false =>
      refine ⟨_,rfl,q,?_,by omega⟩
      rw [hstep,f7_,a2_,e6_]
    | true =>
      simp only [a4_,a0_,cd_ (show Sm q.length by show _≤1000000000; omega),cd_ (show Sm _ from c3_ hlen (by omega))]
      refine ⟨_,rfl,q++[(j:Int)],?_,by rw [a8_,d4_]; omega⟩
      rw [hstep,h1,h4_,a4_]
  · obtain ⟨q,rfl,hq⟩:=hz
    rw [b0_]
    unfold abB
    simp only [dnl,a2_]
    refine ⟨_,rfl,q,?_⟩
    unfold cluN
    rw [g3_ (by rw [m8_]; omega)]
end
section
set_option maxRecDepth 100000
noncomputable def opX (a0:ac_) (v1:List Bool) (a2:ag_):Option (Bool×(List ab_×Unit)) :=
 (cond (a2.2.1==4)
 ((bw_ a2.2.2 0 (w64 ((a0.1.2.2.2.2.1.length:Int) - 1))).bind fun v2 =>
 (cond v2.1
 ((at? a0.1.2.2.2.2.1 a2.2.2).bind fun v3 =>
 (cond (decide (v3.2.2.1<0))
 (some ((!true),([],())))
 ((((af_ (abB a0 v1 v3.2.2.1) ([],([],(0,())))).bind fun v12 =>
 ((at? a0.2.1 v3.2.2.1).bind fun v13 =>
 ((cx_ v13 v12.2.1).bind fun v14 =>
 (((cond (v14.2.1==0)
 (some ((decide (v14.1≤a0.2.2.2.2)),()))
 (some (false,())))).bind fun v15 =>
 (cond v15.1
 (some ((ju_ (ju_ [] v3.2.2.1 2) v3.2.2.1 1),()))
 (some ((ju_ [] v3.2.2.1 2),())))))))).bind fun v16 =>
 (some ((!((fh_ 0 v16.1 v3.2.2.1)==1)),(v16.1,()))))))
 (some (false,([],())))))
 (some (false,([],()))))
noncomputable def pstX (a0:ac_) (a1:aa_) (a2:ag_):Option (aa_×(Int×Unit)) :=
 ((dz_ a0 a1).bind fun v0 =>
 (cond (v0.1 != 0)
 (cond (v0.1 != 0)
 (some ((([],([],[])),[]),(v0.1,())))
 none)
 ((push? (α:=Bool) [] a1.2).bind fun v1 =>
 ((((opX a0 v1 a2).bind fun v17 =>
 (cond v17.1
 (some ((!false),(v1,(v17.2.1,((a1.1.1,(a1.1.2.1,(a1.1.2.2,()))),())))))
 ((ex_ a0.1 a1.1 a2).bind fun v18 =>
 (cond (v18.2.1 != 0)
 (some ((!false),(v1,(v17.2.1,((a1.1.1,(a1.1.2.1,(a1.1.2.2,()))),())))))
 ((af_ (ρ:=((List Bool)×((List ab_)×Unit))) (pbgB a0 v18.1) (0,(v1,(v17.2.1,())))).bind fun v29 =>
 (some ((!true),(v29.1,(v29.2.1,((v18.1.1,(v18.1.2.1,(v18.1.2.2,()))),()))))))))))).bind fun v30 =>
 (cond v30.1
 (some ((([],([],[])),[]),(29,())))
 ((push? (α:=Int) [] v30.2.2.2.1.1).bind fun v31 =>
 ((push? (α:=Int) [] v30.2.2.2.1.2.1).bind fun v32 =>
 ((push? (α:=Int) [] v30.2.2.2.1.2.2.1).bind fun v33 =>
 ((push? (α:=Bool) [] v30.2.1).bind fun v34 =>
 (some (((v31,(v32,v33)),v34),(0,()))))))))))))
theorem pstX_eq:kb_=pstX:=by kernel_rfl
noncomputable def okM (g:ac_) (d:List Bool) (m:ag_):Bool:=cond (m.2.1==4) ((at? g.1.2.2.2.2.1 m.2.2).elim true fun a=>opn g d a.2.2.1) true
noncomputable def stepP (g:ac_) (p:aa_) (m:ag_):Option aa_ :=
  cond (okM g p.2 m&&lgl g.1 p.1 m) ((xh_ g.1 p.1 m).map fun s=>(s,rdN g s p.2)) none
abbrev eP:aa_:=(eS,[])
theorem play_check {g:ac_} (hg:SmG g) (p:aa_):dz_ g p=some (cond (cg_ g != 0) (cg_ g) (cond (mt_ g.1 p.1 != 0) (mt_ g.1 p.1) (cond ((p.2.length:Int) != (g.2.2.2.1.length:Int)) 28 0)),()):=by
  unfold dz_
  rw [yc_ hg,a0_]
  cases cg_ g != 0 with
  | true=>rfl
  | false =>
  simp only [a2_]
  rw [et_ hg.room,a0_]
  cases mt_ g.1 p.1 != 0 with
  | true=>rfl
  | false =>
  simp only [a2_]
  cases (p.2.length:Int) != (g.2.2.2.1.length:Int) <;> rfl
structure VP (g:ac_) (p:aa_):Prop where
  st:VS g.1 p.1
  rd:p.2.length=g.2.2.2.1.length
theorem vl_ {g:ac_} (hg:SmG g) (h0:cg_ g=0) {p:aa_} (hv:VP g p):dz_ g p=some (0,()):=by
  rw [play_check hg,h0,gu_ (cw_ h0).room hv.st,hv.rd,show ((g.2.2.2.1.length:Int) != (g.2.2.2.1.length:Int))=false by simp]
  rfl
theorem opX_eq {g:ac_} (hg:SmG g) (ok:OkG g) {d:List Bool} (hd:d.length=g.2.2.2.1.length) (m:ag_):∃ x,opX g d m=some (!(okM g d m),(x,())):=by
  have hac:=hg.ac
  unfold opX okM
  cases hk:m.2.1==4 with
  | false=>exact ⟨[],rfl⟩
  | true =>
  simp only [a4_,jr_,a0_]
  rcases co_ (l:=g.1.2.2.2.2.1) (by show _≤1000000000; omega) m.2.2 with ⟨f1,f2⟩ | ⟨j,a,hj,ha,f1,f2⟩
  · rw [f1,f2]; exact ⟨[],rfl⟩
  · rw [f1,f2]
    simp only [a4_,a0_,Option.elim]
    unfold opn
    cases hz:decide (a.2.2.1<0) with
    | true=>exact ⟨[],rfl⟩
    | false =>
    have hz:=d6_ hz
    have hlt:=ok.ac j a ha
    obtain ⟨l,hl⟩:=bb_ (l:=g.2.1) (i:=a.2.2.1.toNat) (by omega)
    have hl2:at? g.2.1 a.2.2.1=some l:=by rw [show a.2.2.1=((a.2.2.1.toNat:Nat):Int) by omega]; exact ah_ hl
    obtain ⟨q,e⟩:=ab_loop hg hd a.2.2.1
    rw [e]
    simp only [a2_,a0_,hl2,count_clu hg ok d (by omega) hl2,Option.elim]
    simp only [show ((0:Int)==0)=true from rfl,a4_,a0_]
    cases decide (rdC g d a.2.2.1 l≤g.2.2.2.2) with
    | true=>exact ⟨_,by simp [ju_,fh_,mget?]; rfl⟩
    | false=>exact ⟨_,by simp [ju_,fh_,mget?]; rfl⟩
theorem play_Step {g:ac_} (hg:SmG g) (h0:cg_ g=0) {p:aa_} (hv:VP g p) (m:ag_) :
    kb_ g p m=some ((stepP g p m).elim (eP,(29,())) fun q=>(q,(0,()))):=by
  have ok:=cw_ h0
  have hn:=hg.nt
  have hrd:=hv.rd
  rw [pstX_eq]
  unfold pstX
  rw [vl_ hg h0 hv,a0_]
  simp only [show ((0:Int) != 0)=false from rfl,a2_]
  rw [av_ (show Sm p.2.length by show _≤1000000000; omega),a0_]
  obtain ⟨x,ex⟩:=opX_eq hg ok hv.rd m
  rw [ex,a0_]
  unfold stepP
  cases okM g p.2 m with
  | false=>rfl
  | true =>
  simp only [e5_,a2_,c0_]
  rw [room_Step hg.room ok.room hv.st m,a0_]
  cases hl:lgl g.1 p.1 m with
  | false=>rfl
  | true =>
  simp only [a4_]
  cases hs:xh_ g.1 p.1 m with
  | none=>rfl
  | some s =>
  have hv2:=tz_ hg.room ok.room hv.st hl hs
  obtain ⟨m1,m2,m3⟩:=pi_ hg.room (bl_ ok.room) hv2
  have hrl:=rt_ (s:=s) hv.rd
  obtain ⟨z,ez,hz⟩:=vm_ hg ok hv2 hv.rd x
  simp only [Option.elim,show ((0:Int) != 0)=false from rfl,a2_]
  rw [ez,a0_,a0_]
  simp only [e5_,a2_]
  rw [av_ m1,a0_,av_ m2,a0_,av_ m3,a0_,hz,av_ (show Sm (rdN g s p.2).length by show _≤1000000000; omega),a0_]
  rfl
theorem za_ {g:ac_} (hg:SmG g) (h0:cg_ g=0) {p q:aa_} (hv:VP g p) {m:ag_} (h:stepP g p m=some q):VP g q:=by
  have ok:=cw_ h0
  unfold stepP at h
  cases hc:(okM g p.2 m&&lgl g.1 p.1 m) with
  | false=>rw [hc] at h; cases h
  | true =>
  rw [hc,a4_] at h
  obtain ⟨s,hs,rfl⟩:=f4_.1 h
  rw [a1_] at hc
  exact ⟨tz_ hg.room ok.room hv.st hc.2 hs,rt_ hv.rd⟩
end
end Go.Proofs.YtmdlefagpcmllaaGreatDoor.Rx
namespace Go.Proofs.YtmdlefagpcmllaaGreatDoor.Rx
open Go Pad Rex
section
set_option maxRecDepth 10000
theorem room_Done {r:ad_} (h:SmR r) (h0:cv_ r=0) {s:ai_} (hv:VS r s):jy_ r s=some (dh_ s.1 r.2.2.2.2.2.2.2,(0,())):=by
  have ok:=bl_ h0
  obtain ⟨m1,m2,m3⟩:=pi_ h ok hv
  unfold jy_
  rw [et_ h,a0_,gu_ h0 hv]
  simp only [show ((0:Int) != 0)=false from rfl,a2_]
  obtain ⟨c1,c2⟩:=tf_ h.th ok.go
  have hl:=hv.l1
  rw [av_ m1,av_ m2,av_ m3]
  simp only [a0_]
  rw [ma_ (t:=(r,(s.1,(s.2.1,s.2.2)))) (show r.2.2.2.2.2.2.2.length≤1000000000 by omega) (by show InC s.1.length r.2.2.2.2.2.2.2; rw [hl]; exact c1)]
  rfl
end
section
set_option maxRecDepth 10000
theorem ref02_hand {s:ai_} (h:Sm s.2.1.length) (p:Int):gr_ s p=some ((lj_ s.2.1 (w64 ((-2) - p)):Int),()):=by
  unfold gr_
  refine bind_fold s.2.1 (fun _ (c:Nat) x=>cond (x==w64 ((-2) - p)) (c+1) c) (fun i c=>((c:Int),((i:Int),()))) (fun c=>((c:Int),())) 0 (fun i c=>c=lj_ (s.2.1.take i) (w64 ((-2) - p))) rfl (fun i x c hx hc => ?_) (fun c hc => ?_) (fun c hc => ?_)
  · have hi:=am_ hx
    have hcl:c≤i:=by rw [hc]; refine c3_ (ui_ _ _) ?_; rw [c7_]; omega
    have hn:lj_ (s.2.1.take (i+1)) (w64 ((-2) - p))=cond (x==w64 ((-2) - p)) (c+1) c:=by
      unfold lj_
      rw [d2_,hx,hc,List.countP_append]
      unfold lj_
      cases hq:x==w64 ((-2) - p) with
      | true=>simp [hq]
      | false=>simp [hq]
    refine ⟨?_,hn.symm⟩
    simp only [dlt hi,a4_,ah_ hx,a0_,ay_ (show Sm i by omega)]
    cases hq:x==w64 ((-2) - p) with
    | true=>simp only [a4_,a0_,ay_ (show Sm c by omega)]
    | false=>rfl
  · simp only [dnl,a2_]
  · rw [d1_] at hc
    rw [hc]
theorem bne_beq' (a b:Int):(a != b) = !(a==b):=rfl
theorem ref02_legal {r:ad_} (h:SmR r) (ok:OkR r) {s:ai_} (hv:VS r s) (m:ag_):ja_ r s m=some (lgl r s m,()):=by
  obtain ⟨m1,m2,m3⟩:=pi_ h ok hv
  have hl1:=hv.l1
  have hl2:=hv.l2
  have hl3:=hv.l3
  have hH:∀ {c:List bd_},cOk r.2.1 c=true→bk_ s c=some (dh_ s.1 c,()):=fun {c} hc=>by
    obtain ⟨c1,c2⟩:=tf_ h.th hc
    exact iu_ (show c.length≤1000000000 by omega) (by show InC s.1.length c; rw [hl1]; exact c1)
  have hD:gr_ s m.1=some ((lj_ s.2.1 (hdl m):Int),()):=ref02_hand m2 m.1
  have hDl:=ui_ s.2.1 (hdl m)
  unfold ja_ lgl
  rw [← hl3]
  simp only [ff_,a0_]
  rcases co_ m3 m.1 with ⟨e1,_⟩ | ⟨pj,px,hpj,hp,e1,e2⟩
  · rw [e1]; rfl
  · have eg:gi s.2.2 m.1=px:=mm_ e2
    simp only [e1,e2,eg,e5_,a2_,a0_,c0_]
    cases hk1:m.2.1==1 with
    | true =>
      simp only [a4_]
      rcases co_ h.wy m.2.2 with ⟨f1,f2⟩ | ⟨j,w,hj,hw,f1,f2⟩
      · simp only [f1,f2]; rfl
      · simp only [f1,f2,a4_,a0_,hH (ok.wy j w hw).2]
        show _=some ((w.1==px||w.2.1==px)&&dh_ s.1 w.2.2,())
        cases w.1==px with
        | true=>rfl
        | false=>cases w.2.1==px <;> rfl
    | false =>
    simp only [a2_]
    cases hk2:m.2.1==2 with
    | true =>
      simp only [a4_]
      rcases co_ h.pr m.2.2 with ⟨f1,f2⟩ | ⟨j,x,hj,hx,f1,f2⟩
      · simp only [f1,f2]; rfl
      · obtain ⟨p,hp⟩:=bb_ (l:=s.2.1) (i:=j) (by have:=am_ hx; omega)
        have f3:at? s.2.1 m.2.2=some p:=by rw [hj]; exact ah_ hp
        have f4:gi s.2.1 m.2.2=p:=mm_ f3
        simp only [f1,f2,f3,f4,a4_,a0_,hH (ok.pr j x hx).2,hD]
        show _=some (p==px&&(dh_ s.1 x.2.2&&decide ((lj_ s.2.1 (hdl m):Int)<3)),())
        cases p==px with
        | false=>rfl
        | true=>cases dh_ s.1 x.2.2 <;> rfl
    | false =>
    simp only [a2_]
    cases hk3:m.2.1==3 with
    | true =>
      simp only [a4_]
      rcases co_ m2 m.2.2 with ⟨f1,f2⟩ | ⟨j,p,hj,hp,f1,f2⟩
      · rw [hl2] at f1
        simp only [f1,f2]; rfl
      · rw [hl2] at f1
        simp only [f1,f2,a4_,a0_]; rfl
    | false =>
    simp only [a2_]
    cases hk4:m.2.1==4 with
    | false=>rfl
    | true =>
      simp only [a4_]
      rcases co_ h.ac m.2.2 with ⟨f1,f2⟩ | ⟨j,a,hj,ha,f1,f2⟩
      · simp only [f1,f2]; rfl
      · obtain ⟨oa,oc⟩:=ok.ac j a ha
        have ai:=act_in oa
        obtain ⟨s1,s2,s3,s4,s5,s6⟩:=h.acn a (ax_ ha)
        simp only [f1,f2,e5_,a2_,a0_]
        show _=some (a.2.1==px&&((a.2.2.2.1.all fun p=>gi s.2.1 p==hdl m)&&(dh_ s.1 a.2.2.2.2.1&&((a.2.2.2.2.2.2.2.all fun p=>gi s.2.1 p==-1)&&decide ((lj_ s.2.1 (hdl m):Int) - (a.2.2.2.2.2.2.1.length:Int)+(a.2.2.2.2.2.2.2.length:Int)≤3)))),())
        refine bn_ a.2.2.2.1 (fun _ p=>cond (gi s.2.1 p==hdl m) none (some (Sum.inr (false,()):Unit⊕(Bool×Unit)))) (fun i=>((i:Int),())) (r0:=Sum.inl ()) (fun i y hy => ?_) ?_ ?_
        · have:=ai.us y (ax_ hy)
          simp only [dlt (am_ hy),a4_,ah_ hy,a0_,oc_ this.1 (show y<(s.2.1.length:Int) by omega),ay_ (show Sm i by have:=am_ hy; omega),bne_beq']
          cases gi s.2.1 y==hdl m <;> rfl
        · simp only [dnl,a2_]
        rw [ir_ (q:=fun p=>gi s.2.1 p==hdl m)]
        cases a.2.2.2.1.all fun p=>gi s.2.1 p==hdl m with
        | false=>simp only [e0_,f7_]; rfl
        | true =>
        simp only [a4_,j0_]
        unfold ca_
        refine bn_ a.2.2.2.2.2.2.2 (fun _ p=>cond (gi s.2.1 p==-1) none (some (Sum.inr (false,()):Unit⊕(Bool×Unit)))) (fun i=>((i:Int),())) (r0:=Sum.inl ()) (fun i y hy => ?_) ?_ ?_
        · have:=ai.br y (ax_ hy)
          simp only [dlt (am_ hy),a4_,ah_ hy,a0_,oc_ this.1 (show y<(s.2.1.length:Int) by omega),ay_ (show Sm i by have:=am_ hy; omega),bne_beq']
          cases gi s.2.1 y==-1 <;> rfl
        · simp only [dnl,a2_]
        rw [ir_ (q:=fun p=>gi s.2.1 p==-1)]
        cases a.2.2.2.2.2.2.2.all fun p=>gi s.2.1 p==-1 with
        | false=>simp only [e0_,f7_]; rfl
        | true =>
        simp only [a4_,j0_]
        cases a.2.1==px with
        | false=>rfl
        | true =>
        simp only [a4_,hH oc,a0_,c0_]
        cases dh_ s.1 a.2.2.2.2.1 with
        | false=>rfl
        | true =>
        simp only [a4_,hD,a0_,c0_]
        rw [fv_ (n:=(lj_ s.2.1 (hdl m):Int) - _) (by omega) (by omega),fv_ (by omega) (by omega)]
end
section
set_option maxRecDepth 10000
theorem run_cnt {σ ρ:Type} (n:Nat) (S:Nat→σ) {body:σ→Option (σ⊕ρ)} {r:ρ} (h:∀ i,i<n→body (S i)=some (.inl (S (i+1)))) (e:body (S n)=some (.inr r)):af_ body (S 0)=some r:=by
  have gen:∀ (k i:Nat),i+k=n→af_ body (S i)=some r:=by
    intro k
    induction k with
    | zero =>
      intro i hi
      obtain rfl:i=n:=by omega
      exact bt_ e
    | succ k ih =>
      intro i hi
      exact bo_ (h i (by omega)) (ih (i+1) (by omega))
  exact gen n 0 (by omega)
theorem hh_ {σ ρ υ:Type} (n:Nat) (S:Nat→σ) {body:σ→Option (σ⊕ρ)} {r:ρ} {s0:σ} {K:ρ→Option υ} {x:Option υ} (h0:S 0=s0) (h:∀ i,i<n→body (S i)=some (.inl (S (i+1)))) (e:body (S n)=some (.inr r)) (hk:K r=x):(af_ body s0).bind K=x:=by
  rw [← h0,run_cnt n S h e,a0_,hk]
section
variable (q:ag_→Bool)
def mvK (i k:Int):Nat→List ag_→List ag_
  | 0,l=>l
  | n+1,l=>cond (q (i,(k,(n:Int)))) (mvK i k n l++[(i,(k,(n:Int)))]) (mvK i k n l)
def mvJ (i:Int) (c:Nat→Nat):Nat→List ag_→List ag_
  | 0,l=>l
  | k+1,l=>mvK q i (k:Int) (c k) (mvJ i c k l)
def mvs (c:Nat→Nat):Nat→List ag_
  | 0=>[]
  | n+1=>mvJ q (n:Int) c 5 (mvs c n)
theorem mvK_len (i k:Int):∀ n l,(mvK q i k n l).length≤l.length+n
  | 0,l=>c4_ _
  | n+1,l=>by
    have:=mvK_len i k n l
    unfold mvK
    cases q (i,(k,(n:Int))) with
    | true=>simp only [a4_,a8_,c6_,j6_]; omega
    | false=>simp only [a2_]; omega
theorem mvJ_len (i:Int) {c:Nat→Nat} (hc:∀ k,c k≤24):∀ k l,(mvJ q i c k l).length≤l.length+k * 24
  | 0,l=>c4_ _
  | k+1,l=>by
    have h1:=mvJ_len i hc k l
    have h2:=mvK_len q i (k:Int) (c k) (mvJ q i c k l)
    have h3:=hc k
    unfold mvJ
    omega
theorem zz_ {c:Nat→Nat} (hc:∀ k,c k≤24):∀ n,(mvs q c n).length≤n * 120
  | 0=>c4_ _
  | n+1=>by
    have h1:=zz_ hc n
    have h2:=mvJ_len q (n:Int) hc 5 (mvs q c n)
    unfold mvs
    omega
theorem mvK_ext (i k:Int) {n:Nat} (l:List ag_):∀ m,n≤m→(∀ j:Nat,n≤j→j<m→q (i,(k,(j:Int)))=false)→mvK q i k m l=mvK q i k n l
  | 0, h, _ => by obtain rfl : n = 0 := by omega
                  rfl
  | m+1,h,hf=>by
    rcases k8_ m n with hm | hm
    · obtain rfl:n=m+1:=by omega
      rfl
    · show cond (q (i,(k,(m:Int)))) _ (mvK q i k m l)=_
      rw [hf m hm (by omega),a2_]
      exact mvK_ext i k l m hm fun j a b=>hf j a (by omega)
theorem mvJ_ext (i:Int) {c d:Nat→Nat} (K:Nat) (l:List ag_) (hc:∀ k,k<K→c k≤d k) (hf:∀ k,k<K→∀ j:Nat,c k≤j→j<d k→q (i,((k:Int),(j:Int)))=false):∀ k,k≤K→mvJ q i d k l=mvJ q i c k l
  | 0,_=>rfl
  | k+1,hk=>by
    unfold mvJ
    rw [mvJ_ext i K l hc hf k (by omega)]
    exact mvK_ext q i (k:Int) _ (d k) (hc k (by omega)) (hf k (by omega))
theorem mvs_ext {c d:Nat→Nat} (hc:∀ k,k<5→c k≤d k) (hf:∀ i k,k<5→∀ j:Nat,c k≤j→j<d k→q (i,((k:Int),(j:Int)))=false):∀ n,mvs q d n=mvs q c n
  | 0=>rfl
  | n+1=>by
    unfold mvs
    rw [mvs_ext hc hf n]
    exact mvJ_ext q (n:Int) 5 _ hc (hf (n:Int)) 5 (c4_ _)
end
def cntR (r:ad_) (k:Nat):Nat:=[0,r.2.2.2.1.length,r.2.2.1.length,r.2.2.1.length,r.2.2.2.2.1.length].getD k 0
def sj_ (k:Nat):Nat:=match k with
  | 0=>0
  | _+1=>24
theorem at5 (a b c d:Nat):∀ {k:Nat},k<5→decide ((k:Int)<(([0,(a:Int),(b:Int),(c:Int),(d:Int)]:List Int).length:Int))=true∧at? [0,(a:Int),(b:Int),(c:Int),(d:Int)] (k:Int)=some ((([0,a,b,c,d]:List Nat).getD k 0:Nat):Int)
  | 0,_=>⟨rfl,rfl⟩
  | 1,_=>⟨rfl,rfl⟩
  | 2,_=>⟨rfl,rfl⟩
  | 3,_=>⟨rfl,rfl⟩
  | 4,_=>⟨rfl,rfl⟩
  | _+5,h=>absurd h (by omega)
theorem cnt_le {r:ad_} (ok:OkR r):∀ k,cntR r k≤sj_ k:=by
  have hm:=ok.many
  unfold manyR at hm
  simp only [c2_,o8_] at hm
  intro k
  match k with
  | 0=>exact c4_ _
  | 1=>show r.2.2.2.1.length≤24; omega
  | 2=>show r.2.2.1.length≤24; omega
  | 3=>show r.2.2.1.length≤24; omega
  | 4=>show r.2.2.2.2.1.length≤24; omega
  | k+5=>exact l5_ _
theorem cnt24_le:∀ k,sj_ k≤24
  | 0=>l5_ _
  | _+1=>c4_ _
theorem at_out {α:Type} {l:List α} {j:Nat} (h:l.length≤j):at? l (j:Int)=none:=by
  rw [at_nat]
  exact b1_ h
theorem lgl_out {r:ad_} {s:ai_} (hv:VS r s) (i:Int) {k:Nat} (hk:k<5) {j:Nat} (hj:cntR r k≤j):lgl r s (i,((k:Int),(j:Int)))=false:=by
  unfold lgl
  match k,hk with
  | 0,_ =>
    show (_&&false)=false
    rw [f7_]
  | 1,_ =>
    show (_&&(at? r.2.2.2.1 (j:Int)).elim false _)=false
    rw [at_out (show r.2.2.2.1.length≤j from hj)]
    exact f7_ _
  | 2,_ =>
    show (_&&(at? r.2.2.1 (j:Int)).elim false _)=false
    rw [at_out (show r.2.2.1.length≤j from hj)]
    exact f7_ _
  | 3,_ =>
    show (_&&(at? s.2.1 (j:Int)).elim false _)=false
    have hl:=hv.l2
    have hj:r.2.2.1.length≤j:=hj
    rw [at_out (show s.2.1.length≤j by omega)]
    exact f7_ _
  | 4,_ =>
    show (_&&(at? r.2.2.2.2.1 (j:Int)).elim false _)=false
    rw [at_out (show r.2.2.2.2.1.length≤j from hj)]
    exact f7_ _
  | k+5,h=>exact absurd h (by omega)
def lmv (r:ad_) (s:ai_):List ag_:=mvs (lgl r s) (cntR r) r.2.2.2.2.2.2.1.toNat
theorem room_Legal {r:ad_} (h:SmR r) (h0:cv_ r=0) {s:ai_} (hv:VS r s):ey_ r s=some (lmv r s,(0,())):=by
  have ok:=bl_ h0
  obtain ⟨m1,m2,m3⟩:=pi_ h ok hv
  have hpy:=cc_.1 ok.py
  obtain ⟨P,hP⟩:∃ P:Nat,r.2.2.2.2.2.2.1=(P:Int):=⟨_,(Int.toNat_of_nonneg (by omega)).symm⟩
  have hc:∀ k,cntR r k≤24:=fun k=>c3_ (cnt_le ok k) (cnt24_le k)
  unfold ey_ lmv
  rw [et_ h,a0_,gu_ h0 hv]
  simp only [show ((0:Int) != 0)=false from rfl,a2_,av_ m1,av_ m2,av_ m3,a0_,hP,c1_]
  refine hh_ P (fun i=>((i:Int),((),((mvs (lgl r s) (cntR r) i,()),())))) rfl (fun i hi => ?_) (by simp only [dnl,a2_]; rfl) rfl
  simp only [dlt hi,a4_]
  have l1:=zz_ (lgl r s) hc i
  refine hh_ 5 (fun k=>((k:Int),((),((mvJ (lgl r s) (i:Int) (cntR r) k (mvs (lgl r s) (cntR r) i),()),())))) rfl (fun k hk => ?_) rfl ?_
  · have l2:=mvJ_len (lgl r s) (i:Int) hc k (mvs (lgl r s) (cntR r) i)
    obtain ⟨a1,a2⟩:=at5 r.2.2.2.1.length r.2.2.1.length r.2.2.1.length r.2.2.2.2.1.length hk
    simp only [a1,a2,a4_,a0_]
    refine hh_ (cntR r k) (fun j=>((j:Int),((),((mvK (lgl r s) (i:Int) (k:Int) j (mvJ (lgl r s) (i:Int) (cntR r) k (mvs (lgl r s) (cntR r) i)),()),())))) rfl (fun j hj => ?_) (by exact congrArg (fun b=>cond b _ _) (dnl (cntR r k))) ?_
    · have l3:=mvK_len (lgl r s) (i:Int) (k:Int) j (mvJ (lgl r s) (i:Int) (cntR r) k (mvs (lgl r s) (cntR r) i))
      have hk24:=hc k
      have hp:=cd_ (x:=((i:Int),((k:Int),(j:Int)))) (show Sm (mvK (lgl r s) (i:Int) (k:Int) j (mvJ (lgl r s) (i:Int) (cntR r) k (mvs (lgl r s) (cntR r) i))).length by show _≤1000000000; omega)
      have hd:decide ((j:Int)<((([0,r.2.2.2.1.length,r.2.2.1.length,r.2.2.1.length,r.2.2.2.2.1.length]:List Nat).getD k 0:Nat):Int))=true:=dlt hj
      simp only [hd,a4_,show ((r,(s.1,(s.2.1,s.2.2))):gx_)=(r,s) from rfl,uz_ h ok hv,a0_,ay_ (show Sm j by show j≤1000000000; omega),mvK]
      cases hq:lgl r s ((i:Int),((k:Int),(j:Int))) with
      | true=>simp only [a4_,hp,a0_]
      | false=>simp only [a2_,a0_]
    · simp only [ay_ (show Sm k by show k≤1000000000; omega)]
      rfl
  · simp only [ay_ (show Sm i by show i≤1000000000; omega)]
    rfl
theorem tl_ {r:ad_} (h:SmR r) (ok:OkR r) {s:ai_} (hv:VS r s):el_ r s=some (lmv r s,()):=by
  have hpy:=cc_.1 ok.py
  obtain ⟨P,hP⟩:∃ P:Nat,r.2.2.2.2.2.2.1=(P:Int):=⟨_,(Int.toNat_of_nonneg (by omega)).symm⟩
  have hc:=cnt24_le
  have hE:lmv r s=mvs (lgl r s) sj_ P:=by
    unfold lmv
    rw [hP,c1_]
    exact (mvs_ext (lgl r s) (fun k _=>cnt_le ok k) (fun i k hk j a _=>lgl_out hv i hk a) P).symm
  unfold el_
  rw [hE]
  simp only [hP]
  refine hh_ P (fun i=>(mvs (lgl r s) sj_ i,((i:Int),()))) rfl (fun i hi => ?_) (by simp only [dnl,a2_]; rfl) rfl
  simp only [dlt hi,a4_]
  have l1:=zz_ (lgl r s) hc i
  refine hh_ 4 (fun k=>(mvJ (lgl r s) (i:Int) sj_ (k+1) (mvs (lgl r s) sj_ i),(((k+1:Nat):Int),()))) rfl (fun k hk => ?_) rfl ?_
  · have l2:=mvJ_len (lgl r s) (i:Int) hc (k+1) (mvs (lgl r s) sj_ i)
    simp only [show decide (((k+1:Nat):Int)≤4)=true from b2_ (by omega),a4_]
    refine hh_ 24 (fun j=>(mvK (lgl r s) (i:Int) ((k+1:Nat):Int) j (mvJ (lgl r s) (i:Int) sj_ (k+1) (mvs (lgl r s) sj_ i)),((j:Int),()))) rfl (fun j hj => ?_) rfl ?_
    · have l3:=mvK_len (lgl r s) (i:Int) ((k+1:Nat):Int) j (mvJ (lgl r s) (i:Int) sj_ (k+1) (mvs (lgl r s) sj_ i))
      have hp:=cd_ (x:=((i:Int),(((k+1:Nat):Int),(j:Int)))) (show Sm (mvK (lgl r s) (i:Int) ((k+1:Nat):Int) j (mvJ (lgl r s) (i:Int) sj_ (k+1) (mvs (lgl r s) sj_ i))).length by show _≤1000000000; omega)
      simp only [show decide ((j:Int)<24)=true from b2_ (by omega),a4_,ref02_legal h ok hv,a0_,ay_ (show Sm j by show j≤1000000000; omega),mvK]
      cases hq:lgl r s ((i:Int),(((k+1:Nat):Int),(j:Int))) with
      | true=>simp only [a4_,hp,a0_]
      | false=>simp only [a2_,a0_]
    · simp only [ay_ (show Sm (k+1) by show k+1≤1000000000; omega)]
      rfl
  · simp only [ay_ (show Sm i by show i≤1000000000; omega)]
    rfl
end
section
set_option maxRecDepth 10000
theorem bind_first {α υ:Type} (l:List α) (hl:Sm l.length) (q:α→Bool) {body:(Int×(Int×Unit))→Option ((Int×(Int×Unit))⊕(Int×Unit))} {K:(Int×Unit)→Option υ} {x:Option υ}
    (hq:∀ (i:Nat) y,l[i]?=some y→body (-1,((i:Int),()))=some (.inl (cond (q y) (i:Int) (-1),(w64 ((i:Int)+1),()))))
    (he:body (-1,((l.length:Int),()))=some (.inr (-1,())))
    (hx:∀ i j:Nat,body ((i:Int),((j:Int),()))=some (.inr ((i:Int),())))
    (hk:∀ n:Int,((n = -1∧l.find? q=none)∨∃ (i:Nat) (y:α),n=(i:Int)∧l[i]?=some y∧l.find? q=some y)→K (n,())=x) :
    (af_ body (-1,(0,()))).bind K=x:=by
  have gen:∀ (k i:Nat),i+k=l.length→∃ n:Int,af_ body (-1,((i:Int),()))=some (n,())∧((n = -1∧(l.drop i).find? q=none)∨∃ (j:Nat) (y:α),n=(j:Int)∧l[j]?=some y∧(l.drop i).find? q=some y):=by
    intro k
    induction k with
    | zero =>
      intro i hi
      obtain rfl:i=l.length:=by omega
      exact ⟨-1,bt_ he,.inl ⟨rfl,by rw [n7_]; rfl⟩⟩
    | succ k ih =>
      intro i hi
      have hil:i<l.length:=by omega
      obtain ⟨y,hy⟩:=bb_ hil
      have hd:l.drop i=y::l.drop (i+1):=by
        rw [k4_ hil]
        rw [a7_ hil] at hy
        rw [a6_ hy]
      have hb:=hq i y hy
      rw [ay_ (show Sm i by unfold Sm at hl ⊢; omega)] at hb
      cases hqy:q y with
      | true =>
        rw [hqy] at hb
        exact ⟨(i:Int),bo_ hb (bt_ (hx i (i+1))),.inr ⟨i,y,rfl,hy,by rw [hd,List.find?_cons_of_pos hqy]⟩⟩
      | false =>
        rw [hqy] at hb
        obtain ⟨n,e,c⟩:=ih (i+1) (by omega)
        refine ⟨n,bo_ hb e,?_⟩
        rw [hd,List.find?_cons_of_neg (by rw [hqy]; decide)]
        exact c
  obtain ⟨n,e,c⟩:=gen l.length 0 (by omega)
  have e:af_ body (-1,(0,()))=some (n,()):=e
  rw [e,a0_]
  exact hk n c
theorem loop_stl {r:ad_} (h:SmR r) (ok:OkR r) {σ ρ:Type} (F:Nat→List Int→σ) (G E:List Int→ρ) {body:σ→Option (σ⊕ρ)}
    (hb:∀ (i:Nat) th,i<101→VT r th→body (F i th)=some (match fstA r th with
      | none=>.inr (G th)
      | some y=>.inl (F (i+1) (th.set y.2.1.toNat y.2.2))))
    (he:∀ th,body (F 101 th)=some (.inr (E th))) :
    ∀ (n i:Nat) (th:List Int),i+n=101→VT r th→∃ z,af_ body (F i th)=some z∧match stl r n th with
      | some th'=>z=G th'∧VT r th'
      | none=>∃ w,z=E w
  | 0,i,th,hi,hv=>by
    obtain rfl:i=101:=by omega
    exact ⟨_,bt_ (he th),th,rfl⟩
  | n+1,i,th,hi,hv=>by
    have hb1:=hb i th (by omega) hv
    unfold stl
    cases hf:fstA r th with
    | none =>
      rw [hf] at hb1
      exact ⟨_,bt_ hb1,rfl,hv⟩
    | some y =>
      rw [hf] at hb1
      have hm:y ∈ r.2.2.2.2.2.1:=List.mem_of_find?_eq_some hf
      obtain ⟨j,hj⟩:=f9_ hm
      obtain ⟨z,ez,hz⟩:=loop_stl h ok F G E hb he n (i+1) (th.set y.2.1.toNat y.2.2) (by omega) (VT_set h ok hv (ok.au j y hj).1)
      exact ⟨z,bo_ hb1 ez,hz⟩
theorem su_ {r:ad_} (h:SmR r) (ok:OkR r) {s:ai_} (hv:VT r s.1) (m1:Sm s.1.length) (m2:Sm s.2.1.length) (m3:Sm s.2.2.length) :
    gd_ r s=some ((stl r 101 s.1).elim (eS,(false,())) fun th=>((th,s.2),(true,()))):=by
  unfold gd_
  simp only [av_ m1,av_ m2,av_ m3,a0_]
  obtain ⟨z,ez,hz⟩:=loop_stl h ok (F:=fun i th=>((i:Int),(th,((([]:List Int),(([]:List Int),(([]:List Int),()))),())))) (G:=fun th=>(Sum.inr ((th,(s.2.1,s.2.2)),(true,())):((List Int)×(((List Int)×((List Int)×((List Int)×Unit)))×Unit))⊕(ai_×(Bool×Unit)))) (E:=fun th=>Sum.inl (th,(([],([],([],()))),())))
    (body:=(fun (v3:(Int×((List Int)×(((List Int)×((List Int)×((List Int)×Unit)))×Unit)))) =>
 (cond (decide (v3.1≤100))
 ((af_ (ρ:=(Int×Unit)) (fun (v4:(Int×(Int×Unit))) =>
 (((cond (decide (v4.2.1<(r.2.2.2.2.2.1.length:Int)))
 (some ((decide (v4.1<0)),()))
 (some (false,())))).bind fun v5 =>
 (cond v5.1
 ((((at? r.2.2.2.2.2.1 v4.2.1).bind fun v6 =>
 ((((bk_ (v3.2.1,(s.2.1,s.2.2)) v6.1).bind fun v7 =>
 (cond v7.1
 ((at? v3.2.1 v6.2.1).bind fun v8 =>
 ((at? v3.2.1 v6.2.1).bind fun v9 =>
 (some ((v9 != v6.2.2),()))))
 (some (false,()))))).bind fun v10 =>
 (cond v10.1
 (some (v4.2.1,()))
 (some (v4.1,())))))).bind fun v11 =>
 (some (Sum.inl (v11.1,((w64 (v4.2.1+1)),())))))
 (some (Sum.inr (v4.1,())))))) ((-1),(0,()))).bind fun v12 =>
 (cond (decide (v12.1<0))
 (some (Sum.inr (Sum.inr ((v3.2.1,(s.2.1,s.2.2)),(true,())))))
 ((at? r.2.2.2.2.2.1 v12.1).bind fun v13 =>
 ((at? r.2.2.2.2.2.1 v12.1).bind fun v14 =>
 ((at? v3.2.1 v13.2.1).bind fun v15 =>
 ((at? v3.2.1 v13.2.1).bind fun v16 =>
 (some (Sum.inl ((w64 (v3.1+1)),((v3.2.1.set v13.2.1.toNat v14.2.2),((v3.2.2.1.1,(v3.2.2.1.2.1,(v3.2.2.1.2.2.1,()))),())))))))))))
 (some (Sum.inr (Sum.inl (v3.2.1,((v3.2.2.1.1,(v3.2.2.1.2.1,(v3.2.2.1.2.2.1,()))),())))))))) (fun i th hi hvt=>by
      simp only [show decide ((i:Int)≤100)=true from b2_ (by omega),a4_]
      have hl:=hvt.1
      refine bind_first r.2.2.2.2.2.1 h.au (fun y=>(gi th y.2.1 != y.2.2)&&dh_ th y.1) (fun j y hy => ?_) ?_ (fun a b => ?_) (fun n hc => ?_)
      · obtain ⟨g1,g2⟩:=ok.au j y hy
        have hi:=(md_ h ok g1).1
        obtain ⟨c1,c2⟩:=tf_ h.th g2
        simp only [dlt (am_ hy),a4_,show decide ((-1:Int)<0)=true from rfl,a0_,ah_ hy,iu_ (s:=(th,(s.2.1,s.2.2))) (show y.1.length≤1000000000 by omega) (by show InC th.length y.1; rw [hl]; exact c1),oc_ hi.1 (show y.2.1<th.length by omega)]
        cases dh_ th y.1 with
        | false=>rw [f7_]; rfl
        | true=>cases gi th y.2.1 != y.2.2 <;> rfl
      · simp only [dnl,a2_,a0_]
      · simp only [show decide ((a:Int)<0)=false from b7_ (by omega)]
        cases decide ((b:Int)<(r.2.2.2.2.2.1.length:Int)) <;> rfl
      · rcases hc with ⟨rfl,hf⟩ | ⟨j,y,rfl,hy,hf⟩
        · rw [show fstA r th=none from hf]
          rfl
        · rw [show fstA r th=some y from hf]
          obtain ⟨g1,g2⟩:=ok.au j y hy
          have hi2:=(md_ h ok g1).1
          simp only [a0_,show decide ((j:Int)<0)=false from b7_ (by omega),a2_,ah_ hy,oc_ hi2.1 (show y.2.1<th.length by omega),ay_ (show Sm i by show _≤1000000000; omega)])
    (fun th=>rfl) 101 0 s.1 rfl hv
  refine d8_ (congrArg (fun o=>Option.bind o _) ez) ?_
  cases hs:stl r 101 s.1 with
  | none =>
    rw [hs] at hz
    obtain ⟨w,rfl⟩:=hz
    rfl
  | some th' =>
    rw [hs] at hz
    obtain ⟨rfl,_⟩:=hz
    rfl
noncomputable def mwX (a0:ad_) (a2:ag_) (v0 v1 v2:List Int) (v3:Int):Option (List Int×(List Int×(List Int×Unit))) :=
 (cond (a2.2.1==1)
 ((at? a0.2.2.2.1 a2.2.2).bind fun v4 =>
 ((at? a0.2.2.2.1 a2.2.2).bind fun v5 =>
 ((at? v2 a2.1).bind fun v6 =>
 ((at? v2 a2.1).bind fun v7 =>
 (some (v0,(v1,((v2.set a2.1.toNat (w64 ((w64 (v4.1+v5.2.1)) - v3))),()))))))))
 (cond (a2.2.1==2)
 ((at? v1 a2.2.2).bind fun v8 =>
 ((at? v1 a2.2.2).bind fun v9 =>
 (some (v0,((v1.set a2.2.2.toNat (w64 ((-2) - a2.1))),(v2,()))))))
 (cond (a2.2.1==3)
 ((at? v1 a2.2.2).bind fun v10 =>
 ((at? v1 a2.2.2).bind fun v11 =>
 (some (v0,((v1.set a2.2.2.toNat v3),(v2,()))))))
 (cond (a2.2.1==4)
 ((at? a0.2.2.2.2.1 a2.2.2).bind fun v12 =>
 ((af_ (ρ:=((List Int)×Unit)) (fun (v13:(Int×((List Int)×Unit))) =>
 (cond (decide (v13.1<(v12.2.2.2.2.2.2.1.length:Int)))
 ((at? v12.2.2.2.2.2.2.1 v13.1).bind fun v14 =>
 ((at? v13.2.1 v14).bind fun v15 =>
 ((at? v13.2.1 v14).bind fun v16 =>
 (some (Sum.inl ((w64 (v13.1+1)),((v13.2.1.set v14.toNat (-1)),())))))))
 (some (Sum.inr (v13.2.1,()))))) (0,(v1,()))).bind fun v17 =>
 ((af_ (ρ:=((List Int)×Unit)) (fun (v18:(Int×((List Int)×Unit))) =>
 (cond (decide (v18.1<(v12.2.2.2.2.2.2.2.length:Int)))
 ((at? v12.2.2.2.2.2.2.2 v18.1).bind fun v19 =>
 ((at? v18.2.1 v19).bind fun v20 =>
 ((at? v18.2.1 v19).bind fun v21 =>
 (some (Sum.inl ((w64 (v18.1+1)),((v18.2.1.set v19.toNat (w64 ((-2) - a2.1))),())))))))
 (some (Sum.inr (v18.2.1,()))))) (0,(v17.1,()))).bind fun v22 =>
 ((af_ (ρ:=((List Int)×Unit)) (fun (v23:(Int×((List Int)×Unit))) =>
 (cond (decide (v23.1<(v12.2.2.2.2.2.1.length:Int)))
 ((at? v12.2.2.2.2.2.1 v23.1).bind fun v24 =>
 ((at? v12.2.2.2.2.2.1 v23.1).bind fun v25 =>
 ((at? v23.2.1 v24.1).bind fun v26 =>
 ((at? v23.2.1 v24.1).bind fun v27 =>
 (some (Sum.inl ((w64 (v23.1+1)),((v23.2.1.set v24.1.toNat v25.2),()))))))))
 (some (Sum.inr (v23.2.1,()))))) (0,(v0,()))).bind fun v28 =>
 (some (v28.1,(v22.1,(v2,()))))))))
 (some (v0,(v1,(v2,()))))))))
theorem dup {α β:Type} (o:Option α) (f:α→α→Option β):(o.bind fun a=>o.bind fun b=>f a b)=o.bind fun a=>f a a:=by cases o <;> rfl
theorem mwX_eq {r:ad_} {m:ag_} {th pr py:List Int} {x:Int} (hx:at? py m.1=some x) {z} (h:mvX r m th pr py=some z):mwX r m th pr py x=some z:=by
  unfold mvX at h
  unfold mwX
  cases hk1:m.2.1==1 with
  | true =>
    rw [hk1] at h
    simp only [a4_,hx,a0_] at h ⊢
    cases hw:at? r.2.2.2.1 m.2.2 with
    | none=>rw [hw] at h; cases h
    | some w=>rw [hw] at h; exact h
  | false =>
  rw [hk1] at h
  simp only [a2_] at h ⊢
  cases hk2:m.2.1==2 with
  | true=>rw [hk2] at h; exact h
  | false =>
  rw [hk2] at h
  simp only [a2_] at h ⊢
  cases hk3:m.2.1==3 with
  | true =>
    rw [hk3] at h
    simp only [a4_,hx,a0_] at h ⊢
    exact h
  | false =>
  rw [hk3] at h
  simp only [a2_,dup] at h ⊢
  exact h
theorem sv_ {r:ad_} (h:SmR r) (ok:OkR r) {s:ai_} (hv:VS r s) {m:ag_} (hl:lgl r s m=true) :
    ge_ r s m=some ((xh_ r s m).elim (eS,(false,())) fun t=>(t,(true,()))):=by
  obtain ⟨m1,m2,m3⟩:=pi_ h ok hv
  obtain ⟨pj,px,hpj,hp,e2⟩:=lgl_pl m3 hl
  have hv2:=VS_mv h ok hv hl
  obtain ⟨n1,n2,n3⟩:=pi_ h ok hv2
  unfold ge_
  simp only [av_ m1,av_ m2,av_ m3,a0_]
  refine d8_ (congrArg (fun o=>Option.bind o _) e2) ?_
  rw [a0_]
  refine d8_ (congrArg (fun o=>Option.bind o _) (mwX_eq e2 (mvX_eq h ok hv hl))) ?_
  rw [a0_]
  simp only
  rw [su_ (s:=((mvP r s m).1,((mvP r s m).2.1,(mvP r s m).2.2))) h ok ⟨hv2.l1,hv2.th⟩ n1 n2 n3,a0_]
  unfold xh_
  cases stl r 101 (mvP r s m).1 <;> rfl
theorem ref02_Settle {r:ad_} (h:SmR r) (h0:cv_ r=0) {s:ai_} (hv:VS r s) :
    hv_ r s=some ((stl r 101 s.1).elim (eS,(27,())) fun th=>((th,s.2),(0,()))):=by
  have ok:=bl_ h0
  obtain ⟨m1,m2,m3⟩:=pi_ h ok hv
  unfold hv_
  rw [tm_ h,a0_,gu_ h0 hv]
  simp only [show ((0:Int) != 0)=false from rfl,a2_]
  rw [su_ h ok ⟨hv.l1,hv.th⟩ m1 m2 m3,a0_]
  cases stl r 101 s.1 <;> rfl
def beg0 (r:ad_):ai_:=(r.2.1.map (·.2.2.2),(r.2.2.1.map (·.2.1),List.replicate r.2.2.2.2.2.2.1.toNat 0))
theorem beg0_VS {r:ad_} (h:SmR r) (h0:cv_ r=0):VS r (beg0 r):=by
  have ok:=bl_ h0
  have hpy:=cc_.1 ok.py
  have hth:=h.th
  refine ⟨c9_ _,c9_ _,?_,fun i n hn => ?_,fun i p hp => ?_,fun i p hp => ?_⟩
  · show ((List.replicate _ (0:Int)).length:Int)=_
    rw [f1_]
    omega
  · have hn:(r.2.1.map (·.2.2.2))[i]?=some n:=hn
    rw [d7_] at hn
    obtain ⟨x,hx,rfl⟩:=f4_.1 hn
    have hk:=ok.th i x hx
    unfold thOk at hk
    simp only [a1_] at hk
    have hi:=am_ hx
    unfold nb_
    rw [ah_ hx,a1_]
    exact ⟨cc_.2 (by rw [fv_ (by omega) (by omega)]; omega),hk.2.2.2⟩
  · have hp:(r.2.2.1.map (·.2.1))[i]?=some p:=hp
    rw [d7_] at hp
    obtain ⟨x,hx,rfl⟩:=f4_.1 hp
    have hk:=(ok.pr i x hx).1
    unfold prOk at hk
    simp only [a1_,c5_] at hk
    rw [inR_eq h ok.py,c5_,c5_]
    rcases hk.2 with hk | hk
    · exact .inl hk
    · exact .inr (.inl hk)
  · have hp:(List.replicate r.2.2.2.2.2.2.1.toNat (0:Int))[i]?=some p:=hp
    rw [i1_] at hp
    split at hp
    · obtain rfl:=a6_ hp
      have hpl:=h.pl
      have hne:r.1.length≠0:=fun e=>ok.ne (o9_.1 e)
      unfold qv_
      exact cc_.2 (by rw [fv_ (by omega) (by omega)]; omega)
    · cases hp
def begS (r:ad_):Option ai_:=(stl r 101 (beg0 r).1).map fun th=>(th,(beg0 r).2)
theorem begS_VS {r:ad_} (h:SmR r) (h0:cv_ r=0) {t:ai_} (ht:begS r=some t):VS r t:=by
  have ok:=bl_ h0
  have hv:=beg0_VS h h0
  unfold begS at ht
  obtain ⟨th,hs,rfl⟩:=f4_.1 ht
  obtain ⟨z,ez,hz⟩:=nc_ h ok (pr:=(beg0 r).2.1) (py:=(beg0 r).2.2) 101 0 (beg0 r).1 rfl ⟨hv.l1,hv.th⟩
  rw [hs] at hz
  exact ⟨hz.2.1,hv.l2,hv.l3,hz.2.2,hv.pr,hv.py⟩
def begR (r:ad_):ai_×(Int×Unit):=cond (cv_ r != 0) (eS,(cv_ r,())) ((begS r).elim (eS,(27,())) fun s=>(s,(0,())))
theorem room_BeginX {r:ad_} (h:SmR r):ib_ r=some (begR r):=by
  rw [rbegX_eq]
  unfold rbegX begR
  rw [rq_ h,a0_]
  cases hr:cv_ r != 0 with
  | true=>rfl
  | false =>
  have h0:cv_ r=0:=by simpa using hr
  have ok:=bl_ h0
  have hpy:=cc_.1 ok.py
  have hv:=beg0_VS h h0
  obtain ⟨m1,m2,m3⟩:=pi_ h ok hv
  simp only [a2_]
  have hplayers:mk? (α:=Int) r.2.2.2.2.2.2.1 0=some (List.replicate r.2.2.2.2.2.2.1.toNat 0):=sz_ (by omega) (by omega)
  rw [hplayers,a0_,thg_loop h,a0_,prp_loop h,a0_]
  simp only
  refine d8_ (congrArg (fun o=>Option.bind o _) (av_ m1)) ?_
  rw [a0_]
  refine d8_ (congrArg (fun o=>Option.bind o _) (av_ m2)) ?_
  rw [a0_]
  refine d8_ (congrArg (fun o=>Option.bind o _) (av_ m3)) ?_
  rw [a0_]
  obtain ⟨z,ez,hz⟩:=nc_ h ok (pr:=(beg0 r).2.1) (py:=(beg0 r).2.2) 101 0 (beg0 r).1 rfl ⟨hv.l1,hv.th⟩
  refine d8_ (congrArg (fun o=>Option.bind (Option.bind o _) _) ez) ?_
  unfold begS
  cases hs:stl r 101 (beg0 r).1 with
  | none =>
    rw [hs] at hz
    obtain ⟨w,rfl⟩:=hz
    rfl
  | some th' =>
    rw [hs] at hz
    obtain ⟨rfl,_⟩:=hz
    rfl
theorem ref02_BeginX {r:ad_} (h:SmR r):jb_ r=some (begR r):=by
  unfold jb_ begR
  rw [pu_ h,a0_]
  cases hr:cv_ r != 0 with
  | true=>rfl
  | false =>
  have h0:cv_ r=0:=by simpa using hr
  have ok:=bl_ h0
  have hpy:=cc_.1 ok.py
  have hv:=beg0_VS h h0
  simp only [a2_]
  have hplayers:mk? (α:=Int) r.2.2.2.2.2.2.1 0=some (List.replicate r.2.2.2.2.2.2.1.toNat 0):=sz_ (by omega) (by omega)
  rw [hplayers,a0_]
  refine d8_ (congrArg (fun o=>Option.bind o _) (thg_loop h)) ?_
  rw [a0_]
  refine d8_ (congrArg (fun o=>Option.bind o _) (prp_loop h)) ?_
  rw [a0_]
  refine d8_ (congrArg (fun o=>Option.bind o _) (ref02_Settle h h0 hv)) ?_
  unfold begS
  show ((some ((stl r 101 (beg0 r).1).elim (eS,(27,())) fun th=>((th,(beg0 r).2),((0:Int),())))).bind fun v10=>some (v10.1,(v10.2.1,())))=_
  cases stl r 101 (beg0 r).1 <;> rfl
end
section
set_option maxRecDepth 10000
theorem lg_ {σ ρ υ:Type} (n:Nat) (Inv:Nat→σ→Prop) {body:σ→Option (σ⊕ρ)} {z0:σ} {K:ρ→Option υ} {x:Option υ} (h0:Inv 0 z0)
    (hs:∀ j z,j<n→Inv j z→∃ z',body z=some (.inl z')∧Inv (j+1) z') (he:∀ z,Inv n z→∃ r,body z=some (.inr r)∧K r=x):(af_ body z0).bind K=x:=by
  have gen:∀ (k i:Nat) (z:σ),i+k=n→Inv i z→∃ r,af_ body z=some r∧K r=x:=by
    intro k
    induction k with
    | zero =>
      intro i z hi hz
      obtain rfl:i=n:=by omega
      obtain ⟨r,e,hr⟩:=he z hz
      exact ⟨r,bt_ e,hr⟩
    | succ k ih =>
      intro i z hi hz
      obtain ⟨z',e,hz'⟩:=hs i z (by omega) hz
      obtain ⟨r,er,hr⟩:=ih (i+1) z' (by omega) hz'
      exact ⟨r,bo_ e er,hr⟩
  obtain ⟨r,e,hr⟩:=gen n 0 z0 (by omega) h0
  rw [e,a0_]
  exact hr
theorem vh_ {s:ai_} (m1:Sm s.1.length) (m2:Sm s.2.1.length) (m3:Sm s.2.2.length):fk_ s=some (s,()):=by
  unfold fk_
  simp only [av_ m1,av_ m2,av_ m3,a0_]
theorem contains_take {l:List Int} {j:Nat} {x p:Int} (hx:l[j]?=some x):(l.take (j+1)).contains p=((l.take j).contains p||x==p):=by
  rw [d2_,hx]
  have:(x==p)=(p==x):=j7_.2 (by rw [f5_,f5_]; exact eq_comm)
  rw [this,List.contains_eq_any_beq,List.contains_eq_any_beq,List.any_append]
  simp
theorem xz_ {g:ac_} (hg:SmG g) (ok:OkG g) {p:aa_} (hv:VP g p):ic_ g p=some ((p.1,rdN g p.1 p.2),()):=by
  have h0:=ok.room
  have okr:=bl_ h0
  obtain ⟨m1,m2,m3⟩:=pi_ hg.room okr hv.st
  have hn:=hg.nt
  have hd:=hv.rd
  have hrl:=rt_ (s:=p.1) hd
  have hl1:=hv.st.l1
  unfold ic_
  rw [vh_ m1 m2 m3,a0_,av_ (show Sm p.2.length by show _≤1000000000; omega),a0_]
  refine lg_ g.2.2.2.1.length (fun (i:Nat) (z:Int×(List Bool×Unit))=>∃ d',z=((i:Int),(d',()))∧∀ j,d'[j]?=if j<i then (rdN g p.1 p.2)[j]? else p.2[j]?) ⟨p.2,rfl,fun j=>by simp⟩ (fun i z hi hz => ?_) (fun z hz => ?_)
  · obtain ⟨d',rfl,hd'⟩:=hz
    obtain ⟨x,hx⟩:=bb_ (l:=g.2.2.2.1) (i:=i) hi
    obtain ⟨y,hy⟩:=bb_ (l:=p.2) (i:=i) (by omega)
    have hy':d'[i]?=some y:=by rw [hd' i,if_neg (by omega)]; exact hy
    have hr:=rdN_get (s:=p.1) hx hy
    obtain ⟨c1,c2⟩:=tf_ hg.room.th (ok.nt i x hx).2
    have hH:bk_ p.1 x.2.2.2.1=some (dh_ p.1.1 x.2.2.2.1,()):=iu_ (show x.2.2.2.1.length≤1000000000 by omega) (by show InC p.1.1.length x.2.2.2.1; rw [hl1]; exact c1)
    simp only [dlt (am_ hx),a4_,ah_ hx,a0_]
    refine ⟨?z',?_,?_⟩
    case z'=>exact (((i+1:Nat):Int),(cond (dh_ p.1.1 x.2.2.2.1&&p.1.2.2.contains x.2.1) (d'.set i true) d',()))
    · refine lg_ p.1.2.2.length (fun (j:Nat) (z:Int×(List Bool×Unit))=>z=((j:Int),(cond (dh_ p.1.1 x.2.2.2.1&&(p.1.2.2.take j).contains x.2.1) (d'.set i true) d',()))) ?_ (fun j z hj hz => ?_) (fun z hz => ?_)
      · rw [i5_]
        show _=((0:Int),(cond (dh_ p.1.1 x.2.2.2.1&&false) (d'.set i true) d',()))
        rw [f7_]
        rfl
      · subst hz
        obtain ⟨a,ha⟩:=bb_ hj
        refine ⟨_,?_,rfl⟩
        simp only [dlt hj,a4_,ah_ ha,a0_,ay_ (show Sm j by unfold Sm at m3 ⊢; omega),contains_take ha]
        cases hq:a==x.2.1 with
        | false=>simp only [a2_,a0_,g0_]
        | true =>
          simp only [a4_,hH,a0_,n6_,h4_]
          cases hb:dh_ p.1.1 x.2.2.2.1 with
          | false=>simp only [a2_,a0_,e0_]
          | true =>
            simp only [a4_,a0_,c0_]
            cases hc:(p.1.2.2.take j).contains x.2.1 with
            | false=>simp only [a2_,ah_ hy',a0_,c1_]
            | true =>
              have:(d'.set i true)[i]?=some true:=by rw [e7_ (am_ hy')]
              simp only [a4_,ah_ this,a0_,c1_,List.set_set]
      · subst hz
        refine ⟨_,by simp only [dnl,a2_]; rfl,?_⟩
        simp only [d1_,ay_ (show Sm i by show i≤1000000000; omega)]
    · refine ⟨_,rfl,fun k => ?_⟩
      unfold rdB at hr
      cases hb:(dh_ p.1.1 x.2.2.2.1&&p.1.2.2.contains x.2.1) with
      | false =>
        rw [hb,g0_] at hr
        rw [a2_,hd' k]
        by_cases hk:k=i
        · subst hk
          rw [if_neg (by omega),if_pos (by omega),hr,hy]
        · by_cases hk2:k<i
          · rw [if_pos hk2,if_pos (by omega)]
          · rw [if_neg hk2,if_neg (by omega)]
      | true =>
        rw [hb,n6_] at hr
        rw [a4_,h8_]
        by_cases hk:i=k
        · subst hk
          rw [if_pos rfl,if_pos (am_ hy'),if_pos (by omega),hr]
        · rw [if_neg hk,hd' k]
          by_cases hk2:k<i
          · rw [if_pos hk2,if_pos (by omega)]
          · rw [if_neg hk2,if_neg (by omega)]
  · obtain ⟨d',rfl,hd'⟩:=hz
    simp only [dnl,a2_]
    refine ⟨_,rfl,?_⟩
    have:d'=rdN g p.1 p.2:=f0_ fun k=>by
      rw [hd' k]
      split
      · rfl
      · rw [b1_ (by omega),b1_ (by omega)]
    simp only [this]
theorem ref04_Next {g:ac_} (hg:SmG g) (h0:cg_ g=0) {p q:aa_} (hv:VP g p) {m:ag_} (hq:stepP g p m=some q):ku_ g p m=some (q,()):=by
  have ok:=cw_ h0
  have okr:=bl_ ok.room
  unfold stepP at hq
  cases hc:(okM g p.2 m&&lgl g.1 p.1 m) with
  | false=>rw [hc] at hq; cases hq
  | true =>
  rw [hc,a4_] at hq
  obtain ⟨s,hs,rfl⟩:=f4_.1 hq
  rw [a1_] at hc
  unfold ku_
  rw [sv_ hg.room okr hv.st hc.2,a0_,hs]
  simp only [Option.elim]
  rw [xz_ hg ok (p:=(s,p.2)) ⟨tz_ hg.room ok.room hv.st hc.2 hs,hv.rd⟩]
  rfl
noncomputable def ti_ (g:ac_):aa_×(Int×Unit):=cond (cg_ g != 0) (eP,(cg_ g,())) (cond ((begR g.1).2.1 != 0) (eP,((begR g.1).2.1,())) (((begR g.1).1,rdN g (begR g.1).1 (List.replicate g.2.2.2.1.length false)),(0,())))
theorem begR_VS {r:ad_} (h:SmR r) (he:(begR r).2.1=0):VS r (begR r).1:=by
  unfold begR at he ⊢
  cases hr:cv_ r != 0 with
  | true =>
    rw [hr] at he
    rw [o3_] at hr
    exact absurd he hr
  | false =>
  have h0:cv_ r=0:=by simpa using hr
  rw [hr,a2_] at he
  cases hb:begS r with
  | none =>
    rw [hb] at he
    exact absurd (show (27:Int)=0 from he) (by decide)
  | some t=>exact begS_VS h h0 hb
theorem begP_VP {g:ac_} (hg:SmG g) (he:(ti_ g).2.1=0):cg_ g=0∧VP g (ti_ g).1:=by
  unfold ti_ at he ⊢
  cases hr:cg_ g != 0 with
  | true =>
    rw [hr] at he
    rw [o3_] at hr
    exact absurd he hr
  | false =>
  rw [hr,a2_] at he
  have h0:cg_ g=0:=by simpa using hr
  cases hb:(begR g.1).2.1 != 0 with
  | true =>
    rw [hb] at he
    rw [o3_] at hb
    exact absurd he hb
  | false =>
  have hb:(begR g.1).2.1=0:=by simpa using hb
  exact ⟨h0,begR_VS hg.room hb,rt_ f1_⟩
theorem mk_nt {g:ac_} (hg:SmG g):mk? (α:=Bool) (g.2.2.2.1.length:Int) false=some (List.replicate g.2.2.2.1.length false):=by
  have:=hg.nt
  rw [sz_ (by omega) (by omega),c1_]
theorem ref04_BeginX {g:ac_} (hg:SmG g):iz_ g=some (ti_ g):=by
  unfold iz_ ti_
  rw [vg_ hg,a0_]
  cases hr:cg_ g != 0 with
  | true=>rfl
  | false =>
  have h0:cg_ g=0:=by simpa using hr
  have ok:=cw_ h0
  simp only [a2_]
  rw [ref02_BeginX hg.room,a0_]
  cases hb:(begR g.1).2.1 != 0 with
  | true=>rfl
  | false =>
  have hb:(begR g.1).2.1=0:=by simpa using hb
  simp only [a2_]
  rw [mk_nt hg,a0_,xz_ hg ok (p:=((begR g.1).1,List.replicate g.2.2.2.1.length false)) ⟨begR_VS hg.room hb,f1_⟩]
  rfl
theorem play_BeginX {g:ac_} (hg:SmG g):lb_ g=some (ti_ g):=by
  rw [pbegX_eq]
  unfold pbegX ti_
  rw [yc_ hg,a0_]
  cases hr:cg_ g != 0 with
  | true=>rfl
  | false =>
  have h0:cg_ g=0:=by simpa using hr
  have ok:=cw_ h0
  have hn:=hg.nt
  simp only [a2_]
  rw [room_BeginX hg.room,a0_]
  cases hb:(begR g.1).2.1 != 0 with
  | true=>rfl
  | false =>
  have hb:(begR g.1).2.1=0:=by simpa using hb
  have hv:=begR_VS hg.room hb
  obtain ⟨m1,m2,m3⟩:=pi_ hg.room (bl_ ok.room) hv
  simp only [a2_]
  rw [mk_nt hg,a0_]
  obtain ⟨z,ez,hz⟩:=vm_ hg ok hv (d:=List.replicate g.2.2.2.1.length false) f1_ []
  have hrl:=rt_ (g:=g) (s:=(begR g.1).1) (d:=List.replicate g.2.2.2.1.length false) f1_
  rw [ez,a0_,av_ m1,a0_,av_ m2,a0_,av_ m3,a0_,hz,av_ (show Sm (rdN g _ _).length by show _≤1000000000; omega),a0_]
def cluI (g:ac_) (q:List Nat):List ak_:=q.filterMap fun e=>(g.2.2.2.1[e]?).map (·.2.2.2.2)
theorem ref04_clues {g:ac_} (hg:SmG g) {p:aa_} (hd:p.2.length=g.2.2.2.1.length) (lock:Int) :
    ∃ q:List Nat,hb_ g p lock=some (q.map (fun e:Nat=>(e:Int)),())∧q.length≤20∧(∀ e ∈ q,e<g.2.2.2.1.length)∧cluI g q=cluN g p.2 lock:=by
  have hn:=hg.nt
  suffices hk:∃ r,hb_ g p lock=some r∧∃ q:List Nat,r=(q.map (fun e:Nat=>(e:Int)),())∧q.length≤20∧(∀ e ∈ q,e<g.2.2.2.1.length)∧cluI g q=cluN g p.2 lock by
    obtain ⟨r,e,q,rfl,h⟩:=hk
    exact ⟨q,e,h⟩
  unfold hb_
  have key:∀ (k i:Nat) (q:List Nat),i+k=g.2.2.2.1.length→q.length≤i→(∀ e ∈ q,e<g.2.2.2.1.length)→cluI g q=((g.2.2.2.1.zip p.2).take i).filterMap (fun x=>cond (x.1.2.2.1==lock&&x.2) (some x.1.2.2.2.2) none) →
      ∃ q':List Nat,af_ (ρ:=((List Int)×Unit)) (fun (v0:((List Int)×(Int×Unit))) =>
 (cond (decide (v0.2.1<(g.2.2.2.1.length:Int)))
 ((((((at? p.2 v0.2.1).bind fun v1 =>
 (cond v1
 ((at? g.2.2.2.1 v0.2.1).bind fun v2 =>
 (some ((v2.2.2.1==lock),())))
 (some (false,()))))).bind fun v3 =>
 (cond v3.1
 ((push? (α:=Int) v0.1 [v0.2.1]).bind fun v4 =>
 (some (v4,())))
 (some (v0.1,()))))).bind fun v5 =>
 (some (Sum.inl (v5.1,((w64 (v0.2.1+1)),())))))
 (some (Sum.inr (v0.1,()))))) (q.map (fun e:Nat=>(e:Int)),((i:Int),()))=some (q'.map (fun e:Nat=>(e:Int)),())∧q'.length≤20∧(∀ e ∈ q',e<g.2.2.2.1.length)∧cluI g q'=cluN g p.2 lock:=by
    intro k
    induction k with
    | zero =>
      intro i q hi hq hb hc
      obtain rfl:i=g.2.2.2.1.length:=by omega
      refine ⟨q,bt_ (by simp only [dnl,a2_]),by omega,hb,?_⟩
      rw [hc,g3_ (by rw [m8_]; omega)]
      rfl
    | succ k ih =>
      intro i q hi hq hb hc
      obtain ⟨x,hx⟩:=bb_ (l:=g.2.2.2.1) (i:=i) (by omega)
      obtain ⟨y,hy⟩:=bb_ (l:=p.2) (i:=i) (by omega)
      have hzip:(g.2.2.2.1.zip p.2)[i]?=some (x,y):=by rw [h2_]; exact ⟨hx,hy⟩
      have hstep:((g.2.2.2.1.zip p.2).take (i+1)).filterMap (fun x=>cond (x.1.2.2.1==lock&&x.2) (some x.1.2.2.2.2) none)=((g.2.2.2.1.zip p.2).take i).filterMap (fun x=>cond (x.1.2.2.1==lock&&x.2) (some x.1.2.2.2.2) none)++cond (x.2.2.1==lock&&y) [x.2.2.2.2] []:=by
        rw [d2_,hzip,n5_]
        cases hc:(x.2.2.1==lock&&y) with
        | false=>simp [hc]
        | true=>simp [hc]
      cases hcc:(x.2.2.1==lock&&y) with
      | false =>
        obtain ⟨q',e,r1⟩:=ih (i+1) q (by omega) (by omega) hb (by rw [hstep,hcc,a2_,e6_]; exact hc)
        refine ⟨q',bo_ ?_ e,r1⟩
        simp only [dlt (am_ hx),a4_,ah_ hx,ah_ hy,a0_,ay_ (show Sm i by show i≤1000000000; omega)]
        cases y with
        | false=>rfl
        | true =>
          rw [h4_] at hcc
          simp only [a4_,hcc,a0_,a2_]
      | true =>
        have hcc2:=hcc
        rw [a1_] at hcc2
        obtain ⟨h1,rfl⟩:=hcc2
        obtain ⟨q',e,r1⟩:=ih (i+1) (q++[i]) (by omega) (by rw [a8_,d4_]; omega) (fun e he=>by
          rcases b8_.1 he with he | he
          · exact hb e he
          · rw [e2_] at he
            omega) (by
          rw [hstep,hcc,a4_,← hc]
          unfold cluI
          rw [n5_]
          simp [hx])
        refine ⟨q',bo_ ?_ e,r1⟩
        simp only [dlt (am_ hx),a4_,ah_ hx,ah_ hy,a0_,ay_ (show Sm i by show i≤1000000000; omega),h1,cd_ (show Sm (q.map (fun e:Nat=>(e:Int))).length by rw [c9_]; show _≤1000000000; omega),i6_,m7_,List.map_nil]
  obtain ⟨q',e,r1⟩:=key g.2.2.2.1.length 0 [] (by omega) (l5_ _) (fun e he=>by cases he) rfl
  refine ⟨_,?_,q',rfl,r1⟩
  refine d8_ (congrArg (fun o=>Option.bind o _) e) rfl
theorem ref04_clued {g:ac_} {q:List Nat} (hq:q.length≤20) (hb:∀ e ∈ q,e<g.2.2.2.1.length):ix_ g (q.map (fun e:Nat=>(e:Int)))=some (cluI g q,()):=by
  unfold ix_
  refine lg_ q.length (fun (i:Nat) (z:List ak_×(Int×Unit))=>z=(cluI g (q.take i),((i:Int),()))) (by rw [i5_]; rfl) (fun i z hi hz => ?_) (fun z hz => ?_)
  · subst hz
    obtain ⟨e,he⟩:=bb_ hi
    obtain ⟨n,hn⟩:=bb_ (hb e (ax_ he))
    have hm:(q.map (fun e:Nat=>(e:Int)))[i]?=some (e:Int):=by rw [d7_,he]; rfl
    have hl:(cluI g (q.take i)).length≤20:=by
      unfold cluI
      refine c3_ (o6_ ..) ?_
      rw [c7_]; omega
    refine ⟨_,?_,rfl⟩
    simp only [c9_,dlt hi,a4_,ah_ hm,ah_ hn,a0_,cd_ (show Sm _ from c3_ hl (by omega)),ay_ (show Sm i by show i≤1000000000; omega)]
    rw [d2_,he]
    unfold cluI
    rw [n5_]
    simp [hn]
  · subst hz
    refine ⟨_,by simp only [c9_,dnl,a2_]; rfl,?_⟩
    simp only [d1_]
theorem ref04_open {g:ac_} (hg:SmG g) (ok:OkG g) {p:aa_} (hd:p.2.length=g.2.2.2.1.length) {lock:Int} (h0:0≤lock) {l:ab_} (hl:at? g.2.1 lock=some l):kt_ g p lock=some (opn g p.2 lock,()):=by
  obtain ⟨_,_,l1⟩:=cy_ hl
  obtain ⟨q,e,hq,hb,hc⟩:=ref04_clues hg hd lock
  unfold kt_
  rw [e,a0_]
  unfold il_
  rw [hl,a0_,ref04_clued hq hb,a0_,hc,ref01_Count' (ok.lk _ l l1).1 (cluN_len hg p.2 lock) (fun c hc=>by
    obtain ⟨i,n,hn,rfl,rfl⟩:=cluN_mem hc
    exact nt_clue ok hn h0 hl) (fun c hc=>by
    obtain ⟨i,n,hn,rfl,rfl⟩:=cluN_mem hc
    exact c3_ (hg.ntn n (ax_ hn)).2.2 (by omega))]
  unfold opn rdC
  rw [b7_ (by omega),hl]
  rfl
theorem xl_ {g:ac_} (hg:SmG g) (h0:cg_ g=0) {p:aa_} (hv:VP g p) {m:ag_} (hl:lgl g.1 p.1 m=true):gh_ g p m=some ((stepP g p m).isSome,()):=by
  have ok:=cw_ h0
  have okr:=bl_ ok.room
  have hac:=hg.ac
  unfold gh_ stepP okM
  rw [sv_ hg.room okr hv.st hl,a0_,hl,h4_]
  cases hs:xh_ g.1 p.1 m with
  | none =>
    rw [Option.map_none]
    simp only [Option.elim,g7_,a4_]
    generalize (cond (m.2.1==4) _ true:Bool)=b
    cases b <;> rfl
  | some s =>
  simp only [Option.elim,e5_,a2_,g2_]
  rw [bne_beq']
  cases hk:m.2.1==4 with
  | false=>rfl
  | true =>
  simp only [e5_,a2_,a4_]
  unfold lgl at hl
  rw [a1_] at hl
  have hl:=hl.2
  have hk':m.2.1=4:=f5_.1 hk
  rw [hk'] at hl
  simp only [show ((4:Int)==1)=false from rfl,show ((4:Int)==2)=false from rfl,show ((4:Int)==3)=false from rfl,show ((4:Int)==4)=true from rfl,a2_,a4_] at hl
  rcases co_ (l:=g.1.2.2.2.2.1) (by show _≤1000000000; omega) m.2.2 with ⟨f1,f2⟩ | ⟨j,a,hj,ha,f1,f2⟩
  · rw [f2] at hl; cases hl
  · rw [f2]
    simp only [a0_]
    cases hz:decide (a.2.2.1<0) with
    | true =>
      unfold opn
      rw [hz]
      rfl
    | false =>
    have hz':=d6_ hz
    have hlt:=ok.ac j a ha
    obtain ⟨l,hl⟩:=bb_ (l:=g.2.1) (i:=a.2.2.1.toNat) (by omega)
    have hl2:at? g.2.1 a.2.2.1=some l:=by rw [show a.2.2.1=((a.2.2.1.toNat:Nat):Int) by omega]; exact ah_ hl
    simp only [a2_]
    rw [ref04_open hg ok hv.rd (by omega) hl2,a0_]
    cases opn g p.2 a.2.2.1 <;> rfl
theorem mvK_mem {q:ag_→Bool} {i k:Int} {m:ag_}:∀ (n:Nat) (l:List ag_),m ∈ mvK q i k n l→m ∈ l∨q m=true
  | 0,l,h=>.inl h
  | n+1,l,h=>by
    unfold mvK at h
    cases hq:q (i,(k,(n:Int))) with
    | false=>rw [hq] at h; exact mvK_mem n l h
    | true =>
      rw [hq,a4_] at h
      rcases b8_.1 h with h | h
      · exact mvK_mem n l h
      · rw [e2_] at h
        exact .inr (by rw [h]; exact hq)
theorem mvJ_mem {q:ag_→Bool} {i:Int} {c:Nat→Nat} {m:ag_}:∀ (k:Nat) (l:List ag_),m ∈ mvJ q i c k l→m ∈ l∨q m=true
  | 0,l,h=>.inl h
  | k+1,l,h=>(mvK_mem (c k) _ h).elim (fun h=>mvJ_mem k l h) .inr
theorem mvs_mem {q:ag_→Bool} {c:Nat→Nat} {m:ag_}:∀ n,m ∈ mvs q c n→q m=true
  | 0,h=>by cases h
  | n+1,h=>(mvJ_mem 5 _ h).elim (fun h=>mvs_mem n h) id
theorem lmv_mem {r:ad_} {s:ai_} {m:ag_} (h:m ∈ lmv r s):lgl r s m=true:=mvs_mem _ h
theorem lmv_len {r:ad_} (ok:OkR r) (s:ai_):(lmv r s).length≤480:=by
  have hpy:=cc_.1 ok.py
  have:=zz_ (lgl r s) (fun k=>c3_ (cnt_le ok k) (cnt24_le k)) r.2.2.2.2.2.2.1.toNat
  unfold lmv
  omega
noncomputable def pmv (g:ac_) (p:aa_):List ag_:=(lmv g.1 p.1).filter fun m=>(stepP g p m).isSome
theorem wj_ {α:Type} {l:List α} {i:Nat} {x:α} (q:α→Bool) (hx:l[i]?=some x):(l.take (i+1)).filter q=cond (q x) ((l.take i).filter q++[x]) ((l.take i).filter q):=by
  rw [d2_,hx,l4_]
  cases hq:q x with
  | true=>simp [hq]
  | false=>simp [hq]
theorem ref04_Moves {g:ac_} (hg:SmG g) (h0:cg_ g=0) {p:aa_} (hv:VP g p):iy_ g p=some (pmv g p,()):=by
  have ok:=cw_ h0
  have okr:=bl_ ok.room
  have hll:=lmv_len okr p.1
  unfold iy_
  rw [tl_ hg.room okr hv.st,a0_]
  refine lg_ (lmv g.1 p.1).length (fun (i:Nat) (z:List ag_×(Int×Unit))=>z=(((lmv g.1 p.1).take i).filter (fun m=>(stepP g p m).isSome),((i:Int),()))) (by rw [i5_]; rfl) (fun i z hi hz => ?_) (fun z hz => ?_)
  · subst hz
    obtain ⟨m,hm⟩:=bb_ hi
    have hfl:(((lmv g.1 p.1).take i).filter (fun m=>(stepP g p m).isSome)).length≤480:=by
      refine c3_ (i7_ ..) ?_
      rw [c7_]; omega
    refine ⟨_,?_,rfl⟩
    simp only [dlt hi,a4_,ah_ hm,a0_,xl_ hg h0 hv (lmv_mem (ax_ hm)),wj_ _ hm,ay_ (show Sm i by show i≤1000000000; omega)]
    cases (stepP g p m).isSome with
    | false=>rfl
    | true=>simp only [a4_,cd_ (show Sm _ from c3_ hfl (by omega)),a0_]
  · subst hz
    refine ⟨_,by simp only [dnl,a2_]; rfl,?_⟩
    simp only [d1_]
    rfl
end
section
set_option maxRecDepth 10000
theorem mget_mset {K V:Type} [DecidableEq K] (m:List (K×V)) (k k':K) (v:V):mget? (ju_ m k v) k'=if k'=k then some v else mget? m k':=by
  induction m with
  | nil=>simp [ju_,mget?]
  | cons x m ih =>
    obtain ⟨a,u⟩:=x
    unfold ju_
    by_cases h:k=a
    · subst h
      rw [if_pos rfl]
      unfold mget?
      by_cases h2:k'=k
      · rw [if_pos h2,if_pos h2]
      · rw [if_neg h2,if_neg h2,if_neg h2]
    · rw [if_neg h]
      unfold mget?
      by_cases h2:k'=a
      · rw [if_pos h2,if_pos h2,if_neg (fun e=>h (by rw [← e,h2]))]
      · rw [if_neg h2,if_neg h2,ih]
theorem jk_ {K V:Type} [DecidableEq K] (z:V) (m:List (K×V)) (k k':K) (v:V):fh_ z (ju_ m k v) k'=if k'=k then v else fh_ z m k':=by
  unfold fh_
  rw [mget_mset]
  split <;> rfl
noncomputable def cmpX (a0:ac_) (d:List Bool) (mm:List ab_) (lock:Int):Option (List ab_×Unit) :=
 (cond ((fh_ 0 mm lock)==0)
 ((af_ (abB a0 d lock) ([],([],(0,())))).bind fun v18 =>
 ((at? a0.2.1 lock).bind fun v19 =>
 ((cx_ v19 v18.2.1).bind fun v20 =>
 (((cond (v20.2.1==0)
 (some ((decide (v20.1≤a0.2.2.2.2)),()))
 (some (false,())))).bind fun v21 =>
 (cond v21.1
 (some ((ju_ (ju_ mm lock 2) lock 1),()))
 (some ((ju_ mm lock 2),())))))))
 (some (mm,())))
noncomputable def canX (a0:ac_) (a1:aa_) (v2:List Bool) (mm:List ab_) (v5:ag_):Option (Bool×(List ab_×Unit)) :=
 (((push? (α:=Bool) [] v2).bind fun v6 =>
 (((((cond (v5.2.1==4)
 ((bw_ v5.2.2 0 (w64 ((a0.1.2.2.2.2.1.length:Int) - 1))).bind fun v7 =>
 (some (v7.1,())))
 (some (false,())))).bind fun v8 =>
 (cond v8.1
 ((at? a0.1.2.2.2.2.1 v5.2.2).bind fun v9 =>
 (((cond (decide (v9.2.2.1<0))
 (some (mm,()))
 ((cmpX a0 v2 mm v9.2.2.1).bind fun v22 =>
 (some (v22.1,()))))).bind fun v23 =>
 (some (v23.1,((ju_ [] v9.2.2.1 (fh_ 0 v23.1 v9.2.2.1)),())))))
 (some (mm,([],())))))).bind fun v24 =>
 (((((cond (v5.2.1==4)
 ((bw_ v5.2.2 0 (w64 ((a0.1.2.2.2.2.1.length:Int) - 1))).bind fun v25 =>
 (cond v25.1
 ((at? a0.1.2.2.2.2.1 v5.2.2).bind fun v26 =>
 (cond (decide (v26.2.2.1<0))
 (some ((!true),(v24.2.1,())))
 ((cmpX a0 v6 v24.2.1 v26.2.2.1).bind fun v39 =>
 (some ((!((fh_ 0 v39.1 v26.2.2.1)==1)),(v39.1,()))))))
 (some (false,(v24.2.1,())))))
 (some (false,(v24.2.1,()))))).bind fun v40 =>
 (cond v40.1
 (some ((!false),(v6,(v40.2.1,((a1.1.1,(a1.1.2.1,(a1.1.2.2,()))),())))))
 ((ex_ a0.1 a1.1 v5).bind fun v41 =>
 (cond (v41.2.1 != 0)
 (some ((!false),(v6,(v40.2.1,((a1.1.1,(a1.1.2.1,(a1.1.2.2,()))),())))))
 ((af_ (pbgB a0 v41.1) (0,(v6,(v40.2.1,())))).bind fun v52 =>
 (some ((!true),(v52.1,(v52.2.1,((v41.1.1,(v41.1.2.1,(v41.1.2.2,()))),()))))))))))).bind fun v53 =>
 (cond v53.1
 (some (false,(v24.1,())))
 (some (true,(v24.1,()))))))))
noncomputable def canL (a0:ac_) (a1:aa_):Option (List ag_×(Int×Unit)) :=
 ((dz_ a0 a1).bind fun v0 =>
 (cond (v0.1 != 0)
 (cond (v0.1 != 0)
 (some ([],(v0.1,())))
 ((ey_ a0.1 a1.1).bind fun v1 =>
 (cond (v1.2.1 != 0)
 (some ([],(v1.2.1,())))
 none)))
 ((push? (α:=Bool) [] a1.2).bind fun v2 =>
 ((ey_ a0.1 a1.1).bind fun v3 =>
 (cond (v3.2.1 != 0)
 (some ([],(v3.2.1,())))
 ((af_ (ρ:=((List ag_)×((List ab_)×Unit))) (fun (v4:((List ag_)×(Int×((List ab_)×Unit)))) =>
 (cond (decide (v4.2.1<(v3.1.length:Int)))
 ((((at? v3.1 v4.2.1).bind fun v5 =>
 ((canX a0 a1 v2 v4.2.2.1 v5).bind fun v54 =>
 (cond v54.1
 ((push? (α:=ag_) v4.1 [v5]).bind fun v55 =>
 (some (v55,(v54.2.1,()))))
 (some (v4.1,(v54.2.1,()))))))).bind fun v56 =>
 (some (Sum.inl (v56.1,((w64 (v4.2.1+1)),(v56.2.1,()))))))
 (some (Sum.inr (v4.1,(v4.2.2.1,())))))) ([],(0,([],())))).bind fun v57 =>
 (some (v57.1,(0,())))))))))
theorem canL_eq:pb_=canL:=by
  kernel_rfl
def Mem (g:ac_) (d:List Bool) (mm:List ab_):Prop:=∀ lock,0≤lock→(fh_ 0 mm lock=(0:Int)∨fh_ 0 mm lock=cond (opn g d lock) 1 2)
theorem cmpX_eq {g:ac_} (hg:SmG g) (ok:OkG g) {d:List Bool} (hd:d.length=g.2.2.2.1.length) {mm:List ab_} {lock:Int} (hz:0≤lock) {l:ab_} (hl:at? g.2.1 lock=some l)
    (hm:fh_ 0 mm lock=(0:Int)∨fh_ 0 mm lock=cond (opn g d lock) 1 2) :
    ∃ m',cmpX g d mm lock=some (m',())∧fh_ 0 m' lock=cond (opn g d lock) 1 2∧∀ k,k≠lock→fh_ 0 m' k=fh_ 0 mm k:=by
  unfold cmpX
  cases h0:(fh_ 0 mm lock:Int)==0 with
  | false =>
    have h0:fh_ 0 mm lock≠(0:Int):=by simpa using h0
    exact ⟨mm,rfl,hm.resolve_left h0,fun _ _=>rfl⟩
  | true =>
    obtain ⟨q,e⟩:=ab_loop hg hd lock
    have ho:opn g d lock=decide (rdC g d lock l≤g.2.2.2.2):=by
      unfold opn
      rw [b7_ (by omega),hl]
      rfl
    rw [a4_,e]
    simp only [a0_,hl,count_clu hg ok d hz hl]
    simp only [show ((0:Int)==0)=true from rfl,a4_,a0_]
    rw [ho]
    cases decide (rdC g d lock l≤g.2.2.2.2) with
    | true=>exact ⟨_,rfl,by rw [jk_,if_pos rfl]; rfl,fun k hk=>by rw [jk_,if_neg hk,jk_,if_neg hk]⟩
    | false=>exact ⟨_,rfl,by rw [jk_,if_pos rfl]; rfl,fun k hk=>by rw [jk_,if_neg hk]⟩
theorem canX_eq {g:ac_} (hg:SmG g) (h0:cg_ g=0) {p:aa_} (hv:VP g p) {m:ag_} (hl:lgl g.1 p.1 m=true) {mm:List ab_} (hM:Mem g p.2 mm) :
    ∃ m',canX g p p.2 mm m=some ((stepP g p m).isSome,(m',()))∧Mem g p.2 m':=by
  have ok:=cw_ h0
  have okr:=bl_ ok.room
  have hac:=hg.ac
  have hnt:=hg.nt
  have hrd:=hv.rd
  have fin:∀ (b:Bool) (u:List ab_) (m':List ab_),okM g p.2 m = !b →
      (((((some (b,(u,())):Option (Bool×(List ab_×Unit)))).bind fun v40 =>
 (cond v40.1
 (some ((!false),(p.2,(v40.2.1,((p.1.1,(p.1.2.1,(p.1.2.2,()))),())))))
 ((ex_ g.1 p.1 m).bind fun v41 =>
 (cond (v41.2.1 != 0)
 (some ((!false),(p.2,(v40.2.1,((p.1.1,(p.1.2.1,(p.1.2.2,()))),())))))
 ((af_ (pbgB g v41.1) (0,(p.2,(v40.2.1,())))).bind fun v52 =>
 (some ((!true),(v52.1,(v52.2.1,((v41.1.1,(v41.1.2.1,(v41.1.2.2,()))),()))))))))))).bind fun v53 =>
 (cond v53.1
 (some (false,(m',())))
 (some (true,(m',())))))=some ((stepP g p m).isSome,(m',())):=by
    intro b u m' hb
    unfold stepP
    rw [hb,hl,h4_,a0_]
    cases b with
    | true=>rfl
    | false =>
    simp only [a2_,g7_,a4_]
    rw [room_Step hg.room ok.room hv.st m,a0_,hl,a4_]
    cases hs:xh_ g.1 p.1 m with
    | none=>rfl
    | some s =>
    have hv2:=tz_ hg.room ok.room hv.st hl hs
    obtain ⟨z,ez,hz⟩:=vm_ hg ok hv2 hv.rd u
    simp only [Option.elim,show ((0:Int) != 0)=false from rfl,a2_]
    rw [ez,a0_,a0_]
    rfl
  unfold canX
  rw [av_ (show Sm p.2.length by show _≤1000000000; omega),a0_]
  simp only [jr_]
  cases hk:m.2.1==4 with
  | false =>
    refine ⟨mm,?_,hM⟩
    simp only [a2_,a0_]
    refine fin false [] mm ?_
    unfold okM
    rw [hk]
    rfl
  | true =>
  simp only [a4_,a0_]
  have hl':=hl
  unfold lgl at hl'
  rw [a1_] at hl'
  have hl':=hl'.2
  have hk':m.2.1=4:=f5_.1 hk
  rw [hk'] at hl'
  simp only [show ((4:Int)==1)=false from rfl,show ((4:Int)==2)=false from rfl,show ((4:Int)==3)=false from rfl,show ((4:Int)==4)=true from rfl,a2_,a4_] at hl'
  rcases co_ (l:=g.1.2.2.2.2.1) (by show _≤1000000000; omega) m.2.2 with ⟨f1,f2⟩ | ⟨j,a,hj,ha,f1,f2⟩
  · rw [f2] at hl'; cases hl'
  · have ho:okM g p.2 m=opn g p.2 a.2.2.1:=by
      unfold okM
      rw [hk,a4_,f2]
      rfl
    simp only [f1,f2,a4_,a0_]
    cases hz:decide (a.2.2.1<0) with
    | true =>
      refine ⟨mm,?_,hM⟩
      simp only [a4_,a0_]
      refine fin (!true) _ mm ?_
      rw [ho]
      unfold opn
      rw [hz]
      rfl
    | false =>
      have hz':=d6_ hz
      have hlt:=ok.ac j a ha
      obtain ⟨l,hlk⟩:=bb_ (l:=g.2.1) (i:=a.2.2.1.toNat) (by omega)
      have hl2:at? g.2.1 a.2.2.1=some l:=by rw [show a.2.2.1=((a.2.2.1.toNat:Nat):Int) by omega]; exact ah_ hlk
      obtain ⟨m1,e1,k1,r1⟩:=cmpX_eq hg ok hv.rd (mm:=mm) (by omega) hl2 (hM _ (by omega))
      obtain ⟨m2,e2,k2,r2⟩:=cmpX_eq hg ok hv.rd (mm:=ju_ [] a.2.2.1 (fh_ 0 m1 a.2.2.1)) (by omega) hl2 (.inr (by rw [jk_,if_pos rfl,k1]))
      refine ⟨m1,?_,fun lock hlock => ?_⟩
      · simp only [a2_,e1,a0_,e2]
        refine fin _ m2 m1 ?_
        rw [ho,k2]
        cases opn g p.2 a.2.2.1 <;> rfl
      · by_cases hE:lock=a.2.2.1
        · rw [hE]
          exact .inr k1
        · rw [r1 lock hE]
          exact hM lock hlock
theorem play_Can {g:ac_} (hg:SmG g) (h0:cg_ g=0) {p:aa_} (hv:VP g p):pb_ g p=some (pmv g p,(0,())):=by
  have ok:=cw_ h0
  have okr:=bl_ ok.room
  have hll:=lmv_len okr p.1
  have hnt:=hg.nt
  have hrd:=hv.rd
  rw [canL_eq]
  unfold canL
  rw [vl_ hg h0 hv,a0_]
  simp only [show ((0:Int) != 0)=false from rfl,a2_]
  rw [av_ (show Sm p.2.length by show _≤1000000000; omega),a0_,room_Legal hg.room ok.room hv.st,a0_]
  simp only [show ((0:Int) != 0)=false from rfl,a2_]
  refine lg_ (lmv g.1 p.1).length (fun (i:Nat) (z:List ag_×(Int×(List ab_×Unit)))=>∃ mm,z=(((lmv g.1 p.1).take i).filter (fun m=>(stepP g p m).isSome),((i:Int),(mm,())))∧Mem g p.2 mm) ⟨[],by rw [i5_]; rfl,fun lock _=>.inl rfl⟩ (fun i z hi hz => ?_) (fun z hz => ?_)
  · obtain ⟨mm,rfl,hM⟩:=hz
    obtain ⟨m,hm⟩:=bb_ hi
    have hfl:(((lmv g.1 p.1).take i).filter (fun m=>(stepP g p m).isSome)).length≤480:=by
      refine c3_ (i7_ ..) ?_
      rw [c7_]; omega
    obtain ⟨m',e,hM'⟩:=canX_eq hg h0 hv (lmv_mem (ax_ hm)) hM
    refine ⟨_,?_,m',rfl,hM'⟩
    simp only [dlt hi,a4_,ah_ hm,a0_,e,wj_ _ hm,ay_ (show Sm i by show i≤1000000000; omega)]
    cases (stepP g p m).isSome with
    | false=>rfl
    | true=>simp only [a4_,cd_ (show Sm _ from c3_ hfl (by omega)),a0_]
  · obtain ⟨mm,rfl,hM⟩:=hz
    refine ⟨_,by simp only [dnl,a2_]; rfl,?_⟩
    simp only [d1_]
    rfl
end
section
set_option maxRecDepth 10000
theorem te_ {a b:List UInt8} (h:a.length+b.length≤2147483648):cat? a b=some (a++b):=by
  unfold cat?
  rw [h5_ h]
  rfl
def dval (l:List UInt8):Nat:=l.foldl (fun a c=>a * 10+(c.toNat - 48)) 0
theorem dgt {n:Nat} (h:n<10):(UInt8.ofNat (48+n)).toNat=48+n:=by
  rw [UInt8.toNat_ofNat']
  exact j8_ (by omega)
theorem ww_:∀ (k u:Nat),u<10 ^ k→dval (Lib.decDigits u)=u∧(∀ c ∈ Lib.decDigits u,48≤c.toNat∧c.toNat≤57)∧(Lib.decDigits u).length≤k+1
  | 0,u,h=>by
    obtain rfl:u=0:=by simpa using h
    rw [Lib.decDigits]
    exact ⟨rfl,fun c hc=>by
      simp at hc
      rw [hc]
      exact ⟨by decide,by decide⟩,by decide⟩
  | k+1,u,h=>by
    rw [Lib.decDigits]
    by_cases hu:u<10
    · rw [dif_pos hu]
      refine ⟨?_,fun c hc => ?_,by simp⟩
      · show 0 * 10+((UInt8.ofNat (48+u)).toNat - 48)=u
        rw [dgt hu]; omega
      · rw [e2_] at hc
        rw [hc,dgt hu]; omega
    · rw [dif_neg hu]
      rw [j4_] at h
      obtain ⟨a,b,c⟩:=ww_ k (u / 10) (by omega)
      have hm:u % 10<10:=Nat.mod_lt _ (by decide)
      refine ⟨?_,fun x hx => ?_,by rw [a8_,d4_]; omega⟩
      · unfold dval at a ⊢
        rw [n3_,a]
        show u / 10 * 10+((UInt8.ofNat (48+u % 10)).toNat - 48)=u
        rw [dgt hm]; omega
      · rcases b8_.1 hx with hx | hx
        · exact b x hx
        · rw [e2_] at hx
          rw [hx,dgt hm]; omega
theorem vk_ (u:Nat):u<10 ^ u:=Nat.lt_pow_self (by decide)
theorem sg_ {u v:Nat} (h:Lib.decDigits u=Lib.decDigits v):u=v:=by
  rw [← (ww_ u u (vk_ u)).1,← (ww_ v v (vk_ v)).1,h]
theorem wx_ {u:Nat}:∀ c ∈ Lib.decDigits u,48≤c.toNat∧c.toNat≤57:=(ww_ u u (vk_ u)).2.1
theorem itoa_inj {a b:Int} (h:Lib.itoa a=Lib.itoa b):a=b:=by
  unfold Lib.itoa at h
  have hd:∀ {u:Nat} {l:List UInt8},Lib.decDigits u≠45::l:=fun {u l} e=>by
    have:=wx_ (u:=u) 45 (by rw [e]; exact f2_ ..)
    have h45:(45:UInt8).toNat=45:=rfl
    omega
  by_cases ha:a<0
  · by_cases hb:b<0
    · rw [if_pos ha,if_pos hb] at h
      have:=sg_ (n9_ h).2
      omega
    · rw [if_pos ha,if_neg hb] at h
      exact absurd h.symm hd
  · by_cases hb:b<0
    · rw [if_neg ha,if_pos hb] at h
      exact absurd h hd
    · rw [if_neg ha,if_neg hb] at h
      have:=sg_ h
      omega
theorem itoa_sp (a:Int):(32:UInt8) ∉ Lib.itoa a:=by
  have hd:∀ {u:Nat},(32:UInt8) ∉ Lib.decDigits u:=fun {u} e=>by
    have:=wx_ _ e
    have h32:(32:UInt8).toNat=32:=rfl
    omega
  unfold Lib.itoa
  split
  · intro h
    rcases e3_.1 h with h | h
    · exact absurd h (by decide)
    · exact hd h
  · exact hd
def gk_ (a:List (List UInt8)):List UInt8:=a.flatMap (· ++ [32])
theorem sp_split:∀ {t u r s:List UInt8},(32:UInt8) ∉ t→(32:UInt8) ∉ u→t++32::r=u++32::s→t=u∧r=s
  | [],[],r,s,_,_,h=>⟨rfl,(n9_ h).2⟩
  | [],c::u,r,s,_,hu,h=>absurd (n9_ h).1 fun e=>hu (by rw [e]; exact f2_ ..)
  | c::t,[],r,s,ht,_,h=>absurd (n9_ h).1 fun e=>ht (by rw [e]; exact f2_ ..)
  | c::t,d::u,r,s,ht,hu,h=>by
    obtain ⟨h1,h2⟩:=n9_ h
    obtain ⟨h3,h4⟩:=sp_split (fun e=>ht (e9_ _ e)) (fun e=>hu (e9_ _ e)) h2
    exact ⟨by rw [h1,h3],h4⟩
theorem yx_:∀ {a b:List (List UInt8)},(∀ t ∈ a,(32:UInt8) ∉ t)→(∀ t ∈ b,(32:UInt8) ∉ t)→gk_ a=gk_ b→a=b
  | [],[],_,_,_=>rfl
  | [],t::b,_,_,h=>by
    have:=congrArg List.length h
    simp [gk_] at this
  | t::a,[],_,_,h=>by
    have:=congrArg List.length h
    simp [gk_] at this
  | t::a,u::b,ha,hb,h=>by
    have h:t++32::gk_ a=u++32::gk_ b:=by
      have:∀ (t:List UInt8) (a:List (List UInt8)),gk_ (t::a)=t++32::gk_ a:=fun t a=>by simp [gk_]
      rw [this,this] at h
      exact h
    obtain ⟨h1,h2⟩:=sp_split (ha t (f2_ ..)) (hb u (f2_ ..)) h
    rw [h1,yx_ (fun t h=>ha t (e9_ _ h)) (fun t h=>hb t (e9_ _ h)) h2]
theorem kn_ (a b:List (List UInt8)):gk_ (a++b)=gk_ a++gk_ b:=p5_
theorem ok_ {a:List (List UInt8)} {k:Nat} (h:∀ t ∈ a,t.length≤k):(gk_ a).length≤a.length * (k+1):=by
  induction a with
  | nil=>exact l5_ _
  | cons t a ih =>
    have h1:=ih fun t ht=>h t (e9_ _ ht)
    have h2:=h t (f2_ ..)
    have h3:gk_ (t::a)=t++32::gk_ a:=by simp [gk_]
    rw [h3,a8_,c6_,c6_,Nat.succ_mul]
    omega
theorem fi_ {α β:Type} {f:α→β}:∀ {a b:List α},(∀ x ∈ a,∀ y ∈ b,f x=f y→x=y)→a.map f=b.map f→a=b
  | [],[],_,_=>rfl
  | [],_::_,_,h=>by cases h
  | _::_,[],_,h=>by cases h
  | x::a,y::b,hi,h=>by
    obtain ⟨h1,h2⟩:=n9_ (show f x::a.map f=f y::b.map f from h)
    rw [hi x (f2_ ..) y (f2_ ..) h1,fi_ (fun x hx y hy=>hi x (e9_ _ hx) y (e9_ _ hy)) h2]
structure PB (p:aa_):Prop where
  n1:p.1.1.length≤12
  n2:p.1.2.1.length≤10
  n3:p.1.2.2.length≤4
  n4:p.2.length≤20
  b1:∀ x ∈ p.1.1,0≤x∧x≤5
  b2:∀ x ∈ p.1.2.1,-6<x∧x<8
  b3:∀ x ∈ p.1.2.2,0≤x∧x<8
theorem VP_PB {g:ac_} (hg:SmG g) (ok:OkG g) {p:aa_} (hv:VP g p):PB p:=by
  have okr:=bl_ ok.room
  have hm:=okr.many
  unfold manyR at hm
  simp only [c2_,o8_] at hm
  have hpy:=cc_.1 okr.py
  have h1:=hv.st.l1
  have h2:=hv.st.l2
  have h3:=hv.st.l3
  have h4:=hv.rd
  have h5:=hg.nt
  refine ⟨by omega,by omega,by omega,by omega,fun x hx => ?_,fun x hx => ?_,fun x hx => ?_⟩
  · obtain ⟨i,hi⟩:=f9_ hx
    exact (md_ hg.room okr (hv.st.th i x hi)).2
  · obtain ⟨i,hi⟩:=f9_ hx
    have:=(inR_iff hg.room okr).1 (hv.st.pr i x hi)
    omega
  · obtain ⟨i,hi⟩:=f9_ hx
    have:=(kq_ hg.room).1 (hv.st.py i x hi)
    omega
def bt (b:Bool):List UInt8:=cond b [116,114,117,101] [102,97,108,115,101]
def ptk (p:aa_):List (List UInt8):=(p.1.1.map Lib.itoa++(p.1.2.1.map Lib.itoa++p.1.2.2.map Lib.itoa))++p.2.map bt
theorem vt_ (l:List Int):numL l=gk_ (l.map Lib.itoa):=by
  unfold numL gk_
  rw [List.flatMap_map]
  rfl
theorem nu_ {u:Nat} (h:u<10000000000):(Lib.decDigits u).length≤11:=(ww_ 10 u h).2.2
theorem itoa_len8 {x:Int} (h1 : -8≤x) (h2:x≤8):(Lib.itoa x).length≤21:=by
  unfold Lib.itoa
  split
  · have:=nu_ (u:=x.natAbs) (by omega)
    rw [c6_]; omega
  · have:=nu_ (u:=x.toNat) (by omega)
    omega
theorem prove_read {p:aa_} (h:p.2.length≤20):kx_ p=some (gk_ (p.2.map bt),()):=by
  unfold kx_
  have hb:∀ b,(bt b).length≤5:=fun b=>by cases b <;> decide
  refine lg_ p.2.length (fun (i:Nat) (z:List UInt8×(Int×Unit))=>z=(gk_ ((p.2.take i).map bt),((i:Int),()))) (by rw [i5_]; rfl) (fun i z hi hz => ?_) (fun z hz => ?_)
  · subst hz
    obtain ⟨b,hx⟩:=bb_ hi
    have hl:(gk_ ((p.2.take i).map bt)).length≤20 * 6:=by
      refine c3_ (ok_ (k:=5) fun t ht => ?_) ?_
      · obtain ⟨b,_,rfl⟩:=d9_.1 ht
        exact hb b
      · rw [c9_,c7_]
        omega
    have hf:ds_ b=some (bt b,()):=by cases b <;> rfl
    have hb5:=hb b
    refine ⟨_,?_,rfl⟩
    simp only [dlt hi,a4_,ah_ hx,a0_,hf,ay_ (show Sm i by show i≤1000000000; omega)]
    rw [te_ (show (bt b).length+1≤_ by omega),a0_,te_ (by rw [a8_,d4_]; omega),a0_,d2_,hx]
    simp [gk_]
  · subst hz
    refine ⟨_,by simp only [dnl,a2_]; rfl,?_⟩
    simp only [d1_]
theorem we_ {l:List Int} (h:∀ x ∈ l,-8≤x∧x≤8):l.all inI=true:=by
  rw [e8_]
  intro x hx
  have:=h x hx
  unfold inI
  rw [a1_,g4_,g4_]
  omega
theorem prove_key {p:aa_} (h:PB p):jz_ p=some (gk_ (ptk p),()):=by
  have hB1:∀ x ∈ p.1.1,-8≤x∧x≤8:=fun x hx=>by have:=h.b1 x hx; omega
  have hB2:∀ x ∈ p.1.2.1,-8≤x∧x≤8:=fun x hx=>by have:=h.b2 x hx; omega
  have hB3:∀ x ∈ p.1.2.2,-8≤x∧x≤8:=fun x hx=>by have:=h.b3 x hx; omega
  have hE:gy_ [p.1.1,p.1.2.1,p.1.2.2]=gk_ (p.1.1.map Lib.itoa++(p.1.2.1.map Lib.itoa++p.1.2.2.map Lib.itoa)):=by
    rw [kn_,kn_,← vt_,← vt_,← vt_]
    simp [gy_]
  have hlen:∀ {l:List Int} {k:Nat},l.length≤k→(∀ x ∈ l,-8≤x∧x≤8)→(gk_ (l.map Lib.itoa)).length≤k * 22:=fun {l k} hk hb=>by
    refine c3_ (ok_ (k:=21) fun t ht => ?_) ?_
    · obtain ⟨x,hx,rfl⟩:=d9_.1 ht
      exact itoa_len8 (hb x hx).1 (hb x hx).2
    · rw [c9_]
      exact i3_ _ hk
  have hl:(gy_ [p.1.1,p.1.2.1,p.1.2.2]).length≤1000:=by
    rw [hE,kn_,kn_,a8_,a8_]
    have h1:=hlen h.n1 hB1
    have h2:=hlen h.n2 hB2
    have h3:=hlen h.n3 hB3
    omega
  have hr:(gk_ (p.2.map bt)).length≤20 * 6:=by
    refine c3_ (ok_ (k:=5) fun t ht => ?_) ?_
    · obtain ⟨b,_,rfl⟩:=d9_.1 ht
      cases b <;> decide
    · rw [c9_]
      have:=h.n4
      omega
  have hn:fc_ [p.1.1,p.1.2.1,p.1.2.2]=some (gy_ [p.1.1,p.1.2.1,p.1.2.2],()):=by
    unfold fc_
    have h1:([p.1.1,p.1.2.1,p.1.2.2].all fun l=>l.all inI)=true:=by
      simp [we_ hB1,we_ hB2,we_ hB3]
    rw [h1,h5_ (show _≤2147483648 by omega)]
    rfl
  unfold jz_
  rw [hn,a0_,prove_read h.n4,a0_,te_ (by show (gy_ _).length+(gk_ (p.2.map bt)).length≤_; omega),a0_]
  unfold ptk
  rw [kn_,← hE]
theorem bt_inj {a b:Bool} (h:bt a=bt b):a=b:=by
  cases a <;> cases b <;> first | rfl | cases h
theorem ptk_sp (p:aa_):∀ t ∈ ptk p,(32:UInt8) ∉ t:=by
  intro t ht
  unfold ptk at ht
  simp only [b8_,d9_] at ht
  rcases ht with (⟨x,_,rfl⟩ | ⟨x,_,rfl⟩ | ⟨x,_,rfl⟩) | ⟨b,_,rfl⟩
  · exact itoa_sp x
  · exact itoa_sp x
  · exact itoa_sp x
  · cases b <;> decide
def SmL (p q:aa_):Prop:=p.1.1.length=q.1.1.length∧p.1.2.1.length=q.1.2.1.length∧p.1.2.2.length=q.1.2.2.length∧p.2.length=q.2.length
theorem VP_SmL {g:ac_} {p q:aa_} (hp:VP g p) (hq:VP g q):SmL p q:=by
  have h1:=hp.st.l1
  have h2:=hp.st.l2
  have h3:=hp.st.l3
  have h4:=hp.rd
  have k1:=hq.st.l1
  have k2:=hq.st.l2
  have k3:=hq.st.l3
  have k4:=hq.rd
  exact ⟨by omega,by omega,by omega,by omega⟩
theorem sp_ {α:Type} {a b c d:List α} (h:a.length=c.length) (e:a++b=c++d):a=c∧b=d:=List.append_inj e h
theorem pos_ext {p q:aa_} (h1:p.1.1=q.1.1) (h2:p.1.2.1=q.1.2.1) (h3:p.1.2.2=q.1.2.2) (h4:p.2=q.2):p=q :=
  Prod.ext (Prod.ext h1 (Prod.ext h2 h3)) h4
theorem ptk_inj {p q:aa_} (hs:SmL p q) (h:gk_ (ptk p)=gk_ (ptk q)):p=q:=by
  obtain ⟨s1,s2,s3,s4⟩:=hs
  have h:=yx_ (ptk_sp p) (ptk_sp q) h
  unfold ptk at h
  obtain ⟨h,e4⟩:=sp_ (by simp only [a8_,c9_]; omega) h
  obtain ⟨e1,h⟩:=sp_ (by simp only [c9_]; omega) h
  obtain ⟨e2,e3⟩:=sp_ (by simp only [c9_]; omega) h
  exact pos_ext (fi_ (fun _ _ _ _=>itoa_inj) e1) (fi_ (fun _ _ _ _=>itoa_inj) e2) (fi_ (fun _ _ _ _=>itoa_inj) e3) (fi_ (fun _ _ _ _=>bt_inj) e4)
def dec (n:Int):List UInt8:=Lib.decDigits n.toNat
theorem sub_dig:∀ {r:Nat},r<10→sub? ([48,49,50,51,52,53,54,55,56,57]:List UInt8) (r:Int) (w64 ((r:Int)+1))=some [UInt8.ofNat (48+r)]
  | 0,_=>rfl
  | 1,_=>rfl
  | 2,_=>rfl
  | 3,_=>rfl
  | 4,_=>rfl
  | 5,_=>rfl
  | 6,_=>rfl
  | 7,_=>rfl
  | 8,_=>rfl
  | 9,_=>rfl
  | _+10,h=>absurd h (by omega)
theorem DecimalN:∀ (k u:Nat),u≤1000000000→u<10 ^ (k+1)→dk_ (k+1) (u:Int)=some (Lib.decDigits u,())
  | k,u,hu,h=>by
    have hm:u % 10<10:=Nat.mod_lt _ (by decide)
    have e1:Int.tmod (u:Int) 10=((u % 10:Nat):Int):=by rw [Int.tmod_eq_emod_of_nonneg (by omega)]; omega
    have e2:Int.tdiv (u:Int) 10=((u / 10:Nat):Int):=by rw [Int.tdiv_eq_ediv_of_nonneg (by omega)]; omega
    show ((sub? [48,49,50,51,52,53,54,55,56,57] (Int.tmod (u:Int) 10) (w64 ((Int.tmod (u:Int) 10)+1))).bind fun v0 =>
 (cond (decide ((u:Int)<10))
 (some (v0,()))
 ((dk_ k (w64 (Int.tdiv (u:Int) 10))).bind fun v1 =>
 ((cat? v1.1 v0).bind fun v2 =>
 (some (v2,()))))))=_
    rw [e1,sub_dig hm,a0_,e2,fv_ (by omega) (by omega),Lib.decDigits]
    by_cases h10:u<10
    · rw [dif_pos h10,b2_ (show (u:Int)<10 by omega),a4_,j8_ h10]
    · rw [dif_neg h10,b7_ (show ¬ (u:Int)<10 by omega),a2_]
      match k,h with
      | 0,h=>exact absurd h (by simp; omega)
      | k+1,h =>
        rw [j4_] at h
        rw [DecimalN k (u / 10) (by omega) (by omega),a0_]
        have:=nu_ (u:=u / 10) (by omega)
        rw [te_ (by show (Lib.decDigits (u / 10)).length+1≤_; omega),a0_]
theorem yw_ {n:Int} (h0:0≤n) (h1:n≤1000000):bz_ n=some (dec n,()):=by
  obtain ⟨u,rfl⟩:∃ u:Nat,n=(u:Int):=⟨n.toNat,by omega⟩
  unfold bz_ dec
  rw [c1_]
  exact DecimalN 19 u (by omega) (by omega)
theorem keyL (l:List Int) (h:Int→Int) (acc:List UInt8) (hl:l.length≤20) (ha:acc.length≤100000) (hb:∀ x ∈ l,0≤h x∧h x≤100) {body:(List UInt8×(Int×Unit))→Option ((List UInt8×(Int×Unit))⊕(List UInt8×Unit))} {υ:Type} {K:(List UInt8×Unit)→Option υ} {x:Option υ}
    (hs:∀ (i:Nat) y t,l[i]?=some y→body (t,((i:Int),()))=((bz_ (h y)).bind fun v8=>((cat? t v8.1).bind fun v9=>((cat? v9 [32]).bind fun v10=>(some (Sum.inl (v10,((w64 ((i:Int)+1)),()))))))))
    (he:∀ t,body (t,((l.length:Int),()))=some (.inr (t,()))) (hk:K (acc++gk_ (l.map fun x=>dec (h x)),())=x):(af_ body (acc,(0,()))).bind K=x:=by
  refine lg_ l.length (fun (i:Nat) (z:List UInt8×(Int×Unit))=>z=(acc++gk_ ((l.take i).map fun x=>dec (h x)),((i:Int),()))) (by rw [i5_,List.map_nil,show gk_ []=[] from rfl,e6_]; rfl) (fun i z hi hz => ?_) (fun z hz => ?_)
  · subst hz
    obtain ⟨y,hy⟩:=bb_ hi
    have hlen:(gk_ ((l.take i).map fun x=>dec (h x))).length≤20 * 12:=by
      refine c3_ (ok_ (k:=11) fun t ht => ?_) ?_
      · obtain ⟨x,hx,rfl⟩:=d9_.1 ht
        have:=hb x (p4_ hx)
        exact nu_ (by omega)
      · rw [c9_,c7_]
        omega
    have hyb:=hb y (ax_ hy)
    have hd:(dec (h y)).length≤11:=nu_ (by omega)
    refine ⟨_,?_,rfl⟩
    rw [hs i y _ hy,yw_ hyb.1 (by omega),a0_,te_ (by show (acc++gk_ _).length+(dec (h y)).length≤_; rw [a8_]; omega),a0_,te_ (by show ((acc++gk_ _)++dec (h y)).length+1≤_; rw [a8_,a8_]; omega),a0_,ay_ (show Sm i by show i≤1000000000; omega),d2_,hy]
    simp [gk_]
  · subst hz
    refine ⟨_,he _,?_⟩
    rw [d1_]
    exact hk
def idx (d:List Bool):List Nat:=(List.range d.length).filter fun i=>d[i]?==some true
theorem idx_mem {d:List Bool} {i:Nat}:i ∈ idx d↔d[i]?=some true:=by
  unfold idx
  rw [c8_,m1_,f5_]
  exact ⟨fun h=>h.2,fun h=>⟨am_ h,h⟩⟩
theorem idx_inj {d e:List Bool} (hl:d.length=e.length) (h:idx d=idx e):d=e:=by
  refine f0_ fun i => ?_
  rcases k8_ i d.length with hi | hi
  · obtain ⟨x,hx⟩:=bb_ hi
    obtain ⟨y,hy⟩:=bb_ (l:=e) (i:=i) (by omega)
    have hm:i ∈ idx d↔i ∈ idx e:=by rw [h]
    rw [idx_mem,idx_mem,hx,hy] at hm
    rw [hx,hy]
    cases x with
    | true=>rw [hm.1 rfl]
    | false =>
      cases y with
      | true=>exact (hm.2 rfl)
      | false=>rfl
  · rw [b1_ hi,b1_ (by omega)]
def rtk (p:aa_):List (List UInt8):=((p.1.1.map (fun x=>dec x)++p.1.2.1.map (fun x=>dec (w64 (x+10))))++p.1.2.2.map (fun x=>dec x))++(idx p.2).map (fun i:Nat=>dec (i:Int))
theorem ref05_key {p:aa_} (h:PB p):hq_ p=some (gk_ (rtk p),()):=by
  have hlen:∀ {l:List Int} (f:Int→Int),l.length≤20→(∀ x ∈ l,0≤f x∧f x≤100)→(gk_ (l.map fun x=>dec (f x))).length≤20 * 12:=fun {l} f hk hb=>by
    refine c3_ (ok_ (k:=11) fun t ht => ?_) ?_
    · obtain ⟨x,hx,rfl⟩:=d9_.1 ht
      have:=hb x hx
      exact nu_ (by omega)
    · rw [c9_]
      exact i3_ _ hk
  have n1:=h.n1
  have n2:=h.n2
  have n3:=h.n3
  have n4:=h.n4
  have q1:∀ x ∈ p.1.1,0≤x∧x≤100:=fun x hx=>by have:=h.b1 x hx; omega
  have q2:∀ x ∈ p.1.2.1,0≤w64 (x+10)∧w64 (x+10)≤100:=fun x hx=>by have:=h.b2 x hx; rw [fv_ (by omega) (by omega)]; omega
  have q3:∀ x ∈ p.1.2.2,0≤x∧x≤100:=fun x hx=>by have:=h.b3 x hx; omega
  have l1:=hlen (l:=p.1.1) (fun x=>x) (by omega) q1
  have l2:=hlen (l:=p.1.2.1) (fun x=>w64 (x+10)) (by omega) q2
  have l3:=hlen (l:=p.1.2.2) (fun x=>x) (by omega) q3
  unfold hq_
  refine keyL p.1.1 (fun x=>x) [] (by omega) (by simp) q1 (fun i y t hy=>by simp only [dlt (am_ hy),a4_,ah_ hy,a0_]) (fun t=>by simp only [dnl,a2_]) ?_
  refine keyL p.1.2.1 (fun x=>w64 (x+10)) ([]++_) (by omega) (by rw [g6_]; omega) q2 (fun i y t hy=>by simp only [dlt (am_ hy),a4_,ah_ hy,a0_]) (fun t=>by simp only [dnl,a2_]) ?_
  refine keyL p.1.2.2 (fun x=>x) (([]++_)++_) (by omega) (by rw [g6_,a8_]; omega) q3 (fun i y t hy=>by simp only [dlt (am_ hy),a4_,ah_ hy,a0_]) (fun t=>by simp only [dnl,a2_]) ?_
  refine lg_ p.2.length (fun (i:Nat) (z:List UInt8×(Int×Unit))=>z=((([]++gk_ (p.1.1.map fun x=>dec x))++gk_ (p.1.2.1.map fun x=>dec (w64 (x+10))))++gk_ (p.1.2.2.map fun x=>dec x)++gk_ (((List.range i).filter fun i=>p.2[i]?==some true).map fun i:Nat=>dec (i:Int)),((i:Int),()))) (by rw [List.range_zero,List.filter_nil,List.map_nil,show gk_ []=[] from rfl,e6_]; rfl) (fun i z hi hz => ?_) (fun z hz => ?_)
  · subst hz
    obtain ⟨b,hb⟩:=bb_ hi
    have hl4:(gk_ (((List.range i).filter fun i=>p.2[i]?==some true).map fun i:Nat=>dec (i:Int))).length≤20 * 12:=by
      refine c3_ (ok_ (k:=11) fun t ht => ?_) ?_
      · obtain ⟨x,hx,rfl⟩:=d9_.1 ht
        have:=m1_.1 (c8_.1 hx).1
        exact nu_ (by omega)
      · refine i3_ _ ?_
        rw [c9_]
        refine c3_ (i7_ ..) ?_
        rw [g9_]
        omega
    have hd:(dec (i:Int)).length≤11:=nu_ (by omega)
    refine ⟨_,?_,rfl⟩
    simp only [dlt hi,a4_,ah_ hb,a0_,ay_ (show Sm i by show i≤1000000000; omega)]
    rw [List.range_succ,l4_]
    cases b with
    | false=>simp [hb]
    | true =>
      rw [a4_,yw_ (by omega) (by omega),a0_,te_ (by simp only [a8_,j6_]; omega),a0_,te_ (by simp only [a8_,j6_,c6_]; omega)]
      simp [hb,gk_]
  · subst hz
    refine ⟨_,by simp only [dnl,a2_]; rfl,?_⟩
    unfold rtk idx
    rw [kn_,kn_,kn_,g6_]
theorem dec_sp (x:Int):(32:UInt8) ∉ dec x:=fun e=>by
  have:=wx_ _ e
  have h32:(32:UInt8).toNat=32:=rfl
  omega
theorem rtk_sp (p:aa_):∀ t ∈ rtk p,(32:UInt8) ∉ t:=by
  intro t ht
  unfold rtk at ht
  simp only [b8_,d9_] at ht
  rcases ht with ((⟨x,_,rfl⟩ | ⟨x,_,rfl⟩) | ⟨x,_,rfl⟩) | ⟨b,_,rfl⟩
  · exact dec_sp x
  · exact dec_sp _
  · exact dec_sp x
  · exact dec_sp _
theorem rtk_inj {p q:aa_} (hp:PB p) (hq:PB q) (hs:SmL p q) (h:gk_ (rtk p)=gk_ (rtk q)):p=q:=by
  obtain ⟨s1,s2,s3,s4⟩:=hs
  have h:=yx_ (rtk_sp p) (rtk_sp q) h
  unfold rtk at h
  obtain ⟨h,e4⟩:=sp_ (by simp only [a8_,c9_]; omega) h
  obtain ⟨h,e3⟩:=sp_ (by simp only [a8_,c9_]; omega) h
  obtain ⟨e1,e2⟩:=sp_ (by simp only [c9_]; omega) h
  refine pos_ext (fi_ (fun x hx y hy e => ?_) e1) (fi_ (fun x hx y hy e => ?_) e2) (fi_ (fun x hx y hy e => ?_) e3) (idx_inj s4 (fi_ (fun x hx y hy e => ?_) e4))
  · have:=sg_ (show Lib.decDigits x.toNat=Lib.decDigits y.toNat from e)
    have:=hp.b1 x hx
    have:=hq.b1 y hy
    omega
  · have:=sg_ (show Lib.decDigits (w64 (x+10)).toNat=Lib.decDigits (w64 (y+10)).toNat from e)
    have:=hp.b2 x hx
    have:=hq.b2 y hy
    rw [fv_ (by omega) (by omega),fv_ (by omega) (by omega)] at *
    omega
  · have:=sg_ (show Lib.decDigits x.toNat=Lib.decDigits y.toNat from e)
    have:=hp.b3 x hx
    have:=hq.b3 y hy
    omega
  · have:=sg_ (show Lib.decDigits (x:Int).toNat=Lib.decDigits (y:Int).toNat from e)
    omega
end
section
set_option maxRecDepth 10000
def wh (ps:List aa_) (q:aa_):Option Nat:=ps.findIdx? (fun x=>decide (x=q))
theorem wh_some {ps:List aa_} {q:aa_} {n:Nat} (h:wh ps q=some n):ps[n]?=some q:=by
  unfold wh at h
  obtain ⟨hn,h1,_⟩:=List.findIdx?_eq_some_iff_getElem.1 h
  rw [a7_ hn,g8_ h1]
theorem wh_push (ps:List aa_) (q x:aa_):wh (ps++[q]) x=(wh ps x).or (if x=q then some ps.length else none):=by
  unfold wh
  rw [List.findIdx?_append]
  congr 1
  by_cases h:x=q
  · rw [if_pos h]
    simp [h]
  · rw [if_neg h]
    have:¬ q=x:=fun e=>h e.symm
    simp [this]
def MI (g:ac_) (key:aa_→List UInt8) (ps:List aa_) (M:List (List UInt8×Int)):Prop:=∀ q,VP g q→mget? M (key q)=(wh ps q).map fun n=>(n:Int)
theorem MI_push {g:ac_} {key:aa_→List UInt8} (hk:∀ p q,VP g p→VP g q→key p=key q→p=q) {ps:List aa_} {M:List (List UInt8×Int)} (hM:MI g key ps M) {q:aa_} (hq:VP g q) (hw:wh ps q=none) :
    MI g key (ps++[q]) (ju_ M (key q) (ps.length:Int)):=by
  intro x hx
  rw [mget_mset,wh_push]
  by_cases h:x=q
  · subst h
    rw [if_pos rfl,hw,if_pos rfl]
    rfl
  · rw [if_neg (fun e=>h (hk x q hx hq e)),if_neg h,hM x hx,Option.or_none]
noncomputable def inn (g:ac_) (p:aa_):List ag_→List ae_→List aa_→Option (List ae_×List aa_)
  | [],e,ps=>some (e,ps)
  | m::ms,e,ps=>match wh ps ((stepP g p m).getD eP) with
    | some n=>inn g p ms (e++[(m,(n:Int))]) ps
    | none=>if ps.length=3000 then none else inn g p ms (e++[(m,(ps.length:Int))]) (ps++[(stepP g p m).getD eP])
noncomputable def out (g:ac_):Nat→Nat→List aa_→List (List ae_)→Option (List aa_×List (List ae_))
  | 0,i,ps,es=>some (ps,es)
  | n+1,i,ps,es=>match ps[i]? with
    | none=>some (ps,es)
    | some p=>match inn g p (pmv g p) [] ps with
      | none=>none
      | some (e,ps')=>out g n (i+1) ps' (es++[e])
noncomputable def exG (g:ac_):ch_×(Int×Unit) :=
  cond ((ti_ g).2.1 != 0) (([],[]),((ti_ g).2.1,())) (match out g 3001 0 [(ti_ g).1] [] with
    | none=>(([],[]),(2,()))
    | some (ps,es)=>((ps,es),(0,())))
structure PI (g:ac_) (ps:List aa_):Prop where
  n:ps.length≤3000
  v:∀ x ∈ ps,VP g x
theorem PI_push {g:ac_} {ps:List aa_} (h:PI g ps) {q:aa_} (hq:VP g q) (hn:ps.length≠3000):PI g (ps++[q]):=by
  have:=h.n
  refine ⟨by rw [a8_,d4_]; omega,fun x hx => ?_⟩
  rcases b8_.1 hx with hx | hx
  · exact h.v x hx
  · rw [e2_] at hx
    rw [hx]
    exact hq
theorem ou_ {g:ac_} {p:aa_} {m:ag_} (hm:m ∈ pmv g p):∃ q,stepP g p m=some q:=by
  unfold pmv at hm
  exact Option.isSome_iff_exists.1 (c8_.1 hm).2
theorem pmv_len {g:ac_} (ok:OkG g) (p:aa_):(pmv g p).length≤480:=by
  unfold pmv
  exact c3_ (i7_ ..) (lmv_len (bl_ ok.room) p.1)
theorem inn_ok {g:ac_} (hg:SmG g) (h0:cg_ g=0) {p:aa_} (hv:VP g p):∀ (ms:List ag_) (e e':List ae_) (ps ps':List aa_),(∀ m ∈ ms,∃ q,stepP g p m=some q)→PI g ps→inn g p ms e ps=some (e',ps') →
    PI g ps'∧(∃ r,ps'=ps++r)∧((∀ x ∈ e,0≤x.2∧x.2<(ps.length:Int))→∀ x ∈ e',0≤x.2∧x.2<(ps'.length:Int))∧(∀ x ∈ e',x ∈ e∨x.1 ∈ ms)∧e'.length=e.length+ms.length
  | [],e,e',ps,ps',hms,hI,h=>by
    unfold inn at h
    obtain ⟨rfl,rfl⟩:=h1_ (a6_ h)
    exact ⟨hI,⟨[],(e6_ _).symm⟩,fun h=>h,fun x hx=>.inl hx,rfl⟩
  | m::ms,e,e',ps,ps',hms,hI,h=>by
    obtain ⟨q,hq⟩:=hms m (f2_ ..)
    have hms':∀ m ∈ ms,∃ q,stepP g p m=some q:=fun m hm=>hms m (e9_ _ hm)
    have hvq:=za_ hg h0 hv hq
    unfold inn at h
    rw [hq,f3_] at h
    cases hw:wh ps q with
    | some n =>
      rw [hw] at h
      obtain ⟨a,b,c,d,f⟩:=inn_ok hg h0 hv ms _ e' ps ps' hms' hI h
      refine ⟨a,b,fun he=>c fun x hx => ?_,fun x hx => ?_,by rw [f,a8_,d4_,c6_]; omega⟩
      rotate_left
      · rcases d x hx with hx | hx
        · rcases b8_.1 hx with hx | hx
          · exact .inl hx
          · rw [e2_] at hx
            rw [hx]
            exact .inr (f2_ ..)
        · exact .inr (e9_ _ hx)
      rcases b8_.1 hx with hx | hx
      · exact he x hx
      · rw [e2_] at hx
        have:=am_ (wh_some hw)
        rw [hx]
        exact ⟨by show (0:Int)≤(n:Int); omega,by show (n:Int)<_; omega⟩
    | none =>
      rw [hw] at h
      have h:(if ps.length=3000 then none else inn g p ms (e++[(m,(ps.length:Int))]) (ps++[q]))=some (e',ps'):=h
      split at h
      · cases h
      · next hn =>
        obtain ⟨a,⟨r,hr⟩,c,d,f⟩:=inn_ok hg h0 hv ms _ e' (ps++[q]) ps' hms' (PI_push hI hvq hn) h
        refine ⟨a,⟨q::r,by rw [hr,b4_]; rfl⟩,fun he=>c fun x hx => ?_,fun x hx => ?_,by rw [f,a8_,d4_,c6_]; omega⟩
        rotate_left
        · rcases d x hx with hx | hx
          · rcases b8_.1 hx with hx | hx
            · exact .inl hx
            · rw [e2_] at hx
              rw [hx]
              exact .inr (f2_ ..)
          · exact .inr (e9_ _ hx)
        have hl:(ps++[q]).length=ps.length+1:=by rw [a8_,d4_]
        rcases b8_.1 hx with hx | hx
        · have:=he x hx
          omega
        · rw [e2_] at hx
          rw [hx]
          exact ⟨by show (0:Int)≤(ps.length:Int); omega,by show (ps.length:Int)<_; omega⟩
theorem lgl_num {r:ad_} {s:ai_} {m:ag_} (h:lgl r s m=true) (hk:m.2.1=4):m.2.2≠-1:=by
  intro e
  unfold lgl at h
  rw [a1_,hk,e] at h
  have h:=h.2
  simp only [show ((4:Int)==1)=false from rfl,show ((4:Int)==2)=false from rfl,show ((4:Int)==3)=false from rfl,show ((4:Int)==4)=true from rfl,a2_,a4_] at h
  have:at? r.2.2.2.2.1 (-1)=none:=rfl
  rw [this] at h
  cases h
theorem pmv_num {g:ac_} {p:aa_} {m:ag_} (hm:m ∈ pmv g p):m.2.1=4→m.2.2≠-1:=by
  unfold pmv at hm
  exact lgl_num (lmv_mem (c8_.1 hm).1)
structure GI (g:ac_) (ps:List aa_) (es:List (List ae_)):Prop where
  pI:PI g ps
  eI:∀ l ∈ es,∀ x ∈ l,(0≤x.2∧x.2<(ps.length:Int))∧(x.1.2.1=4→x.1.2.2≠-1)
  eL:∀ l ∈ es,l.length≤480
theorem out_ok {g:ac_} (hg:SmG g) (h0:cg_ g=0):∀ (n i:Nat) (ps ps':List aa_) (es es':List (List ae_)),i+n=3001→i≤ps.length→es.length=i→GI g ps es→out g n i ps es=some (ps',es')→GI g ps' es'∧es'.length=ps'.length
  | 0,i,ps,ps',es,es',hi,hip,hl,hG,h=>by
    have:=hG.pI.n
    omega
  | n+1,i,ps,ps',es,es',hi,hip,hl,hG,h=>by
    unfold out at h
    cases hp:ps[i]? with
    | none =>
      rw [hp] at h
      obtain ⟨rfl,rfl⟩:=h1_ (a6_ h)
      have:=o2_.1 hp
      exact ⟨hG,by omega⟩
    | some p =>
      rw [hp] at h
      have hvp:=hG.pI.v p (ax_ hp)
      have hok:=cw_ h0
      cases hin:inn g p (pmv g p) [] ps with
      | none =>
        simp only [hin] at h
        cases h
      | some z =>
        obtain ⟨e,ps1⟩:=z
        simp only [hin] at h
        obtain ⟨a,⟨r,rfl⟩,c,d,f⟩:=inn_ok hg h0 hvp _ _ _ _ _ (fun m hm=>ou_ hm) hG.pI hin
        have hpl:=am_ hp
        have hpm:=pmv_len hok p
        have hll:(ps++r).length=ps.length+r.length:=a8_
        refine out_ok hg h0 n (i+1) _ ps' _ es' (by omega) (by omega) (by rw [a8_,d4_]; omega) ⟨a,fun l hl x hx => ?_,fun l hl => ?_⟩ h
        · rcases b8_.1 hl with hl | hl
          · have:=hG.eI l hl x hx
            exact ⟨by omega,this.2⟩
          · rw [e2_] at hl
            rw [hl] at hx
            refine ⟨c (fun x hx=>by cases hx) x hx,?_⟩
            rcases d x hx with hx | hx
            · cases hx
            · exact pmv_num hx
        · rcases b8_.1 hl with hl | hl
          · exact hG.eL l hl
          · rw [e2_] at hl
            rw [hl,f]
            show 0+_≤480
            omega
theorem exG_ok {g:ac_} (hg:SmG g) (he:(exG g).2.1=0):cg_ g=0∧GI g (exG g).1.1 (exG g).1.2∧(exG g).1.2.length=(exG g).1.1.length:=by
  unfold exG at he ⊢
  cases hb:(ti_ g).2.1 != 0 with
  | true =>
    rw [hb] at he
    rw [o3_] at hb
    exact absurd he hb
  | false =>
  rw [hb,a2_] at he
  have hb:(ti_ g).2.1=0:=by simpa using hb
  obtain ⟨h0,hv⟩:=begP_VP hg hb
  cases ho:out g 3001 0 [(ti_ g).1] [] with
  | none =>
    rw [ho] at he
    exact absurd (show (2:Int)=0 from he) (by decide)
  | some z =>
    obtain ⟨ps,es⟩:=z
    exact ⟨h0,out_ok hg h0 3001 0 _ ps _ es rfl (l5_ _) rfl ⟨⟨by show 1≤3000; decide,fun x hx=>by rw [e2_] at hx; rw [hx]; exact hv⟩,(fun l hl=>by cases hl),(fun l hl=>by cases hl)⟩ ho⟩
noncomputable def innK (key:aa_→List UInt8) (g:ac_) (p:aa_):List ag_→List ae_→List aa_→List (List UInt8×Int)→Option (List ae_×(List aa_×List (List UInt8×Int)))
  | [],e,ps,M=>some (e,(ps,M))
  | m::ms,e,ps,M=>match wh ps ((stepP g p m).getD eP) with
    | some n=>innK key g p ms (e++[(m,(n:Int))]) ps M
    | none=>if ps.length=3000 then none else innK key g p ms (e++[(m,(ps.length:Int))]) (ps++[(stepP g p m).getD eP]) (ju_ M (key ((stepP g p m).getD eP)) (ps.length:Int))
theorem innK_map (key:aa_→List UInt8) (g:ac_) (p:aa_):∀ ms e ps M,(innK key g p ms e ps M).map (fun z=>(z.1,z.2.1))=inn g p ms e ps
  | [],e,ps,M=>rfl
  | m::ms,e,ps,M=>by
    unfold innK inn
    cases wh ps ((stepP g p m).getD eP) with
    | some n=>exact innK_map key g p ms _ _ _
    | none =>
      by_cases hn:ps.length=3000
      · simp only [if_pos hn,Option.map_none]
      · simp only [if_neg hn]
        exact innK_map key g p ms _ _ _
section
variable {g:ac_} (hg:SmG g) (h0:cg_ g=0) {key:aa_→List UInt8} (hk:∀ p q,VP g p→VP g q→key p=key q→p=q)
include hg h0 hk
theorem innK_MI {p:aa_} (hv:VP g p):∀ (ms:List ag_) e ps M e' ps' M',(∀ m ∈ ms,∃ q,stepP g p m=some q)→MI g key ps M→innK key g p ms e ps M=some (e',(ps',M'))→MI g key ps' M'
  | [],e,ps,M,e',ps',M',_,hM,h=>by
    unfold innK at h
    obtain ⟨_,h⟩:=h1_ (a6_ h)
    obtain ⟨rfl,rfl⟩:=h1_ h
    exact hM
  | m::ms,e,ps,M,e',ps',M',hms,hM,h=>by
    obtain ⟨q,hq⟩:=hms m (f2_ ..)
    have hms':∀ m ∈ ms,∃ q,stepP g p m=some q:=fun m hm=>hms m (e9_ _ hm)
    have hvq:=za_ hg h0 hv hq
    unfold innK at h
    rw [hq,f3_] at h
    cases hw:wh ps q with
    | some n =>
      rw [hw] at h
      exact innK_MI hv ms _ _ _ _ _ _ hms' hM h
    | none =>
      rw [hw] at h
      have h:(if ps.length=3000 then none else innK key g p ms (e++[(m,(ps.length:Int))]) (ps++[q]) (ju_ M (key q) (ps.length:Int)))=some (e',(ps',M')):=h
      split at h
      · cases h
      · exact innK_MI hv ms _ _ _ _ _ _ hms' (MI_push hk hM hvq hw) h
theorem loop_inn {p:aa_} (hv:VP g p) {at_:Nat} {σ ρ:Type} (F:List ae_→Nat→List (List UInt8×Int)→List aa_→σ) (G:List ae_→List (List UInt8×Int)→List aa_→ρ) {EE:ρ} {body:σ→Option (σ⊕ρ)} (ms:List ag_) (hms:∀ m ∈ ms,∃ q,stepP g p m=some q)
    (hb:∀ i m e M ps q,ms[i]?=some m→stepP g p m=some q→VP g q→mget? M (key q)=(wh ps q).map (fun n=>(n:Int))→PI g ps→ps[at_]?=some p→e.length=i →
      body (F e i M ps)=some (match wh ps q with
        | some n=>.inl (F (e++[(m,(n:Int))]) (i+1) M ps)
        | none=>if ps.length=3000 then .inr EE else .inl (F (e++[(m,(ps.length:Int))]) (i+1) (ju_ M (key q) (ps.length:Int)) (ps++[q]))))
    (he:∀ e M ps,body (F e ms.length M ps)=some (.inr (G e M ps))) :
    ∀ (k i:Nat) e M ps,i+k=ms.length→e.length=i→PI g ps→ps[at_]?=some p→MI g key ps M→af_ body (F e i M ps)=some ((innK key g p (ms.drop i) e ps M).elim EE fun z=>G z.1 z.2.2 z.2.1)
  | 0,i,e,M,ps,hi,hl,hI,hat,hM=>by
    obtain rfl:i=ms.length:=by omega
    rw [n7_]
    exact bt_ (he e M ps)
  | k+1,i,e,M,ps,hi,hl,hI,hat,hM=>by
    have hil:i<ms.length:=by omega
    obtain ⟨m,hm⟩:=bb_ hil
    obtain ⟨q,hq⟩:=hms m (ax_ hm)
    have hvq:=za_ hg h0 hv hq
    have hd:ms.drop i=m::ms.drop (i+1):=by
      rw [k4_ hil]
      rw [a7_ hil] at hm
      rw [a6_ hm]
    have hbb:=hb i m e M ps q hm hq hvq (hM q hvq) hI hat hl
    rw [hd]
    unfold innK
    rw [hq,f3_]
    cases hw:wh ps q with
    | some n =>
      rw [hw] at hbb
      exact bo_ hbb (loop_inn hv F G ms hms hb he k (i+1) (e++[(m,(n:Int))]) M ps (by omega) (by rw [a8_,d4_,hl]) hI hat hM)
    | none =>
      rw [hw] at hbb
      have hbb:body (F e i M ps)=some (if ps.length=3000 then .inr EE else .inl (F (e++[(m,(ps.length:Int))]) (i+1) (ju_ M (key q) (ps.length:Int)) (ps++[q]))):=hbb
      by_cases hn:ps.length=3000
      · rw [if_pos hn] at hbb
        simp only [if_pos hn]
        exact bt_ hbb
      · rw [if_neg hn] at hbb
        simp only [if_neg hn]
        exact bo_ hbb (loop_inn hv F G ms hms hb he k (i+1) (e++[(m,(ps.length:Int))]) (ju_ M (key q) (ps.length:Int)) (ps++[q]) (by omega) (by rw [a8_,d4_,hl]) (PI_push hI hvq hn) (by rw [b3_ (am_ hat)]; exact hat) (MI_push hk hM hvq hw))
theorem bind_innK {p:aa_} (hv:VP g p) {at_:Nat} {σ ρ υ:Type} (F:List ae_→Nat→List (List UInt8×Int)→List aa_→σ) (G:List ae_→List (List UInt8×Int)→List aa_→ρ) (EE:ρ) {body:σ→Option (σ⊕ρ)} (ms:List ag_) (hms:∀ m ∈ ms,∃ q,stepP g p m=some q)
    {M:List (List UInt8×Int)} {ps:List aa_} (hI:PI g ps) (hat:ps[at_]?=some p) (hM:MI g key ps M) {K:ρ→Option υ} {x:Option υ}
    (hb:∀ i m e M ps q,ms[i]?=some m→stepP g p m=some q→VP g q→mget? M (key q)=(wh ps q).map (fun n=>(n:Int))→PI g ps→ps[at_]?=some p→e.length=i →
      body (F e i M ps)=some (match wh ps q with
        | some n=>.inl (F (e++[(m,(n:Int))]) (i+1) M ps)
        | none=>if ps.length=3000 then .inr EE else .inl (F (e++[(m,(ps.length:Int))]) (i+1) (ju_ M (key q) (ps.length:Int)) (ps++[q]))))
    (he:∀ e M ps,body (F e ms.length M ps)=some (.inr (G e M ps))) (hx:(innK key g p ms [] ps M).elim (K EE) (fun z=>K (G z.1 z.2.2 z.2.1))=x):(af_ body (F [] 0 M ps)).bind K=x:=by
  rw [loop_inn hg h0 hk hv F G ms hms hb he ms.length 0 [] M ps (by omega) rfl hI hat hM,a0_,← hx]
  rw [List.drop_zero]
  cases innK key g p ms [] ps M <;> rfl
theorem loop_out {σ ρ:Type} (F:Nat→List (List UInt8×Int)→List aa_→List (List ae_)→σ) (G:List (List UInt8×Int)→List aa_→List (List ae_)→ρ) {EE:ρ} {body:σ→Option (σ⊕ρ)}
    (hb:∀ i M ps es p,ps[i]?=some p→VP g p→PI g ps→es.length=i→MI g key ps M→body (F i M ps es)=some ((innK key g p (pmv g p) [] ps M).elim (.inr EE) fun z=>.inl (F (i+1) z.2.2 z.2.1 (es++[z.1]))))
    (he:∀ M ps es,body (F ps.length M ps es)=some (.inr (G M ps es))) :
    ∀ (n i:Nat) M ps es,i+n=3001→i≤ps.length→es.length=i→PI g ps→MI g key ps M→match out g n i ps es with
      | none=>af_ body (F i M ps es)=some EE
      | some (ps',es')=>∃ M',af_ body (F i M ps es)=some (G M' ps' es')
  | 0,i,M,ps,es,hi,hip,hl,hI,hM=>by
    have:=hI.n
    omega
  | n+1,i,M,ps,es,hi,hip,hl,hI,hM=>by
    unfold out
    cases hp:ps[i]? with
    | none =>
      have:=o2_.1 hp
      obtain rfl:i=ps.length:=by omega
      exact ⟨M,bt_ (he M ps es)⟩
    | some p =>
      have hvp:=hI.v p (ax_ hp)
      have hbb:=hb i M ps es p hp hvp hI hl hM
      have hmap:=innK_map key g p (pmv g p) [] ps M
      show (match (match inn g p (pmv g p) [] ps with
            | none=>none
            | some (e,ps')=>out g n (i+1) ps' (es++[e])) with
          | none=>af_ body (F i M ps es)=some EE
          | some (ps',es')=>∃ M',af_ body (F i M ps es)=some (G M' ps' es'))
      cases hin:innK key g p (pmv g p) [] ps M with
      | none =>
        rw [hin] at hbb hmap
        rw [← hmap]
        exact bt_ hbb
      | some z =>
        obtain ⟨e,ps1,M1⟩:=z
        have hM1:=innK_MI hg h0 hk hvp _ _ _ _ _ _ _ (fun m hm=>ou_ hm) hM hin
        rw [hin] at hbb hmap
        obtain ⟨a,⟨r,rfl⟩,_,_,_⟩:=inn_ok hg h0 hvp _ _ _ _ _ (fun m hm=>ou_ hm) hI hmap.symm
        rw [← hmap]
        have hpl:=am_ hp
        have hll:(ps++r).length=ps.length+r.length:=a8_
        have ih:=loop_out F G hb he n (i+1) M1 (ps++r) (es++[e]) (by omega) (by omega) (by rw [a8_,d4_]; omega) a hM1
        show (match out g n (i+1) (ps++r) (es++[e]) with
          | none=>af_ body (F i M ps es)=some EE
          | some (ps',es')=>∃ M',af_ body (F i M ps es)=some (G M' ps' es'))
        cases ho:out g n (i+1) (ps++r) (es++[e]) with
        | none=>rw [ho] at ih; exact bo_ hbb ih
        | some z =>
          rw [ho] at ih
          obtain ⟨M',hz⟩:=ih
          exact ⟨M',bo_ hbb hz⟩
theorem bind_out {σ ρ:Type} (F:Nat→List (List UInt8×Int)→List aa_→List (List ae_)→σ) (G:List (List UInt8×Int)→List aa_→List (List ae_)→ρ) (EE:ρ) {body:σ→Option (σ⊕ρ)} {p0:aa_} (hv:VP g p0) {K:ρ→Option (ch_×(Int×Unit))}
    (hb:∀ i M ps es p,ps[i]?=some p→VP g p→PI g ps→es.length=i→MI g key ps M→body (F i M ps es)=some ((innK key g p (pmv g p) [] ps M).elim (.inr EE) fun z=>.inl (F (i+1) z.2.2 z.2.1 (es++[z.1]))))
    (he:∀ M ps es,body (F ps.length M ps es)=some (.inr (G M ps es)))
    (hE:K EE=some (([],[]),(2,()))) (hG:∀ M ps es,K (G M ps es)=some ((ps,es),(0,()))) :
    (af_ body (F 0 (ju_ [] (key p0) 0) [p0] [])).bind K=some (match out g 3001 0 [p0] [] with
      | none=>(([],[]),(2,()))
      | some (ps,es)=>((ps,es),(0,()))):=by
  have hI:PI g [p0]:=⟨by show 1≤3000; decide,fun x hx=>by rw [e2_] at hx; rw [hx]; exact hv⟩
  have hM:MI g key [p0] (ju_ [] (key p0) 0):=by
    have:=MI_push (ps:=[]) (M:=[]) (q:=p0) hk (fun q _=>rfl) hv rfl
    exact this
  have:=loop_out hg h0 hk F G hb he 3001 0 (ju_ [] (key p0) 0) [p0] [] rfl (l5_ _) rfl hI hM
  cases ho:out g 3001 0 [p0] [] with
  | none =>
    rw [ho] at this
    rw [this,a0_]
    exact hE
  | some z =>
    obtain ⟨ps,es⟩:=z
    rw [ho] at this
    obtain ⟨M',hz⟩:=this
    rw [hz,a0_]
    exact hG M' ps es
end
end
section
set_option maxRecDepth 10000
theorem rkey_inj {g:ac_} (hg:SmG g) (ok:OkG g) (p q:aa_) (hp:VP g p) (hq:VP g q) (h:gk_ (rtk p)=gk_ (rtk q)):p=q:=rtk_inj (VP_PB hg ok hp) (VP_PB hg ok hq) (VP_SmL hp hq) h
theorem pkey_inj {g:ac_} (p q:aa_) (hp:VP g p) (hq:VP g q) (h:gk_ (ptk p)=gk_ (ptk q)):p=q:=ptk_inj (VP_SmL hp hq) h
theorem qm_ {g:ac_} (hg:SmG g):du_ g=some (exG g):=by
  unfold du_ exG
  rw [ref04_BeginX hg,a0_]
  cases hb:(ti_ g).2.1 != 0 with
  | true=>rfl
  | false =>
  have hb:(ti_ g).2.1=0:=by simpa using hb
  obtain ⟨h0,hv⟩:=begP_VP hg hb
  have ok:=cw_ h0
  simp only [a2_]
  rw [ref05_key (VP_PB hg ok hv),a0_]
  refine bind_out hg h0 (key:=fun q=>gk_ (rtk q)) (rkey_inj hg ok) (fun i M ps es=>((i:Int),(M,(([],([],())),((ps,(es,())),()))))) (fun M ps es=>Sum.inl (M,(([],([],())),((ps,(es,())),())))) (Sum.inr (([],[]),(2,()))) hv (fun i M ps es p hp hvp hI hl hM => ?_) (fun M ps es=>by simp only [dnl,a2_]) rfl (fun M ps es=>rfl)
  have hi:=am_ hp
  have hn:=hI.n
  have hml:=pmv_len ok p
  simp only [dlt hi,a4_,ah_ hp,a0_]
  rw [ref04_Moves hg h0 hvp,a0_]
  refine bind_innK hg h0 (key:=fun q=>gk_ (rtk q)) (rkey_inj hg ok) hvp (at_:=i) (fun e j M ps=>(e,((j:Int),(M,(([],([],())),((ps,()),())))))) (fun e M ps=>Sum.inl (e,(M,(([],([],())),((ps,()),()))))) (Sum.inr (Sum.inr (Sum.inr (([],[]),(2,()))))) (pmv g p) (fun m hm=>ou_ hm) hI hp hM (fun j m e M ps q hm hq hvq hMq hI hat hl => ?_) (fun e M ps=>by simp only [dnl,a2_]) ?_
  · have hj:=am_ hm
    have hn:=hI.n
    have hkq:=ref05_key (VP_PB hg ok hvq)
    simp only [dlt hj,a4_,ah_ hm,ah_ hat,a0_,ref04_Next hg h0 hvp hq,hkq]
    cases hw:wh ps q with
    | some n =>
      rw [hw] at hMq
      have e1:mhas M (gk_ (rtk q))=true:=by unfold mhas; rw [hMq]; rfl
      have e2:fh_ 0 M (gk_ (rtk q))=(n:Int):=by unfold fh_; rw [hMq]; rfl
      simp only [e1,e2,e5_,a2_,a0_,ca_,ah_ hm,cd_ (show Sm e.length by show _≤1000000000; omega),ay_ (show Sm j by show _≤1000000000; omega)]
    | none =>
      rw [hw] at hMq
      have e1:mhas M (gk_ (rtk q))=false:=by unfold mhas; rw [hMq]; rfl
      simp only [e1,g7_,a4_]
      by_cases hc:ps.length=3000
      · have:((ps.length:Int)==3000)=true:=by rw [hc]; rfl
        simp only [this,a4_,a0_,ca_,if_pos hc]
      · have:((ps.length:Int)==3000)=false:=by rw [o0_]; omega
        simp only [this,a2_,a0_,ca_,if_neg hc,cd_ (show Sm ps.length by show _≤1000000000; omega),cd_ (show Sm e.length by show _≤1000000000; omega),ay_ (show Sm j by show _≤1000000000; omega),ah_ hm]
  · cases hin:innK (fun q=>gk_ (rtk q)) g p (pmv g p) [] ps M with
    | none=>rfl
    | some z =>
      simp only [Option.elim,ca_,cd_ (show Sm es.length by show _≤1000000000; omega),a0_,ay_ (show Sm i by show _≤1000000000; omega)]
theorem qq_ {g:ac_} (hg:SmG g):dv_ g=some (exG g):=by
  unfold dv_ exG
  rw [play_BeginX hg,a0_]
  cases hb:(ti_ g).2.1 != 0 with
  | true=>rfl
  | false =>
  have hb:(ti_ g).2.1=0:=by simpa using hb
  obtain ⟨h0,hv⟩:=begP_VP hg hb
  have ok:=cw_ h0
  simp only [a2_]
  rw [prove_key (VP_PB hg ok hv),a0_,a0_]
  refine bind_out hg h0 (key:=fun q=>gk_ (ptk q)) pkey_inj (fun i M ps es=>((i:Int),(M,(([],([],())),((ps,(es,())),()))))) (fun M ps es=>Sum.inl (M,(([],([],())),((ps,(es,())),())))) (Sum.inr (([],[]),(2,()))) hv (fun i M ps es p hp hvp hI hl hM => ?_) (fun M ps es=>by simp only [dnl,a2_]) rfl (fun M ps es=>rfl)
  have hi:=am_ hp
  have hn:=hI.n
  have hml:=pmv_len ok p
  simp only [dlt hi,a4_,ah_ hp,a0_]
  rw [play_Can hg h0 hvp,a0_]
  simp only [show ((0:Int) != 0)=false from rfl,a2_]
  refine bind_innK hg h0 (key:=fun q=>gk_ (ptk q)) pkey_inj hvp (at_:=i) (fun e j M ps=>(e,((j:Int),(M,(([],([],())),((ps,()),())))))) (fun e M ps=>Sum.inl (e,(M,(([],([],())),((ps,()),()))))) (Sum.inr (Sum.inr (Sum.inr (([],[]),(2,()))))) (pmv g p) (fun m hm=>ou_ hm) hI hp hM (fun j m e M ps q hm hq hvq hMq hI hat hl => ?_) (fun e M ps=>by simp only [dnl,a2_]) ?_
  · have hj:=am_ hm
    have hn:=hI.n
    have hkq:=prove_key (VP_PB hg ok hvq)
    have hstep:kb_ g p m=some (q,(0,())):=by rw [play_Step hg h0 hvp m,hq]; rfl
    simp only [dlt hj,a4_,ah_ hm,ah_ hat,a0_,hstep,hkq,show ((0:Int) != 0)=false from rfl,a2_]
    cases hw:wh ps q with
    | some n =>
      rw [hw] at hMq
      have e1:mhas M (gk_ (ptk q))=true:=by unfold mhas; rw [hMq]; rfl
      have e2:fh_ 0 M (gk_ (ptk q))=(n:Int):=by unfold fh_; rw [hMq]; rfl
      simp only [e1,e2,a4_,e5_,a2_,a0_,cd_ (show Sm e.length by show _≤1000000000; omega),ay_ (show Sm j by show _≤1000000000; omega)]
    | none =>
      rw [hw] at hMq
      have e1:mhas M (gk_ (ptk q))=false:=by unfold mhas; rw [hMq]; rfl
      simp only [e1,a2_]
      by_cases hc:ps.length=3000
      · have:((ps.length:Int)==3000)=true:=by rw [hc]; rfl
        simp only [this,a4_,a0_,g7_,if_pos hc]
      · have:((ps.length:Int)==3000)=false:=by rw [o0_]; omega
        simp only [this,a2_,a0_,e5_,if_neg hc,cd_ (show Sm ps.length by show _≤1000000000; omega),cd_ (show Sm e.length by show _≤1000000000; omega),ay_ (show Sm j by show _≤1000000000; omega)]
  · cases hin:innK (fun q=>gk_ (ptk q)) g p (pmv g p) [] ps M with
    | none=>rfl
    | some z =>
      simp only [Option.elim,ca_,cd_ (show Sm es.length by show _≤1000000000; omega),a0_,ay_ (show Sm i by show _≤1000000000; omega)]
end
section
set_option maxRecDepth 10000
structure LC (es:List (List ae_)) (fin:Nat→Bool) (a:List Int):Prop where
  lo:∀ (i:Nat) (v:Int),a[i]?=some v→-1≤v
  z:∀ (i:Nat) (v:Int),a[i]?=some v→(v=0↔fin i=true)
  dn:∀ (i k:Nat),a[i]?=some ((k+1:Nat):Int)→∃ l x,es[i]?=some l∧x ∈ l∧at? a x.2=some (k:Int)
  up:∀ (i:Nat) (l:List ae_) (x:ae_) (k:Nat),es[i]?=some l→x ∈ l→at? a x.2=some (k:Int)→∃ v,a[i]?=some v∧0≤v∧v≤(k:Int)+1
theorem LC_half {es:List (List ae_)} {fin:Nat→Bool} {a b:List Int} (ha:LC es fin a) (hb:LC es fin b) (hl:a.length=b.length) (k:Nat) (ih:∀ j,j<k→∀ i:Nat,a[i]?=some (j:Int)↔b[i]?=some (j:Int)) (i:Nat) (h:a[i]?=some (k:Int)):b[i]?=some (k:Int):=by
  obtain ⟨w,hw⟩:=bb_ (l:=b) (i:=i) (by have:=am_ h; omega)
  match k with
  | 0 =>
    have h1:=(ha.z i _ h).1 rfl
    have h2:=(hb.z i w hw).2 h1
    rw [hw,h2]
    rfl
  | k+1 =>
    obtain ⟨l,x,hl',hx,hat⟩:=ha.dn i k h
    obtain ⟨q1,q2,q3⟩:=cy_ hat
    have h3:=(ih k (by omega) _).1 q3
    have h4:at? b x.2=some (k:Int):=by
      rw [show x.2=((x.2.toNat:Nat):Int) by omega]
      exact ah_ h3
    obtain ⟨v,e,v0,v1⟩:=hb.up i l x k hl' hx h4
    rw [hw] at e
    obtain rfl:=a6_ e
    rcases Int.lt_or_eq_of_le v1 with hlt | heq
    · exfalso
      obtain ⟨n,rfl⟩:∃ n:Nat,w=(n:Int):=⟨w.toNat,by omega⟩
      have:=(ih n (by omega) i).2 hw
      rw [h] at this
      have:=a6_ this
      omega
    · rw [hw,heq]
      rfl
theorem LC_uniq {es:List (List ae_)} {fin:Nat→Bool} {a b:List Int} (ha:LC es fin a) (hb:LC es fin b) (hl:a.length=b.length):a=b:=by
  have key:∀ k i:Nat,a[i]?=some (k:Int)↔b[i]?=some (k:Int):=by
    intro k
    induction k using Nat.strongRecOn with
    | _ k ih =>
      intro i
      exact ⟨LC_half ha hb hl k ih i,LC_half hb ha hl.symm k (fun j hj i=>(ih j hj i).symm) i⟩
  refine f0_ fun i => ?_
  rcases k8_ i a.length with hi | hi
  · obtain ⟨v,hv⟩:=bb_ hi
    obtain ⟨w,hw⟩:=bb_ (l:=b) (i:=i) (by omega)
    have h1:=ha.lo i v hv
    have h2:=hb.lo i w hw
    rw [hv,hw]
    by_cases hv0:0≤v
    · obtain ⟨n,rfl⟩:∃ n:Nat,v=(n:Int):=⟨v.toNat,by omega⟩
      have:=(key n i).1 hv
      rw [hw] at this
      exact this.symm
    · by_cases hw0:0≤w
      · obtain ⟨n,rfl⟩:∃ n:Nat,w=(n:Int):=⟨w.toNat,by omega⟩
        have:=(key n i).2 hw
        rw [hv] at this
        exact this
      · rw [show v = -1 by omega,show w = -1 by omega]
  · rw [b1_ hi,b1_ (by omega)]
def tc_ (g:ac_) (ps:List aa_) (i:Nat):Bool:=match ps[i]? with
  | some p=>dh_ p.1.1 g.1.2.2.2.2.2.2.2
  | none=>false
theorem finP_at {g:ac_} {ps:List aa_} {i:Nat} {p:aa_} (h:ps[i]?=some p):tc_ g ps i=dh_ p.1.1 g.1.2.2.2.2.2.2.2:=by
  unfold tc_
  rw [h]
def wn_ (g:ac_) (ps:List aa_):List Int:=ps.map fun p=>cond (dh_ p.1.1 g.1.2.2.2.2.2.2.2) 0 (-1)
theorem py_ {g:ac_} {ps:List aa_} {i:Nat} {v:Int} (h:(wn_ g ps)[i]?=some v):(v=0∧tc_ g ps i=true)∨(v = -1∧tc_ g ps i=false):=by
  unfold wn_ at h
  rw [d7_] at h
  obtain ⟨p,hp,rfl⟩:=f4_.1 h
  rw [finP_at hp]
  cases dh_ p.1.1 g.1.2.2.2.2.2.2.2 with
  | true=>exact .inl ⟨rfl,rfl⟩
  | false=>exact .inr ⟨rfl,rfl⟩
def mj_ (a:List Int):Nat:=a.countP fun v=>decide (v<0)
theorem negs_le (a:List Int):mj_ a≤a.length:=k2_
theorem negs_set:∀ {a:List Int} {i:Nat} {v w:Int},a[i]?=some v→v<0→0≤w→mj_ (a.set i w)+1=mj_ a
  | x::a,0,v,w,h,hv,hw=>by
    obtain rfl:x=v:=a6_ h
    unfold mj_
    rw [List.set_cons_zero,j2_,j2_,b2_ hv,b7_ (by omega)]
    simp
  | x::a,i+1,v,w,h,hv,hw=>by
    have:=negs_set (a:=a) (i:=i) h hv hw
    unfold mj_ at this ⊢
    rw [List.set_cons_succ,j2_,j2_]
    omega
  | [],i,v,w,h,_,_=>by simp at h
end
section
set_option maxRecDepth 10000
def nv (es:List (List ae_)) (a:List Int) (r:Nat) (i:Nat) (v:Int):Int:=cond (decide (v<0)&&(es[i]?.getD []).any (fun x=>gi a x.2==(r:Int) - 1)) (r:Int) v
structure RnI (es:List (List ae_)) (fin:Nat→Bool) (r:Nat) (a:List Int):Prop where
  b:∀ (i:Nat) (v:Int),a[i]?=some v→v = -1∨(0≤v∧v+1≤(r:Int))
  z:∀ (i:Nat) (v:Int),a[i]?=some v→(v=0↔fin i=true)
  dn:∀ (i k:Nat),a[i]?=some ((k+1:Nat):Int)→∃ l x,es[i]?=some l∧x ∈ l∧at? a x.2=some (k:Int)
  up:∀ (i:Nat) (l:List ae_) (x:ae_) (k:Nat),es[i]?=some l→x ∈ l→at? a x.2=some (k:Int)→k+2≤r→∃ v,a[i]?=some v∧0≤v∧v≤(k:Int)+1
theorem zx_ {es:List (List ae_)} {a:List Int} {r i:Nat} {v:Int} (h:0≤v):nv es a r i v=v:=by
  unfold nv
  rw [b7_ (by omega)]
  rfl
theorem mi_ (es:List (List ae_)) (a:List Int) (r i:Nat) (v:Int):nv es a r i v=v∨(nv es a r i v=(r:Int)∧v<0∧∃ l x,es[i]?=some l∧x ∈ l∧gi a x.2=(r:Int) - 1):=by
  unfold nv
  cases hc:(decide (v<0)&&(es[i]?.getD []).any (fun x=>gi a x.2==(r:Int) - 1)) with
  | false=>exact .inl rfl
  | true =>
    rw [a1_,g4_,k0_] at hc
    obtain ⟨h1,x,hx,hg⟩:=hc
    cases he:es[i]? with
    | none =>
      rw [he] at hx
      cases hx
    | some l =>
      rw [he] at hx
      exact .inr ⟨rfl,h1,l,x,rfl,hx,f5_.1 hg⟩
theorem at_map {a b:List Int} {f:Nat→Int→Int} (h:∀ j:Nat,b[j]?=(a[j]?).map (f j)) {x v:Int} (hx:at? a x=some v):at? b x=some (f x.toNat v):=by
  obtain ⟨q1,q2,q3⟩:=cy_ hx
  rw [show x=((x.toNat:Nat):Int) by omega,at_nat,h,c1_,q3]
  rfl
theorem RnI_next {es:List (List ae_)} {fin:Nat→Bool} {r:Nat} {a b:List Int} (hr:1≤r) (hes:es.length=a.length) (hx:∀ l ∈ es,∀ x ∈ l,0≤x.2∧x.2<(a.length:Int)) (h:RnI es fin r a) (hb:∀ j:Nat,b[j]?=(a[j]?).map (nv es a r j)):RnI es fin (r+1) b:=by
  have back:∀ {i:Nat} {w:Int},b[i]?=some w→∃ v,a[i]?=some v∧w=nv es a r i v:=fun {i w} hw=>by
    rw [hb] at hw
    obtain ⟨v,hv,rfl⟩:=f4_.1 hw
    exact ⟨v,hv,rfl⟩
  refine ⟨fun i w hw => ?_,fun i w hw => ?_,fun i k hk => ?_,fun i l x k hl hxl hat hkr => ?_⟩
  · obtain ⟨v,hv,rfl⟩:=back hw
    have:=h.b i v hv
    rcases mi_ es a r i v with e | ⟨e,_⟩
    · rw [e]; omega
    · rw [e]; omega
  · obtain ⟨v,hv,rfl⟩:=back hw
    have hz:=h.z i v hv
    rcases mi_ es a r i v with e | ⟨e,hneg,_⟩
    · rw [e]; exact hz
    · rw [e,← hz]
      constructor
      · intro h; omega
      · intro h; omega
  · obtain ⟨v,hv,e0⟩:=back hk
    rcases mi_ es a r i v with e | ⟨e,hneg,l,x,hl,hxl,hg⟩
    · rw [e] at e0
      obtain ⟨l,x,hl,hxl,hat⟩:=h.dn i k (by rw [hv,← e0])
      exact ⟨l,x,hl,hxl,by rw [at_map hb hat,zx_ (by omega)]⟩
    · rw [e] at e0
      have hb2:=hx l (ax_ hl) x hxl
      have hat:=oc_ (l:=a) hb2.1 hb2.2
      refine ⟨l,x,hl,hxl,?_⟩
      rw [at_map hb hat,zx_ (by omega),hg]
      congr 1
      omega
  · have hb2:=hx l (ax_ hl) x hxl
    have hata:=oc_ (l:=a) hb2.1 hb2.2
    have hatb:=at_map hb hata
    rw [hat] at hatb
    have hk:=a6_ hatb
    obtain ⟨q1,q2,q3⟩:=cy_ hata
    have hbnd:=h.b _ _ q3
    have hgk:gi a x.2=(k:Int):=by
      rcases mi_ es a r x.2.toNat (gi a x.2) with e | ⟨e,_⟩
      · rw [← e,← hk]
      · rw [e] at hk; omega
    obtain ⟨v,hv⟩:=bb_ (l:=a) (i:=i) (by have:=am_ hl; omega)
    have hvb:b[i]?=some (nv es a r i v):=by rw [hb,hv]; rfl
    by_cases hv0:0≤v
    · by_cases hkr2:k+2≤r
      · obtain ⟨v',e,r1,r2⟩:=h.up i l x k hl hxl (by rw [hata,hgk]) hkr2
        rw [hv] at e
        obtain rfl:=a6_ e
        exact ⟨v,by rw [hvb,zx_ hv0],r1,r2⟩
      · have:=h.b i v hv
        exact ⟨v,by rw [hvb,zx_ hv0],hv0,by omega⟩
    · by_cases hkr2:k+2≤r
      · obtain ⟨v',e,r1,r2⟩:=h.up i l x k hl hxl (by rw [hata,hgk]) hkr2
        rw [hv] at e
        obtain rfl:=a6_ e
        exact absurd r1 hv0
      · have:nv es a r i v=(r:Int):=by
          unfold nv
          rw [b2_ (by omega),hl,c0_]
          rw [show ((some l).getD [])=l from rfl,k0_.2 ⟨x,hxl,by rw [f5_,hgk]; omega⟩]
          rfl
        exact ⟨_,hvb,by rw [this]; omega,by rw [this]; omega⟩
theorem RnI_end {es:List (List ae_)} {fin:Nat→Bool} {r:Nat} {a:List Int} (hx:∀ l ∈ es,∀ x ∈ l,0≤x.2∧x.2<(a.length:Int)) (hes:es.length=a.length) (h:RnI es fin r a) (hs:∀ (i:Nat) (v:Int),a[i]?=some v→nv es a r i v=v):LC es fin a:=by
  refine ⟨fun i v hv=>by have:=h.b i v hv; omega,h.z,h.dn,fun i l x k hl hxl hat => ?_⟩
  obtain ⟨v,hv⟩:=bb_ (l:=a) (i:=i) (by have:=am_ hl; omega)
  by_cases hkr2:k+2≤r
  · exact h.up i l x k hl hxl hat hkr2
  · obtain ⟨q1,q2,q3⟩:=cy_ hat
    have hb1:=h.b _ _ q3
    have hb2:=h.b _ _ hv
    have hn:=hs i v hv
    by_cases hv0:0≤v
    · exact ⟨v,hv,hv0,by omega⟩
    · exfalso
      unfold nv at hn
      rw [b2_ (by omega),hl,c0_] at hn
      rw [show ((some l).getD [])=l from rfl,k0_.2 ⟨x,hxl,by rw [f5_,mm_ hat]; omega⟩] at hn
      have:(r:Int)=v:=hn
      omega
theorem RnI_first {g:ac_} {ps:List aa_} (es:List (List ae_)):RnI es (tc_ g ps) 1 (wn_ g ps):=by
  refine ⟨fun i v hv => ?_,fun i v hv => ?_,fun i k hk => ?_,fun i l x k _ _ _ hk=>by omega⟩
  · rcases py_ hv with ⟨rfl,_⟩ | ⟨rfl,_⟩
    · exact .inr ⟨by omega,by omega⟩
    · exact .inl rfl
  · rcases py_ hv with ⟨rfl,h⟩ | ⟨rfl,h⟩
    · exact ⟨fun _=>h,fun _=>rfl⟩
    · rw [h]
      exact ⟨fun e=>by omega,fun e=>by cases e⟩
  · rcases py_ hk with ⟨e,_⟩ | ⟨e,_⟩ <;> omega
theorem bind_edge {l:List ae_} (q:ae_→Bool) {b:List Int} {i:Nat} {v r:Int} (hv:b[i]?=some v) (hr:0≤r) {υ:Type} {body:(Bool×(Int×(List Int×Unit)))→Option ((Bool×(Int×(List Int×Unit)))⊕(Bool×(List Int×Unit)))} {c:Bool} {K:(Bool×(List Int×Unit))→Option υ} {x:Option υ} (hl:Sm l.length)
    (hA:∀ (k:Nat) c b' y,b'[i]?=some y→0≤y→body (c,((k:Int),(b',())))=some (.inr (c,(b',()))))
    (hB:∀ c b',body (c,((l.length:Int),(b',())))=some (.inr (c,(b',()))))
    (hC:∀ (k:Nat) e,l[k]?=some e→v<0→body (c,((k:Int),(b,())))=some (.inl (cond (q e) (true,(w64 ((k:Int)+1),(b.set i r,()))) (c,(w64 ((k:Int)+1),(b,()))))))
    (hk:K (cond (decide (v<0)&&l.any q) (true,(b.set i r,())) (c,(b,())))=x):(af_ body (c,(0,(b,())))).bind K=x:=by
  by_cases hv0:0≤v
  · rw [b7_ (by omega)] at hk
    have e0:af_ body (c,(0,(b,())))=some (c,(b,())):=bt_ (hA 0 c b v hv hv0)
    rw [e0,a0_]
    exact hk
  · rw [b2_ (by omega),c0_] at hk
    have gen:∀ (m k:Nat),k+m=l.length→af_ body (c,((k:Int),(b,())))=some (cond ((l.drop k).any q) (true,(b.set i r,())) (c,(b,()))):=by
      intro m
      induction m with
      | zero =>
        intro k hk
        obtain rfl:k=l.length:=by omega
        rw [n7_]
        exact bt_ (hB c b)
      | succ m ih =>
        intro k hk
        have hkl:k<l.length:=by omega
        obtain ⟨e,he⟩:=bb_ hkl
        have hd:l.drop k=e::l.drop (k+1):=by
          rw [k4_ hkl]
          rw [a7_ hkl] at he
          rw [a6_ he]
        have h1:=hC k e he (by omega)
        rw [ay_ (show Sm k by unfold Sm at hl ⊢; omega)] at h1
        rw [hd,p0_]
        cases hq:q e with
        | true =>
          rw [hq] at h1
          refine bo_ h1 (bt_ (hA (k+1) true (b.set i r) r ?_ hr))
          rw [e7_ (am_ hv)]
        | false =>
          rw [hq] at h1
          exact bo_ h1 (ih (k+1) (by omega))
    have:=gen l.length 0 (by omega)
    rw [List.drop_zero] at this
    have e0:af_ body (c,(0,(b,())))=some (cond (l.any q) (true,(b.set i r,())) (c,(b,()))):=this
    rw [e0,a0_]
    exact hk
def kp (act:Int) (x:ae_):Bool:=!(x.1.2.1==4&&x.1.2.2==act)
def esF (act:Int) (es:List (List ae_)):List (List ae_):=es.map fun l=>l.filter (kp act)
theorem does_eq (x:ae_) (act:Int):ns_ x act=some (!(kp act x),()):=by
  unfold ns_ kp
  cases x.1.2.1==4 with
  | false=>rfl
  | true=>cases x.1.2.2==act <;> rfl
theorem esF_len (act:Int) (es:List (List ae_)):(esF act es).length=es.length:=c9_ _
theorem esF_at {act:Int} {es:List (List ae_)} {i:Nat} {l:List ae_} (h:es[i]?=some l):(esF act es)[i]?=some (l.filter (kp act)):=by
  unfold esF
  rw [d7_,h]
  rfl
theorem esF_mem {act:Int} {es:List (List ae_)} {l:List ae_} (h:l ∈ esF act es):∃ l' ∈ es,l=l'.filter (kp act):=by
  obtain ⟨l',h1,h2⟩:=d9_.1 h
  exact ⟨l',h1,h2.symm⟩
theorem esF_all {es:List (List ae_)} {act:Int} (h:∀ l ∈ es,∀ x ∈ l,x.1.2.1=4→x.1.2.2≠act):esF act es=es:=by
  unfold esF
  refine d8_ (l0_ fun l hl => ?_) (List.map_id _)
  refine List.filter_eq_self.2 fun x hx => ?_
  unfold kp
  cases hk:x.1.2.1==4 with
  | false=>rfl
  | true =>
    have:=h l hl x hx (f5_.1 hk)
    rw [c0_,l9_,o0_]
    exact this
theorem sn_ {σ ρ υ:Type} (n:Nat) (Inv:Nat→σ→Prop) {body:σ→Option (σ⊕ρ)} {z0:σ} {K:ρ→Option υ} {Q:υ→Prop} (h0:Inv 0 z0)
    (hs:∀ j z,j<n→Inv j z→∃ z',body z=some (.inl z')∧Inv (j+1) z') (he:∀ z,Inv n z→∃ r,body z=some (.inr r)∧∃ y,K r=some y∧Q y):∃ y,(af_ body z0).bind K=some y∧Q y:=by
  have gen:∀ (k i:Nat) (z:σ),i+k=n→Inv i z→∃ r,af_ body z=some r∧∃ y,K r=some y∧Q y:=by
    intro k
    induction k with
    | zero =>
      intro i z hi hz
      obtain rfl:i=n:=by omega
      obtain ⟨r,e,hr⟩:=he z hz
      exact ⟨r,bt_ e,hr⟩
    | succ k ih =>
      intro i z hi hz
      obtain ⟨z',e,hz'⟩:=hs i z (by omega) hz
      obtain ⟨r,er,hr⟩:=ih (i+1) z' (by omega) hz'
      exact ⟨r,bo_ e er,hr⟩
  obtain ⟨r,e,hr⟩:=gen n 0 z0 (by omega) h0
  rw [e,a0_]
  exact hr
theorem negs_lt:∀ {a b:List Int},a.length=b.length→(∀ (j:Nat) (v w:Int),a[j]?=some v→b[j]?=some w→w<0→v<0)→(mj_ b≤mj_ a∧((∃ (j:Nat) (v w:Int),a[j]?=some v∧b[j]?=some w∧v<0∧0≤w)→mj_ b<mj_ a))
  | [],[],_,_=>⟨c4_ _,fun ⟨j,v,w,h,_⟩=>by simp at h⟩
  | [],_::_,h,_=>by cases h
  | _::_,[],h,_=>by cases h
  | x::a,y::b,h,hm=>by
    obtain ⟨h1,h2⟩:=negs_lt (a:=a) (b:=b) (by simpa using h) fun j v w hv hw=>hm (j+1) v w hv hw
    have h3:=hm 0 x y rfl rfl
    have ea:mj_ (x::a)=mj_ a+(if x<0 then 1 else 0):=by unfold mj_; rw [j2_]; simp
    have eb:mj_ (y::b)=mj_ b+(if y<0 then 1 else 0):=by unfold mj_; rw [j2_]; simp
    rw [ea,eb]
    refine ⟨by split <;> split <;> omega,fun ⟨j,v,w,hv,hw,hv0,hw0⟩ => ?_⟩
    match j with
    | 0 =>
      obtain rfl:x=v:=a6_ hv
      obtain rfl:y=w:=a6_ hw
      rw [if_pos hv0,if_neg (by omega)]
      omega
    | j+1 =>
      have:=h2 ⟨j,v,w,hv,hw,hv0,hw0⟩
      split <;> split <;> omega
theorem bind_rounds {es:List (List ae_)} {fin:Nat→Bool} {n:Nat} (hn:n≤3000) (hes:es.length=n) (hx:∀ l ∈ es,∀ x ∈ l,0≤x.2∧x.2<(n:Int)) {υ:Type} {body:(Int×(Bool×(List Int×Unit)))→Option ((Int×(Bool×(List Int×Unit)))⊕(List Int×Unit))} {K:(List Int×Unit)→Option υ} {Q:υ→Prop} {a0:List Int}
    (h0:RnI es fin 1 a0) (hl0:a0.length=n)
    (hend:∀ (r:Int) a,body (r,(false,(a,())))=some (.inr (a,())))
    (hstep:∀ (r:Nat) a,1≤r→r≤n+1→a.length=n→RnI es fin r a→∃ y,body ((r:Int),(true,(a,())))=some y∧∃ ch b,y = .inl (((r+1:Nat):Int),(ch,(b,())))∧b.length=n∧(∀ j:Nat,b[j]?=(a[j]?).map (nv es a r j))∧(ch=true↔∃ (j:Nat) (v:Int),a[j]?=some v∧nv es a r j v≠v))
    (hK:∀ D:List Int,D.length=n→LC es fin D→∃ y,K (D,())=some y∧Q y):∃ y,(af_ body (1,(true,(a0,())))).bind K=some y∧Q y:=by
  have gen:∀ (m:Nat) (r:Nat) (a:List Int),mj_ a=m→1≤r→r+m≤n+1→a.length=n→RnI es fin r a→∃ D,af_ body ((r:Int),(true,(a,())))=some (D,())∧D.length=n∧LC es fin D:=by
    intro m
    induction m using Nat.strongRecOn with
    | _ m ih =>
      intro r a hm hr hrm hl hR
      obtain ⟨y,ey,ch,b,rfl,hb,hbj,hch⟩:=hstep r a hr (by omega) hl hR
      have hR2:=RnI_next hr (by omega) (by rw [hl]; exact hx) hR hbj
      cases ch with
      | false =>
        refine ⟨b,bo_ ey (bt_ (hend _ b)),hb,?_⟩
        have hs:∀ (i:Nat) (v:Int),a[i]?=some v→nv es a r i v=v:=fun i v hv=>Classical.byContradiction fun hne=>by
          have:=hch.2 ⟨i,v,hv,hne⟩
          cases this
        have hab:a=b:=f0_ fun i=>by
          rw [hbj]
          cases hv:a[i]? with
          | none=>rfl
          | some v=>rw [g2_,hs i v hv]
        rw [← hab]
        exact RnI_end (by rw [hl]; exact hx) (by omega) hR hs
      | true =>
        obtain ⟨j,v,hv,hne⟩:=hch.1 rfl
        have hlt:mj_ b<mj_ a:=by
          refine (negs_lt (a:=a) (b:=b) (by omega) fun j v w hv hw hw0 => ?_).2 ?_
          · rw [hbj,hv] at hw
            have hw:=a6_ hw
            rcases mi_ es a r j v with e | ⟨e,h1,_⟩
            · rw [e] at hw; omega
            · exact h1
          · rcases mi_ es a r j v with e | ⟨e,h1,_⟩
            · exact absurd e hne
            · exact ⟨j,v,nv es a r j v,hv,by rw [hbj,hv]; rfl,h1,by rw [e]; omega⟩
        obtain ⟨D,eD,hD⟩:=ih (mj_ b) (by omega) (r+1) b rfl (by omega) (by omega) hb hR2
        exact ⟨D,bo_ ey eD,hD⟩
  have hneg:=negs_le a0
  obtain ⟨D,eD,hD1,hD2⟩:=gen (mj_ a0) 1 a0 rfl (c4_ _) (by omega) hl0 h0
  have eD:af_ body (1,(true,(a0,())))=some (D,()):=eD
  rw [eD,a0_]
  exact hK D hD1 hD2
theorem tk_ {g:ac_} (hg:SmG g) (h0:cg_ g=0) {ps:List aa_} {es:List (List ae_)} (hG:GI g ps es) (hes:es.length=ps.length)
    (act:Int):∃ D,hr_ g (ps,es) act=some (D,())∧D.length=ps.length∧LC (esF act es) (tc_ g ps) D:=by
  have ok:=cw_ h0
  have okr:=bl_ ok.room
  have hn:=hG.pI.n
  have hgo:=hg.go
  have hx:∀ l ∈ es,∀ x ∈ l,0≤x.2∧x.2<(ps.length:Int):=fun l hl x hx=>(hG.eI l hl x hx).1
  have hfin:∀ p ∈ ps,ik_ g p=some (dh_ p.1.1 g.1.2.2.2.2.2.2.2,()):=fun p hp=>by
    have hv:=(hG.pI.v p hp).st
    have hl1:=hv.l1
    obtain ⟨c1,c2⟩:=tf_ hg.room.th okr.go
    unfold ik_
    rw [iu_ (s:=p.1) (show Sm _ by show _≤1000000000; omega) (by show InC p.1.1.length _; rw [hl1]; exact c1)]
    rfl
  have hxF:∀ l ∈ esF act es,∀ x ∈ l,0≤x.2∧x.2<(ps.length:Int):=fun l hl x hxl=>by
    obtain ⟨l',h1,rfl⟩:=esF_mem hl
    exact hx l' h1 x (c8_.1 hxl).1
  have hesF:(esF act es).length=ps.length:=by rw [esF_len,hes]
  suffices hk:∃ D,hr_ g (ps,es) act=some D∧(D.1.length=ps.length∧LC (esF act es) (tc_ g ps) D.1) by
    obtain ⟨⟨D,u⟩,e,h⟩:=hk
    exact ⟨D,e,h⟩
  unfold hr_
  simp only
  rw [sz_ (by omega) (by omega),a0_,c1_]
  refine sn_ ps.length (fun (i:Nat) (z:Int×(List Int×Unit))=>∃ d:List Int,z=((i:Int),(d,()))∧d.length=ps.length∧∀ j:Nat,j<i→d[j]?=(wn_ g ps)[j]?) ⟨_,rfl,f1_,fun j hj=>by omega⟩ (fun i z hi hz => ?_) (fun z hz => ?_)
  · obtain ⟨d,rfl,hd,hdj⟩:=hz
    obtain ⟨p,hp⟩:=bb_ hi
    obtain ⟨y,hy⟩:=bb_ (l:=d) (i:=i) (by omega)
    have h2:(d.set i (-1))[i]?=some (-1):=e7_ (by omega)
    have hf0:(wn_ g ps)[i]?=some (cond (dh_ p.1.1 g.1.2.2.2.2.2.2.2) 0 (-1)):=by
      unfold wn_
      rw [d7_,hp]
      rfl
    have fin:∀ v:Int,(wn_ g ps)[i]?=some v→∀ j:Nat,j<i+1→(d.set i v)[j]?=(wn_ g ps)[j]?:=fun v hv j hj=>by
      rw [h8_]
      by_cases hij:i=j
      · rw [if_pos hij,if_pos (by omega),← hij,hv]
      · rw [if_neg hij,hdj j (by omega)]
    refine ⟨(((i+1:Nat):Int),(d.set i (cond (dh_ p.1.1 g.1.2.2.2.2.2.2.2) 0 (-1)),())),?_,_,rfl,by rw [g1_,hd],fin _ hf0⟩
    simp only [hd,dlt hi,a4_,ah_ hp,ah_ hy,a0_,hfin p (ax_ hp),c1_,ah_ h2,ay_ (show Sm i by show _≤1000000000; omega),List.set_set]
    cases dh_ p.1.1 g.1.2.2.2.2.2.2.2 <;> rfl
  · obtain ⟨d,rfl,hd,hdj⟩:=hz
    have hdd:d=wn_ g ps:=f0_ fun j=>by
      rcases k8_ j ps.length with hj | hj
      · exact hdj j hj
      · rw [b1_ (by omega),b1_ (by unfold wn_; rw [c9_]; omega)]
    subst hdd
    refine ⟨_,by simp only [hd,dnl,a2_]; rfl,?_⟩
    simp only
    refine bind_rounds (es:=esF act es) (fin:=tc_ g ps) hn hesF hxF (RnI_first (esF act es)) hd (fun r a=>rfl) (fun r a hr hrn hl hR => ?_) (fun D hD1 hD2=>⟨_,rfl,hD1,hD2⟩)
    simp only [a4_]
    refine sn_ ps.length (fun (i:Nat) (z:Bool×(Int×(List Int×Unit)))=>∃ (ch:Bool) (b:List Int),z=(ch,((i:Int),(b,())))∧b.length=ps.length∧(∀ j:Nat,b[j]?=if j<i then (a[j]?).map (nv (esF act es) a r j) else a[j]?)∧(ch=true↔∃ (j:Nat) (v:Int),j<i∧a[j]?=some v∧nv (esF act es) a r j v≠v)) ⟨false,a,rfl,hl,fun j=>by simp,by simp⟩ (fun i z hi hz => ?_) (fun z hz => ?_)
    · obtain ⟨ch,b,rfl,hb,hbj,hch⟩:=hz
      obtain ⟨row,hrow⟩:=bb_ (l:=es) (i:=i) (by omega)
      obtain ⟨v,hv⟩:=bb_ (l:=a) (i:=i) (by omega)
      have hvb:b[i]?=some v:=by rw [hbj,if_neg (by omega),hv]
      have hrl:=hG.eL row (ax_ hrow)
      have hgi:∀ x ∈ row,(gi b x.2==(r:Int) - 1)=(gi a x.2==(r:Int) - 1):=fun x hxr=>by
        obtain ⟨x0,x1⟩:=hx row (ax_ hrow) x hxr
        obtain ⟨u,hu⟩:=bb_ (l:=a) (i:=x.2.toNat) (by omega)
        have ea:gi a x.2=u:=mm_ (by rw [show x.2=((x.2.toNat:Nat):Int) by omega]; exact ah_ hu)
        have eb:∀ w,b[x.2.toNat]?=some w→gi b x.2=w:=fun w hw=>mm_ (by rw [show x.2=((x.2.toNat:Nat):Int) by omega]; exact ah_ hw)
        have hbx:=hbj x.2.toNat
        split at hbx
        · rw [hu] at hbx
          rw [ea,eb _ hbx]
          rcases mi_ (esF act es) a r x.2.toNat u with e | ⟨e,h1,_⟩
          · rw [e]
          · rw [e,j7_,f5_,f5_]
            omega
        · rw [hu] at hbx
          rw [ea,eb _ hbx]
      have hany:row.any (fun x=>kp act x&&gi b x.2==(r:Int) - 1)=(row.filter (kp act)).any (fun x=>gi a x.2==(r:Int) - 1):=by
        rw [List.any_filter,j7_,k0_,k0_]
        exact ⟨fun ⟨x,h1,h2⟩=>⟨x,h1,by rw [← hgi x h1]; exact h2⟩,fun ⟨x,h1,h2⟩=>⟨x,h1,by rw [hgi x h1]; exact h2⟩⟩
      have hnv:nv (esF act es) a r i v=cond (decide (v<0)&&row.any (fun x=>kp act x&&gi b x.2==(r:Int) - 1)) (r:Int) v:=by
        unfold nv
        rw [esF_at hrow,hany]
        rfl
      refine ⟨(cond (decide (v<0)&&row.any (fun x=>kp act x&&gi b x.2==(r:Int) - 1)) true ch,(((i+1:Nat):Int),(cond (decide (v<0)&&row.any (fun x=>kp act x&&gi b x.2==(r:Int) - 1)) (b.set i (r:Int)) b,()))),?_,_,_,rfl,?_,fun j => ?_,?_⟩
      · simp only [hb,dlt hi,a4_]
        refine bind_edge (l:=row) (fun x=>kp act x&&gi b x.2==(r:Int) - 1) (r:=(r:Int)) hvb (by omega) (by show _≤1000000000; omega) (fun k c b' y hy hy0 => ?_) (fun c b' => ?_) (fun k e he hv0 => ?_) ?_
        · simp only [ah_ hrow,a0_,ah_ hy,b7_ (show ¬ y<0 by omega)]
          cases decide ((k:Int)<(row.length:Int)) <;> rfl
        · simp only [ah_ hrow,a0_,dnl,a2_]
        · obtain ⟨x0,x1⟩:=hx row (ax_ hrow) e (ax_ he)
          simp only [ah_ hrow,a0_,dlt (am_ he),a4_,ah_ hvb,b2_ hv0,ah_ he,oc_ (l:=b) x0 (by omega),does_eq,fv_ (n:=(r:Int) - 1) (by omega) (by omega),c1_]
          cases gi b e.2==(r:Int) - 1 <;> cases kp act e <;> rfl
        · simp only [ay_ (show Sm i by show _≤1000000000; omega)]
          cases (decide (v<0)&&row.any (fun x=>kp act x&&gi b x.2==(r:Int) - 1)) <;> rfl
      · cases (decide (v<0)&&row.any (fun x=>kp act x&&gi b x.2==(r:Int) - 1)) with
        | true=>simp only [a4_,g1_,hb]
        | false=>exact hb
      · rcases n2_ j i with hj | hj | hj
        · rw [if_pos (by omega)]
          have:=hbj j
          rw [if_pos hj] at this
          cases (decide (v<0)&&row.any (fun x=>kp act x&&gi b x.2==(r:Int) - 1)) with
          | true=>rw [a4_,b9_ (by omega),this]
          | false=>exact this
        · subst hj
          rw [if_pos (by omega),hv,g2_,hnv]
          cases (decide (v<0)&&row.any (fun x=>kp act x&&gi b x.2==(r:Int) - 1)) with
          | true=>rw [a4_,a4_,e7_ (by omega)]
          | false=>exact hvb
        · rw [if_neg (by omega)]
          have:=hbj j
          rw [if_neg (by omega)] at this
          cases (decide (v<0)&&row.any (fun x=>kp act x&&gi b x.2==(r:Int) - 1)) with
          | true=>rw [a4_,b9_ (by omega),this]
          | false=>exact this
      · cases hc:(decide (v<0)&&row.any (fun x=>kp act x&&gi b x.2==(r:Int) - 1)) with
        | true =>
          rw [hc] at hnv
          rw [a1_,g4_] at hc
          exact ⟨fun _=>⟨i,v,by omega,hv,by rw [hnv]; show (r:Int)≠v; omega⟩,fun _=>rfl⟩
        | false =>
          rw [hc] at hnv
          rw [a2_,hch]
          constructor
          · rintro ⟨j,w,h1,h2⟩
            exact ⟨j,w,by omega,h2⟩
          · rintro ⟨j,w,h1,h2,h3⟩
            rcases k8_ j i with hj | hj
            · exact ⟨j,w,hj,h2,h3⟩
            · obtain rfl:j=i:=by omega
              rw [hv] at h2
              obtain rfl:=a6_ h2
              exact absurd hnv h3
    · obtain ⟨ch,b,rfl,hb,hbj,hch⟩:=hz
      refine ⟨_,by simp only [hb,dnl,a2_]; rfl,?_⟩
      refine ⟨_,rfl,ch,b,by simp only [ay_ (show Sm r by show _≤1000000000; omega)],hb,fun j => ?_,?_⟩
      · rw [hbj]
        split
        · rfl
        · rw [b1_ (by omega)]
          rfl
      · rw [hch]
        constructor
        · rintro ⟨j,w,_,h2⟩
          exact ⟨j,w,h2⟩
        · rintro ⟨j,w,h2,h3⟩
          exact ⟨j,w,by have:=am_ h2; omega,h2,h3⟩
end
section
set_option maxRecDepth 10000
def BkI (es:List (List ae_)) (n i:Nat) (bk:List (List Int)):Prop :=
  bk.length=n∧∀ (t:Nat) l,bk[t]?=some l→l.length≤i * 480∧∀ y:Int,y ∈ l↔∃ j:Nat,j<i∧y=(j:Int)∧∃ row,es[j]?=some row∧∃ x ∈ row,x.2=(t:Int)
theorem BkI_all {es:List (List ae_)} {n:Nat} {bk:List (List Int)} (h:BkI es n es.length bk) {t:Nat} {l:List Int} (hl:bk[t]?=some l) (y:Int):y ∈ l↔∃ j:Nat,y=(j:Int)∧∃ row,es[j]?=some row∧∃ x ∈ row,x.2=(t:Int):=by
  rw [(h.2 t l hl).2 y]
  exact ⟨fun ⟨j,_,h⟩=>⟨j,h⟩,fun ⟨j,h1,row,h2,h3⟩=>⟨j,am_ h2,h1,row,h2,h3⟩⟩
structure BI (es:List (List ae_)) (fin:Nat→Bool) (n:Nat) (near far:List Int):Prop where
  len:far.length=n
  lo:∀ (i:Nat) (v:Int),far[i]?=some v→-1≤v
  z:∀ (i:Nat) (v:Int),far[i]?=some v→(v=0↔fin i=true)
  dn:∀ (i k:Nat),far[i]?=some ((k+1:Nat):Int)→∃ l x,es[i]?=some l∧x ∈ l∧at? far x.2=some (k:Int)
  nr:∀ x ∈ near,∃ v,at? far x=some v∧0≤v
  pw:near.Pairwise (fun x y=>gi far x≤gi far y)
  top:∀ x ∈ near,∀ (i:Nat) (v:Int),far[i]?=some v→v≤gi far x+1
  up:∀ (i:Nat) (l:List ae_) (x:ae_) (k:Nat),es[i]?=some l→x ∈ l→at? far x.2=some (k:Int)→x.2 ∉ near→∃ v,far[i]?=some v∧0≤v∧v≤(k:Int)+1
  bd:∀ (i:Nat) (v:Int),far[i]?=some v→v+(mj_ far:Int)≤(n:Int)
  ms:near.length+mj_ far≤n
theorem BI_end {es:List (List ae_)} {fin:Nat→Bool} {n:Nat} {far:List Int} (h:BI es fin n [] far):LC es fin far :=
  ⟨h.lo,h.z,h.dn,fun i l x k hl hx hat=>h.up i l x k hl hx hat (fun h=>by cases h)⟩
structure AI (bs:List Int) (d:Int) (far:List Int) (b:Nat) (pu far':List Int):Prop where
  len:far'.length=far.length
  keep:∀ (i:Nat) (v:Int),far[i]?=some v→0≤v→far'[i]?=some v
  neg:∀ (i:Nat) (v:Int),far[i]?=some v→v<0→far'[i]?=some v∨(far'[i]?=some (d+1)∧(i:Int) ∈ pu∧(i:Int) ∈ bs)
  pI:∀ x ∈ pu,at? far' x=some (d+1)∧∃ w,at? far x=some w∧w<0
  done:∀ y ∈ bs.take b,∃ v,at? far' y=some v∧0≤v
  ms:mj_ far'+pu.length=mj_ far
theorem AI_first (bs:List Int) (d:Int) (far:List Int):AI bs d far 0 [] far :=
  ⟨rfl,fun _ _ h _=>h,fun _ _ h _=>.inl h,fun _ h=>(by cases h),fun y h=>by rw [i5_] at h; (cases h),rfl⟩
theorem ri_ {α:Type} {a:List α} {x:Int} {v:α} (h:at? a x=some v):∃ i:Nat,x=(i:Int)∧a[i]?=some v:=by
  obtain ⟨q1,q2,q3⟩:=cy_ h
  exact ⟨x.toNat,by omega,q3⟩
theorem AI_skip {bs:List Int} {d:Int} {far:List Int} {b:Nat} {pu far':List Int} (h:AI bs d far b pu far') {y v:Int} (hy:bs[b]?=some y) (hv:at? far' y=some v) (hv0:0≤v):AI bs d far (b+1) pu far':=by
  refine ⟨h.len,h.keep,h.neg,h.pI,fun z hz => ?_,h.ms⟩
  rw [d2_,hy] at hz
  rcases b8_.1 hz with hz | hz
  · exact h.done z hz
  · have:z=y:=by simpa using hz
    rw [this]
    exact ⟨v,hv,hv0⟩
theorem AI_add {bs:List Int} {d:Int} (hd:0≤d) {far:List Int} {b:Nat} {pu far':List Int} (h:AI bs d far b pu far') {y v:Int} (hy:bs[b]?=some y) (hv:at? far' y=some v) (hv0:v<0):AI bs d far (b+1) (pu++[y]) (far'.set y.toNat (d+1)):=by
  obtain ⟨i,rfl,hi⟩:=ri_ hv
  rw [c1_]
  have hlt:=am_ hi
  have hself:(far'.set i (d+1))[i]?=some (d+1):=e7_ hlt
  have hfi:∃ w,far[i]?=some w∧w<0:=by
    obtain ⟨w,hw⟩:=bb_ (l:=far) (i:=i) (by have:=h.len; omega)
    refine ⟨w,hw,Classical.byContradiction fun hc => ?_⟩
    have:=h.keep i w hw (by omega)
    rw [hi] at this
    have:=a6_ this
    omega
  have hat:∀ {x w:Int},at? far' x=some w→0≤w→at? (far'.set i (d+1)) x=some w:=fun {x w} hx hw=>by
    obtain ⟨j,rfl,hj⟩:=ri_ hx
    refine ah_ ?_
    by_cases hij:i=j
    · subst hij
      rw [hi] at hj
      have:=a6_ hj
      omega
    · rw [b9_ hij]
      exact hj
  refine ⟨by rw [g1_,h.len],fun j w hw hw0 => ?_,fun j w hw hw0 => ?_,fun x hx => ?_,fun z hz => ?_,?_⟩
  · have:=h.keep j w hw hw0
    by_cases hij:i=j
    · subst hij
      rw [hi] at this
      have:=a6_ this
      omega
    · rw [b9_ hij]
      exact this
  · by_cases hij:i=j
    · subst hij
      exact .inr ⟨hself,n4_ _ (e2_.2 rfl),ax_ hy⟩
    · rw [b9_ hij]
      rcases h.neg j w hw hw0 with h1 | ⟨h1,h2,h3⟩
      · exact .inl h1
      · exact .inr ⟨h1,n8_ _ h2,h3⟩
  · rcases b8_.1 hx with hx | hx
    · obtain ⟨h1,h2⟩:=h.pI x hx
      exact ⟨hat h1 (by omega),h2⟩
    · rw [e2_] at hx
      rw [hx]
      obtain ⟨w,hw,hw0⟩:=hfi
      exact ⟨ah_ hself,w,ah_ hw,hw0⟩
  · rw [d2_,hy] at hz
    rcases b8_.1 hz with hz | hz
    · obtain ⟨w,h1,h2⟩:=h.done z hz
      exact ⟨w,hat h1 h2,h2⟩
    · have:z=(i:Int):=by simpa using hz
      rw [this]
      exact ⟨d+1,ah_ hself,by omega⟩
  · have:=negs_set hi hv0 (show (0:Int)≤d+1 by omega)
    have:=h.ms
    rw [a8_,d4_]
    omega
theorem BI_step {es:List (List ae_)} {fin:Nat→Bool} {n:Nat} (hes:es.length=n) (hx:∀ l ∈ es,∀ x ∈ l,0≤x.2∧x.2<(n:Int)) {h:Int} {tl far:List Int} (I:BI es fin n (h::tl) far) {bs:List Int} {d:Int} (hd:at? far h=some d)
    (hbs:∀ y:Int,y ∈ bs↔∃ j:Nat,y=(j:Int)∧∃ row,es[j]?=some row∧∃ x ∈ row,x.2=h) {pu far':List Int} (A:AI bs d far bs.length pu far'):BI es fin n (tl++pu) far':=by
  have hd0:0≤d:=by
    obtain ⟨v,h1,h2⟩:=I.nr h (f2_ ..)
    rw [hd] at h1
    have:=a6_ h1
    omega
  have hgd:gi far h=d:=mm_ hd
  have hms:=A.ms
  have cs:∀ (i:Nat) (v:Int),far'[i]?=some v→far[i]?=some v∨(v=d+1∧(i:Int) ∈ pu∧(i:Int) ∈ bs∧1≤pu.length∧∃ w,far[i]?=some w∧w<0):=fun i v hv=>by
    obtain ⟨w,hw⟩:=bb_ (l:=far) (i:=i) (by have:=am_ hv; have:=A.len; omega)
    by_cases hw0:0≤w
    · have:=A.keep i w hw hw0
      rw [hv] at this
      rw [a6_ this]
      exact .inl hw
    · rcases A.neg i w hw (by omega) with h1 | ⟨h1,h2,h3⟩
      · rw [hv] at h1
        rw [a6_ h1]
        exact .inl hw
      · rw [hv] at h1
        have hne:1≤pu.length:=by
          cases pu with
          | nil=>cases h2
          | cons _ _=>simp
        exact .inr ⟨a6_ h1,h2,h3,hne,w,hw,by omega⟩
  have keepA:∀ {x v:Int},at? far x=some v→0≤v→at? far' x=some v:=fun {x v} hx hv=>by
    obtain ⟨i,rfl,hi⟩:=ri_ hx
    exact ah_ (A.keep i v hi hv)
  have gk:∀ x ∈ tl,gi far' x=gi far x:=fun x hx=>by
    obtain ⟨v,h1,h2⟩:=I.nr x (e9_ _ hx)
    rw [mm_ h1,mm_ (keepA h1 h2)]
  have gp:∀ x ∈ pu,gi far' x=d+1:=fun x hx=>mm_ (A.pI x hx).1
  have htop:=I.top h (f2_ ..)
  rw [hgd] at htop
  obtain ⟨pw1,pw2⟩:=List.pairwise_cons.1 I.pw
  have htl:∀ x ∈ tl,gi far x≤d+1:=fun x hx=>by
    obtain ⟨v,h1,h2⟩:=I.nr x (e9_ _ hx)
    obtain ⟨i,_,hi⟩:=ri_ h1
    rw [mm_ h1]
    exact htop i v hi
  have hle:∀ (i:Nat) (v:Int),far'[i]?=some v→v≤d+1:=fun i v hv=>by
    rcases cs i v hv with h1 | ⟨h1,_⟩
    · exact htop i v h1
    · omega
  refine ⟨by rw [A.len,I.len],fun i v hv => ?_,fun i v hv => ?_,fun i k hk => ?_,fun x hx => ?_,?_,fun x hx i v hv => ?_,fun i l x k hl hxl hat hnn => ?_,fun i v hv => ?_,?_⟩
  · rcases cs i v hv with h1 | ⟨h1,_⟩
    · exact I.lo i v h1
    · omega
  · rcases cs i v hv with h1 | ⟨h1,_,_,_,w,hw,hw0⟩
    · exact I.z i v h1
    · have:=I.z i w hw
      rw [← this]
      constructor
      · intro e; omega
      · intro e; omega
  · rcases cs i _ hk with h1 | ⟨h1,h2,h3,_⟩
    · obtain ⟨l,x,a1,a2,a3⟩:=I.dn i k h1
      exact ⟨l,x,a1,a2,keepA a3 (by omega)⟩
    · obtain ⟨j,hj,row,hrow,x,hxr,hxe⟩:=(hbs _).1 h3
      obtain rfl:i=j:=by omega
      refine ⟨row,x,hrow,hxr,?_⟩
      rw [hxe,show (k:Int)=d by omega]
      exact keepA hd hd0
  · rcases b8_.1 hx with hx | hx
    · obtain ⟨v,h1,h2⟩:=I.nr x (e9_ _ hx)
      exact ⟨v,keepA h1 h2,h2⟩
    · exact ⟨d+1,(A.pI x hx).1,by omega⟩
  · refine List.pairwise_append.2 ⟨?_,?_,fun x hx y hy => ?_⟩
    · refine List.Pairwise.imp_of_mem (fun {x y} hx hy hr => ?_) pw2
      rw [gk x hx,gk y hy]
      exact hr
    · refine List.pairwise_of_forall_mem_list (fun x hx y hy => ?_)
      rw [gp x hx,gp y hy]
      exact m3_ _
    · rw [gk x hx,gp y hy]
      exact htl x hx
  · have h2:=hle i v hv
    rcases b8_.1 hx with hx | hx
    · rw [gk x hx]
      have:=pw1 x hx
      rw [hgd] at this
      omega
    · rw [gp x hx]
      omega
  · have hb:=hx l (ax_ hl) x hxl
    obtain ⟨xi,hxi,hxk⟩:=ri_ hat
    obtain ⟨w,hw⟩:=bb_ (l:=far') (i:=i) (by have:=am_ hl; have:=A.len; have:=I.len; omega)
    rcases cs xi _ hxk with h1 | ⟨_,h2,_⟩
    · by_cases hxh:x.2=h
      · have hm:(i:Int) ∈ bs:=(hbs _).2 ⟨i,rfl,l,hl,x,hxl,hxh⟩
        obtain ⟨v,h3,h4⟩:=A.done (i:Int) (by rw [d1_]; exact hm)
        have h3:far'[i]?=some v:=by rw [← at_nat]; exact h3
        refine ⟨v,h3,h4,?_⟩
        have:(k:Int)=d:=by
          have:at? far h=some (k:Int):=by rw [← hxh,hxi]; exact ah_ h1
          rw [hd] at this
          exact (a6_ this).symm
        have:=hle i v h3
        omega
      · obtain ⟨v,h3,h4,h5⟩:=I.up i l x k hl hxl (by rw [hxi]; exact ah_ h1) (fun hm=>by
          rcases e3_.1 hm with hm | hm
          · exact hxh hm
          · exact hnn (n8_ _ hm))
        exact ⟨v,A.keep i v h3 h4,h4,h5⟩
    · exact absurd (n4_ _ (by rw [hxi]; exact h2)) hnn
  · rcases cs i v hv with h1 | ⟨h1,_,_,h4,_⟩
    · have:=I.bd i v h1
      omega
    · obtain ⟨hi,_,hh⟩:=ri_ hd
      have:=I.bd hi d hh
      omega
  · have:=I.ms
    rw [a8_]
    rw [c6_] at this
    omega
theorem bind_queue {υ:Type} {body:(List Int×(List Int×Unit))→Option ((List Int×(List Int×Unit))⊕(List Int×Unit))} {K:(List Int×Unit)→Option υ} {Q:υ→Prop} (Inv:List Int→List Int→Prop) (μ:List Int→List Int→Nat)
    (hs:∀ h tl far,Inv (h::tl) far→∃ y,body (h::tl,(far,()))=some y∧∃ near' far',y = .inl (near',(far',()))∧Inv near' far'∧μ near' far'<μ (h::tl) far)
    (he:∀ far,Inv [] far→∃ r,body ([],(far,()))=some (.inr r)∧∃ y,K r=some y∧Q y) {near far:List Int} (hI:Inv near far):∃ y,(af_ body (near,(far,()))).bind K=some y∧Q y:=by
  have gen:∀ (m:Nat) (near far:List Int),μ near far=m→Inv near far→∃ r,af_ body (near,(far,()))=some r∧∃ y,K r=some y∧Q y:=by
    intro m
    induction m using Nat.strongRecOn with
    | _ m ih =>
      intro near far hm hI
      cases near with
      | nil =>
        obtain ⟨r,e,h⟩:=he far hI
        exact ⟨r,bt_ e,h⟩
      | cons h tl =>
        obtain ⟨y,ey,near',far',rfl,h1,h2⟩:=hs h tl far hI
        obtain ⟨r,er,hr⟩:=ih _ (by omega) near' far' rfl h1
        exact ⟨r,bo_ ey er,hr⟩
  obtain ⟨r,e,hr⟩:=gen _ near far rfl hI
  rw [e,a0_]
  exact hr
theorem Repeat_eq {n:Nat} (h:n≤1000000):eu_ [-1] (n:Int)=some (List.replicate n (-1)):=by
  show mk? (n:Int) (-1)=_
  rw [sz_ (by omega) (by omega),c1_]
theorem negs_cons (x:Int) (a:List Int):mj_ (x::a)=mj_ a+(if x<0 then 1 else 0):=by unfold mj_; rw [j2_]; simp
end
end Go.Proofs.YtmdlefagpcmllaaGreatDoor.Rx
