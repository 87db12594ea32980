/- A part of the proof: what the functions of the program compute, shown over the model. -/
import Derived.KernelRfl
import Derived.Test.YtlbfbdbagohinaaGreatDoorPart1
import Derived.Test.YtlbfbdbagohinaaGreatDoorPart3
set_option linter.unusedSectionVars false
set_option linter.unusedVariables false
set_option linter.unusedSimpArgs false
namespace Go.Proofs.YtlbfbdbagohinaaGreatDoor.Pad
open Go
section
theorem AllP.v {l:List Nat} {sps:List Sp} {f:Fr} {vals:Nat→Value} {S':PH} (h:AllP l (λj=>∀ t,sps[j]?=some t→(∀ d,t.dst=some d→f d=vals j)∧t.fact (t.deps.map vals) S')) (i:Nat) {a d:Nat} {t:Sp} {x:Value}
  (e:(l[i]?,sps[a]?,t.dst,t.fact (t.deps.map vals) S')=(some a,some t,some d,vals a=x)):f d=x :=
 h.u i (i7_ e).1 (i7_ (i7_ e).2).1 (i7_ (i7_ e).2).2
section
variable {P:Program} {n:Nat} {ro:Option Nat} {ops:Array Oper} {sps:List Sp} {tks:List Tok} {f0:Fr} {S:PH} {i:Nat} {s:Sp}
end
section
variable {P:Program} {n:Nat} {ro:Option Nat} {f:Fr} {w:World} {K:Fr→World→Prop} {d k:Nat} {ty:TypeId} {pos:String} {af:Array Edge} {gd:Option (Nat×Bool)} {x y:Operand} {v:Value} {T:TypeId} {S:PH}
end
end
end Go.Proofs.YtlbfbdbagohinaaGreatDoor.Pad
namespace Go.Proofs.YtlbfbdbagohinaaGreatDoor.Rx
open Go Pad Rex Go.Proofs Go.Proofs.Tryz Sum
section
set_option maxRecDepth 100000
def atD {α R:Type} (b:Bool) (l:List α) (i:Int) (K:α→Option R):Option R:=cond b ((at? l i).bind λ_=>(at? l i).bind K) ((at? l i).bind K)
noncomputable def wlE {β Y:Type} (b:Bool) (ts:List fg_) (al:List (List (List Int))) (y:List Int→β→Option (β×Unit)) (ret:β→List Int→Y) (f:β) (w:List Int):Option Y :=
 ((ae_ (ρ:=(Unit⊕Y)) (λ(v8:(Int×Unit)) =>
 (cond (decide (v8.1<(ts.length:Int)))
 ((at? ts v8.1).bind λv9 =>
 (atD b al v9.1 λv10 =>
 ((at? w v9.1).bind λv11 =>
 ((at? w v9.1).bind λv12 =>
 ((at? v10 v12).bind λv13 =>
 ((at? v13 v9.2.1).bind λv14 =>
 (atD b al v9.2.2.1 λv15 =>
 ((at? w v9.2.2.1).bind λv16 =>
 ((at? w v9.2.2.1).bind λv17 =>
 ((at? v15 v17).bind λv18 =>
 ((at? v18 v9.2.2.2).bind λv19 =>
 (cond (v14 != v19)
 (some (inr (inr (ret f w))))
 (some (inl ((w64 (v8.1+1)),())))))))))))))))
 (some (inr (inl ()))))) (0,())).bind λv20 =>
 (co_ v20 (λv21=>((y w f).bind λv30=>(some (ret v30.1 w)))) (λv22=>(some v22))))
noncomputable def wlP {β A:Type} (b:Bool) (pk:β→List Int→A) (u1:A→β) (u2:A→List Int) (ts:List fg_) (al:List (List (List Int))) (y:List Int→β→Option (β×Unit)):Nat→(Y:Type)→(β→List Int→Y)→Int→β→List Int→Option Y
 | 0,Y,ret,i,f,w =>
  (cond (i==(w.length:Int))
  ((ae_ (ρ:=(Unit⊕Y)) (λ(v8:(Int×Unit)) =>
  (cond (decide (v8.1<(ts.length:Int)))
  ((at? ts v8.1).bind λv9=>none)
  (some (inr (inl ()))))) (0,())).bind λv20 =>
  (co_ v20 (λv21=>none) (λv22=>(some v22))))
  (atD b al i λv31 =>
  ((ae_ (ρ:=(A⊕Y)) (λ(v32:(Int×A)) =>
  (cond (decide (v32.1<(v31.length:Int)))
  ((((at? (u2 v32.2) i).bind λv33 =>
  ((at? (u2 v32.2) i).bind λv34=>(none:Option (A⊕((Int×A)⊕(A⊕Y)))))).bind λv308 =>
  (co_ v308 (λv309=>(some (inl ((w64 (v32.1+1)),pk (u1 v309) (u2 v309)))))
  (λv310=>(some v310)))))
  (some (inr (inl (pk (u1 v32.2) (u2 v32.2))))))) (0,pk f w)).bind λv317 =>
  (co_ v317 (λv318=>(some (ret (u1 v318) (u2 v318)))) (λv319=>(some v319))))))
 | n+1,Y,ret,i,f,w =>
  (cond (i==(w.length:Int))
  (wlE b ts al y ret f w)
  (atD b al i λv31 =>
  ((ae_ (ρ:=(A⊕Y)) (λ(v32:(Int×A)) =>
  (cond (decide (v32.1<(v31.length:Int)))
  ((((at? (u2 v32.2) i).bind λv33 =>
  ((at? (u2 v32.2) i).bind λv34=>(wlP b pk u1 u2 ts al y n (A⊕((Int×A)⊕(A⊕Y))) (λf w=>inl (pk f w)) (w64 (i+1)) (u1 v32.2) ((u2 v32.2).set i.toNat v32.1)))).bind λv308 =>
  (co_ v308 (λv309=>(some (inl ((w64 (v32.1+1)),pk (u1 v309) (u2 v309)))))
  (λv310=>(some v310)))))
  (some (inr (inl (pk (u1 v32.2) (u2 v32.2))))))) (0,pk f w)).bind λv317 =>
  (co_ v317 (λv318=>(some (ret (u1 v318) (u2 v318)))) (λv319=>(some v319))))))
noncomputable def fndB (w:List Int) (f:List (List Bool)):Option (List (List Bool)×Unit) :=
 (ae_ (ρ:=((List (List Bool))×Unit)) (λ(v23:(Int×((List (List Bool))×Unit))) =>
 (cond (decide (v23.1<(w.length:Int)))
 ((at? w v23.1).bind λv24 =>
 ((at? w v23.1).bind λv25 =>
 ((at? v23.2.1 v23.1).bind λv26 =>
 ((at? v23.2.1 v23.1).bind λv27 =>
 ((at? v27 v25).bind λv28 =>
 ((at? v27 v25).bind λv29 =>
 (some (inl ((w64 (v23.1+1)),((v23.2.1.set v23.1.toNat (v27.set v25.toNat true)),()))))))))))
 (some (inr (v23.2.1,()))))) (0,(f,())))
noncomputable def psbX {R:Type} (b:Bool) (m:Int) (ts:List fg_) (al:List (List (List Int))) (K:List (List Bool)×(List (List (List Int))×Unit)→Option R):Option R :=
 ((mk? (α:=(List Bool)) m []).bind λv0 =>
 ((ae_ (ρ:=((List (List Bool))×Unit)) (λ(v1:(Int×((List (List Bool))×Unit))) =>
 (cond (decide (v1.1<(al.length:Int)))
 (atD b al v1.1 λv2 =>
 ((mk? (α:=Bool) (v2.length:Int) false).bind λv3 =>
 ((at? v1.2.1 v1.1).bind λv4 =>
 ((at? v1.2.1 v1.1).bind λv5 =>
 (some (inl ((w64 (v1.1+1)),((v1.2.1.set v1.1.toNat v3),()))))))))
 (some (inr (v1.2.1,()))))) (0,(v0,()))).bind λv6 =>
 (((mk? (α:=Int) m 0).bind λv7 =>
 (wlP b (λf w=>(f,((),(w,())))) (λa=>a.1) (λa=>a.2.2.1) ts al fndB 9 (List (List Bool)×Unit) (λf w=>(f,())) 0 v6.1 v7)).bind λv320 =>
 ((mk? (α:=(List (List Int))) m []).bind λv321 =>
 ((ae_ (ρ:=((List (List Bool))×((List (List (List Int)))×Unit))) (λ(v322:(Int×((List (List Bool))×((List (List (List Int)))×Unit)))) =>
 (cond (decide (v322.1<(al.length:Int)))
 (atD b al v322.1 λv323 =>
 ((ae_ (ρ:=((List (List Bool))×((List (List (List Int)))×Unit))) (λ(v324:(Int×((List (List Bool))×((List (List (List Int)))×Unit)))) =>
 (cond (decide (v324.1<(v323.length:Int)))
 ((((at? v323 v324.1).bind λv325 =>
 ((at? v324.2.1 v322.1).bind λv326 =>
 ((at? v324.2.1 v322.1).bind λv327 =>
 ((at? v327 v324.1).bind λv328 =>
 ((at? v327 v324.1).bind λv329 =>
 (cond v329
 ((at? v324.2.2.1 v322.1).bind λv330 =>
 ((at? v324.2.2.1 v322.1).bind λv331 =>
 ((push? (α:=(List Int)) v331 ([v325]:List (List Int))).bind λv332 =>
 ((at? v324.2.2.1 v322.1).bind λv333 =>
 (cond ((v322.1==v322.1)&&true)
 ((at? v324.2.2.1 v322.1).bind λv334 =>
 (some ((v324.2.1.set v322.1.toNat v327),((v324.2.2.1.set v322.1.toNat v332),()))))
 none)))))
 (some ((v324.2.1.set v322.1.toNat v327),(v324.2.2.1,())))))))))).bind λv335 =>
 (some (inl ((w64 (v324.1+1)),(v335.1,(v335.2.1,()))))))
 (some (inr (v324.2.1,(v324.2.2.1,())))))) (0,(v322.2.1,(v322.2.2.1,())))).bind λv336 =>
 (some (inl ((w64 (v322.1+1)),(v336.1,(v336.2.1,())))))))
 (some (inr (v322.2.1,(v322.2.2.1,())))))) (0,(v320.1,(v321,())))).bind K)))))
noncomputable def rdL (ft:List Int→Option (Int×(Bool×(Int×Unit)))) (S:Int):Nat→Int→List Int→List (List Int)→Option ((List Int)×(((List (List Int))×Unit)×Unit))
 | 0,_,_,_=>none
 | n+1,i,c,o =>
  (cond (i==(c.length:Int))
  ((ft c).bind λv8 =>
  (cond v8.2.1
  ((push? (α:=Int) [] c).bind λv9 =>
  ((push? (α:=(List Int)) o ([v9]:List (List Int))).bind λv10 =>
  (some (c,((v10,()),())))))
  (some (c,((o,()),())))))
  ((at? c i).bind λv3 =>
  ((at? c i).bind λv4 =>
  ((ae_ (ρ:=((List Int)×(((List (List Int))×Unit)×Unit))) (λ(v5:((List Int)×(((List (List Int))×Unit)×Unit))) =>
  ((at? v5.1 i).bind λv6 =>
  ((at? v5.1 i).bind λv7 =>
  (cond (decide (v7<S))
  ((rdL ft S n (w64 (i+1)) v5.1 v5.2.1.1).bind λv67 =>
  ((at? v67.1 i).bind λv68 =>
  ((at? v67.1 i).bind λv69 =>
  ((at? v67.1 i).bind λv70 =>
  ((at? v67.1 i).bind λv71 =>
  (some (inl ((v67.1.set i.toNat (w64 (v69+1))),((v67.2.1.1,()),())))))))))
  (some (inr (v5.1,((v5.2.1.1,()),())))))))) ((c.set i.toNat 0),((o,()),()))).bind λv72 =>
  ((at? v72.1 i).bind λv73 =>
  ((at? v72.1 i).bind λv74 =>
  (some ((v72.1.set i.toNat 0),((v72.2.1.1,()),())))))))))
end
section
set_option maxRecDepth 100000
set_option maxHeartbeats 0
theorem cz_36:ji_ prog 86 ah_=some (show aa_ from (0,0)):=by kernel_rfl
theorem ce_36:Rex.elemOf prog 32=some 86:=by kernel_rfl
noncomputable def cp_36:Cpy prog:=⟨36,ah_,86,λhc hI h=>ri_ func36 rfl rfl rfl ce_36 cz_36 rfl hc hI h⟩
theorem cz_37:ji_ prog 3 .int=some (show Int from 0):=by kernel_rfl
theorem ce_37:Rex.elemOf prog 38=some 3:=by kernel_rfl
noncomputable def wz_:Cpy prog:=⟨37,.int,3,λhc hI h=>ri_ func37 rfl rfl rfl ce_37 cz_37 rfl hc hI h⟩
theorem cz_82:ji_ prog 4 .bool=some (show Bool from false):=by kernel_rfl
theorem ce_82:Rex.elemOf prog 48=some 4:=by kernel_rfl
noncomputable def bq5:Cpy prog:=⟨82,.bool,4,λhc hI h=>ri_ func82 rfl rfl rfl ce_82 cz_82 rfl hc hI h⟩
theorem cz_199:ji_ prog 131 jl_=some (show fg_ from (0,(0,(0,0)))):=by kernel_rfl
theorem ce_199:Rex.elemOf prog 58=some 131:=by kernel_rfl
noncomputable def cp_199:Cpy prog:=⟨199,jl_,131,λhc hI h=>ri_ func199 rfl rfl rfl ce_199 cz_199 rfl hc hI h⟩
end
section
set_option maxRecDepth 100000
set_option maxHeartbeats 0
noncomputable def kk_ (a0:ad_):Option (Bool×Unit) :=
 (((cond (decide (12<(a0.1.length:Int)))
 (some (true,()))
 (cond (decide (15<(a0.2.1.length:Int)))
 (some (true,()))
 (cond (decide (14<(a0.2.2.1.length:Int)))
 (some (true,()))
 (cond (decide (20<(a0.2.2.2.1.length:Int)))
 (some (true,()))
 (cond (decide (30<(a0.2.2.2.2.1.length:Int)))
 (some (true,()))
 (cond (decide (15<(a0.2.2.2.2.2.1.length:Int)))
 (some (true,()))
 (some ((decide (20<(a0.2.2.2.2.2.2.2.length:Int))),()))))))))).bind λv0 =>
 (cond v0.1
 (some (true,()))
 ((ae_ (ρ:=(Unit⊕(Bool×Unit))) (λ(v1:(Int×Unit)) =>
 (cond (decide (v1.1<(a0.1.length:Int)))
 ((at? a0.1 v1.1).bind λv2 =>
 (cond (decide (100<(v2.length:Int)))
 (some (inr (inr (true,()))))
 (some (inl ((w64 (v1.1+1)),())))))
 (some (inr (inl ()))))) (0,())).bind λv3 =>
 (co_ v3 (λv4=>((ae_ (ρ:=(Unit⊕(Bool×Unit))) (λ(v6:(Int×Unit)) =>
 (cond (decide (v6.1<(a0.2.1.length:Int)))
 ((at? a0.2.1 v6.1).bind λv7 =>
 (cond (decide (100<(v7.1.length:Int)))
 (some (inr (inr (true,()))))
 (some (inl ((w64 (v6.1+1)),())))))
 (some (inr (inl ()))))) (0,())).bind λv8 =>
 (co_ v8 (λv9=>((ae_ (ρ:=(Unit⊕(Bool×Unit))) (λ(v11:(Int×Unit)) =>
 (cond (decide (v11.1<(a0.2.2.1.length:Int)))
 ((((at? a0.2.2.1 v11.1).bind λv12 =>
 (cond (decide (100<(v12.1.length:Int)))
 (some (true,()))
 ((at? a0.2.2.1 v11.1).bind λv13 =>
 (some ((decide (20<(v13.2.2.length:Int))),())))))).bind λv14 =>
 (cond v14.1
 (some (inr (inr (true,()))))
 (some (inl ((w64 (v11.1+1)),())))))
 (some (inr (inl ()))))) (0,())).bind λv15 =>
 (co_ v15 (λv16=>((ae_ (ρ:=(Unit⊕(Bool×Unit))) (λ(v18:(Int×Unit)) =>
 (cond (decide (v18.1<(a0.2.2.2.1.length:Int)))
 ((at? a0.2.2.2.1 v18.1).bind λv19 =>
 (cond (decide (20<(v19.2.2.length:Int)))
 (some (inr (inr (true,()))))
 (some (inl ((w64 (v18.1+1)),())))))
 (some (inr (inl ()))))) (0,())).bind λv20 =>
 (co_ v20 (λv21=>((ae_ (ρ:=(Unit⊕(Bool×Unit))) (λ(v23:(Int×Unit)) =>
 (cond (decide (v23.1<(a0.2.2.2.2.1.length:Int)))
 ((at? a0.2.2.2.2.1 v23.1).bind λv24 =>
 (((cond (decide (100<(v24.1.length:Int)))
 (some (true,()))
 (cond (decide (20<(v24.2.2.2.2.1.length:Int)))
 (some (true,()))
 (cond (decide (20<(v24.2.2.2.1.length:Int)))
 (some (true,()))
 (cond (decide (20<(v24.2.2.2.2.2.1.length:Int)))
 (some (true,()))
 (cond (decide (20<(v24.2.2.2.2.2.2.1.length:Int)))
 (some (true,()))
 (some ((decide (20<(v24.2.2.2.2.2.2.2.length:Int))),())))))))).bind λv25 =>
 (cond v25.1
 (some (inr (inr (true,()))))
 (some (inl ((w64 (v23.1+1)),()))))))
 (some (inr (inl ()))))) (0,())).bind λv26 =>
 (co_ v26 (λv27=>((ae_ (ρ:=(Unit⊕(Bool×Unit))) (λ(v29:(Int×Unit)) =>
 (cond (decide (v29.1<(a0.2.2.2.2.2.1.length:Int)))
 ((at? a0.2.2.2.2.2.1 v29.1).bind λv30 =>
 (cond (decide (20<(v30.1.length:Int)))
 (some (inr (inr (true,()))))
 (some (inl ((w64 (v29.1+1)),())))))
 (some (inr (inl ()))))) (0,())).bind λv31 =>
 (co_ v31 (λv32=>(some (false,())))
 (λv33=>(some v33)))))
 (λv28=>(some v28)))))
 (λv22=>(some v22)))))
 (λv17=>(some v17)))))
 (λv10=>(some v10)))))
 (λv5=>(some v5))))))
theorem x_25:be_ (P:=prog) (cxC [] []) (.p .z (.p (.j0 [.v 49 .bool] .z .z) (.p (.p .z (.ls [.v 3 .int] [] [] 0 .z)) (.p (.p .z (.ls [.v 4 .int] [] [] 2 .z)) (.p (.p .z (.ls [.v 5 .int] [] [] 4 (.p .z (.p (.j0 [.v 103 .bool] .z .z) .z)))) (.p (.p .z (.ls [.v 6 .int] [] [] 6 .z)) (.p (.p .z (.ls [.v 7 .int] [] [] 8 (.p .z (.p (.p .z (.j0 [.v 164 .bool] .z .z)) .z)))) (.p (.p .z (.ls [.v 9 .int] [] [] 10 .z)) .z)))))))) 25 [ba_] [.bool]=λx=>kk_ x.1:=by kernel_rfl
noncomputable def c_25:Con prog:=bg_ _ _ 25 [ba_] [.bool] _ x_25
noncomputable def bp_ (a0:Int) (a1:Int) (a2:Int):Option (Bool×Unit) :=
 (cond (decide (a1≤a0))
 (some ((decide (a0≤a2)),()))
 (some (false,())))
theorem x_131:be_ (P:=prog) (cxC [] []) .z 131 [.int,.int,.int] [.bool]=λx=>bp_ x.1 x.2.1 x.2.2.1:=by kernel_rfl
noncomputable def br4:Con prog:=bg_ _ _ 131 [.int,.int,.int] [.bool] _ x_131
noncomputable def av_ (a0:Int) (a1:Int) (a2:Int):Option (Bool×Unit) :=
 (cond (decide (a1≤a0))
 (some ((decide (a0≤a2)),()))
 (some (false,())))
theorem x_121:be_ (P:=prog) (cxC [] []) .z 121 [.int,.int,.int] [.bool]=λx=>av_ x.1 x.2.1 x.2.2.1:=by kernel_rfl
noncomputable def be0:Con prog:=bg_ _ _ 121 [.int,.int,.int] [.bool] _ x_121
noncomputable def de_ (a0:(List (List UInt8))) (a1:(List UInt8)):Option (Int×Unit) :=
 ((ae_ (ρ:=(Unit⊕(Int×Unit))) (λ(v0:(Int×Unit)) =>
 (cond (decide (v0.1<(a0.length:Int)))
 ((at? a0 v0.1).bind λv1 =>
 (cond (a1==v1)
 (some (inr (inr (v0.1,()))))
 (some (inl ((w64 (v0.1+1)),())))))
 (some (inr (inl ()))))) (0,())).bind λv2 =>
 (co_ v2 (λv3=>(some ((-1),())))
 (λv4=>(some v4))))
theorem x_226:be_ (P:=prog) (cxC [] []) (.p .z (.p (.p .z (.ls [.v 8 .int] [] [] 0 .z)) .z)) 226 [(.list .str),.str] [.int]=λx=>de_ x.1 x.2.1:=by kernel_rfl
noncomputable def c_226:Con prog:=bg_ _ _ 226 [(.list .str),.str] [.int] _ x_226
noncomputable def qp_ (a0:(List UInt8)):Option ((List UInt8)×Unit) :=
 (some (a0,()))
theorem x_123:be_ (P:=prog) (cxC [] []) .z 123 [.str] [.str]=λx=>qp_ x.1:=by kernel_rfl
noncomputable def c_123:Con prog:=bg_ _ _ 123 [.str] [.str] _ x_123
noncomputable def qo_ (a0:fq_):Option ((List UInt8)×Unit) :=
 (some (a0.1,()))
theorem x_125:be_ (P:=prog) (cxC [] []) .z 125 [nj_] [.str]=λx=>qo_ x.1:=by kernel_rfl
noncomputable def c_125:Con prog:=bg_ _ _ 125 [nj_] [.str] _ x_125
noncomputable def su_ (a0:hz_):Option ((List UInt8)×Unit) :=
 (some (a0.1,()))
theorem x_127:be_ (P:=prog) (cxC [] []) .z 127 [me_] [.str]=λx=>su_ x.1:=by kernel_rfl
noncomputable def c_127:Con prog:=bg_ _ _ 127 [me_] [.str] _ x_127
noncomputable def tt_ (a0:dk_):Option ((List UInt8)×Unit) :=
 (some (a0.1,()))
theorem x_185:be_ (P:=prog) (cxC [] []) .z 185 [jm_] [.str]=λx=>tt_ x.1:=by kernel_rfl
noncomputable def c_185:Con prog:=bg_ _ _ 185 [jm_] [.str] _ x_185
noncomputable def fu_ (a0:ad_) (a1:(List Int)):Option (Bool×Unit) :=
 ((ae_ (ρ:=(Unit⊕(Bool×Unit))) (λ(v0:(Int×(Int×Unit))) =>
 (cond (decide (v0.2.1<(a1.length:Int)))
 ((at? a1 v0.2.1).bind λv1 =>
 (((cond (decide (v1≤v0.1))
 (some (true,()))
 (some ((decide ((a0.2.2.1.length:Int)≤v1)),())))).bind λv2 =>
 (cond v2.1
 (some (inr (inr (false,()))))
 (some (inl (v1,((w64 (v0.2.1+1)),())))))))
 (some (inr (inl ()))))) ((-1),(0,()))).bind λv3 =>
 (co_ v3 (λv4=>(some (true,())))
 (λv5=>(some v5))))
theorem x_186:be_ (P:=prog) (cxC [] []) (.p .z (.p .z (.p (.p .z (.ls [.v 5 .int,.v 10 .int] [] [] 0 (.p .z (.p .z (.p (.p .z (.p (.j0 [.v 23 .bool] .z .z) .z)) .z))))) .z))) 186 [ba_,(.list .int)] [.bool]=λx=>fu_ x.1 x.2.1:=by kernel_rfl
noncomputable def c_186:Con prog:=bg_ _ _ 186 [ba_,(.list .int)] [.bool] _ x_186
noncomputable def ee_ (a0:(List Int)) (a1:Int):Option (Int×Unit) :=
 ((ae_ (ρ:=(Unit⊕(Int×Unit))) (λ(v0:(Int×Unit)) =>
 (cond (decide (v0.1<(a0.length:Int)))
 ((at? a0 v0.1).bind λv1 =>
 (cond (a1==v1)
 (some (inr (inr (v0.1,()))))
 (some (inl ((w64 (v0.1+1)),())))))
 (some (inr (inl ()))))) (0,())).bind λv2 =>
 (co_ v2 (λv3=>(some ((-1),())))
 (λv4=>(some v4))))
theorem x_140:be_ (P:=prog) (cxC [] []) (.p .z (.p (.p .z (.ls [.v 8 .int] [] [] 0 .z)) .z)) 140 [(.list .int),.int] [.int]=λx=>ee_ x.1 x.2.1:=by kernel_rfl
noncomputable def c_140:Con prog:=bg_ _ _ 140 [(.list .int),.int] [.int] _ x_140
noncomputable def ch_ (a0:Int) (a1:Int) (a2:Int):Option (Bool×Unit) :=
 (cond (decide (a1≤a0))
 (some ((decide (a0≤a2)),()))
 (some (false,())))
theorem x_77:be_ (P:=prog) (cxC [] []) .z 77 [.int,.int,.int] [.bool]=λx=>ch_ x.1 x.2.1 x.2.2.1:=by kernel_rfl
noncomputable def c_77:Con prog:=bg_ _ _ 77 [.int,.int,.int] [.bool] _ x_77
noncomputable def gx_ (a0:(List Int)) (a1:(List Int)):Option (Int×Int×Unit) :=
 ((ae_ (ρ:=(Int×((List Int)×((List Int)×Unit)))) (λ(v0:(Int×(Int×((List Int)×((List Int)×Unit))))) =>
 (cond (decide (v0.2.1<(a0.length:Int)))
 ((at? a0 v0.2.1).bind λv1 =>
 ((((at? a1 v0.2.1).bind λv2 =>
 (cond (v1==v2)
 (some ((w64 (v0.1+1)),()))
 (some (v0.1,()))))).bind λv3 =>
 (cond (decide (v1<(10:Int)))
 ((at? v0.2.2.1 v1).bind λv4 =>
 ((at? v0.2.2.1 v1).bind λv5 =>
 (cond (decide (v1<(10:Int)))
 ((at? v0.2.2.1 v1).bind λv6 =>
 ((at? v0.2.2.1 v1).bind λv7 =>
 ((at? a1 v0.2.1).bind λv8 =>
 (cond (decide (v8<(10:Int)))
 ((at? v0.2.2.2.1 v8).bind λv9 =>
 ((at? v0.2.2.2.1 v8).bind λv10 =>
 (cond (decide (v8<(10:Int)))
 ((at? v0.2.2.2.1 v8).bind λv11 =>
 ((at? v0.2.2.2.1 v8).bind λv12 =>
 (some (inl (v3.1,((w64 (v0.2.1+1)),((v0.2.2.1.set v1.toNat (w64 (v5+1))),((v0.2.2.2.1.set v8.toNat (w64 (v10+1))),()))))))))
 none)))
 none))))
 none)))
 none)))
 (some (inr (v0.1,(v0.2.2.1,(v0.2.2.2.1,()))))))) (0,(0,([0,0,0,0,0,0,0,0,0,0],([0,0,0,0,0,0,0,0,0,0],()))))).bind λv13 =>
 ((ae_ (ρ:=(Int×Unit)) (λ(v14:(Int×(Int×Unit))) =>
 (cond (decide (v14.2.1<10))
 (cond (decide (v14.2.1<(10:Int)))
 ((at? v13.2.1 v14.2.1).bind λv15 =>
 ((at? v13.2.1 v14.2.1).bind λv16 =>
 (cond (decide (v14.2.1<(10:Int)))
 ((at? v13.2.2.1 v14.2.1).bind λv17 =>
 ((at? v13.2.2.1 v14.2.1).bind λv18 =>
 (some (inl ((w64 (v14.1+(minI v16 v18))),((w64 (v14.2.1+1)),()))))))
 none)))
 none)
 (some (inr (v14.1,()))))) (0,(0,()))).bind λv19 =>
 (some (v13.1,((w64 (v19.1 - v13.1)),())))))
theorem x_225:be_ (P:=prog) (cxC [] []) (.p .z (.p .z (.p (.p .z (.lp [.v 4 .int,.v 13 .int] [.v 4 .int] [.o (.s 6) .int,.o (.s 7) .int] 0 (.p .z (.p .z (.p (.p .z (.j0 [.v 4 .int] .z .z)) .z))))) (.p (.p .z (.lp [.v 5 .int,.v 40 .int] [.v 5 .int] [] 2 .z)) .z)))) 225 [(.list .int),(.list .int)] [.int,.int]=λx=>gx_ x.1 x.2.1:=by kernel_rfl
noncomputable def c_225:Con prog:=bg_ _ _ 225 [(.list .int),(.list .int)] [.int,.int] _ x_225
noncomputable def kh_ (a0:(List UInt8)):Option (Bool×Unit) :=
 (((cond (a0==[])
 (some ((a0==[]),()))
 (cond (a0==[97,116])
 (some ((a0==[97,116]),()))
 (cond (a0==[115,116,97,116,101,115])
 (some ((a0==[115,116,97,116,101,115]),()))
 (cond (a0==[115,116,97,114,116])
 (some ((a0==[115,116,97,114,116]),()))
 (cond (a0==[103,111,110,101])
 (some ((a0==[103,111,110,101]),()))
 (cond (a0==[105,102])
 (some ((a0==[105,102]),()))
 (cond (a0==[108,111,99,107])
 (some ((a0==[108,111,99,107]),()))
 (cond (a0==[119,105,116,104])
 (some ((a0==[119,105,116,104]),()))
 (cond (a0==[115,101,116,115])
 (some ((a0==[115,101,116,115]),()))
 (cond (a0==[115,112,101,110,100,115])
 (some ((a0==[115,112,101,110,100,115]),()))
 (some ((a0==[98,114,105,110,103,115]),()))))))))))))).bind λv0 =>
 (cond v0.1
 (some (false,()))
 ((ae_ (ρ:=(Unit⊕(Bool×Unit))) (λ(v1:(Int×Unit)) =>
 (cond (decide (v1.1<(a0.length:Int)))
 ((((at? a0 v1.1).bind λv2 =>
 (cond (decide (((UInt8.toNat v2):Int)<97))
 (some (true,()))
 ((at? a0 v1.1).bind λv3 =>
 (some ((decide (122<((UInt8.toNat v3):Int))),())))))).bind λv4 =>
 (cond v4.1
 (some (inr (inr (false,()))))
 (some (inl ((w64 (v1.1+1)),())))))
 (some (inr (inl ()))))) (0,())).bind λv5 =>
 (co_ v5 (λv6=>(some (true,())))
 (λv7=>(some v7))))))
theorem x_134:be_ (P:=prog) (cxC [] []) (.p .z (.p (.p .z (.j0 [.v 5 .bool] .z .z)) (.p (.p .z (.ls [.v 19 .int] [] [] 1 (.p .z (.p .z (.p (.p .z (.j0 [.v 31 .bool] .z .z)) .z))))) .z))) 134 [.str] [.bool]=λx=>kh_ x.1:=by kernel_rfl
noncomputable def c_134:Con prog:=bg_ _ _ 134 [.str] [.bool] _ x_134
noncomputable def kg_ (a0:ab_):Option (Bool×Unit) :=
 (cond (a0.1==0)
 (cond (a0.2.1==0)
 (cond (a0.2.2.1==0)
 (cond (a0.2.2.2.1==0)
 (cond (a0.2.2.2.2.1==0)
 (cond ((a0.2.2.2.2.2.1.length:Int)==0)
 (some ((!a0.2.2.2.2.2.2),()))
 (some (false,())))
 (some (false,())))
 (some (false,())))
 (some (false,())))
 (some (false,())))
 (some (false,())))
theorem x_135:be_ (P:=prog) (cxC [] []) .z 135 [ai_] [.bool]=λx=>kg_ x.1:=by kernel_rfl
noncomputable def c_135:Con prog:=bg_ _ _ 135 [ai_] [.bool] _ x_135
noncomputable def cd_ (a0:ab_):Option (ab_×Unit) :=
 ((push? (α:=Int) [] a0.2.2.2.2.2.1).bind λv0 =>
 (some ((a0.1,(a0.2.1,(a0.2.2.1,(a0.2.2.2.1,(a0.2.2.2.2.1,(v0,a0.2.2.2.2.2.2)))))),())))
theorem x_39:be_ (P:=prog) (cxC [] [wz_]) .z 39 [ai_] [ai_]=λx=>cd_ x.1:=by kernel_rfl
noncomputable def c_39:Con prog:=bg_ _ _ 39 [ai_] [ai_] _ x_39
noncomputable def bo_ (a0:Int) (a1:Int) (a2:Int):Option (Bool×Unit) :=
 (cond (decide (a1≤a0))
 (some ((decide (a0≤a2)),()))
 (some (false,())))
theorem x_61:be_ (P:=prog) (cxC [] []) .z 61 [.int,.int,.int] [.bool]=λx=>bo_ x.1 x.2.1 x.2.2.1:=by kernel_rfl
noncomputable def c_61:Con prog:=bg_ _ _ 61 [.int,.int,.int] [.bool] _ x_61
noncomputable def di_ (a0:ak_) (a1:Int):Option (Bool×Unit) :=
 ((at? a0.2.2.1 a1).bind λv0 =>
 (some (((v0.length:Int)==20),())))
theorem x_96:be_ (P:=prog) (cxC [] []) .z 96 [am_,.int] [.bool]=λx=>di_ x.1 x.2.1:=by kernel_rfl
noncomputable def c_96:Con prog:=bg_ _ _ 96 [am_,.int] [.bool] _ x_96
def an_148:An:=(.p .z (.p (.p .z (.lp [.r 2 .int 3,.v 8 .int] [.r 2 .int 3] [] 0 .z)) .z))
def at_148:FuncId→An:=λk=>cond (Nat.beq k 42) (.p .z (.p .z (.p (.p .z (.lp [.v 26 .int] [] [.g (.s 20) (.list .bool)] 0 .z)) (.j0 [.g (.s 20) (.list .bool)] (.p .z (.rf [3] .z (.p .z (.lp [.v 43 .int] [] [.g (.c (.s 3) 0) (.list .bool)] 4 .z)))) (.p .z (.p (.p .z (.lp [.v 67 .int] [] [.g (.s 20) (.list .bool),.g (.s 9) (.list (.list .int))] 6 (.p .z (.p .z (.p (.p .z (.p .z (.lp [.v 74 .int] [] [.g (.s 20) (.list .bool),.g (.s 9) (.list (.list .int))] 8 (.p .z (.p .z (.j0 [.g (.s 20) (.list .bool),.g (.s 9) (.list (.list .int))] .z .z)))))) .z))))) (.q [(.s 9)] .z .z))))))) (cond (Nat.beq k 144) (.p .z (.p (.p .z (.p (.p (.p .z (.ls [.v 20 .int] [] [] 0 .z)) .z) .z)) (.p (.p .z (.ls [.v 49 .int] [] [.g (.c (.y (.c (.s 4) 0) 3) 0) (.list .bool),.y (.c (.s 4) 0),.o (.s 11) .int] 2 (.p .z (.p .z (.js [.g (.c (.y (.c (.s 4) 0) 3) 0) (.list .bool),.y (.c (.s 4) 0),.o (.s 11) .int] .z .z))))) .z))) (.z))
noncomputable def cs_148:List (Con prog):=[]
noncomputable def cl_148:List (Cpy prog):=[]
noncomputable def cx_148:Cx prog:=cxI at_148 (λk=>false) (cxC cs_148 cl_148) 12
noncomputable def cc_ (a0:lu_):Option (List Int) :=
  (psbX false (a0.1.1.length:Int) a0.1.2.2.2 a0.2 λv337 =>
 ((ae_ (ρ:=((List Int)×Unit)) (λ(v338:((List Int)×(Int×Unit))) =>
 (cond (decide (v338.2.1<(v337.2.1.length:Int)))
 ((at? v337.2.1 v338.2.1).bind λv339 =>
 ((push? (α:=Int) v338.1 [(v339.length:Int)]).bind λv340 =>
 (some (inl (v340,((w64 (v338.2.1+1)),()))))))
 (some (inr (v338.1,()))))) ([],(0,()))).bind λv341 =>
 (some v341.1)))
theorem x_148:bq0 cx_148 an_148 148 [(.ref ft_)] 3=λx=>cc_ x.1:=by kernel_rfl
noncomputable def bt5:RpI prog:=mkRpI _ _ 148 [(.ref ft_)] 3 _ x_148
noncomputable def ev_ (a0:(List Int)) (a1:Int):Option (Int×Unit) :=
 ((ae_ (ρ:=(Int×Unit)) (λ(v0:(Int×(Int×Unit))) =>
 (cond (decide (v0.2.1<(a0.length:Int)))
 ((((at? a0 v0.2.1).bind λv1 =>
 (cond (v1==a1)
 (some ((w64 (v0.1+1)),()))
 (some (v0.1,()))))).bind λv2 =>
 (some (inl (v2.1,((w64 (v0.2.1+1)),())))))
 (some (inr (v0.1,()))))) (0,(0,()))).bind λv3 =>
 (some (v3.1,())))
noncomputable def aw_ (a0:hi_) (a1:(List bi_)):Option (Bool×Unit) :=
 ((((ae_ (ρ:=(Unit⊕(Bool×Unit))) (λ(v0:(Int×Unit)) =>
 (cond (decide (v0.1<(a1.length:Int)))
 ((at? a1 v0.1).bind λv1 =>
 ((at? a0.2.1 v1.1).bind λv2 =>
 (cond ((v2==v1.2.1)==v1.2.2)
 (some (inr (inr ((decide (0≤v0.1)),()))))
 (some (inl ((w64 (v0.1+1)),()))))))
 (some (inr (inl ()))))) (0,())).bind λv3 =>
 (co_ v3 (λv4=>(some ((decide (0≤(-1))),())))
 (λv5=>(some v5))))).bind λv6 =>
 (some ((!v6.1),())))
theorem x_139:be_ (P:=prog) (cxI (λk=>cond (Nat.beq k 136) (.p .z (.j0 [.v 4 .bool] .z .z)) (cond (Nat.beq k 192) (.p .z (.p (.p .z (.ls [.v 8 .int] [] [] 0 .z)) .z)) (cond (Nat.beq k 195) (.p .z (.p (.q [] .z .z) .z)) (.z)))) (λk=>false) (cxC [] []) 4) .z 139 [(.ref fs_),(.list bz_)] [.bool]=λx=>aw_ x.1 x.2.1:=by kernel_rfl
noncomputable def br3:Con prog:=bg_ _ _ 139 [(.ref fs_),(.list bz_)] [.bool] _ x_139
noncomputable def ct_ (a0:hi_) (a1:Int):Option (Int×Unit) :=
 ((ae_ (ρ:=(Int×Unit)) (λ(v0:(Int×(Int×Unit))) =>
 (cond (decide (v0.2.1<(a0.2.2.1.length:Int)))
 ((((at? a0.2.2.1 v0.2.1).bind λv1 =>
 (cond (v1==(w64 ((-2) - a1)))
 (some ((w64 (v0.1+1)),()))
 (some (v0.1,()))))).bind λv2 =>
 (some (inl (v2.1,((w64 (v0.2.1+1)),())))))
 (some (inr (v0.1,()))))) (0,(0,()))).bind λv3 =>
 (some (v3.1,())))
theorem x_168:be_ (P:=prog) (cxC [] []) (.p .z (.p (.p .z (.lp [.v 4 .int,.v 13 .int] [.v 4 .int] [] 0 (.p .z (.p .z (.j0 [.v 4 .int] .z .z))))) .z)) 168 [(.ref fs_),.int] [.int]=λx=>ct_ x.1 x.2.1:=by kernel_rfl
noncomputable def c_168:Con prog:=bg_ _ _ 168 [(.ref fs_),.int] [.int] _ x_168
noncomputable def bx_ (a0:(List bi_)):Option ((List bi_)×Unit) :=
 ((push? (α:=bi_) [] a0).bind λv0 =>
 (some (v0,())))
theorem x_71:be_ (P:=prog) (cxC [] []) .z 71 [(.list bz_)] [(.list bz_)]=λx=>bx_ x.1:=by kernel_rfl
noncomputable def c_71:Con prog:=bg_ _ _ 71 [(.list bz_)] [(.list bz_)] _ x_71
noncomputable def cz_ (a0:(List Int)):Option ((List Int)×Unit) :=
 ((push? (α:=Int) [] a0).bind λv0 =>
 (some (v0,())))
theorem x_72:be_ (P:=prog) (cxC [] []) .z 72 [(.list .int)] [(.list .int)]=λx=>cz_ x.1:=by kernel_rfl
noncomputable def c_72:Con prog:=bg_ _ _ 72 [(.list .int)] [(.list .int)] _ x_72
noncomputable def fi_ (a0:ab_):Option (ab_×Unit) :=
 ((push? (α:=Int) [] a0.2.2.2.2.2.1).bind λv0 =>
 (some ((a0.1,(a0.2.1,(a0.2.2.1,(a0.2.2.2.1,(a0.2.2.2.2.1,(v0,a0.2.2.2.2.2.2)))))),())))
theorem x_28:be_ (P:=prog) (cxC [] []) .z 28 [ai_] [ai_]=λx=>fi_ x.1:=by kernel_rfl
noncomputable def c_28:Con prog:=bg_ _ _ 28 [ai_] [ai_] _ x_28
noncomputable def eu_ (a0:aj_):Option (aj_×Unit) :=
 ((push? (α:=Int) [] a0.1).bind λv0 =>
 ((push? (α:=Int) [] a0.2.1).bind λv1 =>
 ((push? (α:=Int) [] a0.2.2).bind λv2 =>
 (some ((v0,(v1,v2)),())))))
theorem x_40:be_ (P:=prog) (cxC [] []) .z 40 [br_] [br_]=λx=>eu_ x.1:=by kernel_rfl
noncomputable def c_40:Con prog:=bg_ _ _ 40 [br_] [br_] _ x_40
noncomputable def ef_ (a0:(List Int)) (a1:(List Int)):Option (Bool×Unit) :=
 (cond ((a0.length:Int) != (a1.length:Int))
 (some (false,()))
 ((ae_ (ρ:=(Unit⊕(Bool×Unit))) (λ(v0:(Int×Unit)) =>
 (cond (decide (v0.1<(a0.length:Int)))
 ((at? a0 v0.1).bind λv1 =>
 ((at? a1 v0.1).bind λv2 =>
 (cond (v1 != v2)
 (some (inr (inr (false,()))))
 (some (inl ((w64 (v0.1+1)),()))))))
 (some (inr (inl ()))))) (0,())).bind λv3 =>
 (co_ v3 (λv4=>(some (true,())))
 (λv5=>(some v5)))))
theorem x_147:be_ (P:=prog) (cxC [] []) (.p .z (.p .z (.p (.p .z (.ls [.v 13 .int] [] [] 0 (.p .z (.p .z (.p (.p .z (.p (.q [] .z .z) .z)) .z))))) .z))) 147 [(.list .int),(.list .int)] [.bool]=λx=>ef_ x.1 x.2.1:=by kernel_rfl
noncomputable def c_147:Con prog:=bg_ _ _ 147 [(.list .int),(.list .int)] [.bool] _ x_147
end
section
set_option maxRecDepth 100000
set_option maxHeartbeats 0
noncomputable def kj_ (a0:ac_):Option (Bool×Unit) :=
 ((((kk_ a0.1).bind λv0 =>
 (cond v0.1
 (some (true,()))
 (cond (decide (10<(a0.2.1.length:Int)))
 (some (true,()))
 (cond (decide (10<(a0.2.2.1.length:Int)))
 (some (true,()))
 (some ((decide (20<(a0.2.2.2.1.length:Int))),()))))))).bind λv1 =>
 (cond v1.1
 (some (true,()))
 ((ae_ (ρ:=(Unit⊕(Bool×Unit))) (λ(v2:(Int×Unit)) =>
 (cond (decide (v2.1<(a0.2.1.length:Int)))
 ((((at? a0.2.1 v2.1).bind λv3 =>
 (cond (decide (3<v3.1))
 ((at? a0.2.1 v2.1).bind λv4 =>
 (some ((decide (5<v4.2)),())))
 (some (false,()))))).bind λv5 =>
 (cond v5.1
 (some (inr (inr (true,()))))
 (some (inl ((w64 (v2.1+1)),())))))
 (some (inr (inl ()))))) (0,())).bind λv6 =>
 (co_ v6 (λv7=>((ae_ (ρ:=(Unit⊕(Bool×Unit))) (λ(v9:(Int×Unit)) =>
 (cond (decide (v9.1<(a0.2.2.1.length:Int)))
 ((at? a0.2.2.1 v9.1).bind λv10 =>
 (cond (decide (10<(v10.length:Int)))
 (some (inr (inr (true,()))))
 (some (inl ((w64 (v9.1+1)),())))))
 (some (inr (inl ()))))) (0,())).bind λv11 =>
 (co_ v11 (λv12=>((ae_ (ρ:=(Unit⊕(Bool×Unit))) (λ(v14:(Int×Unit)) =>
 (cond (decide (v14.1<(a0.2.2.2.1.length:Int)))
 ((at? a0.2.2.2.1 v14.1).bind λv15 =>
 (((cond (decide (100<(v15.1.length:Int)))
 (some (true,()))
 (cond (decide (20<(v15.2.2.2.1.length:Int)))
 (some (true,()))
 (some ((decide (10<(v15.2.2.2.2.2.2.2.2.2.1.length:Int))),()))))).bind λv16 =>
 (cond v16.1
 (some (inr (inr (true,()))))
 (some (inl ((w64 (v14.1+1)),()))))))
 (some (inr (inl ()))))) (0,())).bind λv17 =>
 (co_ v17 (λv18=>(some (false,())))
 (λv19=>(some v19)))))
 (λv13=>(some v13)))))
 (λv8=>(some v8))))))
theorem x_6:be_ (P:=prog) (cxC [c_25] []) (.p .z (.p (.j0 [.v 27 .bool] .z .z) (.p (.p .z (.ls [.v 3 .int] [] [] 0 (.p .z (.p (.j0 [.v 50 .bool] .z .z) .z)))) (.p (.p .z (.ls [.v 4 .int] [] [] 2 .z)) (.p (.p .z (.ls [.v 5 .int] [] [] 4 (.p .z (.p (.p .z (.j0 [.v 93 .bool] .z .z)) .z)))) .z))))) 6 [au_] [.bool]=λx=>kj_ x.1:=by kernel_rfl
noncomputable def c_6:Con prog:=bg_ _ _ 6 [au_] [.bool] _ x_6
noncomputable def dv_ (a0:aa_):Option (Int×Unit) :=
 ((((bp_ a0.1 1 4).bind λv0 =>
 (cond (!v0.1)
 (some (true,()))
 ((bp_ a0.2 2 10).bind λv1 =>
 (some ((!v1.1),())))))).bind λv2 =>
 (cond v2.1
 (some (10,()))
 (some (0,()))))
theorem x_74:be_ (P:=prog) (cxC [br4] []) (.p .z (.p (.j0 [.v 12 .bool] .z .z) .z)) 74 [ah_] [.int]=λx=>dv_ x.1:=by kernel_rfl
noncomputable def c_74:Con prog:=bg_ _ _ 74 [ah_] [.int] _ x_74
noncomputable def ce_ (a0:aa_) (a1:Int):Option (Bool×Unit) :=
 ((bp_ a1 0 (w64 (a0.2 - 1))).bind λv0 =>
 (some (v0.1,())))
theorem x_175:be_ (P:=prog) (cxC [br4] []) .z 175 [ah_,.int] [.bool]=λx=>ce_ x.1 x.2.1:=by kernel_rfl
noncomputable def c_175:Con prog:=bg_ _ _ 175 [ah_,.int] [.bool] _ x_175
noncomputable def ck_ (a0:(List (List UInt8))) (a1:(List UInt8)):Option (Bool×Unit) :=
 ((de_ a0 a1).bind λv0 =>
 (some ((decide (0≤v0.1)),())))
theorem x_213:be_ (P:=prog) (cxC [c_226] []) .z 213 [(.list .str),.str] [.bool]=λx=>ck_ x.1 x.2.1:=by kernel_rfl
noncomputable def c_213:Con prog:=bg_ _ _ 213 [(.list .str),.str] [.bool] _ x_213
noncomputable def em_ (a0:ad_) (a1:Int) (a2:Int):Option (Bool×Unit) :=
 ((av_ a1 0 (w64 ((a0.2.1.length:Int) - 1))).bind λv0 =>
 (cond v0.1
 ((at? a0.2.1 a1).bind λv1 =>
 ((av_ a2 0 (w64 (v1.2.2.1 - 1))).bind λv2 =>
 (some (v2.1,()))))
 (some (false,()))))
theorem x_130:be_ (P:=prog) (cxC [be0] []) .z 130 [ba_,.int,.int] [.bool]=λx=>em_ x.1 x.2.1 x.2.2.1:=by kernel_rfl
noncomputable def br5:Con prog:=bg_ _ _ 130 [ba_,.int,.int] [.bool] _ x_130
noncomputable def bh_ (a0:(List Int)) (a1:Int):Option (Bool×Unit) :=
 ((ee_ a0 a1).bind λv0 =>
 (some ((decide (0≤v0.1)),())))
theorem x_81:be_ (P:=prog) (cxC [c_140] []) .z 81 [(.list .int),.int] [.bool]=λx=>bh_ x.1 x.2.1:=by kernel_rfl
noncomputable def c_81:Con prog:=bg_ _ _ 81 [(.list .int),.int] [.bool] _ x_81
noncomputable def bm_ (a0:aa_) (a1:Int):Option (Bool×Unit) :=
 ((bp_ a1 0 (w64 (a0.1 - 1))).bind λv0 =>
 (some (v0.1,())))
theorem x_174:be_ (P:=prog) (cxC [br4] []) .z 174 [ah_,.int] [.bool]=λx=>bm_ x.1 x.2.1:=by kernel_rfl
noncomputable def c_174:Con prog:=bg_ _ _ 174 [ah_,.int] [.bool] _ x_174
noncomputable def kl_ (a0:ab_) (a1:(List Int)):Option (Bool×Unit) :=
 (cond (a0.1==1)
 ((at? a1 a0.2.1).bind λv0 =>
 (some ((v0==a0.2.2.2.1),())))
 (cond (a0.1==2)
 ((sub? a1 a0.2.1 (w64 (a0.2.2.1+1))).bind λv1 =>
 ((ae_ (ρ:=(Int×Unit)) (λ(v2:(Int×(Int×Unit))) =>
 (cond (decide (v2.2.1<(v1.length:Int)))
 ((at? v1 v2.2.1).bind λv3 =>
 (some (inl ((w64 (v2.1+v3)),((w64 (v2.2.1+1)),())))))
 (some (inr (v2.1,()))))) (0,(0,()))).bind λv4 =>
 (some ((v4.1==a0.2.2.2.1),()))))
 (cond (a0.1==3)
 ((at? a1 a0.2.1).bind λv5 =>
 ((at? a1 a0.2.2.1).bind λv6 =>
 (some ((decide (v5<v6)),()))))
 (cond (a0.1==4)
 ((at? a1 a0.2.1).bind λv7 =>
 ((at? a1 a0.2.2.1).bind λv8 =>
 (some ((v7==v8),()))))
 (cond (a0.1==5)
 ((ae_ (ρ:=(Int×Unit)) (λ(v9:(Int×(Int×Unit))) =>
 (cond (decide (v9.2.1<(a1.length:Int)))
 ((((at? a1 v9.2.1).bind λv10 =>
 (cond (v10==a0.2.2.2.1)
 (some ((w64 (v9.1+1)),()))
 (some (v9.1,()))))).bind λv11 =>
 (some (inl (v11.1,((w64 (v9.2.1+1)),())))))
 (some (inr (v9.1,()))))) (0,(0,()))).bind λv12 =>
 (some ((v12.1==a0.2.2.2.2.1),())))
 (cond (a0.1==6)
 ((gx_ a1 a0.2.2.2.2.2.1).bind λv13 =>
 (cond (v13.1==a0.2.2.2.1)
 (some ((v13.2.1==a0.2.2.2.2.1),()))
 (some (false,()))))
 ((at? a1 a0.2.1).bind λv14 =>
 ((md v14 a0.2.2.2.1).bind λv15 =>
 (some ((v15==a0.2.2.2.2.1),()))))))))))
theorem x_210:be_ (P:=prog) (cxC [c_225] []) (.p .z (.p (.p .z (.p .z (.p (.p (.q [] .z .z) .z) (.p .z (.p (.p .z (.p (.p .z (.lp [.v 5 .int,.v 35 .int] [.v 5 .int] [] 1 .z)) .z)) (.p .z (.p (.p (.q [] .z .z) .z) (.p .z (.p (.p (.q [] .z .z) .z) (.p .z (.p (.p .z (.p (.p .z (.lp [.v 8 .int,.v 77 .int] [.v 8 .int] [] 3 (.p .z (.p .z (.j0 [.v 8 .int] .z .z))))) .z)) .z))))))))))) (.p (.q [] .z .z) .z))) 210 [ai_,(.list .int)] [.bool]=λx=>kl_ x.1 x.2.1:=by kernel_rfl
noncomputable def c_210:Con prog:=bg_ _ _ 210 [ai_,(.list .int)] [.bool] _ x_210
noncomputable def ir_ (a0:ad_) (a1:(List bi_)):Option (Bool×Unit) :=
 (cond (decide ((a1.length:Int)≤8))
 ((((ae_ (ρ:=(Unit⊕(Bool×Unit))) (λ(v0:(Int×Unit)) =>
 (cond (decide (v0.1<(a1.length:Int)))
 ((at? a1 v0.1).bind λv1 =>
 ((((ch_ v1.1 0 (w64 ((a0.2.1.length:Int) - 1))).bind λv2 =>
 (cond (!v2.1)
 (some (true,()))
 ((at? a0.2.1 v1.1).bind λv3 =>
 ((ch_ v1.2.1 0 (w64 (v3.2.2.1 - 1))).bind λv4 =>
 (some ((!v4.1),()))))))).bind λv5 =>
 (cond v5.1
 (some (inr (inr ((decide (0≤v0.1)),()))))
 (some (inl ((w64 (v0.1+1)),()))))))
 (some (inr (inl ()))))) (0,())).bind λv6 =>
 (co_ v6 (λv7=>(some ((decide (0≤(-1))),())))
 (λv8=>(some v8))))).bind λv9 =>
 (some ((!v9.1),())))
 (some (false,())))
theorem x_76:be_ (P:=prog) (cxI (λk=>cond (Nat.beq k 136) (.p .z (.j0 [.v 4 .bool] .z .z)) (cond (Nat.beq k 137) (.p .z (.j0 [.v 3 .bool] (.q [] .z .z) .z)) (cond (Nat.beq k 192) (.p .z (.p (.p .z (.ls [.v 8 .int] [] [] 0 .z)) .z)) (.z)))) (λk=>Nat.beq k 77||false) (cxC [c_77] []) 4) .z 76 [ba_,(.list bz_)] [.bool]=λx=>ir_ x.1 x.2.1:=by kernel_rfl
noncomputable def c_76:Con prog:=bg_ _ _ 76 [ba_,(.list bz_)] [.bool] _ x_76
noncomputable def jg_ (a0:ac_) (a1:Int):Option (Int×Unit) :=
 ((ch_ a1 0 (w64 ((a0.2.1.length:Int) - 1))).bind λv0 =>
 (cond (!v0.1)
 (some (1,()))
 (some (0,()))))
theorem x_90:be_ (P:=prog) (cxC [c_77] []) .z 90 [au_,.int] [.int]=λx=>jg_ x.1 x.2.1:=by kernel_rfl
noncomputable def c_90:Con prog:=bg_ _ _ 90 [au_,.int] [.int] _ x_90
noncomputable def lh_ (a0:ak_) (a1:fg_):Option (Bool×Unit) :=
 ((((bo_ a1.1 0 (w64 ((a0.1.length:Int) - 1))).bind λv0 =>
 (cond (!v0.1)
 (some (true,()))
 ((bo_ a1.2.2.1 0 (w64 ((a0.1.length:Int) - 1))).bind λv1 =>
 (cond (!v1.1)
 (some (true,()))
 (cond (a1.1==a1.2.2.1)
 (some (true,()))
 ((at? a0.1 a1.1).bind λv2 =>
 ((bo_ a1.2.1 0 (w64 (v2.1 - 1))).bind λv3 =>
 (cond (!v3.1)
 (some (true,()))
 ((at? a0.1 a1.2.2.1).bind λv4 =>
 ((bo_ a1.2.2.2 0 (w64 (v4.1 - 1))).bind λv5 =>
 (some ((!v5.1),()))))))))))))).bind λv6 =>
 (cond v6.1
 (some (false,()))
 ((at? a0.2.1 a1.1).bind λv7 =>
 ((at? v7 a1.2.1).bind λv8 =>
 ((at? a0.2.1 a1.2.2.1).bind λv9 =>
 ((at? v9 a1.2.2.2).bind λv10 =>
 (some ((v8==v10),()))))))))
theorem x_68:be_ (P:=prog) (cxC [c_61] []) (.p .z (.p .z (.p (.j0 [.v 56 .bool] (.q [] .z .z) .z) (.p (.q [] .z .z) .z)))) 68 [am_,jl_] [.bool]=λx=>lh_ x.1 x.2.1:=by kernel_rfl
noncomputable def c_68:Con prog:=bg_ _ _ 68 [am_,jl_] [.bool] _ x_68
noncomputable def dh_ (a0:ak_) (a1:hj_):Option (ak_×Unit) :=
 ((push? (α:=aa_) [] a0.1).bind λv0 =>
 ((push? (α:=fg_) [] a0.2.2.2).bind λv1 =>
 ((ae_ (ρ:=(((List (List Int))×((List (List ab_))×Unit))×Unit)) (λ(v2:(Int×(((List (List Int))×((List (List ab_))×Unit))×Unit))) =>
 (cond (decide (v2.1<(a0.1.length:Int)))
 ((at? a0.2.1 v2.1).bind λv3 =>
 ((push? (α:=Int) [] v3).bind λv4 =>
 ((push? (α:=(List Int)) v2.2.1.1 ([v4]:List (List Int))).bind λv5 =>
 ((at? a0.2.2.1 v2.1).bind λv6 =>
 ((ae_ (ρ:=((List ab_)×Unit)) (λ(v7:((List ab_)×(Int×Unit))) =>
 (cond (decide (v7.2.1<(v6.length:Int)))
 ((at? v6 v7.2.1).bind λv8 =>
 ((cd_ v8).bind λv9 =>
 ((push? (α:=ab_) v7.1 [v9.1]).bind λv10 =>
 (some (inl (v10,((w64 (v7.2.1+1)),())))))))
 (some (inr (v7.1,()))))) ([],(0,()))).bind λv11 =>
 ((push? (α:=(List ab_)) v2.2.1.2.1 ([v11.1]:List (List ab_))).bind λv12 =>
 (some (inl ((w64 (v2.1+1)),((v5,(v12,())),()))))))))))
 (some (inr ((v2.2.1.1,(v2.2.1.2.1,())),()))))) (0,(([],([],())),()))).bind λv13 =>
 ((at? v13.1.2.1 a1.1).bind λv14 =>
 ((at? v13.1.2.1 a1.1).bind λv15 =>
 ((cd_ a1.2).bind λv16 =>
 ((push? (α:=ab_) v15 [v16.1]).bind λv17 =>
 ((at? v13.1.2.1 a1.1).bind λv18 =>
 (cond ((a1.1==a1.1)&&true)
 ((at? v13.1.2.1 a1.1).bind λv19 =>
 (some ((v0,(v13.1.1,((v13.1.2.1.set a1.1.toNat v17),v1))),())))
 none)))))))))
theorem x_97:be_ (P:=prog) (cxI (λk=>cond (Nat.beq k 149) (.p .z (.p .z (.p (.p .z (.lp [.v 18 .int] [] [.b (.s 3) [.keep,.row (.list .int) 38,.grid ⟨(.list ai_),ai_,[],90,40⟩,.keep]] 0 (.p .z (.p .z (.p (.p .z (.p .z (.p .z (.p (.p .z (.lp [.r 5 ai_ 40,.v 38 .int] [.r 5 ai_ 40] [] 2 .z)) .z)))) .z))))) .z))) (.z)) (λk=>Nat.beq k 36||Nat.beq k 37||Nat.beq k 39||Nat.beq k 199||false) (cxC [c_39] [cp_36,wz_,cp_199]) 2) .z 97 [am_,cm_] [am_]=λx=>dh_ x.1 x.2.1:=by kernel_rfl
noncomputable def c_97:Con prog:=bg_ _ _ 97 [am_,cm_] [am_] _ x_97
def an_99:An:=(.p .z (.p .z (.p (.p .z (.lp [.r 4 .int 3,.v 13 .int] [.r 4 .int 3] [] 0 (.p .z (.p .z (.j0 [.r 4 .int 3] .z .z))))) .z)))
noncomputable def cs_99:List (Con prog):=[]
noncomputable def cl_99:List (Cpy prog):=[]
noncomputable def cx_99:Cx prog:=cxQ [bt5] (cxC cs_99 cl_99)
noncomputable def eg_ (a0:lu_) (a1:lu_):Option (List Int) :=
 ((cc_ a1).bind λv0 =>
 ((cc_ a0).bind λv1 =>
 ((ae_ (ρ:=((List Int)×Unit)) (λ(v2:((List Int)×(Int×Unit))) =>
 (cond (decide (v2.2.1<(v1.length:Int)))
 ((((at? v1 v2.2.1).bind λv3 =>
 ((at? v1 v2.2.1).bind λv4 =>
 ((at? v0 v2.2.1).bind λv5 =>
 ((at? v0 v2.2.1).bind λv6 =>
 (cond (decide (v6<v4))
 ((push? (α:=Int) v2.1 [v2.2.1]).bind λv7 =>
 (some (v7,())))
 (some (v2.1,())))))))).bind λv8 =>
 (some (inl (v8.1,((w64 (v2.2.1+1)),())))))
 (some (inr (v2.1,()))))) ([],(0,()))).bind λv9 =>
 (some v9.1))))
theorem x_99:bq0 cx_99 an_99 99 [(.ref ft_),(.ref ft_)] 3=λx=>eg_ x.1 x.2.1:=by kernel_rfl
noncomputable def ri_99:RpI prog:=mkRpI _ _ 99 [(.ref ft_),(.ref ft_)] 3 _ x_99
noncomputable def jf_ (a0:(List Int)) (a1:(List Int)):Option (Int×Int×Unit) :=
 ((ae_ (ρ:=(Int×Unit)) (λ(v0:(Int×(Int×Unit))) =>
 (cond (decide (v0.2.1<(a0.length:Int)))
 ((((at? a0 v0.2.1).bind λv1 =>
 ((at? a1 v0.2.1).bind λv2 =>
 (cond (v1==v2)
 (some ((w64 (v0.1+1)),()))
 (some (v0.1,())))))).bind λv3 =>
 (some (inl (v3.1,((w64 (v0.2.1+1)),())))))
 (some (inr (v0.1,()))))) (0,(0,()))).bind λv4 =>
 ((ae_ (ρ:=(Int×Unit)) (λ(v5:(Int×(Int×Unit))) =>
 (cond (decide (v5.2.1<10))
 ((ev_ a0 v5.2.1).bind λv6 =>
 ((ev_ a1 v5.2.1).bind λv7 =>
 (some (inl ((w64 (v5.1+(minI v6.1 v7.1))),((w64 (v5.2.1+1)),()))))))
 (some (inr (v5.1,()))))) (0,(0,()))).bind λv8 =>
 (some (v4.1,((w64 (v8.1 - v4.1)),())))))
noncomputable def dg_ (a0:hi_) (a1:ay_):Option (Bool×Unit) :=
 ((av_ a1.1 0 (w64 ((a0.2.2.2.length:Int) - 1))).bind λv0 =>
 (cond (!v0.1)
 (some (false,()))
 ((at? a0.2.2.2 a1.1).bind λv1 =>
 (cond (a1.2.1==1)
 ((av_ a1.2.2 0 (w64 ((a0.1.2.2.2.1.length:Int) - 1))).bind λv2 =>
 (cond (!v2.1)
 (some (false,()))
 ((at? a0.1.2.2.2.1 a1.2.2).bind λv3 =>
 (cond (v3.1==v1)
 ((aw_ a0 v3.2.2).bind λv4 =>
 (some (v4.1,())))
 (cond (v3.2.1==v1)
 ((aw_ a0 v3.2.2).bind λv5 =>
 (some (v5.1,())))
 (some (false,())))))))
 (cond (a1.2.1==2)
 ((av_ a1.2.2 0 (w64 ((a0.2.2.1.length:Int) - 1))).bind λv6 =>
 (cond v6.1
 ((at? a0.2.2.1 a1.2.2).bind λv7 =>
 (cond (v7==v1)
 ((at? a0.1.2.2.1 a1.2.2).bind λv8 =>
 ((aw_ a0 v8.2.2).bind λv9 =>
 (cond v9.1
 ((ct_ a0 a1.1).bind λv10 =>
 (some ((decide (v10.1<3)),())))
 (some (false,())))))
 (some (false,()))))
 (some (false,()))))
 (cond (a1.2.1==3)
 ((av_ a1.2.2 0 (w64 ((a0.2.2.1.length:Int) - 1))).bind λv11 =>
 (cond v11.1
 ((at? a0.2.2.1 a1.2.2).bind λv12 =>
 (some ((v12==(w64 ((-2) - a1.1))),())))
 (some (false,()))))
 (cond (a1.2.1==4)
 ((av_ a1.2.2 0 (w64 ((a0.1.2.2.2.2.1.length:Int) - 1))).bind λv13 =>
 (cond (!v13.1)
 (some (false,()))
 ((at? a0.1.2.2.2.2.1 a1.2.2).bind λv14 =>
 (cond (v14.2.1==v1)
 ((((ae_ (ρ:=(Unit⊕(Bool×Unit))) (λ(v15:(Int×Unit)) =>
 (cond (decide (v15.1<(v14.2.2.2.1.length:Int)))
 ((at? v14.2.2.2.1 v15.1).bind λv16 =>
 ((at? a0.2.2.1 v16).bind λv17 =>
 (cond (!(v17==(w64 ((-2) - a1.1))))
 (some (inr (inr ((decide (0≤v15.1)),()))))
 (some (inl ((w64 (v15.1+1)),()))))))
 (some (inr (inl ()))))) (0,())).bind λv18 =>
 (co_ v18 (λv19=>(some ((decide (0≤(-1))),())))
 (λv20=>(some v20))))).bind λv21 =>
 (cond (!v21.1)
 ((aw_ a0 v14.2.2.2.2.1).bind λv22 =>
 (cond v22.1
 ((((ae_ (ρ:=(Unit⊕(Bool×Unit))) (λ(v23:(Int×Unit)) =>
 (cond (decide (v23.1<(v14.2.2.2.2.2.2.2.length:Int)))
 ((at? v14.2.2.2.2.2.2.2 v23.1).bind λv24 =>
 ((at? a0.2.2.1 v24).bind λv25 =>
 (cond (!(v25==(-1)))
 (some (inr (inr ((decide (0≤v23.1)),()))))
 (some (inl ((w64 (v23.1+1)),()))))))
 (some (inr (inl ()))))) (0,())).bind λv26 =>
 (co_ v26 (λv27=>(some ((decide (0≤(-1))),())))
 (λv28=>(some v28))))).bind λv29 =>
 (cond (!v29.1)
 ((ct_ a0 a1.1).bind λv30 =>
 (some ((decide ((w64 ((w64 (v30.1 - (v14.2.2.2.2.2.2.1.length:Int)))+(v14.2.2.2.2.2.2.2.length:Int)))≤3)),())))
 (some (false,()))))
 (some (false,()))))
 (some (false,()))))
 (some (false,()))))))
 (some (false,())))))))))
theorem x_112:be_ (P:=prog) (cxI (λk=>cond (Nat.beq k 150) (.p .z (.p (.p .z (.ls [.v 8 .int] [] [] 0 .z)) .z)) (cond (Nat.beq k 164) (.p .z (.p (.q [] .z .z) .z)) (cond (Nat.beq k 166) (.p .z (.j0 [.v 4 .bool] .z .z)) (.z)))) (λk=>Nat.beq k 121||Nat.beq k 139||Nat.beq k 168||false) (cxC [be0,br3,c_168] []) 7) (.p .z (.p (.p (.q [] .z .z) .z) (.p (.q [] .z .z) (.p .z (.p .z (.p .z (.p (.p .z (.p .z (.p (.p (.p (.q [] .z .z) .z) .z) (.p .z (.p (.p (.q [] .z .z) .z) (.p .z (.p (.p (.q [] .z .z) .z) (.p .z (.p (.p (.p (.q [] .z .z) .z) .z) .z))))))))) .z))))))) 112 [(.ref fs_),dz_] [.bool]=λx=>dg_ x.1 x.2.1:=by kernel_rfl
noncomputable def c_112:Con prog:=bg_ _ _ 112 [(.ref fs_),dz_] [.bool] _ x_112
noncomputable def iq_ (a0:ad_):Option (ad_×Unit) :=
 ((push? (α:=(List UInt8)) [] a0.1).bind λv0 =>
 ((push? (α:=fq_) [] a0.2.1).bind λv1 =>
 ((push? (α:=hz_) [] a0.2.2.1).bind λv2 =>
 ((push? (α:=lv_) [] a0.2.2.2.1).bind λv3 =>
 ((push? (α:=dk_) [] a0.2.2.2.2.1).bind λv4 =>
 ((push? (α:=my_) [] a0.2.2.2.2.2.1).bind λv5 =>
 ((bx_ a0.2.2.2.2.2.2.2).bind λv6 =>
 ((ae_ (ρ:=((List hz_)×Unit)) (λ(v7:(Int×((List hz_)×Unit))) =>
 (cond (decide (v7.1<(v7.2.1.length:Int)))
 ((at? v7.2.1 v7.1).bind λv8 =>
 ((at? v7.2.1 v7.1).bind λv9 =>
 ((bx_ v9.2.2).bind λv10 =>
 ((at? v7.2.1 v7.1).bind λv11 =>
 ((at? v7.2.1 v7.1).bind λv12 =>
 (some (inl ((w64 (v7.1+1)),((v7.2.1.set v7.1.toNat (v12.1,(v12.2.1,v10.1))),())))))))))
 (some (inr (v7.2.1,()))))) (0,(v2,()))).bind λv13 =>
 ((ae_ (ρ:=((List lv_)×Unit)) (λ(v14:(Int×((List lv_)×Unit))) =>
 (cond (decide (v14.1<(v14.2.1.length:Int)))
 ((at? v14.2.1 v14.1).bind λv15 =>
 ((at? v14.2.1 v14.1).bind λv16 =>
 ((bx_ v16.2.2).bind λv17 =>
 ((at? v14.2.1 v14.1).bind λv18 =>
 ((at? v14.2.1 v14.1).bind λv19 =>
 (some (inl ((w64 (v14.1+1)),((v14.2.1.set v14.1.toNat (v19.1,(v19.2.1,v17.1))),())))))))))
 (some (inr (v14.2.1,()))))) (0,(v3,()))).bind λv20 =>
 ((ae_ (ρ:=((List dk_)×Unit)) (λ(v21:(Int×((List dk_)×Unit))) =>
 (cond (decide (v21.1<(v21.2.1.length:Int)))
 ((at? v21.2.1 v21.1).bind λv22 =>
 ((at? v21.2.1 v21.1).bind λv23 =>
 ((cz_ v23.2.2.2.1).bind λv24 =>
 ((cz_ v23.2.2.2.2.2.2.1).bind λv25 =>
 ((cz_ v23.2.2.2.2.2.2.2).bind λv26 =>
 ((bx_ v23.2.2.2.2.1).bind λv27 =>
 ((push? (α:=aa_) [] v23.2.2.2.2.2.1).bind λv28 =>
 ((at? v21.2.1 v21.1).bind λv29 =>
 ((at? v21.2.1 v21.1).bind λv30 =>
 (some (inl ((w64 (v21.1+1)),((v21.2.1.set v21.1.toNat (v23.1,(v23.2.1,(v23.2.2.1,(v24.1,(v27.1,(v28,(v25.1,v26.1)))))))),())))))))))))))
 (some (inr (v21.2.1,()))))) (0,(v4,()))).bind λv31 =>
 ((ae_ (ρ:=((List my_)×Unit)) (λ(v32:(Int×((List my_)×Unit))) =>
 (cond (decide (v32.1<(v32.2.1.length:Int)))
 ((at? v32.2.1 v32.1).bind λv33 =>
 ((at? v32.2.1 v32.1).bind λv34 =>
 ((bx_ v34.1).bind λv35 =>
 ((at? v32.2.1 v32.1).bind λv36 =>
 ((at? v32.2.1 v32.1).bind λv37 =>
 (some (inl ((w64 (v32.1+1)),((v32.2.1.set v32.1.toNat (v35.1,v37.2)),())))))))))
 (some (inr (v32.2.1,()))))) (0,(v5,()))).bind λv38 =>
 (some ((v0,(v1,(v13.1,(v20.1,(v31.1,(v38.1,(a0.2.2.2.2.2.2.1,v6.1))))))),())))))))))))))
theorem x_27:be_ (P:=prog) (cxC [c_71,c_72] []) (.p .z (.p .z (.p (.p .z (.lp [.v 4 .int] [] [.o (.s 20) me_] 0 .z)) (.p (.p .z (.lp [.v 5 .int] [] [.o (.s 24) xu_] 2 .z)) (.p (.p .z (.lp [.v 6 .int] [] [.o (.s 28) jm_] 4 .z)) (.p (.p .z (.lp [.v 8 .int] [] [.o (.s 32) ty_] 6 .z)) .z)))))) 27 [ba_] [ba_]=λx=>iq_ x.1:=by kernel_rfl
noncomputable def c_27:Con prog:=bg_ _ _ 27 [ba_] [ba_] _ x_27
noncomputable def bv_ (a0:ag_):Option (ag_×Unit) :=
 ((eu_ a0.1).bind λv0 =>
 ((push? (α:=Bool) [] a0.2).bind λv1 =>
 (some ((v0.1,v1),()))))
theorem x_12:be_ (P:=prog) (cxC [c_40] []) .z 12 [an_] [an_]=λx=>bv_ x.1:=by kernel_rfl
noncomputable def c_12:Con prog:=bg_ _ _ 12 [an_] [an_] _ x_12
end
section
set_option maxRecDepth 100000
set_option maxHeartbeats 0
noncomputable def cu_ (a0:aa_) (a1:(List Int)):Option (Bool×Unit) :=
 (cond ((a1.length:Int)==a0.1)
 ((((ae_ (ρ:=(Unit⊕(Bool×Unit))) (λ(v0:(Int×Unit)) =>
 (cond (decide (v0.1<(a1.length:Int)))
 ((at? a1 v0.1).bind λv1 =>
 ((ce_ a0 v1).bind λv2 =>
 (cond (!v2.1)
 (some (inr (inr ((decide (0≤v0.1)),()))))
 (some (inl ((w64 (v0.1+1)),()))))))
 (some (inr (inl ()))))) (0,())).bind λv3 =>
 (co_ v3 (λv4=>(some ((decide (0≤(-1))),())))
 (λv5=>(some v5))))).bind λv6 =>
 (some ((!v6.1),())))
 (some (false,())))
theorem x_171:be_ (P:=prog) (cxI (λk=>cond (Nat.beq k 150) (.p .z (.p (.p .z (.ls [.v 8 .int] [] [] 0 .z)) .z)) (cond (Nat.beq k 166) (.p .z (.j0 [.v 4 .bool] .z .z)) (.z))) (λk=>Nat.beq k 175||false) (cxC [c_175] []) 4) .z 171 [ah_,(.list .int)] [.bool]=λx=>cu_ x.1 x.2.1:=by kernel_rfl
noncomputable def c_171:Con prog:=bg_ _ _ 171 [ah_,(.list .int)] [.bool] _ x_171
noncomputable def el_ (a0:(List UInt8)):Option (Bool×Unit) :=
 ((ae_ (ρ:=(Unit⊕(Bool×Unit))) (λ(v0:(Int×Unit)) =>
 (cond (decide (v0.1<(a0.length:Int)))
 ((((at? a0 v0.1).bind λv1 =>
 (cond (decide (((UInt8.toNat v1):Int)<97))
 (some (true,()))
 ((at? a0 v0.1).bind λv2 =>
 (some ((decide (122<((UInt8.toNat v2):Int))),())))))).bind λv3 =>
 (cond v3.1
 (some (inr (inr (false,()))))
 (some (inl ((w64 (v0.1+1)),())))))
 (some (inr (inl ()))))) (0,())).bind λv4 =>
 (co_ v4 (λv5=>(cond (!(a0==[]))
 ((ck_ ([[97,116],[115,116,97,116,101,115],[115,116,97,114,116],[103,111,110,101],[105,102],[108,111,99,107],[119,105,116,104],[115,101,116,115],[115,112,101,110,100,115],[98,114,105,110,103,115]]:List (List UInt8)) a0).bind λv7 =>
 (some ((!v7.1),())))
 (some (false,()))))
 (λv6=>(some v6))))
theorem x_179:be_ (P:=prog) (cxC [c_213] []) (.p .z (.p (.p .z (.ls [.v 6 .int] [] [] 0 (.p .z (.p .z (.p (.p .z (.j0 [.v 18 .bool] .z .z)) .z))))) .z)) 179 [.str] [.bool]=λx=>el_ x.1:=by kernel_rfl
noncomputable def c_179:Con prog:=bg_ _ _ 179 [.str] [.bool] _ x_179
noncomputable def df_ (a0:ad_) (a1:(List bi_)):Option (Bool×Unit) :=
 (cond (decide ((a1.length:Int)≤8))
 ((((ae_ (ρ:=(Unit⊕(Bool×Unit))) (λ(v0:(Int×Unit)) =>
 (cond (decide (v0.1<(a1.length:Int)))
 ((at? a1 v0.1).bind λv1 =>
 ((em_ a0 v1.1 v1.2.1).bind λv2 =>
 (cond (!v2.1)
 (some (inr (inr ((decide (0≤v0.1)),()))))
 (some (inl ((w64 (v0.1+1)),()))))))
 (some (inr (inl ()))))) (0,())).bind λv3 =>
 (co_ v3 (λv4=>(some ((decide (0≤(-1))),())))
 (λv5=>(some v5))))).bind λv6 =>
 (some ((!v6.1),())))
 (some (false,())))
theorem x_128:be_ (P:=prog) (cxI (λk=>cond (Nat.beq k 136) (.p .z (.j0 [.v 4 .bool] .z .z)) (cond (Nat.beq k 192) (.p .z (.p (.p .z (.ls [.v 8 .int] [] [] 0 .z)) .z)) (.z))) (λk=>Nat.beq k 130||false) (cxC [br5] []) 4) .z 128 [ba_,(.list bz_)] [.bool]=λx=>df_ x.1 x.2.1:=by kernel_rfl
noncomputable def c_128:Con prog:=bg_ _ _ 128 [ba_,(.list bz_)] [.bool] _ x_128
noncomputable def ex_ (a0:ab_) (a1:(List Int)):Option (Bool×Unit) :=
 ((kl_ a0 a1).bind λv0 =>
 (some ((v0.1 != a0.2.2.2.2.2.2),())))
theorem x_173:be_ (P:=prog) (cxC [c_210] []) (.p .z (.p (.q [] .z .z) .z)) 173 [ai_,(.list .int)] [.bool]=λx=>ex_ x.1 x.2.1:=by kernel_rfl
noncomputable def c_173:Con prog:=bg_ _ _ 173 [ai_,(.list .int)] [.bool] _ x_173
noncomputable def qj_ (a0:ab_) (a1:(List Int)):Option (Bool×Unit) :=
 (((cond (a0.1==1)
 ((at? a1 a0.2.1).bind λv0 =>
 (some ((v0==a0.2.2.2.1),())))
 (cond (a0.1==2)
 ((ae_ (ρ:=(Int×Unit)) (λ(v1:(Int×(Int×Unit))) =>
 (cond (decide (v1.2.1≤a0.2.2.1))
 ((at? a1 v1.2.1).bind λv2 =>
 (some (inl ((w64 (v1.1+v2)),((w64 (v1.2.1+1)),())))))
 (some (inr (v1.1,()))))) (0,(a0.2.1,()))).bind λv3 =>
 (some ((v3.1==a0.2.2.2.1),())))
 (cond (a0.1==3)
 ((at? a1 a0.2.1).bind λv4 =>
 ((at? a1 a0.2.2.1).bind λv5 =>
 (some ((decide (v4<v5)),()))))
 (cond (a0.1==4)
 ((at? a1 a0.2.1).bind λv6 =>
 ((at? a1 a0.2.2.1).bind λv7 =>
 (some ((v6==v7),()))))
 (cond (a0.1==5)
 ((ev_ a1 a0.2.2.2.1).bind λv8 =>
 (some ((v8.1==a0.2.2.2.2.1),())))
 (cond (a0.1==6)
 ((jf_ a1 a0.2.2.2.2.2.1).bind λv9 =>
 (cond (v9.1==a0.2.2.2.1)
 (some ((v9.2.1==a0.2.2.2.2.1),()))
 (some (false,()))))
 (cond (a0.1==7)
 ((at? a1 a0.2.1).bind λv10 =>
 ((md v10 a0.2.2.2.1).bind λv11 =>
 (some ((v11==a0.2.2.2.2.1),()))))
 (some (false,())))))))))).bind λv12 =>
 (some ((v12.1 != a0.2.2.2.2.2.2),())))
noncomputable def ip_ (a0:ac_):Option (ac_×Unit) :=
 ((iq_ a0.1).bind λv0 =>
 ((push? (α:=aa_) [] a0.2.1).bind λv1 =>
 ((push? (α:=bw_) [] a0.2.2.2.1).bind λv2 =>
 ((ae_ (ρ:=(((List (List Int))×Unit)×Unit)) (λ(v3:(Int×(((List (List Int))×Unit)×Unit))) =>
 (cond (decide (v3.1<(a0.2.2.1.length:Int)))
 ((at? a0.2.2.1 v3.1).bind λv4 =>
 ((push? (α:=Int) [] v4).bind λv5 =>
 ((push? (α:=(List Int)) v3.2.1.1 ([v5]:List (List Int))).bind λv6 =>
 (some (inl ((w64 (v3.1+1)),((v6,()),())))))))
 (some (inr ((v3.2.1.1,()),()))))) (0,(([],()),()))).bind λv7 =>
 ((ae_ (ρ:=((List bw_)×Unit)) (λ(v8:(Int×((List bw_)×Unit))) =>
 (cond (decide (v8.1<(v8.2.1.length:Int)))
 ((at? v8.2.1 v8.1).bind λv9 =>
 ((at? v8.2.1 v8.1).bind λv10 =>
 ((push? (α:=bi_) [] v10.2.2.2.1).bind λv11 =>
 ((at? v8.2.1 v8.1).bind λv12 =>
 ((at? v8.2.1 v8.1).bind λv13 =>
 ((at? (v8.2.1.set v8.1.toNat (v13.1,(v13.2.1,(v13.2.2.1,(v11,v13.2.2.2.2))))) v8.1).bind λv14 =>
 ((at? (v8.2.1.set v8.1.toNat (v13.1,(v13.2.1,(v13.2.2.1,(v11,v13.2.2.2.2))))) v8.1).bind λv15 =>
 ((fi_ v15.2.2.2.2).bind λv16 =>
 ((at? (v8.2.1.set v8.1.toNat (v13.1,(v13.2.1,(v13.2.2.1,(v11,v13.2.2.2.2))))) v8.1).bind λv17 =>
 ((at? (v8.2.1.set v8.1.toNat (v13.1,(v13.2.1,(v13.2.2.1,(v11,v13.2.2.2.2))))) v8.1).bind λv18 =>
 (some (inl ((w64 (v8.1+1)),(((v8.2.1.set v8.1.toNat (v13.1,(v13.2.1,(v13.2.2.1,(v11,v13.2.2.2.2))))).set v8.1.toNat (v18.1,(v18.2.1,(v18.2.2.1,(v18.2.2.2.1,v16.1))))),()))))))))))))))
 (some (inr (v8.2.1,()))))) (0,(v2,()))).bind λv19 =>
 (some ((v0.1,(v1,(v7.1.1,(v19.1,a0.2.2.2.2)))),())))))))
theorem x_8:be_ (P:=prog) (cxC [c_27,c_28] []) (.p .z (.p .z (.p (.p .z (.lp [.v 4 .int] [] [.b (.s 3) [.keep,.keep,.keep,.keep,.keep,.keep,.keep,.keep,.keep,.row (.list .int) 38,.keep,.keep]] 0 .z)) (.p (.p .z (.lp [.v 5 .int] [] [.o (.s 16) mf_] 2 .z)) .z)))) 8 [au_] [au_]=λx=>ip_ x.1:=by kernel_rfl
noncomputable def c_8:Con prog:=bg_ _ _ 8 [au_] [au_] _ x_8
end
section
set_option maxRecDepth 100000
set_option maxHeartbeats 0
noncomputable def gh_ (a0:aa_) (a1:(List (List Int))):Option (Int×Unit) :=
 ((dv_ a0).bind λv0 =>
 (cond (v0.1 != 0)
 (some (v0.1,()))
 ((((ae_ (ρ:=(Unit⊕(Bool×Unit))) (λ(v1:(Int×Unit)) =>
 (cond (decide (v1.1<(a1.length:Int)))
 ((at? a1 v1.1).bind λv2 =>
 ((cu_ a0 v2).bind λv3 =>
 (cond (!v3.1)
 (some (inr (inr ((decide (0≤v1.1)),()))))
 (some (inl ((w64 (v1.1+1)),()))))))
 (some (inr (inl ()))))) (0,())).bind λv4 =>
 (co_ v4 (λv5=>(some ((decide (0≤(-1))),())))
 (λv6=>(some v6))))).bind λv7 =>
 (cond v7.1
 (some (12,()))
 (some (0,()))))))
theorem x_113:be_ (P:=prog) (cxI (λk=>cond (Nat.beq k 169) (.p .z (.j0 [.v 4 .bool] .z .z)) (cond (Nat.beq k 208) (.p .z (.p (.p .z (.ls [.v 8 .int] [] [] 0 .z)) .z)) (.z))) (λk=>Nat.beq k 74||Nat.beq k 171||false) (cxC [c_74,c_171] []) 4) .z 113 [ah_,(.list (.list .int))] [.int]=λx=>gh_ x.1 x.2.1:=by kernel_rfl
noncomputable def c_113:Con prog:=bg_ _ _ 113 [ah_,(.list (.list .int))] [.int] _ x_113
noncomputable def mu_ (a0:ad_) (a1:Int) (a2:dk_):Option (Bool×Unit) :=
 ((((sub? a0.2.2.2.2.1 0 a1).bind λv0 =>
 ((((el_ a2.1).bind λv1 =>
 (cond v1.1
 (cond (decide ((a2.1.length:Int)≤12))
 ((((ae_ (ρ:=(Unit⊕(Int×Unit))) (λ(v2:(Int×Unit)) =>
 (cond (decide (v2.1<(v0.length:Int)))
 ((at? v0 v2.1).bind λv3 =>
 (cond (v3.1==a2.1)
 (some (inr (inr (v2.1,()))))
 (some (inl ((w64 (v2.1+1)),())))))
 (some (inr (inl ()))))) (0,())).bind λv4 =>
 (co_ v4 (λv5=>(some ((-1),())))
 (λv6=>(some v6))))).bind λv7 =>
 (some ((decide (v7.1<0)),())))
 (some (false,())))
 (some (false,()))))).bind λv8 =>
 (cond (!v8.1)
 (some (true,()))
 ((av_ a2.2.1 0 (w64 ((a0.1.length:Int) - 1))).bind λv9 =>
 (cond (!v9.1)
 (some (true,()))
 ((av_ a2.2.2.1 (-1) 7).bind λv10 =>
 (some ((!v10.1),()))))))))).bind λv11 =>
 (cond v11.1
 (some (false,()))
 ((((fu_ a0 a2.2.2.2.1).bind λv12 =>
 (cond (!v12.1)
 (some (true,()))
 ((fu_ a0 a2.2.2.2.2.2.2.1).bind λv13 =>
 (cond (!v13.1)
 (some (true,()))
 ((fu_ a0 a2.2.2.2.2.2.2.2).bind λv14 =>
 (cond (!v14.1)
 (some (true,()))
 (some ((decide (6<(a2.2.2.2.2.2.1.length:Int))),()))))))))).bind λv15 =>
 (cond v15.1
 (some (false,()))
 ((((((ae_ (ρ:=(Unit⊕(Bool×Unit))) (λ(v16:(Int×Unit)) =>
 (cond (decide (v16.1<(a2.2.2.2.2.2.2.1.length:Int)))
 ((at? a2.2.2.2.2.2.2.1 v16.1).bind λv17 =>
 ((bh_ a2.2.2.2.1 v17).bind λv18 =>
 (cond (!v18.1)
 (some (inr (inr ((decide (0≤v16.1)),()))))
 (some (inl ((w64 (v16.1+1)),()))))))
 (some (inr (inl ()))))) (0,())).bind λv19 =>
 (co_ v19 (λv20=>(some ((decide (0≤(-1))),())))
 (λv21=>(some v21))))).bind λv22 =>
 (cond v22.1
 (some (true,()))
 ((((ae_ (ρ:=(Unit⊕(Bool×Unit))) (λ(v23:(Int×Unit)) =>
 (cond (decide (v23.1<(a2.2.2.2.2.2.2.2.length:Int)))
 ((at? a2.2.2.2.2.2.2.2 v23.1).bind λv24 =>
 ((bh_ a2.2.2.2.1 v24).bind λv25 =>
 (cond v25.1
 (some (inr (inr ((decide (0≤v23.1)),()))))
 (some (inl ((w64 (v23.1+1)),()))))))
 (some (inr (inl ()))))) (0,())).bind λv26 =>
 (co_ v26 (λv27=>(some ((decide (0≤(-1))),())))
 (λv28=>(some v28))))).bind λv29 =>
 (some (v29.1,())))))).bind λv30 =>
 (cond v30.1
 (some (false,()))
 ((ae_ (ρ:=(Unit⊕(Bool×Unit))) (λ(v31:(Int×Unit)) =>
 (cond (decide (v31.1<(a2.2.2.2.2.2.1.length:Int)))
 ((at? a2.2.2.2.2.2.1 v31.1).bind λv32 =>
 ((sub? a2.2.2.2.2.2.1 0 v31.1).bind λv33 =>
 ((((ae_ (ρ:=(Unit⊕(Bool×Unit))) (λ(v34:(Int×Unit)) =>
 (cond (decide (v34.1<(v33.length:Int)))
 ((at? v33 v34.1).bind λv35 =>
 (cond (v35.1==v32.1)
 (some (inr (inr ((decide (0≤v34.1)),()))))
 (some (inl ((w64 (v34.1+1)),())))))
 (some (inr (inl ()))))) (0,())).bind λv36 =>
 (co_ v36 (λv37=>(some ((decide (0≤(-1))),())))
 (λv38=>(some v38))))).bind λv39 =>
 ((((em_ a0 v32.1 v32.2).bind λv40 =>
 (cond (!v40.1)
 (some (true,()))
 (some (v39.1,()))))).bind λv41 =>
 (cond v41.1
 (some (inr (inr (false,()))))
 (some (inl ((w64 (v31.1+1)),()))))))))
 (some (inr (inl ()))))) (0,())).bind λv42 =>
 (co_ v42 (λv43=>(some (true,())))
 (λv44=>(some v44))))))))))
theorem x_129:be_ (P:=prog) (cxI (λk=>cond (Nat.beq k 150) (.p .z (.p (.p .z (.ls [.v 8 .int] [] [] 0 .z)) .z)) (cond (Nat.beq k 166) (.p .z (.j0 [.v 4 .bool] .z .z)) (cond (Nat.beq k 184) (.p .z (.j0 [.v 6 .bool] .z .z)) (cond (Nat.beq k 189) (.p .z (.j0 [.v 4 .bool] .z .z)) (cond (Nat.beq k 220) (.p .z (.j0 [.v 6 .int] .z .z)) (cond (Nat.beq k 221) (.p .z (.p (.p .z (.ls [.v 8 .int] [] [] 0 .z)) .z)) (cond (Nat.beq k 227) (.p .z (.p (.p .z (.ls [.v 8 .int] [] [] 0 .z)) .z)) (cond (Nat.beq k 228) (.p .z (.p (.q [] .z .z) .z)) (.z))))))))) (λk=>Nat.beq k 81||Nat.beq k 121||Nat.beq k 130||Nat.beq k 179||Nat.beq k 185||Nat.beq k 186||false) (cxC [c_81,be0,br5,c_179,c_185,c_186] []) 12) (.p .z (.p (.j0 [.v 35 .bool] (.q [] .z .z) .z) (.p (.j0 [.v 60 .bool] .z .z) (.p .z (.p .z (.p (.j0 [.v 72 .bool] .z .z) (.p (.p .z (.ls [.v 76 .int] [] [] 0 (.p .z (.p .z (.p (.p .z (.p .z (.j0 [.v 96 .bool] .z .z))) .z))))) .z))))))) 129 [ba_,.int,jm_] [.bool]=λx=>mu_ x.1 x.2.1 x.2.2.1:=by kernel_rfl
noncomputable def c_129:Con prog:=bg_ _ _ 129 [ba_,.int,jm_] [.bool] _ x_129
noncomputable def cv_ (a0:aa_) (a1:ab_):Option (Bool×Unit) :=
 (((cond (a1.1==1)
 ((bm_ a0 a1.2.1).bind λv0 =>
 (cond v0.1
 ((ce_ a0 a1.2.2.2.1).bind λv1 =>
 (some (v1.1,((a1.2.1,(0,(a1.2.2.2.1,(0,([],()))))),()))))
 (some (false,((a1.2.1,(0,(a1.2.2.2.1,(0,([],()))))),())))))
 (cond (a1.1==2)
 ((bm_ a0 a1.2.1).bind λv2 =>
 (cond v2.1
 ((bm_ a0 a1.2.2.1).bind λv3 =>
 (cond v3.1
 (cond (decide (a1.2.1≤a1.2.2.1))
 ((bp_ a1.2.2.2.1 0 100).bind λv4 =>
 (some (v4.1,((a1.2.1,(a1.2.2.1,(a1.2.2.2.1,(0,([],()))))),()))))
 (some (false,((a1.2.1,(a1.2.2.1,(a1.2.2.2.1,(0,([],()))))),()))))
 (some (false,((a1.2.1,(a1.2.2.1,(a1.2.2.2.1,(0,([],()))))),())))))
 (some (false,((a1.2.1,(a1.2.2.1,(a1.2.2.2.1,(0,([],()))))),())))))
 (((cond (a1.1==3)
 (some ((a1.1==3),()))
 (some ((a1.1==4),())))).bind λv5 =>
 (cond v5.1
 ((bm_ a0 a1.2.1).bind λv6 =>
 (cond v6.1
 ((bm_ a0 a1.2.2.1).bind λv7 =>
 (cond v7.1
 (some ((a1.2.1 != a1.2.2.1),((a1.2.1,(a1.2.2.1,(0,(0,([],()))))),())))
 (some (false,((a1.2.1,(a1.2.2.1,(0,(0,([],()))))),())))))
 (some (false,((a1.2.1,(a1.2.2.1,(0,(0,([],()))))),())))))
 (cond (a1.1==5)
 ((ce_ a0 a1.2.2.2.1).bind λv8 =>
 (cond v8.1
 ((bp_ a1.2.2.2.2.1 0 a0.1).bind λv9 =>
 (some (v9.1,((0,(0,(a1.2.2.2.1,(a1.2.2.2.2.1,([],()))))),()))))
 (some (false,((0,(0,(a1.2.2.2.1,(a1.2.2.2.2.1,([],()))))),())))))
 (cond (a1.1==6)
 ((bp_ a1.2.2.2.1 0 a0.1).bind λv10 =>
 (cond v10.1
 ((bp_ a1.2.2.2.2.1 0 a0.1).bind λv11 =>
 (cond v11.1
 ((cu_ a0 a1.2.2.2.2.2.1).bind λv12 =>
 (some (v12.1,((0,(0,(a1.2.2.2.1,(a1.2.2.2.2.1,(a1.2.2.2.2.2.1,()))))),()))))
 (some (false,((0,(0,(a1.2.2.2.1,(a1.2.2.2.2.1,(a1.2.2.2.2.2.1,()))))),())))))
 (some (false,((0,(0,(a1.2.2.2.1,(a1.2.2.2.2.1,(a1.2.2.2.2.2.1,()))))),())))))
 (cond (a1.1==7)
 ((bm_ a0 a1.2.1).bind λv13 =>
 (cond v13.1
 ((bp_ a1.2.2.2.1 2 10).bind λv14 =>
 (cond v14.1
 ((bp_ a1.2.2.2.2.1 0 (w64 (a1.2.2.2.1 - 1))).bind λv15 =>
 (some (v15.1,((a1.2.1,(0,(a1.2.2.2.1,(a1.2.2.2.2.1,([],()))))),()))))
 (some (false,((a1.2.1,(0,(a1.2.2.2.1,(a1.2.2.2.2.1,([],()))))),())))))
 (some (false,((a1.2.1,(0,(a1.2.2.2.1,(a1.2.2.2.2.1,([],()))))),())))))
 (some (false,((0,(0,(0,(0,([],()))))),()))))))))))).bind λv16 =>
 (cond v16.1
 (cond (a1.2.1==v16.2.1.1)
 (cond (a1.2.2.1==v16.2.1.2.1)
 (cond (a1.2.2.2.1==v16.2.1.2.2.1)
 (cond (a1.2.2.2.2.1==v16.2.1.2.2.2.1)
 (some (((a1.2.2.2.2.2.1.length:Int)==(v16.2.1.2.2.2.2.1.length:Int)),()))
 (some (false,())))
 (some (false,())))
 (some (false,())))
 (some (false,())))
 (some (false,()))))
theorem x_118:be_ (P:=prog) (cxC [br4,c_171,c_174,c_175] []) (.p .z (.p .z (.p .z (.j0 [.v 6 .bool,.b (.s 5) [.keep,.val .int,.val .int,.val .int,.val .int,.val (.list .int),.keep]] (.p .z (.p .z (.p .z (.p .z (.p .z (.j0 [.v 65 .bool] .z .z)))))) .z)))) 118 [ah_,ai_] [.bool]=λx=>cv_ x.1 x.2.1:=by kernel_rfl
noncomputable def c_118:Con prog:=bg_ _ _ 118 [ah_,ai_] [.bool] _ x_118
noncomputable def du_ (a0:(List ab_)) (a1:(List Int)):Option (Int×Unit) :=
 ((ae_ (ρ:=(Unit⊕(Int×Unit))) (λ(v0:(Int×Unit)) =>
 (cond (decide (v0.1<(a0.length:Int)))
 ((at? a0 v0.1).bind λv1 =>
 ((ex_ v1 a1).bind λv2 =>
 (cond (!v2.1)
 (some (inr (inr (v0.1,()))))
 (some (inl ((w64 (v0.1+1)),()))))))
 (some (inr (inl ()))))) (0,())).bind λv3 =>
 (co_ v3 (λv4=>(some ((-1),())))
 (λv5=>(some v5))))
theorem x_178:be_ (P:=prog) (cxI (λk=>cond (Nat.beq k 114) (.p .z (.p (.p .z (.ls [.v 8 .int] [] [] 0 .z)) .z)) (.z)) (λk=>Nat.beq k 173||false) (cxC [c_173] []) 3) .z 178 [(.list ai_),(.list .int)] [.int]=λx=>du_ x.1 x.2.1:=by kernel_rfl
noncomputable def c_178:Con prog:=bg_ _ _ 178 [(.list ai_),(.list .int)] [.int] _ x_178
end
end Go.Proofs.YtlbfbdbagohinaaGreatDoor.Rx
namespace Go.Proofs.YtlbfbdbagohinaaGreatDoor.Rx
open Go Pad Rex Sum
section
def wi (a b c:Int):Bool:=decide (b≤a)&&decide (a≤c)
theorem cl_ {a b c:Int}:wi a b c=true↔b≤a∧a≤c:=by simp[wi]
theorem bh9 (a b c:Int):(cond (decide (b≤a)) (some ((decide (a≤c)),())) (some (false,())))=some (wi a b c,()):=by
 unfold wi
 cases decide (b≤a)<;>rfl
theorem dl_ (a b c:Int):av_ a b c=some (wi a b c,()):=bh9 a b c
theorem id_ (a b c:Int):ch_ a b c=some (wi a b c,()):=bh9 a b c
theorem jc_ {α:Type} [BEq α] [LawfulBEq α] (l:List α) (x:α):l.any (x == ·)=l.contains x:=by
 induction l with
 | nil=>rfl
 | cons y l ih=>simp[List.contains_cons,ih]
theorem bg4 {l:List Int} {x:Int} (hl:Sm l.length):∃ i:Int,ee_ l x=some (i,())∧decide (0≤i)=l.contains x:=by
  unfold ee_
  have h1:=lc_ l (λi y=>cond (x==y) (some (inr ((i:Int),()):Unit⊕(Int×Unit))) none) (λi=>((i:Int),())) (r0:=inl ())
    (body:=λ(v0:(Int×Unit)) =>
     (cond (decide (v0.1<(l.length:Int)))
     ((at? l v0.1).bind λv1 =>
     (cond (x==v1)
     (some (inr (inr (v0.1,()))))
     (some (inl ((w64 (v0.1+1)),())))))
     (some (inr (inl ())))))
    (λi y hy=>by
      have hi:=al_ hy
      simp only[dlt hi,a5_,af_ hy,a0_,bn_ (show Sm i by omega)]
      cases x==y<;>rfl)
    (by simp only[dnl,a4_])
  rcases vq_ (q:=λy=>x==y) (f:=λi=>(inr ((i:Int),()):Unit⊕(Int×Unit))) l 0 with ⟨h2,h3⟩ | ⟨i,h2,h3⟩
  · refine⟨-1,e2_ (congrArg (λo=>Option.bind o _) h1) ?_,by rw[← jc_,h3];rfl⟩
    rw[h2];rfl
  · refine⟨i,e2_ (congrArg (λo=>Option.bind o _) h1) ?_,by rw[← jc_,h3];exact b7_ (by omega)⟩
    rw[h2];rfl
theorem lw_ {l:List Int} {x:Int} (hl:Sm l.length):bh_ l x=some (l.contains x,()):=by
 obtain⟨i,h1,h2⟩:=bg4 (x:=x) hl
 unfold bh_
 rw[h1,a0_,h2]
theorem zt_ {l:List (List UInt8)} {x:List UInt8} (hl:Sm l.length):∃ i:Int,de_ l x=some (i,())∧decide (0≤i)=l.contains x:=by
 unfold de_
 rcases vq_ (q:=λy=>x==y) (f:=λi=>(inr ((i:Int),()):Unit⊕(Int×Unit))) l 0 with ⟨h2,h3⟩ | ⟨i,h2,h3⟩
 ·refine⟨-1,hh_ l (λi y=>cond (x==y) (some (inr ((i:Int),()):Unit⊕(Int×Unit))) none) (λi=>((i:Int),())) (r0:=inl ()) (λi y hy => ?_) ?_ ?_,by rw[← jc_,h3];rfl⟩
  ·have hi:=al_ hy
   simp only[dlt hi,a5_,af_ hy,a0_,bn_ (show Sm i by omega)]
   cases x==y<;>rfl
  ·simp only[dnl,a4_]
  ·rw[h2];rfl
 ·refine⟨i,hh_ l (λi y=>cond (x==y) (some (inr ((i:Int),()):Unit⊕(Int×Unit))) none) (λi=>((i:Int),())) (r0:=inl ()) (λi y hy => ?_) ?_ ?_,by rw[← jc_,h3];exact b7_ (by omega)⟩
  ·have hi:=al_ hy
   simp only[dlt hi,a5_,af_ hy,a0_,bn_ (show Sm i by omega)]
   cases x==y<;>rfl
  ·simp only[dnl,a4_]
  ·rw[h2];rfl
theorem tk_ {l:List (List UInt8)} {x:List UInt8} (hl:Sm l.length):ck_ l x=some (l.contains x,()):=by
 obtain⟨i,h1,h2⟩:=zt_ (x:=x) hl
 unfold ck_
 rw[h1,a0_,h2]
def wh_ (c:UInt8):Bool:=decide (97≤(c.toNat:Int))&&decide ((c.toNat:Int)≤122)
def okW (t:List UInt8):Bool:=t.all wh_&&(!(t==[])&&!(reserved.contains t))
def okN (t:List UInt8):Bool:=decide ((t.length:Int)≤12)&&okW t
theorem bn8 (c:UInt8):(cond (decide (((UInt8.toNat c):Int)<97)) (some (true,())) (some ((decide (122<((UInt8.toNat c):Int))),())))=some (!(wh_ c),()):=by
 unfold wh_
 by_cases h1:((UInt8.toNat c):Int)<97
 ·rw[b7_ h1,c3_ (by omega:¬ (97:Int)≤(c.toNat:Int))];rfl
 ·rw[c3_ h1,b7_ (by omega:(97:Int)≤(c.toNat:Int))]
  by_cases h2:122<((UInt8.toNat c):Int)
  ·rw[b7_ h2,c3_ (by omega:¬ ((UInt8.toNat c):Int)≤122)];rfl
  ·rw[c3_ h2,b7_ (by omega:((UInt8.toNat c):Int)≤122)];rfl
theorem qg_ {t:List UInt8} (hl:Sm t.length):ae_ (ρ:=(Unit⊕(Bool×Unit))) (λ(v0:(Int×Unit)) =>
 (cond (decide (v0.1<(t.length:Int)))
 ((((at? t v0.1).bind λv1 =>
 (cond (decide (((UInt8.toNat v1):Int)<97))
 (some (true,()))
 ((at? t v0.1).bind λv2 =>
 (some ((decide (122<((UInt8.toNat v2):Int))),())))))).bind λv3 =>
 (cond v3.1
 (some (inr (inr (false,()))))
 (some (inl ((w64 (v0.1+1)),())))))
 (some (inr (inl ()))))) (0,())=some (cond (t.all wh_) (inl ()) (inr (false,()))):=by
  refine e2_ (lc_ t (λi c=>cond (wh_ c) none (some (inr (false,()):Unit⊕(Bool×Unit)))) (λi=>((i:Int),())) (r0:=inl ()) (λi y hy => ?_) ?_) ?_
  · have hi:=al_ hy
    simp only[dlt hi,a5_,af_ hy,a0_,bn_ (show Sm i by omega),bn8]
    cases wh_ y<;>rfl
  · simp only[dnl,a4_]
  · rw[ag7]
    cases t.all wh_<;>rfl
theorem at7 {t:List UInt8} (hl:Sm t.length):el_ t=some (okW t,()):=by
 unfold el_
 refine e2_ (congrArg (λo=>Option.bind o _) (qg_ hl)) ?_
 unfold okW
 rw[a0_]
 cases t.all wh_ with
 | false=>rfl
 | true =>
  simp only[a5_,d3_]
  cases t==[] with
  | true=>rfl
  | false =>
   simp only[k4_,a5_,d3_]
   rw[tk_ (by decide),a0_]
   rfl
theorem av6 {t:List UInt8} (hl:Sm t.length):kh_ t=some (okW t,()):=by
  unfold kh_
  have h0:(((cond (t==[]) (some ((t==[]),())) (cond (t==[97,116]) (some ((t==[97,116]),())) (cond (t==[115,116,97,116,101,115]) (some ((t==[115,116,97,116,101,115]),())) (cond (t==[115,116,97,114,116]) (some ((t==[115,116,97,114,116]),()))
     (cond (t==[103,111,110,101]) (some ((t==[103,111,110,101]),())) (cond (t==[105,102]) (some ((t==[105,102]),())) (cond (t==[108,111,99,107]) (some ((t==[108,111,99,107]),())) (cond (t==[119,105,116,104]) (some ((t==[119,105,116,104]),()))
     (cond (t==[115,101,116,115]) (some ((t==[115,101,116,115]),())) (cond (t==[115,112,101,110,100,115]) (some ((t==[115,112,101,110,100,115]),())) (some ((t==[98,114,105,110,103,115]),()))))))))))))):Option (Bool×Unit))=some ((t==[]||reserved.contains t),()):=by
    unfold reserved
    simp only[List.contains_cons,List.contains_nil,h2_]
    cases t==[] with
    | true=>rfl
    | false =>
    cases t==[97,116] with
    | true=>rfl
    | false =>
    cases t==[115,116,97,116,101,115] with
    | true=>rfl
    | false =>
    cases t==[115,116,97,114,116] with
    | true=>rfl
    | false =>
    cases t==[103,111,110,101] with
    | true=>rfl
    | false =>
    cases t==[105,102] with
    | true=>rfl
    | false =>
    cases t==[108,111,99,107] with
    | true=>rfl
    | false =>
    cases t==[119,105,116,104] with
    | true=>rfl
    | false =>
    cases t==[115,101,116,115] with
    | true=>rfl
    | false =>
    cases t==[115,112,101,110,100,115] with
    | true=>rfl
    | false=>rfl
  refine e2_ (congrArg (λo=>Option.bind o _) h0) ?_
  rw[a0_]
  unfold okW
  cases hz:(t==[]||reserved.contains t) with
  | true =>
    have:(!(t==[])&&!(reserved.contains t))=false:=by
      rw[← Bool.not_or,hz];rfl
    rw[this,l5_]
    rfl
  | false =>
    have:(!(t==[])&&!(reserved.contains t))=true:=by
      rw[← Bool.not_or,hz];rfl
    rw[this,h8_]
    simp only[a4_]
    refine e2_ (congrArg (λo=>Option.bind o _) (qg_ hl)) ?_
    rw[a0_]
    cases t.all wh_<;>rfl
end
section
def qv_ (things:List fq_) (th n:Int):Bool:=wi th 0 (w64 ((things.length:Int) - 1))&&match at? things th with
 | some t=>wi n 0 (w64 (t.2.2.1 - 1))
 | none=>false
theorem al7 {α:Type} {l:List α} {i:Int} (hl:Sm l.length) (h:wi i 0 (w64 ((l.length:Int) - 1))=true):∃ x,at? l i=some x:=by
 rw[ht_ (by omega) (by omega)] at h
 obtain⟨h1,h2⟩:=cl_.1 h
 obtain⟨x,hx⟩:=bl_ (l:=l) (i:=i.toNat) (by omega)
 exact⟨x,by rw[show i=((i.toNat:Nat):Int) by omega];exact af_ hx⟩
theorem mm_ {r:ad_} (hl:Sm r.2.1.length) (th n:Int):em_ r th n=some (qv_ r.2.1 th n,()):=by
 unfold em_ qv_
 rw[dl_,a0_]
 cases h:wi th 0 (w64 ((r.2.1.length:Int) - 1)) with
 | false=>rfl
 | true =>
  obtain⟨x,hx⟩:=al7 hl h
  simp only[a5_,hx,a0_,dl_,d3_]
def cOk (things:List fq_) (c:List bi_):Bool:=decide ((c.length:Int)≤8)&&c.all λl=>qv_ things l.1 l.2.1
theorem py_ {α:Type} (l:List α) (q:α→Bool):(!(l.any λx=>!(q x)))=l.all q:=by
 induction l with
 | nil=>rfl
 | cons x l ih =>
  rw[List.any_cons,List.all_cons,← ih]
  cases q x<;>rfl
theorem hx_ {r:ad_} (hl:Sm r.2.1.length) (c:List bi_):df_ r c=some (cOk r.2.1 c,()):=by
 unfold df_ cOk
 cases h8:decide ((c.length:Int)≤8) with
 | false=>rfl
 | true =>
  have h8:=f2_ h8
  simp only[a5_,d3_]
  refine e2_ (congrArg (λo=>Option.bind o _) (lo_ (show Sm c.length by omega) (λl=>!(qv_ r.2.1 l.1 l.2.1)) (λi y hy => ?_) ?_)) ?_
  ·simp only[dlt (al_ hy),a5_,af_ hy,a0_,mm_ hl]
   cases qv_ r.2.1 y.1 y.2.1<;>rfl
  ·simp only[dnl,a4_]
  ·rw[a0_]
   exact congrArg (λb=>some (b,())) (py_ c _)
theorem an9 {r:ad_} (hl:Sm r.2.1.length) (c:List bi_):ir_ r c=some (cOk r.2.1 c,()):=by
 unfold ir_ cOk
 cases h8:decide ((c.length:Int)≤8) with
 | false=>rfl
 | true =>
  have h8:=f2_ h8
  simp only[a5_,d3_]
  refine e2_ (congrArg (λo=>Option.bind o _) (lo_ (show Sm c.length by omega) (λl=>!(qv_ r.2.1 l.1 l.2.1)) (λi y hy => ?_) ?_)) ?_
  ·simp only[dlt (al_ hy),a5_,af_ hy,a0_,id_,qv_]
   cases h:wi y.1 0 (w64 ((r.2.1.length:Int) - 1)) with
   | false=>rfl
   | true =>
    obtain⟨x,hx⟩:=al7 hl h
    simp only[e1_,a4_,hx,a0_,d3_]
    cases wi y.2.1 0 (w64 (x.2.2.1 - 1))<;>rfl
  ·simp only[dnl,a4_]
  ·rw[a0_]
   exact congrArg (λb=>some (b,())) (py_ c _)
end
section
def prv (l:List Int) (i:Nat):Int:=match i with
 | 0=>-1
 | j+1=>(l[j]?).getD 0
def bv8 (np:Nat) (l:List Int) (i:Nat) (x:Int):Bool:=decide (x≤prv l i)||decide ((np:Int)≤x)
def badQ (np:Nat) (l:List Int) (i:Nat) (x:Int):Bool:=!(wi x 0 ((np:Int) - 1))||(decide (0<i)&&decide (x≤prv l i))
def th_ (np:Nat) (l:List Int):Bool:=(ga_ (λi x=>cond (bv8 np l i x) (some ()) none) 0 l).isNone
theorem xx_ {α ρ:Type} {q:Nat→α→Bool} {r:ρ}:∀ (l:List α) (i:Nat),ga_ (λi x=>cond (q i x) (some r) none) i l=cond (ga_ (λi x=>cond (q i x) (some ()) none) i l).isNone none (some r)
 | [],_=>rfl
 | x::l,i=>by
  unfold ga_
  cases q i x with
  | true=>rfl
  | false=>exact xx_ l (i+1)
theorem vp_ {α:Type} {q:Nat→α→Bool} (l:List α):(ga_ (λi x=>cond (q i x) (some ()) none) 0 l).isNone=true↔∀ i x,l[i]?=some x→q i x=false:=by
 rw[Option.isNone_iff_eq_none,ha_]
 constructor
 ·intro h i x hx
  have:=h i x hx
  rw[a7_] at this
  cases hq:q i x with
  | false=>rfl
  | true=>rw[hq] at this;cases this
 ·intro h i x hx
  rw[a7_,h i x hx]
  rfl
theorem asc_eq (np:Nat) (l:List Int):(ga_ (λi x=>cond (badQ np l i x) (some ()) none) 0 l).isNone=th_ np l:=by
 rw[n3_]
 unfold th_
 rw[vp_,vp_]
 constructor
 ·intro h i x hx
  have h0:=h i x hx
  unfold badQ at h0
  rw[b6_] at h0
  obtain⟨h1,h2⟩:=h0
  have h1:wi x 0 ((np:Int) - 1)=true:=by simpa using h1
  obtain⟨h3,h4⟩:=cl_.1 h1
  unfold bv8
  rw[b6_]
  refine⟨?_,c3_ (by omega)⟩
  cases i with
  | zero=>exact c3_ (by show ¬ x≤-1;omega)
  | succ j =>
   have:decide (0<j+1)=true:=b7_ (by omega)
   rw[this,d3_] at h2
   exact h2
 ·intro h
  have pos:∀ (i:Nat) (x:Int),l[i]?=some x→0≤x∧x<np:=by
   intro i
   induction i with
   | zero =>
    intro x hx
    have h0:=h 0 x hx
    unfold bv8 at h0
    rw[b6_] at h0
    have h1:=c9_ h0.1
    have h2:=c9_ h0.2
    have h1:¬ x≤-1:=h1
    omega
   | succ j ih =>
    intro x hx
    have h0:=h (j+1) x hx
    unfold bv8 at h0
    rw[b6_] at h0
    have h1:=c9_ h0.1
    have h2:=c9_ h0.2
    obtain⟨y,hy⟩:=bl_ (l:=l) (i:=j) (by have:=al_ hx;omega)
    have h3:=ih y hy
    have h1:¬ x≤(l[j]?).getD 0:=h1
    rw[hy] at h1
    have h1:¬ x≤y:=h1
    omega
  intro i x hx
  have h0:=h i x hx
  unfold bv8 at h0
  rw[b6_] at h0
  have hp:=pos i x hx
  unfold badQ
  have:wi x 0 ((np:Int) - 1)=true:=cl_.2 ⟨hp.1,by omega⟩
  rw[this,h0.1,l5_]
  rfl
theorem pe_ {r:ad_} {l:List Int} (hl:Sm l.length):fu_ r l=some (th_ r.2.2.1.length l,()):=by
 unfold fu_
 refine hh_ l (λi x=>cond (bv8 r.2.2.1.length l i x) (some (inr (false,()):Unit⊕(Bool×Unit))) none) (λi=>(prv l i,((i:Int),()))) (r0:=inl ()) (λi y hy => ?_) ?_ ?_
 ·have hi:=al_ hy
  simp only[dlt hi,a5_,af_ hy,a0_,bn_ (show Sm i by omega),bv8]
  have hn:prv l (i+1)=y:=by show (l[i]?).getD 0=y;rw[hy];rfl
  cases decide (y≤prv l i) with
  | true=>rfl
  | false =>
   simp only[a4_,j1_,a0_,hn]
   cases decide ((r.2.2.1.length:Int)≤y)<;>rfl
 ·simp only[dnl,a4_]
 ·rw[xx_]
  unfold th_
  cases (ga_ (λi x=>cond (bv8 r.2.2.1.length l i x) (some ()) none) 0 l).isNone<;>rfl
end
end Go.Proofs.YtlbfbdbagohinaaGreatDoor.Rx
namespace Go.Proofs.YtlbfbdbagohinaaGreatDoor.Rx
open Go Pad Rex Go.Proofs Go.Proofs.Tryz Sum
section
set_option maxRecDepth 100000
set_option maxHeartbeats 0
noncomputable def cf_ (a0:aa_) (a1:(List Int)):Option (Int×Unit) :=
 ((gh_ a0 ([a1]:List (List Int))).bind λv0 =>
 (some (v0.1,())))
theorem x_62:be_ (P:=prog) (cxC [c_113] []) .z 62 [ah_,(.list .int)] [.int]=λx=>cf_ x.1 x.2.1:=by kernel_rfl
noncomputable def c_62:Con prog:=bg_ _ _ 62 [ah_,(.list .int)] [.int] _ x_62
noncomputable def en_ (a0:ad_):Option (Int×Unit) :=
 (((cond (decide (8<(a0.1.length:Int)))
 (some (true,()))
 (cond (decide (12<(a0.2.1.length:Int)))
 (some (true,()))
 (cond (decide (10<(a0.2.2.1.length:Int)))
 (some (true,()))
 (cond (decide (16<(a0.2.2.2.1.length:Int)))
 (some (true,()))
 (cond (decide (24<(a0.2.2.2.2.1.length:Int)))
 (some (true,()))
 (some ((decide (12<(a0.2.2.2.2.2.1.length:Int))),())))))))).bind λv0 =>
 (cond v0.1
 (some (2,()))
 ((ae_ (ρ:=(Unit⊕(Int×Unit))) (λ(v1:(Int×Unit)) =>
 (cond (decide (v1.1<(a0.1.length:Int)))
 ((at? a0.1 v1.1).bind λv2 =>
 ((sub? a0.1 0 v1.1).bind λv3 =>
 ((((el_ v2).bind λv4 =>
 (cond v4.1
 (cond (decide ((v2.length:Int)≤12))
 ((((ae_ (ρ:=(Unit⊕(Int×Unit))) (λ(v5:(Int×Unit)) =>
 (cond (decide (v5.1<(v3.length:Int)))
 ((at? v3 v5.1).bind λv6 =>
 (cond (v6==v2)
 (some (inr (inr (v5.1,()))))
 (some (inl ((w64 (v5.1+1)),())))))
 (some (inr (inl ()))))) (0,())).bind λv7 =>
 (co_ v7 (λv8=>(some ((-1),())))
 (λv9=>(some v9))))).bind λv10 =>
 (some ((decide (v10.1<0)),())))
 (some (false,())))
 (some (false,()))))).bind λv11 =>
 (cond (!v11.1)
 (some (inr (inr (22,()))))
 (some (inl ((w64 (v1.1+1)),())))))))
 (some (inr (inl ()))))) (0,())).bind λv12 =>
 (co_ v12 (λv13=>(cond ((a0.1.length:Int)==0)
 (some (22,()))
 ((ae_ (ρ:=(Unit⊕(Int×Unit))) (λ(v15:(Int×Unit)) =>
 (cond (decide (v15.1<(a0.2.1.length:Int)))
 ((at? a0.2.1 v15.1).bind λv16 =>
 ((((sub? a0.2.1 0 v15.1).bind λv17 =>
 ((((el_ v16.1).bind λv18 =>
 (cond v18.1
 (cond (decide ((v16.1.length:Int)≤12))
 ((((ae_ (ρ:=(Unit⊕(Int×Unit))) (λ(v19:(Int×Unit)) =>
 (cond (decide (v19.1<(v17.length:Int)))
 ((at? v17 v19.1).bind λv20 =>
 (cond (v20.1==v16.1)
 (some (inr (inr (v19.1,()))))
 (some (inl ((w64 (v19.1+1)),())))))
 (some (inr (inl ()))))) (0,())).bind λv21 =>
 (co_ v21 (λv22=>(some ((-1),())))
 (λv23=>(some v23))))).bind λv24 =>
 (some ((decide (v24.1<0)),())))
 (some (false,())))
 (some (false,()))))).bind λv25 =>
 (cond (!v25.1)
 (some (true,()))
 ((av_ v16.2.1 0 (w64 ((a0.1.length:Int) - 1))).bind λv26 =>
 (cond (!v26.1)
 (some (true,()))
 ((av_ v16.2.2.1 2 6).bind λv27 =>
 (cond (!v27.1)
 (some (true,()))
 ((av_ v16.2.2.2 0 (w64 (v16.2.2.1 - 1))).bind λv28 =>
 (some ((!v28.1),()))))))))))).bind λv29 =>
 (cond v29.1
 (some (inr (inr (21,()))))
 (some (inl ((w64 (v15.1+1)),()))))))
 (some (inr (inl ()))))) (0,())).bind λv30 =>
 (co_ v30 (λv31=>((ae_ (ρ:=(Unit⊕(Int×Unit))) (λ(v33:(Int×Unit)) =>
 (cond (decide (v33.1<(a0.2.2.1.length:Int)))
 ((at? a0.2.2.1 v33.1).bind λv34 =>
 ((((sub? a0.2.2.1 0 v33.1).bind λv35 =>
 ((((el_ v34.1).bind λv36 =>
 (cond v36.1
 (cond (decide ((v34.1.length:Int)≤12))
 ((((ae_ (ρ:=(Unit⊕(Int×Unit))) (λ(v37:(Int×Unit)) =>
 (cond (decide (v37.1<(v35.length:Int)))
 ((at? v35 v37.1).bind λv38 =>
 (cond (v38.1==v34.1)
 (some (inr (inr (v37.1,()))))
 (some (inl ((w64 (v37.1+1)),())))))
 (some (inr (inl ()))))) (0,())).bind λv39 =>
 (co_ v39 (λv40=>(some ((-1),())))
 (λv41=>(some v41))))).bind λv42 =>
 (some ((decide (v42.1<0)),())))
 (some (false,())))
 (some (false,()))))).bind λv43 =>
 (cond (!v43.1)
 (some (true,()))
 ((av_ v34.2.1 0 (w64 ((a0.1.length:Int) - 1))).bind λv44 =>
 (cond (!v44.1)
 (some ((v34.2.1 != (-1)),()))
 (some (false,())))))))).bind λv45 =>
 (cond v45.1
 (some (inr (inr (24,()))))
 ((df_ a0 v34.2.2).bind λv46 =>
 (cond (!v46.1)
 (some (inr (inr (25,()))))
 (some (inl ((w64 (v33.1+1)),()))))))))
 (some (inr (inl ()))))) (0,())).bind λv47 =>
 (co_ v47 (λv48=>((ae_ (ρ:=(Unit⊕(Int×Unit))) (λ(v50:(Int×Unit)) =>
 (cond (decide (v50.1<(a0.2.2.2.1.length:Int)))
 ((at? a0.2.2.2.1 v50.1).bind λv51 =>
 ((((av_ v51.1 0 (w64 ((a0.1.length:Int) - 1))).bind λv52 =>
 (cond (!v52.1)
 (some (true,()))
 ((av_ v51.2.1 0 (w64 ((a0.1.length:Int) - 1))).bind λv53 =>
 (cond (!v53.1)
 (some (true,()))
 (some ((v51.1==v51.2.1),()))))))).bind λv54 =>
 (cond v54.1
 (some (inr (inr (23,()))))
 ((df_ a0 v51.2.2).bind λv55 =>
 (cond (!v55.1)
 (some (inr (inr (25,()))))
 (some (inl ((w64 (v50.1+1)),()))))))))
 (some (inr (inl ()))))) (0,())).bind λv56 =>
 (co_ v56 (λv57=>((ae_ (ρ:=(Unit⊕(Int×Unit))) (λ(v59:(Int×Unit)) =>
 (cond (decide (v59.1<(a0.2.2.2.2.1.length:Int)))
 ((at? a0.2.2.2.2.1 v59.1).bind λv60 =>
 ((mu_ a0 v59.1 v60).bind λv61 =>
 (cond (!v61.1)
 (some (inr (inr (26,()))))
 ((df_ a0 v60.2.2.2.2.1).bind λv62 =>
 (cond (!v62.1)
 (some (inr (inr (25,()))))
 (some (inl ((w64 (v59.1+1)),()))))))))
 (some (inr (inl ()))))) (0,())).bind λv63 =>
 (co_ v63 (λv64=>((ae_ (ρ:=(Unit⊕(Int×Unit))) (λ(v66:(Int×Unit)) =>
 (cond (decide (v66.1<(a0.2.2.2.2.2.1.length:Int)))
 ((at? a0.2.2.2.2.2.1 v66.1).bind λv67 =>
 ((em_ a0 v67.2.1 v67.2.2).bind λv68 =>
 (cond (!v68.1)
 (some (inr (inr (27,()))))
 ((df_ a0 v67.1).bind λv69 =>
 (cond (!v69.1)
 (some (inr (inr (25,()))))
 (some (inl ((w64 (v66.1+1)),()))))))))
 (some (inr (inl ()))))) (0,())).bind λv70 =>
 (co_ v70 (λv71=>((av_ a0.2.2.2.2.2.2.1 1 4).bind λv73 =>
 (cond (!v73.1)
 (some (1,()))
 ((df_ a0 a0.2.2.2.2.2.2.2).bind λv74 =>
 (cond (!v74.1)
 (some (25,()))
 (some (0,())))))))
 (λv72=>(some v72)))))
 (λv65=>(some v65)))))
 (λv58=>(some v58)))))
 (λv49=>(some v49)))))
 (λv32=>(some v32))))))
 (λv14=>(some v14))))))
theorem x_73:be_ (P:=prog) (cxI (λk=>cond (Nat.beq k 122) (.p .z (.j0 [.v 6 .bool] .z .z)) (cond (Nat.beq k 124) (.p .z (.j0 [.v 6 .bool] .z .z)) (cond (Nat.beq k 126) (.p .z (.j0 [.v 6 .bool] .z .z)) (cond (Nat.beq k 180) (.p .z (.j0 [.v 6 .int] .z .z)) (cond (Nat.beq k 181) (.p .z (.j0 [.v 6 .int] .z .z)) (cond (Nat.beq k 182) (.p .z (.j0 [.v 6 .int] .z .z)) (cond (Nat.beq k 214) (.p .z (.p (.p .z (.ls [.v 8 .int] [] [] 0 .z)) .z)) (cond (Nat.beq k 215) (.p .z (.p (.q [] .z .z) .z)) (cond (Nat.beq k 216) (.p .z (.p (.p .z (.ls [.v 8 .int] [] [] 0 .z)) .z)) (cond (Nat.beq k 217) (.p .z (.p (.q [] .z .z) .z)) (cond (Nat.beq k 218) (.p .z (.p (.p .z (.ls [.v 8 .int] [] [] 0 .z)) .z)) (cond (Nat.beq k 219) (.p .z (.p (.q [] .z .z) .z)) (.z))))))))))))) (λk=>Nat.beq k 121||Nat.beq k 123||Nat.beq k 125||Nat.beq k 127||Nat.beq k 128||Nat.beq k 129||Nat.beq k 130||Nat.beq k 179||false) (cxC [be0,c_123,c_125,c_127,c_128,c_129,br5,c_179] []) 12) (.p .z (.p (.j0 [.v 49 .bool] .z .z) (.p .z (.p (.p .z (.ls [.v 54 .int] [] [] 0 .z)) (.p .z (.p (.p .z (.ls [.v 74 .int] [] [] 2 (.p .z (.p .z (.p (.p .z (.j0 [.v 108 .bool] .z .z)) .z))))) (.p (.p .z (.ls [.v 113 .int] [] [] 4 (.p .z (.p .z (.p (.p .z (.p (.j0 [.v 137 .bool] .z .z) .z)) .z))))) (.p (.p .z (.ls [.v 147 .int] [] [] 6 (.p .z (.p .z (.p (.p .z (.p (.j0 [.v 169 .bool] .z .z) .z)) .z))))) (.p (.p .z (.ls [.v 179 .int] [] [] 8 .z)) (.p (.p .z (.ls [.v 198 .int] [] [] 10 .z)) .z)))))))))) 73 [ba_] [.int]=λx=>en_ x.1:=by kernel_rfl
noncomputable def c_73:Con prog:=bg_ _ _ 73 [ba_] [.int] _ x_73
noncomputable def ey_ (a0:aa_) (a1:ab_):Option (Int×Unit) :=
 ((dv_ a0).bind λv0 =>
 (cond (v0.1 != 0)
 (some (v0.1,()))
 ((cv_ a0 a1).bind λv1 =>
 (cond (!v1.1)
 (some (11,()))
 (some (0,()))))))
theorem x_172:be_ (P:=prog) (cxC [c_74,c_118] []) .z 172 [ah_,ai_] [.int]=λx=>ey_ x.1 x.2.1:=by kernel_rfl
noncomputable def c_172:Con prog:=bg_ _ _ 172 [ah_,ai_] [.int] _ x_172
noncomputable def dj_ (a0:aa_) (a1:(List ab_)):Option (Int×Unit) :=
 ((dv_ a0).bind λv0 =>
 (cond (v0.1 != 0)
 (some (v0.1,()))
 (cond (decide (20<(a1.length:Int)))
 (some (2,()))
 ((((ae_ (ρ:=(Unit⊕(Bool×Unit))) (λ(v1:(Int×Unit)) =>
 (cond (decide (v1.1<(a1.length:Int)))
 ((at? a1 v1.1).bind λv2 =>
 ((cv_ a0 v2).bind λv3 =>
 (cond (!v3.1)
 (some (inr (inr ((decide (0≤v1.1)),()))))
 (some (inl ((w64 (v1.1+1)),()))))))
 (some (inr (inl ()))))) (0,())).bind λv4 =>
 (co_ v4 (λv5=>(some ((decide (0≤(-1))),())))
 (λv6=>(some v6))))).bind λv7 =>
 (cond v7.1
 (some (11,()))
 (some (0,())))))))
theorem x_69:be_ (P:=prog) (cxI (λk=>cond (Nat.beq k 63) (.p .z (.j0 [.v 4 .bool] .z .z)) (cond (Nat.beq k 114) (.p .z (.p (.p .z (.ls [.v 8 .int] [] [] 0 .z)) .z)) (.z))) (λk=>Nat.beq k 74||Nat.beq k 118||false) (cxC [c_74,c_118] []) 4) .z 69 [ah_,(.list ai_)] [.int]=λx=>dj_ x.1 x.2.1:=by kernel_rfl
noncomputable def c_69:Con prog:=bg_ _ _ 69 [ah_,(.list ai_)] [.int] _ x_69
noncomputable def eh_ (a0:aa_) (a1:(List ab_)):Option (Int×Unit) :=
 ((mk? (α:=Int) a0.1 0).bind λv0 =>
 ((ae_ (ρ:=((Unit×(Unit×((List Int)×((Int×Unit)×Unit))))⊕(Int×Unit))) (λ(v1:(Unit×(Unit×((List Int)×((Int×Unit)×Unit))))) =>
 ((du_ a1 v1.2.2.1).bind λv2 =>
 (cond (decide (v2.1<0))
 ((ae_ (ρ:=(Int×((List Int)×Unit))) (λ(v3:(Int×((List Int)×Unit))) =>
 (((cond (decide (0≤v3.1))
 ((at? v3.2.1 v3.1).bind λv4 =>
 ((at? v3.2.1 v3.1).bind λv5 =>
 (some ((v5==(w64 (a0.2 - 1))),()))))
 (some (false,())))).bind λv6 =>
 (cond v6.1
 ((at? v3.2.1 v3.1).bind λv7 =>
 ((at? v3.2.1 v3.1).bind λv8 =>
 (some (inl ((w64 (v3.1 - 1)),((v3.2.1.set v3.1.toNat 0),()))))))
 (some (inr (v3.1,(v3.2.1,()))))))) ((w64 (a0.1 - 1)),(v1.2.2.1,()))).bind λv9 =>
 (cond (decide (v9.1<0))
 (some (inr (inr ((w64 (v1.2.2.2.1.1+1)),()))))
 ((at? v9.2.1 v9.1).bind λv10 =>
 ((at? v9.2.1 v9.1).bind λv11 =>
 ((at? v9.2.1 v9.1).bind λv12 =>
 ((at? v9.2.1 v9.1).bind λv13 =>
 (some (inl ((),((),((v9.2.1.set v9.1.toNat (w64 (v11+1))),(((w64 (v1.2.2.2.1.1+1)),()),()))))))))))))
 ((ae_ (ρ:=(Int×((List Int)×Unit))) (λ(v14:(Int×((List Int)×Unit))) =>
 (((cond (decide (0≤v14.1))
 ((at? v14.2.1 v14.1).bind λv15 =>
 ((at? v14.2.1 v14.1).bind λv16 =>
 (some ((v16==(w64 (a0.2 - 1))),()))))
 (some (false,())))).bind λv17 =>
 (cond v17.1
 ((at? v14.2.1 v14.1).bind λv18 =>
 ((at? v14.2.1 v14.1).bind λv19 =>
 (some (inl ((w64 (v14.1 - 1)),((v14.2.1.set v14.1.toNat 0),()))))))
 (some (inr (v14.1,(v14.2.1,()))))))) ((w64 (a0.1 - 1)),(v1.2.2.1,()))).bind λv20 =>
 (cond (decide (v20.1<0))
 (some (inr (inr (v1.2.2.2.1.1,()))))
 ((at? v20.2.1 v20.1).bind λv21 =>
 ((at? v20.2.1 v20.1).bind λv22 =>
 ((at? v20.2.1 v20.1).bind λv23 =>
 ((at? v20.2.1 v20.1).bind λv24 =>
 (some (inl ((),((),((v20.2.1.set v20.1.toNat (w64 (v22+1))),((v1.2.2.2.1.1,()),()))))))))))))))) ((),((),(v0,((0,()),()))))).bind λv25 =>
 (co_ v25 (λv26=>(some (v26.2.2.2.1.1,())))
 (λv27=>(some v27)))))
theorem x_70:be_ (P:=prog) (cxI (λk=>cond (Nat.beq k 176) (.p .z (.p .z (.rf [2,3] .z .z))) (cond (Nat.beq k 211) (.p .z (.ls [] [] [.y (.c (.y (.s 0) 3) 0),.y (.s 0),.o (.s 3) .int,.b (.y (.c (.y (.s 0) 3) 0) 4) [.val .int]] 0 (.p .z (.p .z (.p (.lp [.v 4 .int] [.v 4 .int] [.o (.s 3) .int] 2 (.p (.j0 [.v 26 .bool] .z .z) .z)) .z))))) (.z))) (λk=>Nat.beq k 178||false) (cxC [c_178] []) 9) (.p .z (.p (.p .z (.rf [4] .z .z)) .z)) 70 [ah_,(.list ai_)] [.int]=λx=>eh_ x.1 x.2.1:=by kernel_rfl
noncomputable def c_70:Con prog:=bg_ _ _ 70 [ah_,(.list ai_)] [.int] _ x_70
end
end Go.Proofs.YtlbfbdbagohinaaGreatDoor.Rx
namespace Go.Proofs.YtlbfbdbagohinaaGreatDoor.Rx
open Go Pad Rex Sum
section
theorem mg_ {α:Type} {l:List α} {i:Nat} (h:i≤l.length):sub? l 0 (i:Int)=some (l.take i):=by
 unfold sub?
 rw[if_pos ⟨Int.le_refl 0,by omega,by omega⟩]
 simp
def twN {α:Type} (nm:α→List UInt8) (l:List α) (i:Nat) (t:List UInt8):Bool:=(l.take i).any λy=>nm y==t
structure SmR (r:ad_):Prop where
 pl:Sm r.1.length
 th:Sm r.2.1.length
 pr:Sm r.2.2.1.length
 wy:Sm r.2.2.2.1.length
 ac:Sm r.2.2.2.2.1.length
 au:Sm r.2.2.2.2.2.1.length
 go:Sm r.2.2.2.2.2.2.2.length
 pln:∀ x ∈ r.1,Sm x.length
 thn:∀ x ∈ r.2.1,Sm x.1.length
 prn:∀ x ∈ r.2.2.1,Sm x.1.length∧Sm x.2.2.length
 wyn:∀ x ∈ r.2.2.2.1,Sm x.2.2.length
 acn:∀ x ∈ r.2.2.2.2.1,Sm x.1.length∧Sm x.2.2.2.1.length∧Sm x.2.2.2.2.1.length∧Sm x.2.2.2.2.2.1.length∧Sm x.2.2.2.2.2.2.1.length∧Sm x.2.2.2.2.2.2.2.length
 aun:∀ x ∈ r.2.2.2.2.2.1,Sm x.1.length
theorem bu_ {α:Type} {l:List α} {i:Nat} {x:α} (h:l[i]?=some x):x ∈ l:=b4_ h
def un_ (r:ad_) (p:Int):Bool:=wi p 0 (w64 ((r.1.length:Int) - 1))
def frN {α:Type} (nm:α→List UInt8) (l:List α) (i:Nat) (t:List UInt8):Bool:=okN t&&!(twN nm l i t)
def plOk (r:ad_) (i:Nat) (x:List UInt8):Bool:=frN id r.1 i x
def bi4 (r:ad_) (i:Nat) (x:fq_):Bool:=frN (·.1) r.2.1 i x.1&&(un_ r x.2.1&&(wi x.2.2.1 2 6&&wi x.2.2.2 0 (w64 (x.2.2.1 - 1))))
def prOk (r:ad_) (i:Nat) (x:hz_):Bool:=frN (·.1) r.2.2.1 i x.1&&(un_ r x.2.1||x.2.1==(-1))
def bs3 (r:ad_) (x:lv_):Bool:=un_ r x.1&&(un_ r x.2.1&&!(x.1==x.2.1))
def xn_ (a:Bool) (e:Int) (b:Bool) (f:Int):Option Int:=cond a (cond b none (some f)) (some e)
def nu_ (a:Bool) (e:Int):Option Int:=cond a none (some e)
def left (o:Option Int):Unit⊕(Int×Unit):=match o with
 | none=>.inl ()
 | some e=>.inr (e,())
theorem bo2 (o:Option Int):(o.map λe=>(inr (e,()):Unit⊕(Int×Unit))).getD (inl ())=left o:=by cases o<;>rfl
theorem dp_ {α:Type} (l:List α) (p:Nat→α→Option Int) {body:(Int×Unit)→Option ((Int×Unit)⊕(Unit⊕(Int×Unit)))} {τ:Type} {K:(Unit⊕(Int×Unit))→Option τ} {x:Option τ}
  (h:∀ (i:Nat) y,l[i]?=some y→body ((i:Int),())=some (match p i y with | none=>.inl (((i+1:Nat):Int),()) | some e=>.inr (.inr (e,())))) (e:body ((l.length:Int),())=some (.inr (.inl ()))) (hk:K (left (ga_ p 0 l))=x) :
  (ae_ body (0,())).bind K=x:=by
 refine hh_ l (λi y=>(p i y).map λe=>(inr (e,()):Unit⊕(Int×Unit))) (λi=>((i:Int),())) (r0:=inl ()) (λi y hy => ?_) e ?_
 ·rw[h i y hy]
  cases p i y<;>rfl
 ·rw[ag6,bo2]
  exact hk
theorem kn_ {o:Option Int} {K:Unit→Option (Int×Unit)} {k:Int} (h:K ()=some (k,())):co_ (left o) K (λy=>some y)=some (o.getD k,()):=by
 cases o with
 | none=>exact h
 | some e=>rfl
end
section
def ua_ (r:ad_) (l:List aa_) (i:Nat) (x:aa_):Bool:=qv_ r.2.1 x.1 x.2&&!((l.take i).any λy=>y.1==x.1)
def zr_ (r:ad_) (i:Nat) (a:dk_):Bool :=
 frN (·.1) r.2.2.2.2.1 i a.1&&(un_ r a.2.1&&(wi a.2.2.1 (-1) 7&&(th_ r.2.2.1.length a.2.2.2.1&&(th_ r.2.2.1.length a.2.2.2.2.2.2.1&&(th_ r.2.2.1.length a.2.2.2.2.2.2.2&&(!(decide (6<(a.2.2.2.2.2.1.length:Int)))
  && ((a.2.2.2.2.2.2.1.all λp=>a.2.2.2.1.contains p)&&(!(a.2.2.2.2.2.2.2.any λp=>a.2.2.2.1.contains p)
   && (ga_ (λi x=>cond (ua_ r a.2.2.2.2.2.1 i x) none (some ())) 0 a.2.2.2.2.2.1).isNone))))))))
theorem ub_ {α ρ:Type} {q:Nat→α→Bool} {r:ρ}:∀ (l:List α) (i:Nat),ga_ (λi x=>cond (q i x) none (some r)) i l=cond (ga_ (λi x=>cond (q i x) none (some ())) i l).isNone none (some r)
 | [],_=>rfl
 | x::l,i=>by
  unfold ga_
  cases q i x with
  | false=>rfl
  | true=>exact ub_ l (i+1)
theorem rc_ {α:Type} {l:List α} (hl:Sm l.length) (nm:α→List UInt8) {t:List UInt8} (ht:Sm t.length) :
  ((el_ t).bind λv1=>cond v1.1 (cond (decide ((t.length:Int)≤12)) ((((ae_ (ρ:=Unit⊕(Int×Unit)) (λ(v:Int×Unit)=>cond (decide (v.1<(l.length:Int))) ((at? l v.1).bind λy=>cond (nm y==t) (some (inr (inr (v.1,())))) (some (inl (w64 (v.1+1),())))) (some (inr (inl ())))) (0,())).bind λv=>co_ v (λ_=>some ((-1:Int),())) (λw=>some w))).bind λv=>some (decide (v.1<0),())) (some (false,()))) (some (false,())))
   = some (okN t&&!(l.any λy=>nm y==t),()):=by
 rw[at7 ht,a0_]
 obtain⟨n,h1,h2,_⟩:=if_lt hl (λy=>nm y==t) (body:=λ(v:Int×Unit)=>cond (decide (v.1<(l.length:Int))) ((at? l v.1).bind λy=>cond (nm y==t) (some (inr (inr (v.1,())))) (some (inl (w64 (v.1+1),())))) (some (inr (inl ())))) (λi y hy=>by
  simp only[dlt (al_ hy),a5_,af_ hy,a0_]
  cases nm y==t<;>rfl) (by simp only[dnl,a4_])
 rw[h1,a0_,h2]
 unfold okN
 cases okW t with
 | false=>rw[l5_,f6_];rfl
 | true=>cases decide ((t.length:Int)≤12)<;>rfl
theorem rs_ {α:Type} {l:List α} (h:Sm l.length) (i:Nat):Sm (l.take i).length:=by
 rw[c0_]
 exact e7_ (Nat.min_le_right _ _) h
theorem bk7 {r:ad_} (h:SmR r) {i:Nat} {a:dk_} (ha:r.2.2.2.2.1[i]?=some a):mu_ r (i:Int) a=some (zr_ r i a,()):=by
 have hi:=al_ ha
 obtain⟨s1,s2,s3,s4,s5,s6⟩:=h.acn a (bu_ ha)
 unfold mu_
 refine e2_ (congrArg (λo=>Option.bind o _) (?_:_=some (!(frN (·.1) r.2.2.2.2.1 i a.1&&(un_ r a.2.1&&wi a.2.2.1 (-1) 7)),()))) ?_
 ·rw[mg_ (g4_ hi),a0_]
  refine e2_ (congrArg (λo=>Option.bind o _) (rc_ (rs_ h.ac i) (·.1) s1)) ?_
  unfold frN twN un_
  rw[a0_]
  cases okN a.1&&!((r.2.2.2.2.1.take i).any λy=>y.1==a.1) with
  | false=>rfl
  | true =>
   simp only[dl_,a0_]
   cases wi a.2.1 0 (w64 ((r.1.length:Int) - 1)) with
   | false=>rfl
   | true=>rfl
 ·rw[a0_]
  unfold zr_
  cases frN (·.1) r.2.2.2.2.1 i a.1 with
  | false=>rfl
  | true =>
  cases un_ r a.2.1 with
  | false=>rfl
  | true =>
  cases wi a.2.2.1 (-1) 7 with
  | false=>rfl
  | true =>
   simp only[e1_,a4_,d3_,pe_ s2,pe_ s5,pe_ s6,a0_]
   cases th_ r.2.2.1.length a.2.2.2.1 with
   | false=>rfl
   | true =>
   cases th_ r.2.2.1.length a.2.2.2.2.2.2.1 with
   | false=>rfl
   | true =>
   cases th_ r.2.2.1.length a.2.2.2.2.2.2.2 with
   | false=>rfl
   | true =>
   cases h6:decide (6<(a.2.2.2.2.2.1.length:Int)) with
   | true=>rfl
   | false =>
   simp only[e1_,k4_,a4_,d3_,a0_]
   refine e2_ (congrArg (λo=>Option.bind o _) (?_:_=some (!((a.2.2.2.2.2.2.1.all λp=>a.2.2.2.1.contains p)&&!(a.2.2.2.2.2.2.2.any λp=>a.2.2.2.1.contains p)),()))) ?_
   ·refine e2_ (congrArg (λo=>Option.bind o _) (lo_ s5 (λp=>!(a.2.2.2.1.contains p)) (λi y hy => ?_) ?_)) ?_
    ·simp only[dlt (al_ hy),a5_,af_ hy,a0_,lw_ s2]
     cases a.2.2.2.1.contains y<;>rfl
    ·simp only[dnl,a4_]
    rw[a0_,← py_ a.2.2.2.2.2.2.1]
    cases a.2.2.2.2.2.2.1.any λp=>!(a.2.2.2.1.contains p) with
    | true=>rfl
    | false =>
    refine e2_ (congrArg (λo=>Option.bind o _) (lo_ s6 (λp=>a.2.2.2.1.contains p) (λi y hy => ?_) ?_)) ?_
    ·simp only[dlt (al_ hy),a5_,af_ hy,a0_,lw_ s2]
     cases a.2.2.2.1.contains y<;>rfl
    ·simp only[dnl,a4_]
    cases a.2.2.2.2.2.2.2.any λp=>a.2.2.2.1.contains p<;>rfl
   ·rw[a0_]
    cases a.2.2.2.2.2.2.1.all λp=>a.2.2.2.1.contains p with
    | false=>rfl
    | true =>
    cases a.2.2.2.2.2.2.2.any λp=>a.2.2.2.1.contains p with
    | true=>rfl
    | false =>
     simp only[e1_,k4_,a4_,d3_]
     refine hh_ a.2.2.2.2.2.1 (λi x=>cond (ua_ r a.2.2.2.2.2.1 i x) none (some (inr (false,()):Unit⊕(Bool×Unit)))) (λi=>((i:Int),())) (r0:=inl ()) (λk y hy => ?_) ?_ ?_
     ·have hk:=al_ hy
      simp only[dlt hk,a5_,af_ hy,a0_,bn_ (show Sm k by omega),mg_ (g4_ hk)]
      refine e2_ (congrArg (λo=>Option.bind o _) (lo_ (rs_ s4 k) (λz=>z.1==y.1) (λn z hz => ?_) ?_)) ?_
      ·simp only[dlt (al_ hz),a5_,af_ hz,a0_]
       cases z.1==y.1<;>rfl
      ·simp only[dnl,a4_]
      ·rw[a0_,mm_ h.th]
       unfold ua_
       cases qv_ r.2.1 y.1 y.2 with
       | false=>rfl
       | true =>
        cases (a.2.2.2.2.2.1.take k).any λz=>z.1==y.1<;>rfl
     ·simp only[dnl,a4_]
     ·rw[ub_]
      cases (ga_ (λi x=>cond (ua_ r a.2.2.2.2.2.1 i x) none (some ())) 0 a.2.2.2.2.2.1).isNone<;>rfl
end
section
def ao3 (r:ad_):Bool:=decide (8<(r.1.length:Int))||(decide (12<(r.2.1.length:Int))||(decide (10<(r.2.2.1.length:Int))||(decide (16<(r.2.2.2.1.length:Int))||(decide (24<(r.2.2.2.2.1.length:Int))||decide (12<(r.2.2.2.2.2.1.length:Int))))))
theorem many_of (r:ad_):(cond (decide (8<(r.1.length:Int)))
 (some (true,()))
 (cond (decide (12<(r.2.1.length:Int)))
 (some (true,()))
 (cond (decide (10<(r.2.2.1.length:Int)))
 (some (true,()))
 (cond (decide (16<(r.2.2.2.1.length:Int)))
 (some (true,()))
 (cond (decide (24<(r.2.2.2.2.1.length:Int)))
 (some (true,()))
 (some ((decide (12<(r.2.2.2.2.2.1.length:Int))),())))))))=some (ao3 r,()):=by
  unfold ao3
  cases decide (8<(r.1.length:Int)) with
  | true=>rfl
  | false =>
  cases decide (12<(r.2.1.length:Int)) with
  | true=>rfl
  | false =>
  cases decide (10<(r.2.2.1.length:Int)) with
  | true=>rfl
  | false =>
  cases decide (16<(r.2.2.2.1.length:Int)) with
  | true=>rfl
  | false =>
  cases decide (24<(r.2.2.2.2.1.length:Int)) with
  | true=>rfl
  | false=>rfl
def ei_ (r:ad_):Int :=
 cond (ao3 r) 2 ((ga_ (λi x=>nu_ (plOk r i x) 22) 0 r.1).getD
  (cond ((r.1.length:Int)==0) 22 ((ga_ (λi x=>nu_ (bi4 r i x) 21) 0 r.2.1).getD
   ((ga_ (λi x=>xn_ (prOk r i x) 24 (cOk r.2.1 x.2.2) 25) 0 r.2.2.1).getD
    ((ga_ (λ_ x=>xn_ (bs3 r x) 23 (cOk r.2.1 x.2.2) 25) 0 r.2.2.2.1).getD
     ((ga_ (λi x=>xn_ (zr_ r i x) 26 (cOk r.2.1 x.2.2.2.2.1) 25) 0 r.2.2.2.2.1).getD
      ((ga_ (λ_ x=>xn_ (qv_ r.2.1 x.2.1 x.2.2) 27 (cOk r.2.1 x.1) 25) 0 r.2.2.2.2.2.1).getD
       (cond (wi r.2.2.2.2.2.2.1 1 4) (cond (cOk r.2.1 r.2.2.2.2.2.2.2) 0 25) 1))))))))
theorem pf_ {r:ad_} (h:SmR r):en_ r=some (ei_ r,()):=by
 unfold en_
 refine e2_ (congrArg (λo=>Option.bind o _) (many_of r)) ?_
 rw[a0_]
 unfold ei_
 cases ao3 r with
 | true=>rfl
 | false =>
 simp only[a4_]
 refine dp_ r.1 (λi x=>nu_ (plOk r i x) 22) (λi y hy => ?_) ?_ (kn_ ?_)
 ·have hi:=al_ hy
  simp only[dlt hi,a5_,af_ hy,a0_,bn_ (show Sm i from e7_ (g4_ hi) h.pl),mg_ (g4_ hi)]
  refine e2_ (congrArg (λo=>Option.bind o _) (rc_ (rs_ h.pl i) id (h.pln y (bu_ hy)))) ?_
  unfold nu_ plOk frN twN
  rw[a0_]
  cases okN y&&!((r.1.take i).any λz=>id z==y)<;>rfl
 ·simp only[dnl,a4_]
 cases (r.1.length:Int)==0 with
 | true=>rfl
 | false =>
 simp only[a4_]
 refine dp_ r.2.1 (λi x=>nu_ (bi4 r i x) 21) (λi y hy => ?_) ?_ (kn_ ?_)
 ·have hi:=al_ hy
  simp only[dlt hi,a5_,af_ hy,a0_,bn_ (show Sm i from e7_ (g4_ hi) h.th),mg_ (g4_ hi)]
  refine e2_ (congrArg (λo=>Option.bind o _) (e2_ (congrArg (λo=>Option.bind o _) (rc_ (rs_ h.th i) (·.1) (h.thn y (bu_ hy)))) (?_:_=some (!(bi4 r i y),())))) ?_
  ·simp only[dl_,a0_]
   unfold bi4 frN twN un_
   cases okN y.1&&!((r.2.1.take i).any λz=>z.1==y.1) with
   | false=>rfl
   | true =>
    cases wi y.2.1 0 (w64 ((r.1.length:Int) - 1)) with
    | false=>rfl
    | true =>
     cases wi y.2.2.1 2 6 with
     | false=>rfl
     | true=>rfl
  ·rw[a0_]
   unfold nu_
   cases bi4 r i y<;>rfl
 ·simp only[dnl,a4_]
 refine dp_ r.2.2.1 (λi x=>xn_ (prOk r i x) 24 (cOk r.2.1 x.2.2) 25) (λi y hy => ?_) ?_ (kn_ ?_)
 ·have hi:=al_ hy
  simp only[dlt hi,a5_,af_ hy,a0_,bn_ (show Sm i from e7_ (g4_ hi) h.pr),mg_ (g4_ hi)]
  refine e2_ (congrArg (λo=>Option.bind o _) (e2_ (congrArg (λo=>Option.bind o _) (rc_ (rs_ h.pr i) (·.1) (h.prn y (bu_ hy)).1)) (?_:_=some (!(prOk r i y),())))) ?_
  ·simp only[dl_,a0_]
   unfold prOk frN twN un_
   cases okN y.1&&!((r.2.2.1.take i).any λz=>z.1==y.1) with
   | false=>rfl
   | true =>
    cases wi y.2.1 0 (w64 ((r.1.length:Int) - 1)) with
    | false=>rfl
    | true=>rfl
  ·rw[a0_,hx_ h.th,a0_]
   unfold xn_
   cases prOk r i y with
   | false=>rfl
   | true=>cases cOk r.2.1 y.2.2<;>rfl
 ·simp only[dnl,a4_]
 refine dp_ r.2.2.2.1 (λi x=>xn_ (bs3 r x) 23 (cOk r.2.1 x.2.2) 25) (λi y hy => ?_) ?_ (kn_ ?_)
 ·have hi:=al_ hy
  simp only[dlt hi,a5_,af_ hy,a0_,bn_ (show Sm i from e7_ (g4_ hi) h.wy)]
  refine e2_ (congrArg (λo=>Option.bind o _) (?_:_=some (!(bs3 r y),()))) ?_
  ·simp only[dl_,a0_]
   unfold bs3 un_
   cases wi y.1 0 (w64 ((r.1.length:Int) - 1)) with
   | false=>rfl
   | true =>
    cases wi y.2.1 0 (w64 ((r.1.length:Int) - 1)) with
    | false=>rfl
    | true=>simp
  ·rw[a0_,hx_ h.th,a0_]
   unfold xn_
   cases bs3 r y with
   | false=>rfl
   | true=>cases cOk r.2.1 y.2.2<;>rfl
 ·simp only[dnl,a4_]
 refine dp_ r.2.2.2.2.1 (λi x=>xn_ (zr_ r i x) 26 (cOk r.2.1 x.2.2.2.2.1) 25) (λi y hy => ?_) ?_ (kn_ ?_)
 ·have hi:=al_ hy
  simp only[dlt hi,a5_,af_ hy,a0_,bn_ (show Sm i from e7_ (g4_ hi) h.ac),bk7 h hy,hx_ h.th]
  unfold xn_
  cases zr_ r i y with
  | false=>rfl
  | true=>cases cOk r.2.1 y.2.2.2.2.1<;>rfl
 ·simp only[dnl,a4_]
 refine dp_ r.2.2.2.2.2.1 (λi x=>xn_ (qv_ r.2.1 x.2.1 x.2.2) 27 (cOk r.2.1 x.1) 25) (λi y hy => ?_) ?_ (kn_ ?_)
 ·have hi:=al_ hy
  simp only[dlt hi,a5_,af_ hy,a0_,bn_ (show Sm i from e7_ (g4_ hi) h.au),mm_ h.th,hx_ h.th]
  unfold xn_
  cases qv_ r.2.1 y.2.1 y.2.2 with
  | false=>rfl
  | true=>cases cOk r.2.1 y.1<;>rfl
 ·simp only[dnl,a4_]
 rw[dl_,a0_,hx_ h.th,a0_]
 cases wi r.2.2.2.2.2.2.1 1 4 with
 | false=>rfl
 | true=>cases cOk r.2.1 r.2.2.2.2.2.2.2<;>rfl
end
section

end
section
theorem hw_ {α τ:Type} (l:List α) (hl:Sm l.length) (q:α→Bool) {body:(Int×Unit)→Option ((Int×Unit)⊕(Unit⊕(Bool×Unit)))} {K:(Unit⊕(Bool×Unit))→Option τ} {x:Option τ}
  (h:∀ (i:Nat) y,l[i]?=some y→body ((i:Int),())=some (cond (q y) (.inr (.inr (true,()))) (.inl (w64 ((i:Int)+1),())))) (e:body ((l.length:Int),())=some (.inr (.inl ()))) (hx:K (cond (l.any q) (.inr (true,())) (.inl ()))=x) :
  (ae_ body (0,())).bind K=x:=by
 refine hh_ l (λi y=>cond (q y) (some (inr (true,()):Unit⊕(Bool×Unit))) none) (λi=>((i:Int),())) (r0:=inl ()) (λi y hy => ?_) e ?_
 ·have hi:=al_ hy
  rw[h i y hy,bn_ (show Sm i by omega)]
  cases q y<;>rfl
 ·rw[vr_ (q:=q)]
  cases hq:l.any q<;>rw[hq] at hx<;>exact hx
theorem gm_ {α:Type} {l:List α} {q:α→Bool} (h:l.any q=false):∀ x ∈ l,q x=false:=by
 intro x hx
 cases hq:q x with
 | false=>rfl
 | true=>rw[List.any_eq_true.2 ⟨x,hx,hq⟩] at h;cases h
theorem nlt {n:Nat} {k:Int} (h:decide (k<(n:Int))=false) (hk:k≤1000000000):Sm n:=by
 have:=c9_ h
 omega
def bn7 (r:ad_):Bool:=decide (12<(r.1.length:Int))||(decide (15<(r.2.1.length:Int))||(decide (14<(r.2.2.1.length:Int))||(decide (20<(r.2.2.2.1.length:Int))||(decide (30<(r.2.2.2.2.1.length:Int))||(decide (15<(r.2.2.2.2.2.1.length:Int))||decide (20<(r.2.2.2.2.2.2.2.length:Int)))))))
theorem bn6 (r:ad_):(cond (decide (12<(r.1.length:Int)))
 (some (true,()))
 (cond (decide (15<(r.2.1.length:Int)))
 (some (true,()))
 (cond (decide (14<(r.2.2.1.length:Int)))
 (some (true,()))
 (cond (decide (20<(r.2.2.2.1.length:Int)))
 (some (true,()))
 (cond (decide (30<(r.2.2.2.2.1.length:Int)))
 (some (true,()))
 (cond (decide (15<(r.2.2.2.2.2.1.length:Int)))
 (some (true,()))
 (some ((decide (20<(r.2.2.2.2.2.2.2.length:Int))),()))))))))=some (bn7 r,()):=by
  unfold bn7
  cases decide (12<(r.1.length:Int)) with
  | true=>rfl
  | false =>
  cases decide (15<(r.2.1.length:Int)) with
  | true=>rfl
  | false =>
  cases decide (14<(r.2.2.1.length:Int)) with
  | true=>rfl
  | false =>
  cases decide (20<(r.2.2.2.1.length:Int)) with
  | true=>rfl
  | false =>
  cases decide (30<(r.2.2.2.2.1.length:Int)) with
  | true=>rfl
  | false =>
  cases decide (15<(r.2.2.2.2.2.1.length:Int)) with
  | true=>rfl
  | false=>rfl
theorem ay4 (r:ad_):∃ b,kk_ r=some (b,())∧(b=false→SmR r∧r.2.1.length≤15∧r.2.2.2.2.2.2.2.length≤20∧r.2.2.2.2.1.length≤30):=by
 unfold kk_
 have e0:=bn6 r
 cases hm:bn7 r with
 | true =>
  rw[hm] at e0
  exact⟨true,e2_ (congrArg (λo=>Option.bind o _) e0) rfl,λh=>by cases h⟩
 | false =>
 rw[hm] at e0
 unfold bn7 at hm
 simp only[b6_] at hm
 obtain⟨h1,h2,h3,h4,h5,h6,h7⟩:=hm
 have l1:=nlt h1 (by decide)
 have l2:=nlt h2 (by decide)
 have l3:=nlt h3 (by decide)
 have l4:=nlt h4 (by decide)
 have l5:=nlt h5 (by decide)
 have l6:=nlt h6 (by decide)
 have l7:=nlt h7 (by decide)
 have b2:=c9_ h2
 have b5:=c9_ h5
 have b7:=c9_ h7
 let qa:dk_→Bool:=λy=>decide (100<(y.1.length:Int))||(decide (20<(y.2.2.2.2.1.length:Int))||(decide (20<(y.2.2.2.1.length:Int))||(decide (20<(y.2.2.2.2.2.1.length:Int))||(decide (20<(y.2.2.2.2.2.2.1.length:Int))||decide (20<(y.2.2.2.2.2.2.2.length:Int))))))
 let b1:=r.1.any λx=>decide (100<(x.length:Int))
 let bt:=r.2.1.any λx=>decide (100<(x.1.length:Int))
 let bp:=r.2.2.1.any λx=>decide (100<(x.1.length:Int))||decide (20<(x.2.2.length:Int))
 let bw:=r.2.2.2.1.any λx=>decide (20<(x.2.2.length:Int))
 let ba:=r.2.2.2.2.1.any qa
 let bo:=r.2.2.2.2.2.1.any λx=>decide (20<(x.1.length:Int))
 refine⟨b1||(bt||(bp||(bw||(ba||bo)))),?_,?_⟩
 ·refine e2_ (congrArg (λo=>Option.bind o _) e0) ?_
  rw[a0_]
  simp only[a4_]
  refine hw_ r.1 l1 (λx=>decide (100<(x.length:Int))) (λi y hy => ?_) ?_ ?_
  ·simp only[dlt (al_ hy),a5_,af_ hy,a0_]
   cases decide (100<(y.length:Int))<;>rfl
  ·simp only[dnl,a4_]
  show co_ (cond b1 _ _) _ _=_
  cases b1 with
  | true=>rfl
  | false =>
  refine hw_ r.2.1 l2 (λx=>decide (100<(x.1.length:Int))) (λi y hy => ?_) ?_ ?_
  ·simp only[dlt (al_ hy),a5_,af_ hy,a0_]
   cases decide (100<(y.1.length:Int))<;>rfl
  ·simp only[dnl,a4_]
  show co_ (cond bt _ _) _ _=_
  cases bt with
  | true=>rfl
  | false =>
  refine hw_ r.2.2.1 l3 (λx=>decide (100<(x.1.length:Int))||decide (20<(x.2.2.length:Int))) (λi y hy => ?_) ?_ ?_
  ·simp only[dlt (al_ hy),a5_,af_ hy,a0_]
   cases decide (100<(y.1.length:Int)) with
   | true=>rfl
   | false=>cases decide (20<(y.2.2.length:Int))<;>rfl
  ·simp only[dnl,a4_]
  show co_ (cond bp _ _) _ _=_
  cases bp with
  | true=>rfl
  | false =>
  refine hw_ r.2.2.2.1 l4 (λx=>decide (20<(x.2.2.length:Int))) (λi y hy => ?_) ?_ ?_
  ·simp only[dlt (al_ hy),a5_,af_ hy,a0_]
   cases decide (20<(y.2.2.length:Int))<;>rfl
  ·simp only[dnl,a4_]
  show co_ (cond bw _ _) _ _=_
  cases bw with
  | true=>rfl
  | false =>
  refine hw_ r.2.2.2.2.1 l5 qa (λi y hy => ?_) ?_ ?_
  ·simp only[dlt (al_ hy),a5_,af_ hy,a0_,qa]
   cases decide (100<(y.1.length:Int)) with
   | true=>rfl
   | false =>
   cases decide (20<(y.2.2.2.2.1.length:Int)) with
   | true=>rfl
   | false =>
   cases decide (20<(y.2.2.2.1.length:Int)) with
   | true=>rfl
   | false =>
   cases decide (20<(y.2.2.2.2.2.1.length:Int)) with
   | true=>rfl
   | false =>
   cases decide (20<(y.2.2.2.2.2.2.1.length:Int)) with
   | true=>rfl
   | false=>cases decide (20<(y.2.2.2.2.2.2.2.length:Int))<;>rfl
  ·simp only[dnl,a4_]
  show co_ (cond ba _ _) _ _=_
  cases ba with
  | true=>rfl
  | false =>
  refine hw_ r.2.2.2.2.2.1 l6 (λx=>decide (20<(x.1.length:Int))) (λi y hy => ?_) ?_ ?_
  ·simp only[dlt (al_ hy),a5_,af_ hy,a0_]
   cases decide (20<(y.1.length:Int))<;>rfl
  ·simp only[dnl,a4_]
  show co_ (cond bo _ _) _ _=_
  cases bo<;>rfl
 ·intro hb
  simp only[b6_] at hb
  obtain⟨g1,g2,g3,g4,g5,g6⟩:=hb
  refine⟨⟨l1,l2,l3,l4,l5,l6,l7,λx hx=>nlt (gm_ g1 x hx) (by decide),λx hx=>nlt (gm_ g2 x hx) (by decide),λx hx => ?_,λx hx=>nlt (gm_ g4 x hx) (by decide),λx hx => ?_,λx hx=>nlt (gm_ g6 x hx) (by decide)⟩,by omega,by omega,by omega⟩
  ·have:=gm_ g3 x hx
   simp only[b6_] at this
   exact⟨nlt this.1 (by decide),nlt this.2 (by decide)⟩
  ·have:=gm_ g5 x hx
   simp only[qa,b6_] at this
   obtain⟨a1,a2,a3,a4,a5,a6⟩:=this
   exact⟨nlt a1 (by decide),nlt a3 (by decide),nlt a2 (by decide),nlt a4 (by decide),nlt a5 (by decide),nlt a6 (by decide)⟩
structure SmG (g:ac_):Prop where
 room:SmR g.1
 th:g.1.2.1.length≤15
 go:g.1.2.2.2.2.2.2.2.length≤20
 ac:g.1.2.2.2.2.1.length≤30
 lk:g.2.1.length≤10
 cd:g.2.2.1.length≤10
 nt:g.2.2.2.1.length≤20
 lkn:∀ x ∈ g.2.1,¬ (3<x.1∧5<x.2)
 cdn:∀ x ∈ g.2.2.1,x.length≤10
 ntn:∀ x ∈ g.2.2.2.1,x.1.length≤100∧x.2.2.2.1.length≤20∧x.2.2.2.2.2.2.2.2.2.1.length≤10
theorem ay3 (g:ac_):∃ b,kj_ g=some (b,())∧(b=false→SmG g):=by
 unfold kj_
 obtain⟨b0,e0,h0⟩:=ay4 g.1
 rw[e0]
 simp only[a0_]
 cases b0 with
 | true=>exact⟨true,rfl,λh=>by cases h⟩
 | false =>
 obtain⟨r1,r2,r3,r4⟩:=h0 rfl
 cases h1:decide (10<(g.2.1.length:Int)) with
 | true=>exact⟨true,rfl,λh=>by cases h⟩
 | false =>
 cases h2:decide (10<(g.2.2.1.length:Int)) with
 | true=>exact⟨true,rfl,λh=>by cases h⟩
 | false =>
 cases h3:decide (20<(g.2.2.2.1.length:Int)) with
 | true=>exact⟨true,rfl,λh=>by cases h⟩
 | false =>
 have l1:=nlt h1 (by decide)
 have l2:=nlt h2 (by decide)
 have l3:=nlt h3 (by decide)
 let ql:aa_→Bool:=λy=>decide (3<y.1)&&decide (5<y.2)
 let qn:bw_→Bool:=λy=>decide (100<(y.1.length:Int))||(decide (20<(y.2.2.2.1.length:Int))||decide (10<(y.2.2.2.2.2.2.2.2.2.1.length:Int)))
 let b1:=g.2.1.any ql
 let b2:=g.2.2.1.any λx=>decide (10<(x.length:Int))
 let b3:=g.2.2.2.1.any qn
 refine⟨b1||(b2||b3),?_,?_⟩
 ·simp only[a0_,a4_]
  refine hw_ g.2.1 l1 ql (λi y hy => ?_) ?_ ?_
  ·simp only[dlt (al_ hy),a5_,af_ hy,a0_,ql]
   cases decide (3<y.1) with
   | false=>rfl
   | true=>cases decide (5<y.2)<;>rfl
  ·simp only[dnl,a4_]
  show co_ (cond b1 _ _) _ _=_
  cases b1 with
  | true=>rfl
  | false =>
  refine hw_ g.2.2.1 l2 (λx=>decide (10<(x.length:Int))) (λi y hy => ?_) ?_ ?_
  ·simp only[dlt (al_ hy),a5_,af_ hy,a0_]
   cases decide (10<(y.length:Int))<;>rfl
  ·simp only[dnl,a4_]
  show co_ (cond b2 _ _) _ _=_
  cases b2 with
  | true=>rfl
  | false =>
  refine hw_ g.2.2.2.1 l3 qn (λi y hy => ?_) ?_ ?_
  ·simp only[dlt (al_ hy),a5_,af_ hy,a0_,qn]
   cases decide (100<(y.1.length:Int)) with
   | true=>rfl
   | false =>
   cases decide (20<(y.2.2.2.1.length:Int)) with
   | true=>rfl
   | false=>cases decide (10<(y.2.2.2.2.2.2.2.2.2.1.length:Int))<;>rfl
  ·simp only[dnl,a4_]
  show co_ (cond b3 _ _) _ _=_
  cases b3<;>rfl
 ·intro hb
  simp only[b6_] at hb
  obtain⟨g1,g2,g3⟩:=hb
  have c1:=c9_ h1
  have c2:=c9_ h2
  have c3:=c9_ h3
  refine⟨r1,r2,r3,r4,by omega,by omega,by omega,λx hx => ?_,λx hx => ?_,λx hx => ?_⟩
  ·have:=gm_ g1 x hx
   intro hc
   simp only[ql,b7_ hc.1,b7_ hc.2] at this
   cases this
  ·have:=c9_ (gm_ g2 x hx)
   omega
  ·have:=gm_ g3 x hx
   simp only[qn,b6_] at this
   have d1:=c9_ this.1
   have d2:=c9_ this.2.1
   have d3:=c9_ this.2.2
   omega
end
end Go.Proofs.YtlbfbdbagohinaaGreatDoor.Rx
namespace Go.Proofs.YtlbfbdbagohinaaGreatDoor.Rx
open Go Pad Rex Go.Proofs Go.Proofs.Tryz Sum
section
set_option maxRecDepth 100000
set_option maxHeartbeats 0
noncomputable def gi_ (a0:aa_) (a1:ab_) (a2:(List Int)):Option (Bool×Int×Unit) :=
 ((ey_ a0 a1).bind λv0 =>
 (cond (v0.1 != 0)
 (some (false,(v0.1,())))
 ((cf_ a0 a2).bind λv1 =>
 (cond (v1.1 != 0)
 (some (false,(v1.1,())))
 ((ex_ a1 a2).bind λv2 =>
 (some (v2.1,(0,()))))))))
theorem x_115:be_ (P:=prog) (cxC [c_62,c_172,c_173] []) .z 115 [ah_,ai_,(.list .int)] [.bool,.int]=λx=>gi_ x.1 x.2.1 x.2.2.1:=by kernel_rfl
noncomputable def c_115:Con prog:=bg_ _ _ 115 [ah_,ai_,(.list .int)] [.bool,.int] _ x_115
noncomputable def cb_ (a0:ad_) (a1:aj_):Option (Int×Unit) :=
 ((en_ a0).bind λv0 =>
 (cond (v0.1 != 0)
 (some (v0.1,()))
 (((cond ((a1.1.length:Int) != (a0.2.1.length:Int))
 (some (true,()))
 (cond ((a1.2.1.length:Int) != (a0.2.2.1.length:Int))
 (some (true,()))
 (some (((a1.2.2.length:Int) != a0.2.2.2.2.2.2.1),()))))).bind λv1 =>
 (cond v1.1
 (some (28,()))
 ((ae_ (ρ:=(Unit⊕(Int×Unit))) (λ(v2:(Int×Unit)) =>
 (cond (decide (v2.1<(a1.1.length:Int)))
 ((at? a1.1 v2.1).bind λv3 =>
 ((em_ a0 v2.1 v3).bind λv4 =>
 (cond (!v4.1)
 (some (inr (inr (28,()))))
 (some (inl ((w64 (v2.1+1)),()))))))
 (some (inr (inl ()))))) (0,())).bind λv5 =>
 (co_ v5 (λv6=>((ae_ (ρ:=(Unit⊕(Int×Unit))) (λ(v8:(Int×Unit)) =>
 (cond (decide (v8.1<(a1.2.1.length:Int)))
 ((at? a1.2.1 v8.1).bind λv9 =>
 ((av_ v9 (w64 ((w64 ((-2) - a0.2.2.2.2.2.2.1))+1)) (w64 ((a0.1.length:Int) - 1))).bind λv10 =>
 (cond (!v10.1)
 (some (inr (inr (28,()))))
 (some (inl ((w64 (v8.1+1)),()))))))
 (some (inr (inl ()))))) (0,())).bind λv11 =>
 (co_ v11 (λv12=>((ae_ (ρ:=(Unit⊕(Int×Unit))) (λ(v14:(Int×Unit)) =>
 (cond (decide (v14.1<(a1.2.2.length:Int)))
 ((at? a1.2.2 v14.1).bind λv15 =>
 ((av_ v15 0 (w64 ((a0.1.length:Int) - 1))).bind λv16 =>
 (cond (!v16.1)
 (some (inr (inr (28,()))))
 (some (inl ((w64 (v14.1+1)),()))))))
 (some (inr (inl ()))))) (0,())).bind λv17 =>
 (co_ v17 (λv18=>(some (0,())))
 (λv19=>(some v19)))))
 (λv13=>(some v13)))))
 (λv7=>(some v7))))))))
theorem x_110:be_ (P:=prog) (cxC [c_73,be0,br5] []) (.p .z (.p .z (.p (.j0 [.v 40 .bool] .z .z) (.p (.p .z (.ls [.v 44 .int] [] [] 0 .z)) (.p (.p .z (.ls [.v 58 .int] [] [] 2 .z)) (.p (.p .z (.ls [.v 77 .int] [] [] 4 .z)) .z)))))) 110 [ba_,br_] [.int]=λx=>cb_ x.1 x.2.1:=by kernel_rfl
noncomputable def c_110:Con prog:=bg_ _ _ 110 [ba_,br_] [.int] _ x_110
noncomputable def ax_ (a0:aa_) (a1:(List ab_)):Option (Int×Int×Unit) :=
 ((dj_ a0 a1).bind λv0 =>
 (cond (v0.1 != 0)
 (some (0,(v0.1,())))
 ((eh_ a0 a1).bind λv1 =>
 (some (v1.1,(0,()))))))
theorem x_26:be_ (P:=prog) (cxC [c_69,c_70] []) .z 26 [ah_,(.list ai_)] [.int,.int]=λx=>ax_ x.1 x.2.1:=by kernel_rfl
noncomputable def bv7:Con prog:=bg_ _ _ 26 [ah_,(.list ai_)] [.int,.int] _ x_26
noncomputable def hg_ (a0:aa_) (a1:(List ab_)) (a2:(List Int)):Option (Int×Bool×Int×Unit) :=
 ((dj_ a0 a1).bind λv0 =>
 (cond (v0.1 != 0)
 (some (0,(false,(v0.1,()))))
 ((cf_ a0 a2).bind λv1 =>
 (cond (v1.1 != 0)
 (some (0,(false,(v1.1,()))))
 ((du_ a1 a2).bind λv2 =>
 (some (v2.1,((decide (v2.1<0)),(0,())))))))))
theorem x_197:be_ (P:=prog) (cxC [c_62,c_69,c_178] []) .z 197 [ah_,(.list ai_),(.list .int)] [.int,.bool,.int]=λx=>hg_ x.1 x.2.1 x.2.2.1:=by kernel_rfl
noncomputable def c_197:Con prog:=bg_ _ _ 197 [ah_,(.list ai_),(.list .int)] [.int,.bool,.int] _ x_197
noncomputable def hd_ (a0:ad_):Option (aj_×Int×Unit) :=
 ((en_ a0).bind λv0 =>
 (cond (v0.1 != 0)
 (some (([],([],[])),(v0.1,())))
 ((mk? (α:=Int) a0.2.2.2.2.2.2.1 0).bind λv1 =>
 ((ae_ (ρ:=(((List Int)×Unit)×Unit)) (λ(v2:(Int×(((List Int)×Unit)×Unit))) =>
 (cond (decide (v2.1<(a0.2.1.length:Int)))
 ((at? a0.2.1 v2.1).bind λv3 =>
 ((push? (α:=Int) v2.2.1.1 [v3.2.2.2]).bind λv4 =>
 (some (inl ((w64 (v2.1+1)),((v4,()),()))))))
 (some (inr ((v2.2.1.1,()),()))))) (0,(([],()),()))).bind λv5 =>
 ((ae_ (ρ:=(((List Int)×Unit)×Unit)) (λ(v6:(Int×(((List Int)×Unit)×Unit))) =>
 (cond (decide (v6.1<(a0.2.2.1.length:Int)))
 ((at? a0.2.2.1 v6.1).bind λv7 =>
 ((push? (α:=Int) v6.2.1.1 [v7.2.1]).bind λv8 =>
 (some (inl ((w64 (v6.1+1)),((v8,()),()))))))
 (some (inr ((v6.2.1.1,()),()))))) (0,(([],()),()))).bind λv9 =>
 ((push? (α:=Int) [] v5.1.1).bind λv10 =>
 ((push? (α:=Int) [] v9.1.1).bind λv11 =>
 ((push? (α:=Int) [] v1).bind λv12 =>
 ((((ae_ (ρ:=(((List Int)×Unit)⊕(Bool×((List Int)×Unit)))) (λ(v13:(Int×((List Int)×Unit))) =>
 (cond (decide (v13.1<101))
 ((((ae_ (ρ:=(Unit⊕(Int×Unit))) (λ(v14:(Int×Unit)) =>
 (cond (decide (v14.1<(a0.2.2.2.2.2.1.length:Int)))
 ((at? a0.2.2.2.2.2.1 v14.1).bind λv15 =>
 ((((at? v13.2.1 v15.2.1).bind λv16 =>
 ((at? v13.2.1 v15.2.1).bind λv17 =>
 (cond (v17 != v15.2.2)
 ((aw_ (a0,(v13.2.1,(v11,v12))) v15.1).bind λv18 =>
 (some (v18.1,())))
 (some (false,())))))).bind λv19 =>
 (cond v19.1
 (some (inr (inr (v14.1,()))))
 (some (inl ((w64 (v14.1+1)),()))))))
 (some (inr (inl ()))))) (0,())).bind λv20 =>
 (co_ v20 (λv21=>(some ((-1),())))
 (λv22=>(some v22))))).bind λv23 =>
 (cond (decide (v23.1<0))
 (some (inr (inr ((!true),(v13.2.1,())))))
 ((at? a0.2.2.2.2.2.1 v23.1).bind λv24 =>
 ((at? a0.2.2.2.2.2.1 v23.1).bind λv25 =>
 ((at? v13.2.1 v24.2.1).bind λv26 =>
 ((at? v13.2.1 v24.2.1).bind λv27 =>
 (some (inl ((w64 (v13.1+1)),((v13.2.1.set v24.2.1.toNat v25.2.2),()))))))))))
 (some (inr (inl (v13.2.1,())))))) (0,(v10,()))).bind λv28 =>
 (co_ v28 (λv29=>(some ((!false),(v29.1,()))))
 (λv30=>(some v30))))).bind λv31 =>
 (cond v31.1
 (some (([],([],[])),(27,())))
 (some ((v31.2.1,(v11,v12)),(0,())))))))))))))
theorem x_30:be_ (P:=prog) (cxI (λk=>cond (Nat.beq k 79) (.p .z (.p (.j0 [.v 6 .bool,.o (.c (.s 0) 8) .int] .z .z) .z)) (cond (Nat.beq k 138) (.p .z (.p (.p .z (.ls [.v 4 .int] [] [.o (.c (.s 0) 8) .int] 0 (.p .z (.p .z (.p (.j0 [.v 3 .int] .z .z) .z))))) .z)) (cond (Nat.beq k 193) (.p .z (.p (.p .z (.ls [.v 8 .int] [] [] 0 .z)) .z)) (cond (Nat.beq k 194) (.p .z (.j0 [.v 3 .bool] .z .z)) (.z))))) (λk=>Nat.beq k 37||Nat.beq k 73||Nat.beq k 139||false) (cxC [c_73,br3] [wz_]) 6) (.p .z (.p .z (.p .z (.p (.p .z (.lp [.v 23 .int] [] [.b (.s 5) [.row .int 3,.keep,.keep]] 0 .z)) (.p (.p .z (.lp [.v 38 .int] [] [.b (.s 5) [.keep,.row .int 3,.keep]] 2 .z)) .z))))) 30 [ba_] [br_,.int]=λx=>hd_ x.1:=by kernel_rfl
noncomputable def c_30:Con prog:=bg_ _ _ 30 [ba_] [br_,.int] _ x_30
end
end Go.Proofs.YtlbfbdbagohinaaGreatDoor.Rx
namespace Go.Proofs.YtlbfbdbagohinaaGreatDoor.Rx
open Go Pad Rex Sum
section
theorem gc_ {α ρ:Type} {p:Nat→α→Option ρ} {e:ρ} (h:∀ i x,p i x≠some e):∀ (l:List α) (i:Nat),ga_ p i l≠some e
 | [],_=>by simp[ga_]
 | x::l,i=>by
  unfold ga_
  cases hp:p i x with
  | some r =>
   intro he
   cases he
   exact h i x hp
  | none=>exact gc_ h l (i+1)
theorem dm_ {o:Option Int} {k:Int} (h:o.getD k=0) (hn:o≠some 0):o=none∧k=0:=by
 cases o with
 | none=>exact⟨rfl,h⟩
 | some e =>
  have:e=0:=h
  subst this
  exact absurd rfl hn
theorem lj_ {a:Bool} {e:Int} (h:e≠0):nu_ a e≠some 0:=by
 unfold nu_
 cases a with
 | true=>simp
 | false=>simpa using h
theorem sx_ {a b:Bool} {e f:Int} (h:e≠0) (k:f≠0):xn_ a e b f≠some 0:=by
 unfold xn_
 cases a with
 | false=>simpa using h
 | true =>
  cases b with
  | true=>simp
  | false=>simpa using k
theorem gj_ {a:Bool} {e:Int} (h:nu_ a e=none):a=true:=by cases a with
 | true=>rfl
 | false=>cases h
theorem li_ {a b:Bool} {e f:Int} (h:xn_ a e b f=none):a=true∧b=true:=by
 cases a with
 | false=>cases h
 | true=>cases b with
  | true=>exact⟨rfl,rfl⟩
  | false=>cases h
theorem ca_ {α ρ:Type} {p:Nat→α→Option ρ} {l:List α} (h:ga_ p 0 l=none) {i:Nat} {x:α} (hx:l[i]?=some x):p i x=none:=by
 have:=(ha_ l 0).1 h i x hx
 rwa [a7_] at this
structure OkR (r:ad_):Prop where
 many:ao3 r=false
 pl:∀ (i:Nat) x,r.1[i]?=some x→plOk r i x=true
 ne:r.1≠[]
 th:∀ (i:Nat) x,r.2.1[i]?=some x→bi4 r i x=true
 pr:∀ (i:Nat) x,r.2.2.1[i]?=some x→prOk r i x=true∧cOk r.2.1 x.2.2=true
 wy:∀ (i:Nat) x,r.2.2.2.1[i]?=some x→bs3 r x=true∧cOk r.2.1 x.2.2=true
 ac:∀ (i:Nat) x,r.2.2.2.2.1[i]?=some x→zr_ r i x=true∧cOk r.2.1 x.2.2.2.2.1=true
 au:∀ (i:Nat) x,r.2.2.2.2.2.1[i]?=some x→qv_ r.2.1 x.2.1 x.2.2=true∧cOk r.2.1 x.1=true
 py:wi r.2.2.2.2.2.2.1 1 4=true
 go:cOk r.2.1 r.2.2.2.2.2.2.2=true
theorem ep_ {r:ad_} (h:ei_ r=0):OkR r:=by
 unfold ei_ at h
 cases hm:ao3 r with
 | true=>rw[hm] at h;exact absurd (show (2:Int)=0 from h) (by decide)
 | false =>
 rw[hm] at h
 have h:(ga_ (λi x=>nu_ (plOk r i x) 22) 0 r.1).getD _=0:=h
 obtain⟨h1,h⟩:=dm_ h (gc_ (λi x=>lj_ (by decide)) _ _)
 cases he:(r.1.length:Int)==0 with
 | true=>rw[he] at h;exact absurd (show (22:Int)=0 from h) (by decide)
 | false =>
 rw[he] at h
 have h:(ga_ (λi x=>nu_ (bi4 r i x) 21) 0 r.2.1).getD _=0:=h
 obtain⟨h2,h⟩:=dm_ h (gc_ (λi x=>lj_ (by decide)) _ _)
 obtain⟨h3,h⟩:=dm_ h (gc_ (λi x=>sx_ (by decide) (by decide)) _ _)
 obtain⟨h4,h⟩:=dm_ h (gc_ (λi x=>sx_ (by decide) (by decide)) _ _)
 obtain⟨h5,h⟩:=dm_ h (gc_ (λi x=>sx_ (by decide) (by decide)) _ _)
 obtain⟨h6,h⟩:=dm_ h (gc_ (λi x=>sx_ (by decide) (by decide)) _ _)
 cases h7:wi r.2.2.2.2.2.2.1 1 4 with
 | false=>rw[h7] at h;exact absurd (show (1:Int)=0 from h) (by decide)
 | true =>
 rw[h7] at h
 cases h8:cOk r.2.1 r.2.2.2.2.2.2.2 with
 | false=>rw[h8] at h;exact absurd (show (25:Int)=0 from h) (by decide)
 | true =>
 refine⟨hm,λi x hx=>gj_ (ca_ h1 hx),λe => ?_,λi x hx=>gj_ (ca_ h2 hx),λi x hx=>li_ (ca_ h3 hx),λi x hx=>li_ (ca_ h4 hx),λi x hx=>li_ (ca_ h5 hx),λi x hx=>li_ (ca_ h6 hx),h7,h8⟩
 rw[e] at he
 cases he
def inR (r:ad_) (p:Int):Bool:=wi p (w64 ((w64 ((-2) - r.2.2.2.2.2.2.1))+1)) (w64 ((r.1.length:Int) - 1))
def wi_ (r:ad_) (s:aj_):Bool:=((s.1.length:Int) != (r.2.1.length:Int))||(((s.2.1.length:Int) != (r.2.2.1.length:Int))||((s.2.2.length:Int) != r.2.2.2.2.2.2.1))
def ckS (r:ad_) (s:aj_):Int :=
 cond (wi_ r s) 28 ((ga_ (λi n=>nu_ (qv_ r.2.1 (i:Int) n) 28) 0 s.1).getD ((ga_ (λ_ p=>nu_ (inR r p) 28) 0 s.2.1).getD ((ga_ (λ_ p=>nu_ (un_ r p) 28) 0 s.2.2).getD 0)))
def hp_ (r:ad_) (s:aj_):Int:=cond (ei_ r != 0) (ei_ r) (ckS r s)
theorem lens_of (r:ad_) (s:aj_):(cond ((s.1.length:Int) != (r.2.1.length:Int))
 (some (true,()))
 (cond ((s.2.1.length:Int) != (r.2.2.1.length:Int))
 (some (true,()))
 (some (((s.2.2.length:Int) != r.2.2.2.2.2.2.1),()))))=some (wi_ r s,()):=by
  unfold wi_
  cases (s.1.length:Int) != (r.2.1.length:Int) with
  | true=>rfl
  | false =>
  cases (s.2.1.length:Int) != (r.2.2.1.length:Int) with
  | true=>rfl
  | false=>rfl
theorem ai5 {r:ad_} {s:aj_} (h:wi_ r s=false):s.1.length=r.2.1.length∧s.2.1.length=r.2.2.1.length∧(s.2.2.length:Int)=r.2.2.2.2.2.2.1:=by
 unfold wi_ at h
 simp only[b6_,n6_] at h
 omega
theorem ib_ {r:ad_} (h:SmR r) (s:aj_):cb_ r s=some (hp_ r s,()):=by
 unfold cb_ hp_
 rw[pf_ h,a0_]
 cases hr:ei_ r != 0 with
 | true=>rfl
 | false =>
 have ok:=ep_ (by simpa using hr)
 simp only[a4_]
 refine e2_ (congrArg (λo=>Option.bind o _) (lens_of r s)) ?_
 rw[a0_]
 unfold ckS
 cases hl:wi_ r s with
 | true=>rfl
 | false =>
 obtain⟨l1,l2,l3⟩:=ai5 hl
 have hp:=cl_.1 ok.py
 have m1:Sm s.1.length:=by rw[l1];exact h.th
 have m2:Sm s.2.1.length:=by rw[l2];exact h.pr
 have m3:Sm s.2.2.length:=by show s.2.2.length≤1000000000;omega
 simp only[a4_]
 refine dp_ s.1 (λi n=>nu_ (qv_ r.2.1 (i:Int) n) 28) (λi y hy => ?_) ?_ (kn_ ?_)
 ·have hi:=al_ hy
  simp only[dlt hi,a5_,af_ hy,a0_,bn_ (show Sm i by omega),mm_ h.th]
  unfold nu_
  cases qv_ r.2.1 (i:Int) y<;>rfl
 ·simp only[dnl,a4_]
 refine dp_ s.2.1 (λ_ p=>nu_ (inR r p) 28) (λi y hy => ?_) ?_ (kn_ ?_)
 ·have hi:=al_ hy
  simp only[dlt hi,a5_,af_ hy,a0_,bn_ (show Sm i by omega),dl_]
  unfold nu_ inR
  cases wi y (w64 ((w64 ((-2) - r.2.2.2.2.2.2.1))+1)) (w64 ((r.1.length:Int) - 1))<;>rfl
 ·simp only[dnl,a4_]
 refine dp_ s.2.2 (λ_ p=>nu_ (un_ r p) 28) (λi y hy => ?_) ?_ (kn_ ?_)
 ·have hi:=al_ hy
  simp only[dlt hi,a5_,af_ hy,a0_,bn_ (show Sm i by omega),dl_]
  unfold nu_ un_
  cases wi y 0 (w64 ((r.1.length:Int) - 1))<;>rfl
 ·simp only[dnl,a4_]
 rfl
theorem inR_eq {r:ad_} (h:SmR r) (hp:wi r.2.2.2.2.2.2.1 1 4=true) (p:Int):inR r p=(un_ r p||(p==-1||wi p (w64 ((w64 ((-2) - r.2.2.2.2.2.2.1))+1)) (-2))):=by
 have hp:=cl_.1 hp
 have hpl:=h.pl
 have e1:w64 ((r.1.length:Int) - 1)=(r.1.length:Int) - 1:=ht_ (by omega) (by omega)
 have e2:w64 ((-2) - r.2.2.2.2.2.2.1)=(-2) - r.2.2.2.2.2.2.1:=ht_ (by omega) (by omega)
 have e3:w64 (((-2) - r.2.2.2.2.2.2.1)+1)=((-2) - r.2.2.2.2.2.2.1)+1:=ht_ (by omega) (by omega)
 unfold inR un_
 rw[e1,e2,e3,n3_]
 simp only[c2_,cl_,l2_]
 omega
end
section
def gi (l:List Int) (i:Int):Int:=(at? l i).getD 0
theorem az6 {l:List Int} {i x:Int} (h:at? l i=some x):gi l i=x:=by unfold gi;rw[h];rfl
theorem ap4 {l:List Int} {i:Int} (h0:0≤i) (h1:i<l.length):at? l i=some (gi l i):=by
 obtain⟨x,hx⟩:=bl_ (l:=l) (i:=i.toNat) (by omega)
 have:at? l i=some x:=by rw[show i=((i.toNat:Nat):Int) by omega];exact af_ hx
 rw[this,az6 this]
def InC (n:Nat) (c:List bi_):Prop:=∀ l ∈ c,0≤l.1∧l.1<n
theorem be1 {things:List fq_} (hl:Sm things.length) {c:List bi_} (h:cOk things c=true):InC things.length c∧c.length≤8:=by
 unfold cOk at h
 rw[a1_] at h
 refine⟨λl hm => ?_,by have:=f2_ h.1;omega⟩
 have h2:=f1_.1 h.2 l hm
 unfold qv_ at h2
 rw[a1_] at h2
 have:=cl_.1 h2.1
 rw[ht_ (by omega) (by omega)] at this
 omega
def ke_ (th:List Int) (c:List bi_):Bool:=c.all λl=>!((gi th l.1==l.2.1)==l.2.2)
theorem any_not {α:Type} (l:List α) (q:α→Bool):(!(l.any q))=l.all λx=>!(q x):=by
 induction l with
 | nil=>rfl
 | cons x l ih =>
  rw[List.any_cons,List.all_cons,← ih]
  cases q x<;>rfl
theorem ni_ {t:hi_} {c:List bi_} (hc:Sm c.length) (hi:InC t.2.1.length c):aw_ t c=some (ke_ t.2.1 c,()):=by
 unfold aw_ ke_
 refine e2_ (congrArg (λo=>Option.bind o _) (lo_ hc (λl=>(gi t.2.1 l.1==l.2.1)==l.2.2) (λi y hy => ?_) ?_)) ?_
 ·have:=hi y (bu_ hy)
  simp only[dlt (al_ hy),a5_,af_ hy,ap4 this.1 this.2,a0_]
  cases (gi t.2.1 y.1==y.2.1)==y.2.2<;>rfl
 ·simp only[dnl,a4_]
 ·rw[a0_]
  exact congrArg (λb=>some (b,())) (any_not c _)
end
end Go.Proofs.YtlbfbdbagohinaaGreatDoor.Rx
namespace Go.Proofs.YtlbfbdbagohinaaGreatDoor.Rx
open Go Pad Rex Go.Proofs Go.Proofs.Tryz Sum
section
set_option maxRecDepth 100000
set_option maxHeartbeats 0
noncomputable def iu_ (a0:ac_) (a1:Int) (a2:bw_):Option (Bool×Unit) :=
 ((sub? a0.2.2.2.1 0 a1).bind λv0 =>
 ((((ae_ (ρ:=(Unit⊕(Bool×Unit))) (λ(v1:(Int×Unit)) =>
 (cond (decide (v1.1<(v0.length:Int)))
 ((at? v0 v1.1).bind λv2 =>
 (cond (v2.1==a2.1)
 (some (inr (inr ((decide (0≤v1.1)),()))))
 (some (inl ((w64 (v1.1+1)),())))))
 (some (inr (inl ()))))) (0,())).bind λv3 =>
 (co_ v3 (λv4=>(some ((decide (0≤(-1))),())))
 (λv5=>(some v5))))).bind λv6 =>
 ((((kh_ a2.1).bind λv7 =>
 (cond (!v7.1)
 (some (true,()))
 (cond (decide (12<(a2.1.length:Int)))
 (some (true,()))
 (cond v6.1
 (some (true,()))
 ((ch_ a2.2.1 0 (w64 ((a0.1.1.length:Int) - 1))).bind λv8 =>
 (cond (!v8.1)
 (some (true,()))
 ((ch_ a2.2.2.1 (-1) (w64 ((a0.2.1.length:Int) - 1))).bind λv9 =>
 (some ((!v9.1),())))))))))).bind λv10 =>
 (cond v10.1
 (some (false,()))
 (cond (decide (a2.2.2.1<0))
 ((kg_ a2.2.2.2.2).bind λv11 =>
 (some (v11.1,())))
 ((at? a0.2.1 a2.2.2.1).bind λv12 =>
 ((at? a0.2.2.1 a2.2.2.1).bind λv13 =>
 ((gi_ v12 a2.2.2.2.2 v13).bind λv14 =>
 (cond (v14.2.1==0)
 (some (v14.1,()))
 (some (false,())))))))))))
theorem x_75:be_ (P:=prog) (cxI (λk=>cond (Nat.beq k 132) (.p .z (.j0 [.v 4 .bool] .z .z)) (cond (Nat.beq k 191) (.p .z (.p (.p .z (.ls [.v 8 .int] [] [] 0 .z)) .z)) (.z))) (λk=>Nat.beq k 77||Nat.beq k 115||Nat.beq k 134||Nat.beq k 135||false) (cxC [c_77,c_115,c_134,c_135] []) 4) (.p .z (.p .z (.p (.j0 [.v 49 .bool] .z .z) (.p .z (.p (.q [] .z .z) .z))))) 75 [au_,.int,mf_] [.bool]=λx=>iu_ x.1 x.2.1 x.2.2.1:=by kernel_rfl
noncomputable def c_75:Con prog:=bg_ _ _ 75 [au_,.int,mf_] [.bool] _ x_75
noncomputable def fx_ (a0:ak_) (a1:Int) (a2:ab_):Option (Bool×Unit) :=
 ((at? a0.1 a1).bind λv0 =>
 ((at? a0.2.1 a1).bind λv1 =>
 ((gi_ v0 a2 v1).bind λv2 =>
 (cond (v2.2.1==0)
 (some (v2.1,()))
 (some (false,()))))))
theorem x_65:be_ (P:=prog) (cxC [c_115] []) (.p .z (.p (.q [] .z .z) .z)) 65 [am_,.int,ai_] [.bool]=λx=>fx_ x.1 x.2.1 x.2.2.1:=by kernel_rfl
noncomputable def c_65:Con prog:=bg_ _ _ 65 [am_,.int,ai_] [.bool] _ x_65
noncomputable def bb_ (a0:aa_) (a1:(List ab_)):Option ((List (List Int))×Unit) :=
 ((mk? (α:=Int) a0.1 0).bind λv0 =>
 ((rdL (hg_ a0 a1) a0.2 5 0 v0 []).bind λv75 =>
 (some (v75.2.1.1,()))))
theorem x_142:be_ (P:=prog) (cxI (λk=>cond (Nat.beq k 196) (.p .z (.p (.p .z (.lp [] [] [.o (.s 11) .int,.b (.s 4) [.row (.list .int) 38]] 0 (.p .z (.j0 [.o (.s 11) .int,.b (.s 4) [.row (.list .int) 38]] .z .z)))) .z)) (.z)) (λk=>Nat.beq k 37||Nat.beq k 197||false) (cxC [c_197] [wz_]) 5) (.p .z (.p .z (.p .z (.p .z (.j0 [.o (.s 9) .int,.b (.s 4) [.row (.list .int) 38]] .z .z))))) 142 [ah_,(.list ai_)] [(.list (.list .int))]=λx=>bb_ x.1 x.2.1:=by kernel_rfl
noncomputable def br2:Con prog:=bg_ _ _ 142 [ah_,(.list ai_)] [(.list (.list .int))] _ x_142
noncomputable def fv_ (a0:ad_) (a1:aj_) (a2:(List bi_)):Option (Bool×Int×Unit) :=
 ((cb_ a0 a1).bind λv0 =>
 (cond (v0.1 != 0)
 (some (false,(v0.1,())))
 ((df_ a0 a2).bind λv1 =>
 (cond (!v1.1)
 (some (false,(25,())))
 ((push? (α:=Int) [] a1.1).bind λv2 =>
 ((push? (α:=Int) [] a1.2.1).bind λv3 =>
 ((push? (α:=Int) [] a1.2.2).bind λv4 =>
 ((aw_ (a0,(v2,(v3,v4))) a2).bind λv5 =>
 (some (v5.1,(0,())))))))))))
theorem x_80:be_ (P:=prog) (cxI (λk=>.z) (λk=>Nat.beq k 37||Nat.beq k 110||Nat.beq k 128||Nat.beq k 139||false) (cxC [c_110,c_128,br3] [wz_]) 2) .z 80 [ba_,br_,(.list bz_)] [.bool,.int]=λx=>fv_ x.1 x.2.1 x.2.2.1:=by kernel_rfl
noncomputable def c_80:Con prog:=bg_ _ _ 80 [ba_,br_,(.list bz_)] [.bool,.int] _ x_80
noncomputable def ij_ (a0:ad_) (a1:aj_) (a2:ay_):Option (aj_×Int×Unit) :=
 ((cb_ a0 a1).bind λv0 =>
 (cond (v0.1 != 0)
 (some (([],([],[])),(v0.1,())))
 ((push? (α:=Int) [] a1.1).bind λv1 =>
 ((push? (α:=Int) [] a1.2.1).bind λv2 =>
 ((push? (α:=Int) [] a1.2.2).bind λv3 =>
 ((dg_ (a0,(v1,(v2,v3))) a2).bind λv4 =>
 (cond (!v4.1)
 (some (([],([],[])),(29,())))
 (((cond (a2.2.1==1)
 ((at? a0.2.2.2.1 a2.2.2).bind λv5 =>
 ((at? v3 a2.1).bind λv6 =>
 ((at? v3 a2.1).bind λv7 =>
 ((at? v3 a2.1).bind λv8 =>
 ((at? v3 a2.1).bind λv9 =>
 (some (v1,(v2,((v3.set a2.1.toNat (w64 ((w64 (v5.1+v5.2.1)) - v7))),())))))))))
 (cond (a2.2.1==2)
 ((at? v2 a2.2.2).bind λv10 =>
 ((at? v2 a2.2.2).bind λv11 =>
 (some (v1,((v2.set a2.2.2.toNat (w64 ((-2) - a2.1))),(v3,()))))))
 (cond (a2.2.1==3)
 ((at? v3 a2.1).bind λv12 =>
 ((at? v3 a2.1).bind λv13 =>
 ((at? v2 a2.2.2).bind λv14 =>
 ((at? v2 a2.2.2).bind λv15 =>
 (some (v1,((v2.set a2.2.2.toNat v13),(v3,()))))))))
 (cond (a2.2.1==4)
 ((at? a0.2.2.2.2.1 a2.2.2).bind λv16 =>
 ((ae_ (ρ:=((List Int)×Unit)) (λ(v17:(Int×((List Int)×Unit))) =>
 (cond (decide (v17.1<(v16.2.2.2.2.2.2.1.length:Int)))
 ((at? v16.2.2.2.2.2.2.1 v17.1).bind λv18 =>
 ((at? v17.2.1 v18).bind λv19 =>
 ((at? v17.2.1 v18).bind λv20 =>
 (some (inl ((w64 (v17.1+1)),((v17.2.1.set v18.toNat (-1)),())))))))
 (some (inr (v17.2.1,()))))) (0,(v2,()))).bind λv21 =>
 ((ae_ (ρ:=((List Int)×Unit)) (λ(v22:(Int×((List Int)×Unit))) =>
 (cond (decide (v22.1<(v16.2.2.2.2.2.2.2.length:Int)))
 ((at? v16.2.2.2.2.2.2.2 v22.1).bind λv23 =>
 ((at? v22.2.1 v23).bind λv24 =>
 ((at? v22.2.1 v23).bind λv25 =>
 (some (inl ((w64 (v22.1+1)),((v22.2.1.set v23.toNat (w64 ((-2) - a2.1))),())))))))
 (some (inr (v22.2.1,()))))) (0,(v21.1,()))).bind λv26 =>
 ((ae_ (ρ:=((List Int)×Unit)) (λ(v27:(Int×((List Int)×Unit))) =>
 (cond (decide (v27.1<(v16.2.2.2.2.2.1.length:Int)))
 ((at? v16.2.2.2.2.2.1 v27.1).bind λv28 =>
 ((at? v27.2.1 v28.1).bind λv29 =>
 ((at? v27.2.1 v28.1).bind λv30 =>
 (some (inl ((w64 (v27.1+1)),((v27.2.1.set v28.1.toNat v28.2),())))))))
 (some (inr (v27.2.1,()))))) (0,(v1,()))).bind λv31 =>
 (some (v31.1,(v26.1,(v3,()))))))))
 (some (v1,(v2,(v3,()))))))))).bind λv32 =>
 ((((ae_ (ρ:=(((List Int)×Unit)⊕(Bool×((List Int)×Unit)))) (λ(v33:(Int×((List Int)×Unit))) =>
 (cond (decide (v33.1<101))
 ((((ae_ (ρ:=(Unit⊕(Int×Unit))) (λ(v34:(Int×Unit)) =>
 (cond (decide (v34.1<(a0.2.2.2.2.2.1.length:Int)))
 ((at? a0.2.2.2.2.2.1 v34.1).bind λv35 =>
 ((((at? v33.2.1 v35.2.1).bind λv36 =>
 ((at? v33.2.1 v35.2.1).bind λv37 =>
 (cond (v37 != v35.2.2)
 ((aw_ (a0,(v33.2.1,(v32.2.1,v32.2.2.1))) v35.1).bind λv38 =>
 (some (v38.1,())))
 (some (false,())))))).bind λv39 =>
 (cond v39.1
 (some (inr (inr (v34.1,()))))
 (some (inl ((w64 (v34.1+1)),()))))))
 (some (inr (inl ()))))) (0,())).bind λv40 =>
 (co_ v40 (λv41=>(some ((-1),())))
 (λv42=>(some v42))))).bind λv43 =>
 (cond (decide (v43.1<0))
 (some (inr (inr ((!true),(v33.2.1,())))))
 ((at? a0.2.2.2.2.2.1 v43.1).bind λv44 =>
 ((at? a0.2.2.2.2.2.1 v43.1).bind λv45 =>
 ((at? v33.2.1 v44.2.1).bind λv46 =>
 ((at? v33.2.1 v44.2.1).bind λv47 =>
 (some (inl ((w64 (v33.1+1)),((v33.2.1.set v44.2.1.toNat v45.2.2),()))))))))))
 (some (inr (inl (v33.2.1,())))))) (0,(v32.1,()))).bind λv48 =>
 (co_ v48 (λv49=>(some ((!false),(v49.1,()))))
 (λv50=>(some v50))))).bind λv51 =>
 (cond v51.1
 (some (([],([],[])),(27,())))
 (some ((v51.2.1,(v32.2.1,v32.2.2.1)),(0,())))))))))))))
theorem x_85:be_ (P:=prog) (cxI (λk=>cond (Nat.beq k 79) (.p .z (.p (.j0 [.v 6 .bool,.o (.c (.s 0) 8) .int] .z .z) .z)) (cond (Nat.beq k 138) (.p .z (.p (.p .z (.ls [.v 4 .int] [] [.o (.c (.s 0) 8) .int] 0 (.p .z (.p .z (.p (.j0 [.v 3 .int] .z .z) .z))))) .z)) (cond (Nat.beq k 141) (.p .z (.p .z (.p .z (.p .z (.p .z (.p .z (.p .z (.p .z (.p .z (.p .z (.p (.p .z (.p (.p .z (.lp [.v 96 .int] [] [.o (.c (.s 0) 9) .int] 1 .z)) (.p (.p .z (.lp [.v 111 .int] [] [.o (.c (.s 0) 9) .int] 3 .z)) (.p .z (.lp [.v 127 .int] [] [.o (.c (.s 0) 8) .int] 5 .z))))) .z))))))))))) (cond (Nat.beq k 193) (.p .z (.p (.p .z (.ls [.v 8 .int] [] [] 0 .z)) .z)) (cond (Nat.beq k 194) (.p .z (.j0 [.v 3 .bool] .z .z)) (.z)))))) (λk=>Nat.beq k 37||Nat.beq k 110||Nat.beq k 112||Nat.beq k 139||false) (cxC [c_110,c_112,br3] [wz_]) 7) (.p .z (.p .z (.p .z (.p .z (.j0 [.o (.c (.s 9) 8) .int,.o (.c (.s 9) 9) .int,.o (.c (.s 9) 10) .int] .z .z))))) 85 [ba_,br_,dz_] [br_,.int]=λx=>ij_ x.1 x.2.1 x.2.2.1:=by kernel_rfl
noncomputable def c_85:Con prog:=bg_ _ _ 85 [ba_,br_,dz_] [br_,.int] _ x_85
noncomputable def cs_  : Option (Bool×Unit) :=
 ((ax_ (2,4) [(2,(0,(1,(4,(0,([],false))))))]).bind λv0 =>
 (cond (v0.1==3)
 (some ((v0.2.1==0),()))
 (some (false,()))))
theorem x_7:be_ (P:=prog) (cxC [bv7] []) .z 7 [] [.bool]=λx=>cs_:=by kernel_rfl
noncomputable def c_7:Con prog:=bg_ _ _ 7 [] [.bool] _ x_7
end
section
set_option maxRecDepth 100000
set_option maxHeartbeats 0
noncomputable def fw_ (a0:ac_):Option (Int×Unit) :=
 ((en_ a0.1).bind λv0 =>
 (cond (v0.1 != 0)
 (some (v0.1,()))
 (((cond (decide (8<(a0.2.1.length:Int)))
 (some (true,()))
 (some ((decide (16<(a0.2.2.2.1.length:Int))),())))).bind λv1 =>
 (cond v1.1
 (some (2,()))
 ((ae_ (ρ:=(Unit⊕(Int×Unit))) (λ(v2:(Int×Unit)) =>
 (cond (decide (v2.1<(a0.2.1.length:Int)))
 ((at? a0.2.1 v2.1).bind λv3 =>
 ((dv_ v3).bind λv4 =>
 (cond (v4.1 != 0)
 (some (inr (inr (v4.1,()))))
 (some (inl ((w64 (v2.1+1)),()))))))
 (some (inr (inl ()))))) (0,())).bind λv5 =>
 (co_ v5 (λv6=>(cond ((a0.2.2.1.length:Int) != (a0.2.1.length:Int))
 (some (12,()))
 ((ae_ (ρ:=(Unit⊕(Int×Unit))) (λ(v8:(Int×Unit)) =>
 (cond (decide (v8.1<(a0.2.1.length:Int)))
 ((at? a0.2.1 v8.1).bind λv9 =>
 ((at? a0.2.2.1 v8.1).bind λv10 =>
 ((cf_ v9 v10).bind λv11 =>
 (cond (v11.1 != 0)
 (some (inr (inr (12,()))))
 (some (inl ((w64 (v8.1+1)),())))))))
 (some (inr (inl ()))))) (0,())).bind λv12 =>
 (co_ v12 (λv13=>((ae_ (ρ:=(Unit⊕(Int×Unit))) (λ(v15:(Int×Unit)) =>
 (cond (decide (v15.1<(a0.1.2.2.2.2.1.length:Int)))
 ((at? a0.1.2.2.2.2.1 v15.1).bind λv16 =>
 (cond (decide ((a0.2.1.length:Int)≤v16.2.2.1))
 (some (inr (inr (26,()))))
 (some (inl ((w64 (v15.1+1)),())))))
 (some (inr (inl ()))))) (0,())).bind λv17 =>
 (co_ v17 (λv18=>((ae_ (ρ:=(Unit⊕(Int×Unit))) (λ(v20:(Int×Unit)) =>
 (cond (decide (v20.1<(a0.2.2.2.1.length:Int)))
 ((at? a0.2.2.2.1 v20.1).bind λv21 =>
 ((iu_ a0 v20.1 v21).bind λv22 =>
 (cond (!v22.1)
 (some (inr (inr (40,()))))
 ((ir_ a0.1 v21.2.2.2.1).bind λv23 =>
 (cond (!v23.1)
 (some (inr (inr (25,()))))
 (some (inl ((w64 (v20.1+1)),()))))))))
 (some (inr (inl ()))))) (0,())).bind λv24 =>
 (co_ v24 (λv25=>((ch_ a0.2.2.2.2 1 100).bind λv27 =>
 (cond (!v27.1)
 (some (1,()))
 (some (0,())))))
 (λv26=>(some v26)))))
 (λv19=>(some v19)))))
 (λv14=>(some v14))))))
 (λv7=>(some v7))))))))
theorem x_29:be_ (P:=prog) (cxC [c_62,c_73,c_74,c_75,c_76,c_77] []) (.p .z (.p .z (.p (.j0 [.v 28 .bool] .z .z) (.p (.p .z (.ls [.v 32 .int] [] [] 0 .z)) (.p .z (.p (.p .z (.ls [.v 52 .int] [] [] 2 .z)) (.p (.p .z (.ls [.v 70 .int] [] [] 4 .z)) (.p (.p .z (.ls [.v 84 .int] [] [] 6 .z)) .z)))))))) 29 [au_] [.int]=λx=>fw_ x.1:=by kernel_rfl
noncomputable def c_29:Con prog:=bg_ _ _ 29 [au_] [.int] _ x_29
noncomputable def bq_ (a0:ak_):Option (Int×Unit) :=
 ((((bo_ (a0.1.length:Int) 1 8).bind λv0 =>
 (cond (!v0.1)
 (some (true,()))
 (cond ((a0.2.1.length:Int) != (a0.1.length:Int))
 (some (true,()))
 (cond ((a0.2.2.1.length:Int) != (a0.1.length:Int))
 (some (true,()))
 (some ((decide (10<(a0.2.2.2.length:Int))),()))))))).bind λv1 =>
 (cond v1.1
 (some (70,()))
 ((ae_ (ρ:=(Unit⊕(Int×Unit))) (λ(v2:(Int×Unit)) =>
 (cond (decide (v2.1<(a0.1.length:Int)))
 ((at? a0.1 v2.1).bind λv3 =>
 ((((at? a0.2.1 v2.1).bind λv4 =>
 ((cf_ v3 v4).bind λv5 =>
 (cond (v5.1 != 0)
 (some (true,()))
 ((at? a0.2.2.1 v2.1).bind λv6 =>
 (some ((decide (20<(v6.length:Int))),()))))))).bind λv7 =>
 (cond v7.1
 (some (inr (inr (70,()))))
 ((at? a0.2.2.1 v2.1).bind λv8 =>
 ((((ae_ (ρ:=(Unit⊕(Bool×Unit))) (λ(v9:(Int×Unit)) =>
 (cond (decide (v9.1<(v8.length:Int)))
 ((at? v8 v9.1).bind λv10 =>
 ((fx_ a0 v2.1 v10).bind λv11 =>
 (cond (!v11.1)
 (some (inr (inr ((decide (0≤v9.1)),()))))
 (some (inl ((w64 (v9.1+1)),()))))))
 (some (inr (inl ()))))) (0,())).bind λv12 =>
 (co_ v12 (λv13=>(some ((decide (0≤(-1))),())))
 (λv14=>(some v14))))).bind λv15 =>
 (cond v15.1
 (some (inr (inr (70,()))))
 (some (inl ((w64 (v2.1+1)),())))))))))
 (some (inr (inl ()))))) (0,())).bind λv16 =>
 (co_ v16 (λv17=>((((ae_ (ρ:=(Unit⊕(Bool×Unit))) (λ(v19:(Int×Unit)) =>
 (cond (decide (v19.1<(a0.2.2.2.length:Int)))
 ((at? a0.2.2.2 v19.1).bind λv20 =>
 ((lh_ a0 v20).bind λv21 =>
 (cond (!v21.1)
 (some (inr (inr ((decide (0≤v19.1)),()))))
 (some (inl ((w64 (v19.1+1)),()))))))
 (some (inr (inl ()))))) (0,())).bind λv22 =>
 (co_ v22 (λv23=>(some ((decide (0≤(-1))),())))
 (λv24=>(some v24))))).bind λv25 =>
 (cond v25.1
 (some (70,()))
 (some (0,())))))
 (λv18=>(some v18))))))
theorem x_22:be_ (P:=prog) (cxI (λk=>cond (Nat.beq k 63) (.p .z (.j0 [.v 4 .bool] .z .z)) (cond (Nat.beq k 66) (.p .z (.j0 [.v 4 .bool] .z .z)) (cond (Nat.beq k 114) (.p .z (.p (.p .z (.ls [.v 8 .int] [] [] 0 .z)) .z)) (cond (Nat.beq k 116) (.p .z (.p (.p .z (.ls [.v 8 .int] [] [] 0 .z)) .z)) (.z))))) (λk=>Nat.beq k 61||Nat.beq k 62||Nat.beq k 65||Nat.beq k 68||false) (cxC [c_61,c_62,c_65,c_68] []) 7) (.p .z (.p .z (.p (.j0 [.v 31 .bool] .z .z) (.p (.p .z (.ls [.v 35 .int] [] [] 0 (.p .z (.p .z (.p (.p .z (.p (.j0 [.v 56 .bool] .z .z) .z)) .z))))) .z)))) 22 [am_] [.int]=λx=>bq_ x.1:=by kernel_rfl
noncomputable def c_22:Con prog:=bg_ _ _ 22 [am_] [.int] _ x_22
noncomputable def bk_ (a0:ak_) (a1:hj_):Option (Bool×Unit) :=
 ((bo_ a1.1 0 (w64 ((a0.1.length:Int) - 1))).bind λv0 =>
 (cond v0.1
 ((fx_ a0 a1.1 a1.2).bind λv1 =>
 (some (v1.1,())))
 (some (false,()))))
theorem x_95:be_ (P:=prog) (cxC [c_61,c_65] []) .z 95 [am_,cm_] [.bool]=λx=>bk_ x.1 x.2.1:=by kernel_rfl
noncomputable def c_95:Con prog:=bg_ _ _ 95 [am_,cm_] [.bool] _ x_95
end
section
set_option maxRecDepth 100000
set_option maxHeartbeats 0
noncomputable def cj_ (a0:ac_) (a1:ag_):Option (Int×Unit) :=
 ((fw_ a0).bind λv0 =>
 (cond (v0.1 != 0)
 (some (v0.1,()))
 ((cb_ a0.1 a1.1).bind λv1 =>
 (cond (v1.1 != 0)
 (some (v1.1,()))
 (cond ((a1.2.length:Int) != (a0.2.2.2.1.length:Int))
 (some (28,()))
 (some (0,())))))))
theorem x_83:be_ (P:=prog) (cxC [c_29,c_110] []) .z 83 [au_,an_] [.int]=λx=>cj_ x.1 x.2.1:=by kernel_rfl
noncomputable def c_83:Con prog:=bg_ _ _ 83 [au_,an_] [.int] _ x_83
noncomputable def iv_ (a0:ac_):Option (ag_×Int×Unit) :=
 ((fw_ a0).bind λv0 =>
 (cond (v0.1 != 0)
 (some ((([],([],[])),[]),(v0.1,())))
 ((hd_ a0.1).bind λv1 =>
 (cond (v1.2.1 != 0)
 (some ((([],([],[])),[]),(v1.2.1,())))
 ((mk? (α:=Bool) (a0.2.2.2.1.length:Int) false).bind λv2 =>
 ((ae_ (ρ:=((List Bool)×((List aa_)×Unit))) (λ(v3:(Int×((List Bool)×((List aa_)×Unit)))) =>
 (cond (decide (v3.1<(a0.2.2.2.1.length:Int)))
 ((((at? a0.2.2.2.1 v3.1).bind λv4 =>
 ((fv_ a0.1 v1.1 v4.2.2.2.1).bind λv5 =>
 (((cond v5.1
 ((bh_ v1.1.2.2 v4.2.1).bind λv6 =>
 (cond v6.1
 ((at? v3.2.1 v3.1).bind λv7 =>
 ((at? v3.2.1 v3.1).bind λv8 =>
 (some ((!v8),()))))
 (some (false,()))))
 (some (false,())))).bind λv9 =>
 (cond v9.1
 ((at? v3.2.1 v3.1).bind λv10 =>
 ((at? v3.2.1 v3.1).bind λv11 =>
 (some ((v3.2.1.set v3.1.toNat true),((wf_ v3.2.2.1 v4.2.2.1),())))))
 (some (v3.2.1,(v3.2.2.1,())))))))).bind λv12 =>
 (some (inl ((w64 (v3.1+1)),(v12.1,(v12.2.1,()))))))
 (some (inr (v3.2.1,(v3.2.2.1,())))))) (0,(v2,([],())))).bind λv13 =>
 ((push? (α:=Int) [] v1.1.1).bind λv14 =>
 ((push? (α:=Int) [] v1.1.2.1).bind λv15 =>
 ((push? (α:=Int) [] v1.1.2.2).bind λv16 =>
 ((push? (α:=Bool) [] v13.1).bind λv17 =>
 (some (((v14,(v15,v16)),v17),(0,())))))))))))))
theorem x_9:be_ (P:=prog) (cxI (λk=>cond (Nat.beq k 31) (.p .z (.lp [.v 12 .int] [] [.o (.c (.s 0) 15) .bool,.m (.c (.s 0) 16) .int .int] 0 (.p .z (.p .z (.j0 [.o (.c (.s 0) 15) .bool,.m (.c (.s 0) 16) .int .int] (.p .z (.p .z (.j0 [.v 55 .bool] .z .z))) .z))))) (.z)) (λk=>Nat.beq k 29||Nat.beq k 30||Nat.beq k 37||Nat.beq k 80||Nat.beq k 81||Nat.beq k 82||false) (cxC [c_29,c_30,c_80,c_81] [wz_,bq5]) 3) .z 9 [au_] [an_,.int]=λx=>iv_ x.1:=by kernel_rfl
noncomputable def c_9:Con prog:=bg_ _ _ 9 [au_] [an_,.int] _ x_9
noncomputable def db_ (a0:ak_) (a1:Int):Option ((List (List Int))×Int×Unit) :=
 ((bq_ a0).bind λv0 =>
 (cond (v0.1 != 0)
 (((cond (v0.1==0)
 ((bo_ a1 0 (w64 ((a0.1.length:Int) - 1))).bind λv1 =>
 (some ((!v1.1),())))
 (some (false,())))).bind λv2 =>
 (cond v2.1
 (some ([],(1,())))
 (cond (v0.1 != 0)
 (some ([],(v0.1,())))
 none)))
 ((ae_ (ρ:=(Unit⊕((List (List Int))×(Int×Unit)))) (λ(v3:(Int×(Int×Unit))) =>
 (cond (decide (v3.2.1<(a0.1.length:Int)))
 ((at? a0.1 v3.2.1).bind λv4 =>
 ((at? a0.2.2.1 v3.2.1).bind λv5 =>
 ((ax_ v4 v5).bind λv6 =>
 (cond (v6.2.1 != 0)
 (((((cond (v6.2.1==0)
 ((bo_ a1 0 (w64 ((a0.1.length:Int) - 1))).bind λv7 =>
 (some ((!v7.1),())))
 (some (false,())))).bind λv8 =>
 (cond v8.1
 (some ([],(1,())))
 (cond (v6.2.1 != 0)
 (some ([],(v6.2.1,())))
 none)))).bind λv9 =>
 (some (inr (inr v9))))
 (cond (decide (20000<(w64 (v3.1 * v6.1))))
 (some (inr (inr ([],(2,())))))
 (some (inl ((w64 (v3.1 * v6.1)),((w64 (v3.2.1+1)),())))))))))
 (some (inr (inl ()))))) (1,(0,()))).bind λv10 =>
 (co_ v10 (λv11=>((ae_ (ρ:=(((List (List (List Int)))×Unit)×Unit)) (λ(v13:(Int×(((List (List (List Int)))×Unit)×Unit))) =>
 (cond (decide (v13.1<(a0.1.length:Int)))
 ((at? a0.1 v13.1).bind λv14 =>
 ((at? a0.2.2.1 v13.1).bind λv15 =>
 ((bb_ v14 v15).bind λv16 =>
 ((push? (α:=(List (List Int))) v13.2.1.1 ([v16.1]:List (List (List Int)))).bind λv17 =>
 (some (inl ((w64 (v13.1+1)),((v17,()),()))))))))
 (some (inr ((v13.2.1.1,()),()))))) (0,(([],()),()))).bind λv18 =>
 ((((bo_ a1 0 (w64 ((a0.1.length:Int) - 1))).bind λv19 =>
 (some ((!v19.1),())))).bind λv20 =>
 (cond v20.1
 (some ([],(1,())))
 (psbX true (a0.1.length:Int) a0.2.2.2 v18.1.1 λv388 =>
 ((at? v388.2.1 a1).bind λv389 =>
 (some (v389,(0,())))))))))
 (λv12=>(some v12))))))
theorem x_13:be_ (P:=prog) (cxI (λk=>cond (Nat.beq k 41) (.p .z (.p .z (.p (.j0 [.v 23 .bool] .z .z) .z))) (cond (Nat.beq k 42) (.p .z (.p .z (.p (.p .z (.lp [.v 26 .int] [] [.g (.s 20) (.list .bool)] 0 .z)) (.j0 [.g (.s 20) (.list .bool)] (.p .z (.rf [3] .z (.p .z (.lp [.v 43 .int] [] [.g (.c (.s 3) 0) (.list .bool)] 4 .z)))) (.p .z (.p (.p .z (.lp [.v 67 .int] [] [.g (.s 20) (.list .bool),.g (.s 9) (.list (.list .int))] 6 (.p .z (.p .z (.p (.p .z (.p .z (.lp [.v 74 .int] [] [.g (.s 20) (.list .bool),.g (.s 9) (.list (.list .int))] 8 (.p .z (.p .z (.j0 [.g (.s 20) (.list .bool),.g (.s 9) (.list (.list .int))] .z .z)))))) .z))))) (.q [(.s 9)] .z .z))))))) (cond (Nat.beq k 88) (.p .z (.p .z (.p .z (.p .z (.p (.p .z (.ls [.v 6 .int,.v 24 .int] [] [] 0 .z)) (.p (.p .z (.lp [.v 51 .int] [] [.b (.s 5) [.keep,.keep,.keep,.keep,.row (.list (.list .int)) 33]] 2 .z)) .z)))))) (cond (Nat.beq k 144) (.p .z (.p (.p .z (.p (.p (.p .z (.ls [.v 20 .int] [] [] 0 .z)) .z) .z)) (.p (.p .z (.ls [.v 49 .int] [] [.g (.c (.y (.c (.s 4) 0) 3) 0) (.list .bool),.y (.c (.s 4) 0),.o (.s 11) .int] 2 (.p .z (.p .z (.js [.g (.c (.y (.c (.s 4) 0) 3) 0) (.list .bool),.y (.c (.s 4) 0),.o (.s 11) .int] .z .z))))) .z))) (.z))))) (λk=>Nat.beq k 22||Nat.beq k 26||Nat.beq k 61||Nat.beq k 142||false) (cxC [c_22,bv7,c_61,br2] []) 12) .z 13 [am_,.int] [(.list (.list .int)),.int]=λx=>db_ x.1 x.2.1:=by kernel_rfl
noncomputable def c_13:Con prog:=bg_ _ _ 13 [am_,.int] [(.list (.list .int)),.int] _ x_13
noncomputable def ew_ (a0:ak_) (a1:(List hj_)):Option (Int×Unit) :=
 ((((bq_ a0).bind λv0 =>
 (cond (v0.1 != 0)
 (some (v0.1,()))
 ((ae_ (ρ:=(Unit⊕(Int×Unit))) (λ(v1:(Int×(Int×Unit))) =>
 (cond (decide (v1.2.1<(a0.1.length:Int)))
 ((at? a0.1 v1.2.1).bind λv2 =>
 ((at? a0.2.2.1 v1.2.1).bind λv3 =>
 ((ax_ v2 v3).bind λv4 =>
 (cond (v4.2.1 != 0)
 (some (inr (inr (v4.2.1,()))))
 (cond (decide (20000<(w64 (v1.1 * v4.1))))
 (some (inr (inr (2,()))))
 (some (inl ((w64 (v1.1 * v4.1)),((w64 (v1.2.1+1)),())))))))))
 (some (inr (inl ()))))) (1,(0,()))).bind λv5 =>
 (co_ v5 (λv6=>((ae_ (ρ:=(((List (List (List Int)))×Unit)×Unit)) (λ(v8:(Int×(((List (List (List Int)))×Unit)×Unit))) =>
 (cond (decide (v8.1<(a0.1.length:Int)))
 ((at? a0.1 v8.1).bind λv9 =>
 ((at? a0.2.2.1 v8.1).bind λv10 =>
 ((bb_ v9 v10).bind λv11 =>
 ((push? (α:=(List (List Int))) v8.2.1.1 ([v11.1]:List (List (List Int)))).bind λv12 =>
 (some (inl ((w64 (v8.1+1)),((v12,()),()))))))))
 (some (inr ((v8.2.1.1,()),()))))) (0,(([],()),()))).bind λv13 =>
 (some (0,()))))
 (λv7=>(some v7))))))).bind λv14 =>
 (cond (v14.1 != 0)
 (some (v14.1,()))
 (cond (decide (20<(a1.length:Int)))
 (some (2,()))
 ((((ae_ (ρ:=(Unit⊕(Bool×Unit))) (λ(v15:(Int×Unit)) =>
 (cond (decide (v15.1<(a1.length:Int)))
 ((at? a1 v15.1).bind λv16 =>
 ((bk_ a0 v16).bind λv17 =>
 (cond (!v17.1)
 (some (inr (inr ((decide (0≤v15.1)),()))))
 (some (inl ((w64 (v15.1+1)),()))))))
 (some (inr (inl ()))))) (0,())).bind λv18 =>
 (co_ v18 (λv19=>(some ((decide (0≤(-1))),())))
 (λv20=>(some v20))))).bind λv21 =>
 (cond v21.1
 (some (70,()))
 (some (0,())))))))
theorem x_92:be_ (P:=prog) (cxI (λk=>cond (Nat.beq k 88) (.p .z (.p .z (.p .z (.p .z (.p (.p .z (.ls [.v 6 .int,.v 24 .int] [] [] 0 .z)) (.p (.p .z (.lp [.v 51 .int] [] [.b (.s 5) [.keep,.keep,.keep,.keep,.row (.list (.list .int)) 33]] 2 .z)) .z)))))) (cond (Nat.beq k 145) (.p .z (.j0 [.v 4 .bool] .z .z)) (cond (Nat.beq k 198) (.p .z (.p (.p .z (.ls [.v 8 .int] [] [] 0 .z)) .z)) (.z)))) (λk=>Nat.beq k 22||Nat.beq k 26||Nat.beq k 95||Nat.beq k 142||false) (cxC [c_22,bv7,c_95,br2] []) 5) (.p .z (.p (.j0 [.v 6 .int] .z .z) .z)) 92 [am_,(.list cm_)] [.int]=λx=>ew_ x.1 x.2.1:=by kernel_rfl
noncomputable def c_92:Con prog:=bg_ _ _ 92 [am_,(.list cm_)] [.int] _ x_92
noncomputable def ff_ (a0:ak_) (a1:hj_):Option (Int×Bool×Unit) :=
 ((bq_ a0).bind λv0 =>
 (cond (v0.1 != 0)
 (cond (v0.1 != 0)
 (((cond (v0.1 != 0)
 (some (true,()))
 none)).bind λv1 =>
 (cond v1.1
 (some (0,(false,())))
 none))
 ((bk_ a0 a1).bind λv2 =>
 (cond (!v2.1)
 (some (0,(false,())))
 ((di_ a0 a1.1).bind λv3 =>
 (cond v3.1
 (some (0,(false,())))
 ((dh_ a0 a1).bind λv4 =>
 ((bq_ v4.1).bind λv5 =>
 (cond (v5.1 != 0)
 (((cond (v5.1 != 0)
 (some (true,()))
 none)).bind λv6 =>
 (cond v6.1
 (some (0,(false,())))
 none))
 ((ae_ (ρ:=(Unit⊕(Int×(Bool×Unit)))) (λ(v7:(Int×(Int×Unit))) =>
 (cond (decide (v7.2.1<(v4.1.1.length:Int)))
 ((at? v4.1.1 v7.2.1).bind λv8 =>
 ((at? v4.1.2.2.1 v7.2.1).bind λv9 =>
 ((ax_ v8 v9).bind λv10 =>
 (cond (v10.2.1 != 0)
 (((((cond (v10.2.1 != 0)
 (some (true,()))
 none)).bind λv11 =>
 (cond v11.1
 (some (0,(false,())))
 none))).bind λv12 =>
 (some (inr (inr v12))))
 (cond (decide (20000<(w64 (v7.1 * v10.1))))
 (some (inr (inr (0,(false,())))))
 (some (inl ((w64 (v7.1 * v10.1)),((w64 (v7.2.1+1)),())))))))))
 (some (inr (inl ()))))) (1,(0,()))).bind λv13 =>
 (co_ v13 (λv14=>((ae_ (ρ:=(((List (List (List Int)))×Unit)×Unit)) (λ(v16:(Int×(((List (List (List Int)))×Unit)×Unit))) =>
 (cond (decide (v16.1<(v4.1.1.length:Int)))
 ((at? v4.1.1 v16.1).bind λv17 =>
 ((at? v4.1.2.2.1 v16.1).bind λv18 =>
 ((bb_ v17 v18).bind λv19 =>
 ((push? (α:=(List (List Int))) v16.2.1.1 ([v19.1]:List (List (List Int)))).bind λv20 =>
 (some (inl ((w64 (v16.1+1)),((v20,()),()))))))))
 (some (inr ((v16.2.1.1,()),()))))) (0,(([],()),()))).bind λv21 =>
 none))
 (λv15=>(some v15))))))))))))
 ((ae_ (ρ:=(Unit⊕(Int×(Bool×Unit)))) (λ(v22:(Int×(Int×Unit))) =>
 (cond (decide (v22.2.1<(a0.1.length:Int)))
 ((at? a0.1 v22.2.1).bind λv23 =>
 ((at? a0.2.2.1 v22.2.1).bind λv24 =>
 ((ax_ v23 v24).bind λv25 =>
 (cond (v25.2.1 != 0)
 (((cond (v25.2.1 != 0)
 (((cond (v25.2.1 != 0)
 (some (true,()))
 none)).bind λv26 =>
 (cond v26.1
 (some (0,(false,())))
 none))
 ((bk_ a0 a1).bind λv27 =>
 (cond (!v27.1)
 (some (0,(false,())))
 ((di_ a0 a1.1).bind λv28 =>
 (cond v28.1
 (some (0,(false,())))
 ((dh_ a0 a1).bind λv29 =>
 ((bq_ v29.1).bind λv30 =>
 (cond (v30.1 != 0)
 (((cond (v30.1 != 0)
 (some (true,()))
 none)).bind λv31 =>
 (cond v31.1
 (some (0,(false,())))
 none))
 ((ae_ (ρ:=(Unit⊕(Int×(Bool×Unit)))) (λ(v32:(Int×(Int×Unit))) =>
 (cond (decide (v32.2.1<(v29.1.1.length:Int)))
 ((at? v29.1.1 v32.2.1).bind λv33 =>
 ((at? v29.1.2.2.1 v32.2.1).bind λv34 =>
 ((ax_ v33 v34).bind λv35 =>
 (cond (v35.2.1 != 0)
 (((((cond (v35.2.1 != 0)
 (some (true,()))
 none)).bind λv36 =>
 (cond v36.1
 (some (0,(false,())))
 none))).bind λv37 =>
 (some (inr (inr v37))))
 (cond (decide (20000<(w64 (v32.1 * v35.1))))
 (some (inr (inr (0,(false,())))))
 (some (inl ((w64 (v32.1 * v35.1)),((w64 (v32.2.1+1)),())))))))))
 (some (inr (inl ()))))) (1,(0,()))).bind λv38 =>
 (co_ v38 (λv39=>((ae_ (ρ:=(((List (List (List Int)))×Unit)×Unit)) (λ(v41:(Int×(((List (List (List Int)))×Unit)×Unit))) =>
 (cond (decide (v41.1<(v29.1.1.length:Int)))
 ((at? v29.1.1 v41.1).bind λv42 =>
 ((at? v29.1.2.2.1 v41.1).bind λv43 =>
 ((bb_ v42 v43).bind λv44 =>
 ((push? (α:=(List (List Int))) v41.2.1.1 ([v44.1]:List (List (List Int)))).bind λv45 =>
 (some (inl ((w64 (v41.1+1)),((v45,()),()))))))))
 (some (inr ((v41.2.1.1,()),()))))) (0,(([],()),()))).bind λv46 =>
 none))
 (λv40=>(some v40))))))))))))).bind λv47 =>
 (some (inr (inr v47))))
 (cond (decide (20000<(w64 (v22.1 * v25.1))))
 (some (inr (inr (0,(false,())))))
 (some (inl ((w64 (v22.1 * v25.1)),((w64 (v22.2.1+1)),())))))))))
 (some (inr (inl ()))))) (1,(0,()))).bind λv48 =>
 (co_ v48 (λv49=>((ae_ (ρ:=(((List (List (List Int)))×Unit)×Unit)) (λ(v51:(Int×(((List (List (List Int)))×Unit)×Unit))) =>
 (cond (decide (v51.1<(a0.1.length:Int)))
 ((at? a0.1 v51.1).bind λv52 =>
 ((at? a0.2.2.1 v51.1).bind λv53 =>
 ((bb_ v52 v53).bind λv54 =>
 ((push? (α:=(List (List Int))) v51.2.1.1 ([v54.1]:List (List (List Int)))).bind λv55 =>
 (some (inl ((w64 (v51.1+1)),((v55,()),()))))))))
 (some (inr ((v51.2.1.1,()),()))))) (0,(([],()),()))).bind λv56 =>
 ((bk_ a0 a1).bind λv57 =>
 (cond (!v57.1)
 (some (0,(false,())))
 ((di_ a0 a1.1).bind λv58 =>
 (cond v58.1
 (some (0,(false,())))
 ((dh_ a0 a1).bind λv59 =>
 ((bq_ v59.1).bind λv60 =>
 (cond (v60.1 != 0)
 (((cond (v60.1 != 0)
 (some (true,()))
 none)).bind λv61 =>
 (cond v61.1
 (some (0,(false,())))
 none))
 ((ae_ (ρ:=(Unit⊕(Int×(Bool×Unit)))) (λ(v62:(Int×(Int×Unit))) =>
 (cond (decide (v62.2.1<(v59.1.1.length:Int)))
 ((at? v59.1.1 v62.2.1).bind λv63 =>
 ((at? v59.1.2.2.1 v62.2.1).bind λv64 =>
 ((ax_ v63 v64).bind λv65 =>
 (cond (v65.2.1 != 0)
 (((((cond (v65.2.1 != 0)
 (some (true,()))
 none)).bind λv66 =>
 (cond v66.1
 (some (0,(false,())))
 none))).bind λv67 =>
 (some (inr (inr v67))))
 (cond (decide (20000<(w64 (v62.1 * v65.1))))
 (some (inr (inr (0,(false,())))))
 (some (inl ((w64 (v62.1 * v65.1)),((w64 (v62.2.1+1)),())))))))))
 (some (inr (inl ()))))) (1,(0,()))).bind λv68 =>
 (co_ v68 (λv69=>((ae_ (ρ:=(((List (List (List Int)))×Unit)×Unit)) (λ(v71:(Int×(((List (List (List Int)))×Unit)×Unit))) =>
 (cond (decide (v71.1<(v59.1.1.length:Int)))
 ((at? v59.1.1 v71.1).bind λv72 =>
 ((at? v59.1.2.2.1 v71.1).bind λv73 =>
 ((bb_ v72 v73).bind λv74 =>
 ((push? (α:=(List (List Int))) v71.2.1.1 ([v74.1]:List (List (List Int)))).bind λv75 =>
 (some (inl ((w64 (v71.1+1)),((v75,()),()))))))))
 (some (inr ((v71.2.1.1,()),()))))) (0,(([],()),()))).bind λv76 =>
 ((((eg_ (a0,v56.1.1) (v59.1,v76.1.1)).bind λv77 =>
 ((ef_ v77 [a1.1]).bind λv78 =>
 (some ((!v78.1),()))))).bind λv79 =>
 (cond v79.1
 (some (0,(false,())))
 ((cc_ (v59.1,v76.1.1)).bind λv80 =>
 ((at? v80 a1.1).bind λv81 =>
 ((at? v80 a1.1).bind λv82 =>
 (some (v82,(true,()))))))))))
 (λv70=>(some v70)))))))))))))
 (λv50=>(some v50))))))
theorem x_94:be_ (P:=prog) (cxI (λk=>cond (Nat.beq k 88) (.p .z (.p .z (.p .z (.p .z (.p (.p .z (.ls [.v 6 .int,.v 24 .int] [] [] 0 .z)) (.p (.p .z (.lp [.v 51 .int] [] [.b (.s 5) [.keep,.keep,.keep,.keep,.row (.list (.list .int)) 33]] 2 .z)) .z)))))) (.z)) (λk=>Nat.beq k 22||Nat.beq k 26||Nat.beq k 95||Nat.beq k 96||Nat.beq k 97||Nat.beq k 99||Nat.beq k 142||Nat.beq k 147||Nat.beq k 148||false) (cxQ [ri_99,bt5] (cxC [c_22,bv7,c_95,c_96,c_97,br2,c_147] [])) 3) (.p .z (.p .z (.p (.j0 [.v 27 .bool] .z .z) .z))) 94 [am_,cm_] [.int,.bool]=λx=>ff_ x.1 x.2.1:=by kernel_rfl
noncomputable def c_94:Con prog:=bg_ _ _ 94 [am_,cm_] [.int,.bool] _ x_94
noncomputable def iw_ (a0:ak_) (a1:hj_):Option (ak_×Int×Unit) :=
 ((bq_ a0).bind λv0 =>
 (cond (v0.1 != 0)
 (cond (v0.1 != 0)
 (cond (v0.1 != 0)
 (some (([],([],([],[]))),(v0.1,())))
 none)
 ((bk_ a0 a1).bind λv1 =>
 (cond (!v1.1)
 (some (([],([],([],[]))),(70,())))
 ((di_ a0 a1.1).bind λv2 =>
 (cond v2.1
 (some (([],([],([],[]))),(2,())))
 ((dh_ a0 a1).bind λv3 =>
 ((bq_ v3.1).bind λv4 =>
 (cond (v4.1 != 0)
 (cond (v4.1 != 0)
 (some (([],([],([],[]))),(v4.1,())))
 none)
 ((ae_ (ρ:=(Unit⊕(ak_×(Int×Unit)))) (λ(v5:(Int×(Int×Unit))) =>
 (cond (decide (v5.2.1<(v3.1.1.length:Int)))
 ((at? v3.1.1 v5.2.1).bind λv6 =>
 ((at? v3.1.2.2.1 v5.2.1).bind λv7 =>
 ((ax_ v6 v7).bind λv8 =>
 (cond (v8.2.1 != 0)
 (((cond (v8.2.1 != 0)
 (some (([],([],([],[]))),(v8.2.1,())))
 none)).bind λv9 =>
 (some (inr (inr v9))))
 (cond (decide (20000<(w64 (v5.1 * v8.1))))
 (some (inr (inr (([],([],([],[]))),(2,())))))
 (some (inl ((w64 (v5.1 * v8.1)),((w64 (v5.2.1+1)),())))))))))
 (some (inr (inl ()))))) (1,(0,()))).bind λv10 =>
 (co_ v10 (λv11=>((ae_ (ρ:=(((List (List (List Int)))×Unit)×Unit)) (λ(v13:(Int×(((List (List (List Int)))×Unit)×Unit))) =>
 (cond (decide (v13.1<(v3.1.1.length:Int)))
 ((at? v3.1.1 v13.1).bind λv14 =>
 ((at? v3.1.2.2.1 v13.1).bind λv15 =>
 ((bb_ v14 v15).bind λv16 =>
 ((push? (α:=(List (List Int))) v13.2.1.1 ([v16.1]:List (List (List Int)))).bind λv17 =>
 (some (inl ((w64 (v13.1+1)),((v17,()),()))))))))
 (some (inr ((v13.2.1.1,()),()))))) (0,(([],()),()))).bind λv18 =>
 (some (v3.1,(0,())))))
 (λv12=>(some v12))))))))))))
 ((ae_ (ρ:=(Unit⊕(ak_×(Int×Unit)))) (λ(v19:(Int×(Int×Unit))) =>
 (cond (decide (v19.2.1<(a0.1.length:Int)))
 ((at? a0.1 v19.2.1).bind λv20 =>
 ((at? a0.2.2.1 v19.2.1).bind λv21 =>
 ((ax_ v20 v21).bind λv22 =>
 (cond (v22.2.1 != 0)
 (((cond (v22.2.1 != 0)
 (cond (v22.2.1 != 0)
 (some (([],([],([],[]))),(v22.2.1,())))
 none)
 ((bk_ a0 a1).bind λv23 =>
 (cond (!v23.1)
 (some (([],([],([],[]))),(70,())))
 ((di_ a0 a1.1).bind λv24 =>
 (cond v24.1
 (some (([],([],([],[]))),(2,())))
 ((dh_ a0 a1).bind λv25 =>
 ((bq_ v25.1).bind λv26 =>
 (cond (v26.1 != 0)
 (cond (v26.1 != 0)
 (some (([],([],([],[]))),(v26.1,())))
 none)
 ((ae_ (ρ:=(Unit⊕(ak_×(Int×Unit)))) (λ(v27:(Int×(Int×Unit))) =>
 (cond (decide (v27.2.1<(v25.1.1.length:Int)))
 ((at? v25.1.1 v27.2.1).bind λv28 =>
 ((at? v25.1.2.2.1 v27.2.1).bind λv29 =>
 ((ax_ v28 v29).bind λv30 =>
 (cond (v30.2.1 != 0)
 (((cond (v30.2.1 != 0)
 (some (([],([],([],[]))),(v30.2.1,())))
 none)).bind λv31 =>
 (some (inr (inr v31))))
 (cond (decide (20000<(w64 (v27.1 * v30.1))))
 (some (inr (inr (([],([],([],[]))),(2,())))))
 (some (inl ((w64 (v27.1 * v30.1)),((w64 (v27.2.1+1)),())))))))))
 (some (inr (inl ()))))) (1,(0,()))).bind λv32 =>
 (co_ v32 (λv33=>((ae_ (ρ:=(((List (List (List Int)))×Unit)×Unit)) (λ(v35:(Int×(((List (List (List Int)))×Unit)×Unit))) =>
 (cond (decide (v35.1<(v25.1.1.length:Int)))
 ((at? v25.1.1 v35.1).bind λv36 =>
 ((at? v25.1.2.2.1 v35.1).bind λv37 =>
 ((bb_ v36 v37).bind λv38 =>
 ((push? (α:=(List (List Int))) v35.2.1.1 ([v38.1]:List (List (List Int)))).bind λv39 =>
 (some (inl ((w64 (v35.1+1)),((v39,()),()))))))))
 (some (inr ((v35.2.1.1,()),()))))) (0,(([],()),()))).bind λv40 =>
 (some (v25.1,(0,())))))
 (λv34=>(some v34))))))))))))).bind λv41 =>
 (some (inr (inr v41))))
 (cond (decide (20000<(w64 (v19.1 * v22.1))))
 (some (inr (inr (([],([],([],[]))),(2,())))))
 (some (inl ((w64 (v19.1 * v22.1)),((w64 (v19.2.1+1)),())))))))))
 (some (inr (inl ()))))) (1,(0,()))).bind λv42 =>
 (co_ v42 (λv43=>((ae_ (ρ:=(((List (List (List Int)))×Unit)×Unit)) (λ(v45:(Int×(((List (List (List Int)))×Unit)×Unit))) =>
 (cond (decide (v45.1<(a0.1.length:Int)))
 ((at? a0.1 v45.1).bind λv46 =>
 ((at? a0.2.2.1 v45.1).bind λv47 =>
 ((bb_ v46 v47).bind λv48 =>
 ((push? (α:=(List (List Int))) v45.2.1.1 ([v48.1]:List (List (List Int)))).bind λv49 =>
 (some (inl ((w64 (v45.1+1)),((v49,()),()))))))))
 (some (inr ((v45.2.1.1,()),()))))) (0,(([],()),()))).bind λv50 =>
 ((bk_ a0 a1).bind λv51 =>
 (cond (!v51.1)
 (some (([],([],([],[]))),(70,())))
 ((di_ a0 a1.1).bind λv52 =>
 (cond v52.1
 (some (([],([],([],[]))),(2,())))
 ((dh_ a0 a1).bind λv53 =>
 ((bq_ v53.1).bind λv54 =>
 (cond (v54.1 != 0)
 (cond (v54.1 != 0)
 (some (([],([],([],[]))),(v54.1,())))
 none)
 ((ae_ (ρ:=(Unit⊕(ak_×(Int×Unit)))) (λ(v55:(Int×(Int×Unit))) =>
 (cond (decide (v55.2.1<(v53.1.1.length:Int)))
 ((at? v53.1.1 v55.2.1).bind λv56 =>
 ((at? v53.1.2.2.1 v55.2.1).bind λv57 =>
 ((ax_ v56 v57).bind λv58 =>
 (cond (v58.2.1 != 0)
 (((cond (v58.2.1 != 0)
 (some (([],([],([],[]))),(v58.2.1,())))
 none)).bind λv59 =>
 (some (inr (inr v59))))
 (cond (decide (20000<(w64 (v55.1 * v58.1))))
 (some (inr (inr (([],([],([],[]))),(2,())))))
 (some (inl ((w64 (v55.1 * v58.1)),((w64 (v55.2.1+1)),())))))))))
 (some (inr (inl ()))))) (1,(0,()))).bind λv60 =>
 (co_ v60 (λv61=>((ae_ (ρ:=(((List (List (List Int)))×Unit)×Unit)) (λ(v63:(Int×(((List (List (List Int)))×Unit)×Unit))) =>
 (cond (decide (v63.1<(v53.1.1.length:Int)))
 ((at? v53.1.1 v63.1).bind λv64 =>
 ((at? v53.1.2.2.1 v63.1).bind λv65 =>
 ((bb_ v64 v65).bind λv66 =>
 ((push? (α:=(List (List Int))) v63.2.1.1 ([v66.1]:List (List (List Int)))).bind λv67 =>
 (some (inl ((w64 (v63.1+1)),((v67,()),()))))))))
 (some (inr ((v63.2.1.1,()),()))))) (0,(([],()),()))).bind λv68 =>
 (some (v53.1,(0,())))))
 (λv62=>(some v62)))))))))))))
 (λv44=>(some v44))))))
theorem x_16:be_ (P:=prog) (cxI (λk=>cond (Nat.beq k 88) (.p .z (.p .z (.p .z (.p .z (.p (.p .z (.ls [.v 6 .int,.v 24 .int] [] [] 0 .z)) (.p (.p .z (.lp [.v 51 .int] [] [.b (.s 5) [.keep,.keep,.keep,.keep,.row (.list (.list .int)) 33]] 2 .z)) .z)))))) (.z)) (λk=>Nat.beq k 22||Nat.beq k 26||Nat.beq k 95||Nat.beq k 96||Nat.beq k 97||Nat.beq k 142||false) (cxC [c_22,bv7,c_95,c_96,c_97,br2] []) 3) .z 16 [am_,cm_] [am_,.int]=λx=>iw_ x.1 x.2.1:=by kernel_rfl
noncomputable def c_16:Con prog:=bg_ _ _ 16 [am_,cm_] [am_,.int] _ x_16
end
section
set_option maxRecDepth 100000
set_option maxHeartbeats 0
noncomputable def he_ (a0:ac_) (a1:ag_):Option ((List Bool)×Int×Unit) :=
 ((cj_ a0 a1).bind λv0 =>
 (cond (v0.1 != 0)
 (cond (v0.1 != 0)
 (some ([],(v0.1,())))
 none)
 ((push? (α:=Bool) [] a1.2).bind λv1 =>
 ((ae_ (ρ:=((List Bool)×((List aa_)×Unit))) (λ(v2:((List Bool)×(Int×((List aa_)×Unit)))) =>
 (cond (decide (v2.2.1<(a0.2.1.length:Int)))
 (((cond (decide (v2.2.1<0))
 ((push? (α:=Bool) v2.1 [true]).bind λv3 =>
 (some (v3,(v2.2.2.1,()))))
 (((cond ((sj_ 0 v2.2.2.1 v2.2.1)==0)
 ((ae_ (ρ:=((List Int)×((List ab_)×Unit))) (λ(v4:((List Int)×((List ab_)×(Int×Unit)))) =>
 (cond (decide (v4.2.2.1<(a0.2.2.2.1.length:Int)))
 ((((at? a0.2.2.2.1 v4.2.2.1).bind λv5 =>
 (((cond (v5.2.2.1==v2.2.1)
 ((at? v1 v4.2.2.1).bind λv6 =>
 ((at? v1 v4.2.2.1).bind λv7 =>
 (some (v7,()))))
 (some (false,())))).bind λv8 =>
 (cond v8.1
 ((push? (α:=Int) v4.1 [v4.2.2.1]).bind λv9 =>
 ((push? (α:=ab_) v4.2.1 [v5.2.2.2.2]).bind λv10 =>
 (some (v9,(v10,())))))
 (some (v4.1,(v4.2.1,()))))))).bind λv11 =>
 (some (inl (v11.1,(v11.2.1,((w64 (v4.2.2.1+1)),()))))))
 (some (inr (v4.1,(v4.2.1,())))))) ([],([],(0,())))).bind λv12 =>
 ((at? a0.2.1 v2.2.1).bind λv13 =>
 ((ax_ v13 v12.2.1).bind λv14 =>
 (((cond (v14.2.1==0)
 (some ((decide (v14.1≤a0.2.2.2.2)),()))
 (some (false,())))).bind λv15 =>
 (cond v15.1
 (some ((pi_ (pi_ v2.2.2.1 v2.2.1 2) v2.2.1 1),()))
 (some ((pi_ v2.2.2.1 v2.2.1 2),())))))))
 (some (v2.2.2.1,())))).bind λv16 =>
 ((push? (α:=Bool) v2.1 [((sj_ 0 v16.1 v2.2.1)==1)]).bind λv17 =>
 (some (v17,(v16.1,()))))))).bind λv18 =>
 (some (inl (v18.1,((w64 (v2.2.1+1)),(v18.2.1,()))))))
 (some (inr (v2.1,(v2.2.2.1,())))))) ([],(0,([],())))).bind λv19 =>
 (some (v19.1,(0,())))))))
theorem x_35:be_ (P:=prog) (cxI (λk=>cond (Nat.beq k 84) (.p .z (.p .z (.j0 [.m (.c (.s 0) 16) .int .int] (.p .z (.p (.p .z (.p .z (.j0 [.v 37 .bool] .z .z))) .z)) .z))) (cond (Nat.beq k 86) (.p .z (.p (.p .z (.lp [.r 6 .int 3,.r 7 ai_ 40,.v 13 .int] [.r 6 .int 3,.r 7 ai_ 40] [] 0 (.p .z (.p .z (.j0 [.r 6 .int 3,.r 7 ai_ 40] (.p .z (.j0 [.v 26 .bool] .z .z)) .z))))) .z)) (.z))) (λk=>Nat.beq k 26||Nat.beq k 82||Nat.beq k 83||false) (cxC [bv7,c_83] [bq5]) 6) (.p .z (.p .z (.p .z (.p (.p .z (.lp [.r 4 .bool 4,.v 20 .int] [.r 4 .bool 4] [.m (.c (.s 6) 16) .int .int] 0 (.p .z (.p .z (.j0 [.r 4 .bool 4,.m (.c (.s 6) 16) .int .int] .z .z))))) .z)))) 35 [au_,an_] [(.list .bool),.int]=λx=>he_ x.1 x.2.1:=by kernel_rfl
noncomputable def c_35:Con prog:=bg_ _ _ 35 [au_,an_] [(.list .bool),.int] _ x_35
noncomputable def da_ (a0:ac_) (a1:ag_) (a2:Int):Option (Int×Unit) :=
 ((cj_ a0 a1).bind λv0 =>
 (cond (v0.1 != 0)
 (some (v0.1,()))
 ((jg_ a0 a2).bind λv1 =>
 (some (v1.1,())))))
theorem x_43:be_ (P:=prog) (cxC [c_83,c_90] []) .z 43 [au_,an_,.int] [.int]=λx=>da_ x.1 x.2.1 x.2.2.1:=by kernel_rfl
noncomputable def c_43:Con prog:=bg_ _ _ 43 [au_,an_,.int] [.int] _ x_43
noncomputable def ki_ (a0:ac_) (a1:ag_) (a2:ay_):Option (ag_×Int×Unit) :=
 ((cj_ a0 a1).bind λv0 =>
 (cond (v0.1 != 0)
 (cond (v0.1 != 0)
 (some ((([],([],[])),[]),(v0.1,())))
 none)
 ((push? (α:=Bool) [] a1.2).bind λv1 =>
 (((((cond (a2.2.1==4)
 ((ch_ a2.2.2 0 (w64 ((a0.1.2.2.2.2.1.length:Int) - 1))).bind λv2 =>
 (cond v2.1
 ((at? a0.1.2.2.2.2.1 a2.2.2).bind λv3 =>
 (cond (decide (v3.2.2.1<0))
 (some ((!true),([],())))
 ((((ae_ (ρ:=((List Int)×((List ab_)×Unit))) (λ(v4:((List Int)×((List ab_)×(Int×Unit)))) =>
 (cond (decide (v4.2.2.1<(a0.2.2.2.1.length:Int)))
 ((((at? a0.2.2.2.1 v4.2.2.1).bind λv5 =>
 (((cond (v5.2.2.1==v3.2.2.1)
 ((at? v1 v4.2.2.1).bind λv6 =>
 ((at? v1 v4.2.2.1).bind λv7 =>
 (some (v7,()))))
 (some (false,())))).bind λv8 =>
 (cond v8.1
 ((push? (α:=Int) v4.1 [v4.2.2.1]).bind λv9 =>
 ((push? (α:=ab_) v4.2.1 [v5.2.2.2.2]).bind λv10 =>
 (some (v9,(v10,())))))
 (some (v4.1,(v4.2.1,()))))))).bind λv11 =>
 (some (inl (v11.1,(v11.2.1,((w64 (v4.2.2.1+1)),()))))))
 (some (inr (v4.1,(v4.2.1,())))))) ([],([],(0,())))).bind λv12 =>
 ((at? a0.2.1 v3.2.2.1).bind λv13 =>
 ((ax_ v13 v12.2.1).bind λv14 =>
 (((cond (v14.2.1==0)
 (some ((decide (v14.1≤a0.2.2.2.2)),()))
 (some (false,())))).bind λv15 =>
 (cond v15.1
 (some ((pi_ (pi_ [] v3.2.2.1 2) v3.2.2.1 1),()))
 (some ((pi_ [] v3.2.2.1 2),())))))))).bind λv16 =>
 (some ((!((sj_ 0 v16.1 v3.2.2.1)==1)),(v16.1,()))))))
 (some (false,([],())))))
 (some (false,([],()))))).bind λv17 =>
 (cond v17.1
 (some ((!false),(v1,(v17.2.1,((a1.1.1,(a1.1.2.1,(a1.1.2.2,()))),())))))
 ((ij_ a0.1 a1.1 a2).bind λv18 =>
 (cond (v18.2.1 != 0)
 (some ((!false),(v1,(v17.2.1,((a1.1.1,(a1.1.2.1,(a1.1.2.2,()))),())))))
 ((ae_ (ρ:=((List Bool)×((List aa_)×Unit))) (λ(v19:(Int×((List Bool)×((List aa_)×Unit)))) =>
 (cond (decide (v19.1<(a0.2.2.2.1.length:Int)))
 ((((at? a0.2.2.2.1 v19.1).bind λv20 =>
 ((fv_ a0.1 v18.1 v20.2.2.2.1).bind λv21 =>
 (((cond v21.1
 ((bh_ v18.1.2.2 v20.2.1).bind λv22 =>
 (cond v22.1
 ((at? v19.2.1 v19.1).bind λv23 =>
 ((at? v19.2.1 v19.1).bind λv24 =>
 (some ((!v24),()))))
 (some (false,()))))
 (some (false,())))).bind λv25 =>
 (cond v25.1
 ((at? v19.2.1 v19.1).bind λv26 =>
 ((at? v19.2.1 v19.1).bind λv27 =>
 (some ((v19.2.1.set v19.1.toNat true),((wf_ v19.2.2.1 v20.2.2.1),())))))
 (some (v19.2.1,(v19.2.2.1,())))))))).bind λv28 =>
 (some (inl ((w64 (v19.1+1)),(v28.1,(v28.2.1,()))))))
 (some (inr (v19.2.1,(v19.2.2.1,())))))) (0,(v1,(v17.2.1,())))).bind λv29 =>
 (some ((!true),(v29.1,(v29.2.1,((v18.1.1,(v18.1.2.1,(v18.1.2.2,()))),()))))))))))).bind λv30 =>
 (cond v30.1
 (some ((([],([],[])),[]),(29,())))
 ((push? (α:=Int) [] v30.2.2.2.1.1).bind λv31 =>
 ((push? (α:=Int) [] v30.2.2.2.1.2.1).bind λv32 =>
 ((push? (α:=Int) [] v30.2.2.2.1.2.2.1).bind λv33 =>
 ((push? (α:=Bool) [] v30.2.1).bind λv34 =>
 (some (((v31,(v32,v33)),v34),(0,()))))))))))))
theorem x_10:be_ (P:=prog) (cxI (λk=>cond (Nat.beq k 31) (.p .z (.lp [.v 12 .int] [] [.o (.c (.s 0) 15) .bool,.m (.c (.s 0) 16) .int .int] 0 (.p .z (.p .z (.j0 [.o (.c (.s 0) 15) .bool,.m (.c (.s 0) 16) .int .int] (.p .z (.p .z (.j0 [.v 55 .bool] .z .z))) .z))))) (cond (Nat.beq k 34) (.p .z (.p (.j0 [.v 38 .bool,.m (.c (.s 0) 16) .int .int] .z .z) .z)) (cond (Nat.beq k 84) (.p .z (.p .z (.j0 [.m (.c (.s 0) 16) .int .int] (.p .z (.p (.p .z (.p .z (.j0 [.v 37 .bool] .z .z))) .z)) .z))) (cond (Nat.beq k 86) (.p .z (.p (.p .z (.lp [.r 6 .int 3,.r 7 ai_ 40,.v 13 .int] [.r 6 .int 3,.r 7 ai_ 40] [] 0 (.p .z (.p .z (.j0 [.r 6 .int 3,.r 7 ai_ 40] (.p .z (.j0 [.v 26 .bool] .z .z)) .z))))) .z)) (.z))))) (λk=>Nat.beq k 26||Nat.beq k 37||Nat.beq k 77||Nat.beq k 80||Nat.beq k 81||Nat.beq k 82||Nat.beq k 83||Nat.beq k 85||false) (cxC [bv7,c_77,c_80,c_81,c_83,c_85] [wz_,bq5]) 9) (.p .z (.p .z (.p .z (.p (.j0 [.v 23 .bool,.o (.c (.s 8) 15) .bool,.m (.c (.s 8) 16) .int .int,.b (.s 8) [.keep,.keep,.keep,.keep,.keep,.keep,.keep,.keep,.keep,.keep,.keep,.keep,.val (.list .int),.val (.list .int),.val (.list .int),.keep,.keep]] .z .z) .z)))) 10 [au_,an_,dz_] [an_,.int]=λx=>ki_ x.1 x.2.1 x.2.2.1:=by kernel_rfl
noncomputable def c_10:Con prog:=bg_ _ _ 10 [au_,an_,dz_] [an_,.int] _ x_10
noncomputable def gt_ (a0:ak_) (a1:(List hj_)) (a2:Int):Option (Int×Unit) :=
 ((ew_ a0 a1).bind λv0 =>
 (cond (v0.1 != 0)
 (some (v0.1,()))
 ((bo_ a2 0 (w64 ((a0.1.length:Int) - 1))).bind λv1 =>
 (cond (!v1.1)
 (some (1,()))
 (some (0,()))))))
theorem x_45:be_ (P:=prog) (cxC [c_61,c_92] []) .z 45 [am_,(.list cm_),.int] [.int]=λx=>gt_ x.1 x.2.1 x.2.2.1:=by kernel_rfl
noncomputable def c_45:Con prog:=bg_ _ _ 45 [am_,(.list cm_),.int] [.int] _ x_45
end
section
set_option maxRecDepth 100000
set_option maxHeartbeats 0
noncomputable def hf_ (a0:ac_) (a1:ag_) (a2:Int):Option ((List Int)×Int×Unit) :=
 ((da_ a0 a1 a2).bind λv0 =>
 (cond (v0.1 != 0)
 (some ([],(v0.1,())))
 ((ae_ (ρ:=((List Int)×((List ab_)×Unit))) (λ(v1:((List Int)×((List ab_)×(Int×Unit)))) =>
 (cond (decide (v1.2.2.1<(a0.2.2.2.1.length:Int)))
 ((((at? a0.2.2.2.1 v1.2.2.1).bind λv2 =>
 (((cond (v2.2.2.1==a2)
 ((at? a1.2 v1.2.2.1).bind λv3 =>
 (some (v3,())))
 (some (false,())))).bind λv4 =>
 (cond v4.1
 ((push? (α:=Int) v1.1 [v1.2.2.1]).bind λv5 =>
 ((push? (α:=ab_) v1.2.1 [v2.2.2.2.2]).bind λv6 =>
 (some (v5,(v6,())))))
 (some (v1.1,(v1.2.1,()))))))).bind λv7 =>
 (some (inl (v7.1,(v7.2.1,((w64 (v1.2.2.1+1)),()))))))
 (some (inr (v1.1,(v1.2.1,())))))) ([],([],(0,())))).bind λv8 =>
 (some (v8.1,(0,()))))))
theorem x_38:be_ (P:=prog) (cxI (λk=>cond (Nat.beq k 86) (.p .z (.p (.p .z (.lp [.r 6 .int 3,.r 7 ai_ 40,.v 13 .int] [.r 6 .int 3,.r 7 ai_ 40] [] 0 (.p .z (.p .z (.j0 [.r 6 .int 3,.r 7 ai_ 40] (.p .z (.j0 [.v 26 .bool] .z .z)) .z))))) .z)) (.z)) (λk=>Nat.beq k 43||false) (cxC [c_43] []) 3) .z 38 [au_,an_,.int] [(.list .int),.int]=λx=>hf_ x.1 x.2.1 x.2.2.1:=by kernel_rfl
noncomputable def c_38:Con prog:=bg_ _ _ 38 [au_,an_,.int] [(.list .int),.int] _ x_38
noncomputable def gg_ (a0:ac_) (a1:ag_) (a2:Int):Option (Int×Int×Unit) :=
 ((da_ a0 a1 a2).bind λv0 =>
 (cond (v0.1 != 0)
 (some (0,(v0.1,())))
 ((cj_ a0 a1).bind λv1 =>
 (cond (v1.1 != 0)
 none
 ((push? (α:=Bool) [] a1.2).bind λv2 =>
 ((ae_ (ρ:=((List Int)×((List ab_)×Unit))) (λ(v3:((List Int)×((List ab_)×(Int×Unit)))) =>
 (cond (decide (v3.2.2.1<(a0.2.2.2.1.length:Int)))
 ((((at? a0.2.2.2.1 v3.2.2.1).bind λv4 =>
 (((cond (v4.2.2.1==a2)
 ((at? v2 v3.2.2.1).bind λv5 =>
 ((at? v2 v3.2.2.1).bind λv6 =>
 (some (v6,()))))
 (some (false,())))).bind λv7 =>
 (cond v7.1
 ((push? (α:=Int) v3.1 [v3.2.2.1]).bind λv8 =>
 ((push? (α:=ab_) v3.2.1 [v4.2.2.2.2]).bind λv9 =>
 (some (v8,(v9,())))))
 (some (v3.1,(v3.2.1,()))))))).bind λv10 =>
 (some (inl (v10.1,(v10.2.1,((w64 (v3.2.2.1+1)),()))))))
 (some (inr (v3.1,(v3.2.1,())))))) ([],([],(0,())))).bind λv11 =>
 ((at? a0.2.1 a2).bind λv12 =>
 ((ax_ v12 v11.2.1).bind λv13 =>
 (some (v13.1,(v13.2.1,())))))))))))
theorem x_14:be_ (P:=prog) (cxI (λk=>cond (Nat.beq k 86) (.p .z (.p (.p .z (.lp [.r 6 .int 3,.r 7 ai_ 40,.v 13 .int] [.r 6 .int 3,.r 7 ai_ 40] [] 0 (.p .z (.p .z (.j0 [.r 6 .int 3,.r 7 ai_ 40] (.p .z (.j0 [.v 26 .bool] .z .z)) .z))))) .z)) (.z)) (λk=>Nat.beq k 26||Nat.beq k 43||Nat.beq k 82||Nat.beq k 83||false) (cxC [bv7,c_43,c_83] [bq5]) 5) .z 14 [au_,an_,.int] [.int,.int]=λx=>gg_ x.1 x.2.1 x.2.2.1:=by kernel_rfl
noncomputable def c_14:Con prog:=bg_ _ _ 14 [au_,an_,.int] [.int,.int] _ x_14
noncomputable def eo_ (a0:ak_) (a1:(List hj_)) (a2:Int):Option ((List Int)×Int×Unit) :=
 ((gt_ a0 a1 a2).bind λv0 =>
 (cond (v0.1 != 0)
 (some ([],(v0.1,())))
 ((ae_ (ρ:=(Unit×(((List Int)×Unit)×Unit))) (λ(v1:(Int×(Unit×(((List Int)×Unit)×Unit)))) =>
 (cond (decide (v1.1<(a1.length:Int)))
 ((((at? a1 v1.1).bind λv2 =>
 (cond (v2.1 != a2)
 (some ((),((v1.2.2.1.1,()),())))
 ((ff_ a0 v2).bind λv3 =>
 (cond v3.2.1
 ((push? (α:=Int) v1.2.2.1.1 [v1.1]).bind λv4 =>
 (some ((),((v4,()),()))))
 (some ((),((v1.2.2.1.1,()),())))))))).bind λv5 =>
 (some (inl ((w64 (v1.1+1)),((),((v5.2.1.1,()),()))))))
 (some (inr ((),((v1.2.2.1.1,()),())))))) (0,((),(([],()),())))).bind λv6 =>
 (some (v6.2.1.1,(0,()))))))
theorem x_15:be_ (P:=prog) (cxI (λk=>cond (Nat.beq k 93) (.p .z (.lp [.v 11 .int] [] [.y (.s 0),.b (.y (.s 0) 6) [.row .int 3]] 0 (.p .z (.p .z (.j0 [.y (.s 0),.b (.y (.s 0) 6) [.row .int 3]] .z .z))))) (.z)) (λk=>Nat.beq k 45||Nat.beq k 94||false) (cxC [c_45,c_94] []) 5) (.p .z (.p .z (.p (.p .z (.rf [6] .z .z)) .z))) 15 [am_,(.list cm_),.int] [(.list .int),.int]=λx=>eo_ x.1 x.2.1 x.2.2.1:=by kernel_rfl
noncomputable def c_15:Con prog:=bg_ _ _ 15 [am_,(.list cm_),.int] [(.list .int),.int] _ x_15
end
section
set_option maxRecDepth 100000
set_option maxHeartbeats 0
noncomputable def ix_ (a0:ac_) (a1:ag_):Option (ak_×Int×Unit) :=
 ((he_ a0 a1).bind λv0 =>
 (cond (v0.2.1 != 0)
 (some (([],([],([],[]))),(v0.2.1,())))
 (cond ((a0.2.1.length:Int)==0)
 (some (([],([],([],[]))),(70,())))
 ((push? (α:=aa_) [] a0.2.1).bind λv1 =>
 ((mk? (α:=(List ab_)) (a0.2.1.length:Int) []).bind λv2 =>
 ((ae_ (ρ:=(((List (List ab_))×(((List aa_)×((List (List Int))×((List (List ab_))×((List fg_)×Unit))))×(((List (List Int))×Unit)×Unit)))⊕(ak_×(Int×Unit)))) (λ(v3:(Int×((List (List ab_))×(((List aa_)×((List (List Int))×((List (List ab_))×((List fg_)×Unit))))×(((List (List Int))×Unit)×Unit))))) =>
 (cond (decide (v3.1<(a0.2.1.length:Int)))
 ((at? a0.2.2.1 v3.1).bind λv4 =>
 ((push? (α:=Int) [] v4).bind λv5 =>
 ((push? (α:=(List Int)) v3.2.2.2.1.1 ([v5]:List (List Int))).bind λv6 =>
 ((hf_ a0 a1 v3.1).bind λv7 =>
 (cond (v7.2.1 != 0)
 (some (inr (inr (([],([],([],[]))),(v7.2.1,())))))
 ((ae_ (ρ:=((List (List ab_))×Unit)) (λ(v8:(Int×((List (List ab_))×Unit))) =>
 (cond (decide (v8.1<(v7.1.length:Int)))
 ((at? v7.1 v8.1).bind λv9 =>
 ((at? v8.2.1 v3.1).bind λv10 =>
 ((at? v8.2.1 v3.1).bind λv11 =>
 ((at? a0.2.2.2.1 v9).bind λv12 =>
 ((cd_ v12.2.2.2.2).bind λv13 =>
 ((push? (α:=ab_) v11 [v13.1]).bind λv14 =>
 ((at? v8.2.1 v3.1).bind λv15 =>
 (cond ((v3.1==v3.1)&&true)
 ((at? v8.2.1 v3.1).bind λv16 =>
 (some (inl ((w64 (v8.1+1)),((v8.2.1.set v3.1.toNat v14),())))))
 none))))))))
 (some (inr (v8.2.1,()))))) (0,(v3.2.1,()))).bind λv17 =>
 (some (inl ((w64 (v3.1+1)),(v17.1,((v3.2.2.1.1,(v3.2.2.1.2.1,(v3.2.2.1.2.2.1,(v3.2.2.1.2.2.2.1,())))),((v6,()),()))))))))))))
 (some (inr (inl (v3.2.1,((v3.2.2.1.1,(v3.2.2.1.2.1,(v3.2.2.1.2.2.1,(v3.2.2.1.2.2.2.1,())))),((v3.2.2.2.1.1,()),())))))))) (0,(v2,(([],([],([],([],())))),(([],()),()))))).bind λv18 =>
 (co_ v18 (λv19=>(some ((v1,(v19.2.2.1.1,(v19.1,[]))),(0,()))))
 (λv20=>(some v20)))))))))
theorem x_11:be_ (P:=prog) (cxC [c_35,c_38,c_39] [cp_36,wz_]) (.p .z (.p .z (.p .z (.p .z (.p (.p .z (.ls [.v 40 .int] [] [.g (.s 35) (.list ai_),.b (.s 4) [.val (.list ah_),.val (.list (.list .int)),.val (.list (.list ai_)),.val (.list jl_)],.b (.s 8) [.keep,.row (.list .int) 38,.keep,.keep]] 0 (.p .z (.p .z (.p (.p .z (.p .z (.p .z (.p .z (.p .z (.lp [.v 67 .int] [] [.g (.s 35) (.list ai_)] 2 .z)))))) .z))))) .z))))) 11 [au_,an_] [am_,.int]=λx=>ix_ x.1 x.2.1:=by kernel_rfl
noncomputable def c_11:Con prog:=bg_ _ _ 11 [au_,an_] [am_,.int] _ x_11
end
section
set_option maxRecDepth 100000
set_option maxHeartbeats 0
noncomputable def gf_ (a0:ac_) (a1:(List ay_)) (a2:hj_):Option (Bool×Unit) :=
 ((((kj_ a0).bind λv0 =>
 (cond v0.1
 (some (true,()))
 (cond (decide (20<(a1.length:Int)))
 (some (true,()))
 (some ((decide (10<(a2.2.2.2.2.2.2.1.length:Int))),())))))).bind λv1 =>
 (cond v1.1
 ((cs_).bind λv2 =>
 (some (v2.1,())))
 ((ip_ a0).bind λv3 =>
 ((iv_ v3.1).bind λv4 =>
 (cond (v4.2.1 != 0)
 ((cs_).bind λv5 =>
 (some (v5.1,())))
 ((ae_ (ρ:=(((List Int)×((List Int)×((List Int)×((List Bool)×Unit))))×Unit)) (λ(v6:(Int×(((List Int)×((List Int)×((List Int)×((List Bool)×Unit))))×Unit))) =>
 (cond (decide (v6.1<(a1.length:Int)))
 ((((at? a1 v6.1).bind λv7 =>
 ((ki_ v3.1 ((v6.2.1.1,(v6.2.1.2.1,v6.2.1.2.2.1)),v6.2.1.2.2.2.1) v7).bind λv8 =>
 (cond (v8.2.1==0)
 (some ((v8.1.1.1,(v8.1.1.2.1,(v8.1.1.2.2,(v8.1.2,())))),()))
 (some ((v6.2.1.1,(v6.2.1.2.1,(v6.2.1.2.2.1,(v6.2.1.2.2.2.1,())))),())))))).bind λv9 =>
 (some (inl ((w64 (v6.1+1)),((v9.1.1,(v9.1.2.1,(v9.1.2.2.1,(v9.1.2.2.2.1,())))),())))))
 (some (inr ((v6.2.1.1,(v6.2.1.2.1,(v6.2.1.2.2.1,(v6.2.1.2.2.2.1,())))),()))))) (0,((v4.1.1.1,(v4.1.1.2.1,(v4.1.1.2.2,(v4.1.2,())))),()))).bind λv10 =>
 ((bv_ ((v10.1.1,(v10.1.2.1,v10.1.2.2.1)),v10.1.2.2.2.1)).bind λv11 =>
 ((ix_ v3.1 v11.1).bind λv12 =>
 (cond ((a0.2.1.length:Int)==0)
 (cond (v12.2.1==70)
 ((cs_).bind λv13 =>
 (some (v13.1,())))
 (some (false,())))
 (((cond (v12.2.1 != 0)
 (some (true,()))
 (some (((v12.1.1.length:Int) != (a0.2.1.length:Int)),())))).bind λv14 =>
 (cond v14.1
 (some (false,()))
 ((mk? (α:=Int) (a0.2.1.length:Int) 0).bind λv15 =>
 ((ae_ (ρ:=(((List Int)×Unit)⊕(Bool×Unit))) (λ(v16:(Int×((List Int)×Unit))) =>
 (cond (decide (v16.1<(a0.2.1.length:Int)))
 ((db_ v12.1 v16.1).bind λv17 =>
 ((bv_ ((v10.1.1,(v10.1.2.1,v10.1.2.2.1)),v10.1.2.2.2.1)).bind λv18 =>
 ((gg_ v3.1 v18.1 v16.1).bind λv19 =>
 (cond (v17.2.1==2)
 ((cs_).bind λv20 =>
 (some (inr (inr (v20.1,())))))
 (((cond (v17.2.1 != 0)
 (some (true,()))
 (cond (v19.2.1 != 0)
 (some (true,()))
 (some (((v17.1.length:Int) != v19.1),()))))).bind λv21 =>
 (cond v21.1
 (some (inr (inr (false,()))))
 ((at? v16.2.1 v16.1).bind λv22 =>
 ((at? v16.2.1 v16.1).bind λv23 =>
 (some (inl ((w64 (v16.1+1)),((v16.2.1.set v16.1.toNat v19.1),()))))))))))))
 (some (inr (inl (v16.2.1,())))))) (0,(v15,()))).bind λv24 =>
 (co_ v24 (λv25=>((eo_ v12.1 [a2] a2.1).bind λv27 =>
 (((cond (v27.2.1 != 0)
 (some (true,()))
 (some (((v27.1.length:Int)==0),())))).bind λv28 =>
 (cond v28.1
 ((cs_).bind λv29 =>
 (some (v29.1,())))
 ((iw_ v12.1 a2).bind λv30 =>
 (((cond (v30.2.1 != 0)
 (some (true,()))
 (cond (decide (a2.1<0))
 (some (true,()))
 (some ((decide ((v25.1.length:Int)≤a2.1)),()))))).bind λv31 =>
 (cond v31.1
 (some (false,()))
 ((ae_ (ρ:=(Unit⊕(Bool×Unit))) (λ(v32:(Int×Unit)) =>
 (cond (decide (v32.1<(v25.1.length:Int)))
 ((db_ v30.1 v32.1).bind λv33 =>
 (((cond (v33.2.1 != 0)
 (some (true,()))
 (cond (decide ((v33.1.length:Int)<1))
 (some (true,()))
 (cond (v32.1==a2.1)
 ((at? v25.1 v32.1).bind λv34 =>
 ((at? v25.1 v32.1).bind λv35 =>
 (cond (decide (v35≤(v33.1.length:Int)))
 (some (true,()))
 (cond (v32.1 != a2.1)
 ((at? v25.1 v32.1).bind λv36 =>
 ((at? v25.1 v32.1).bind λv37 =>
 (some (((v33.1.length:Int) != v37),()))))
 (some (false,()))))))
 (cond (v32.1 != a2.1)
 ((at? v25.1 v32.1).bind λv38 =>
 ((at? v25.1 v32.1).bind λv39 =>
 (some (((v33.1.length:Int) != v39),()))))
 (some (false,()))))))).bind λv40 =>
 (cond v40.1
 (some (inr (inr (false,()))))
 (some (inl ((w64 (v32.1+1)),()))))))
 (some (inr (inl ()))))) (0,())).bind λv41 =>
 (co_ v41 (λv42=>((cs_).bind λv44 =>
 (some (v44.1,()))))
 (λv43=>(some v43)))))))))))
 (λv26=>(some v26))))))))))))))))
theorem x_3:be_ (P:=prog) (cxC [c_6,c_7,c_8,c_9,c_10,c_11,c_12,c_13,c_14,c_15,c_16] []) (.p .z (.p (.j0 [.v 40 .bool] .z .z) (.p .z (.p .z (.p .z (.p (.p .z (.lp [.v 10 .int] [] [.b (.s 8) [.val (.list .int),.val (.list .int),.val (.list .int),.val (.list .bool)]] 0 (.p .z (.j0 [.b (.s 8) [.val (.list .int),.val (.list .int),.val (.list .int),.val (.list .bool)]] .z .z)))) (.p .z (.p .z (.p (.j0 [.v 97 .bool] .z .z) (.p .z (.p (.p .z (.ls [.v 15 .int] [] [.o (.s 14) .int] 2 (.p .z (.p (.p .z (.p .z (.p .z (.p (.j0 [.v 137 .bool] .z .z) .z)))) .z)))) (.p .z (.p (.j0 [.v 157 .bool] .z .z) (.p .z (.p (.j0 [.v 178 .bool] .z .z) (.p (.p .z (.ls [.v 24 .int] [] [] 4 (.p .z (.p (.p .z (.j0 [.v 227 .bool] .z .z)) .z)))) .z)))))))))))))))) 3 [au_,(.list dz_),cm_] [.bool]=λx=>gf_ x.1 x.2.1 x.2.2.1:=by kernel_rfl
noncomputable def c_3:Con prog:=bg_ _ _ 3 [au_,(.list dz_),cm_] [.bool] _ x_3
end
end Go.Proofs.YtlbfbdbagohinaaGreatDoor.Rx
section

end
namespace Go.Proofs.YtlbfbdbagohinaaGreatDoor.Rx
open Go Pad Rex Sum
section
theorem aq_ {α:Type} {l:List α} (h:Sm l.length):push? [] l=some l:=by
 rw[ah2 (by simp only[i6_];omega)]
 rfl
theorem cp_ {α:Type} {l:List α} {x:α} (h:Sm l.length):push? l [x]=some (l++[x]):=ah2 (by simp only[d1_,i6_];omega)
theorem mj_ {α:Type} {l:List α} {i:Nat} {x:α} (h:l[i]?=some x):l.set ((i:Nat):Int).toNat x=l:=by
 show l.set i x=l
 refine f9_ λj => ?_
 rw[c6_]
 split
 ·next e =>
  subst e
  rw[if_pos (al_ h),h]
 ·rfl
theorem ou_ (c:List bi_) (h:Sm c.length):bx_ c=some (c,()):=by
 unfold bx_
 rw[aq_ h]
 rfl
theorem xa_ (c:List Int) (h:Sm c.length):cz_ c=some (c,()):=by
 unfold cz_
 rw[aq_ h]
 rfl
theorem ls_ {α τ:Type} {l:List α} (hl:Sm l.length) {body:(Int×(List α×Unit))→Option ((Int×(List α×Unit))⊕(List α×Unit))} {K:(List α×Unit)→Option τ} {x:Option τ}
  (h:∀ (i:Nat) y,l[i]?=some y→body ((i:Int),(l,()))=some (.inl ((w64 ((i:Int)+1)),(l,())))) (e:body ((l.length:Int),(l,()))=some (.inr (l,()))) (hk:K (l,())=x):(ae_ body (0,(l,()))).bind K=x:=by
 refine hh_ l (λ_ _=>none) (λi=>((i:Int),(l,()))) (r0:=(l,())) (λi y hy => ?_) e ?_
 ·have hi:=al_ hy
  rw[h i y hy,bn_ (show Sm i by omega)]
 ·have:ga_ (λ(_:Nat) (_:α)=>(none:Option (List α×Unit))) 0 l=none:=(ha_ l 0).2 λ_ _ _=>rfl
  rw[this]
  exact hk
theorem an7 {r:ad_} (h:SmR r):iq_ r=some (r,()):=by
 unfold iq_
 simp only[aq_ h.pl,aq_ h.th,aq_ h.pr,aq_ h.wy,aq_ h.ac,aq_ h.au,ou_ _ h.go,a0_]
 refine ls_ h.pr (λi y hy => ?_) ?_ ?_
 ·have:=h.prn y (bu_ hy)
  simp only[dlt (al_ hy),a5_,af_ hy,a0_,ou_ _ this.2,mj_ hy]
 ·simp only[dnl,a4_]
 refine ls_ h.wy (λi y hy => ?_) ?_ ?_
 ·have:=h.wyn y (bu_ hy)
  simp only[dlt (al_ hy),a5_,af_ hy,a0_,ou_ _ this,mj_ hy]
 ·simp only[dnl,a4_]
 refine ls_ h.ac (λi y hy => ?_) ?_ ?_
 ·obtain⟨h1,h2,h3,h4,h5,h6⟩:=h.acn y (bu_ hy)
  simp only[dlt (al_ hy),a5_,af_ hy,a0_,ou_ _ h3,xa_ _ h2,xa_ _ h5,xa_ _ h6,aq_ h4,mj_ hy]
 ·simp only[dnl,a4_]
 refine ls_ h.au (λi y hy => ?_) ?_ ?_
 ·have:=h.aun y (bu_ hy)
  simp only[dlt (al_ hy),a5_,af_ hy,a0_,ou_ _ this,mj_ hy]
 ·simp only[dnl,a4_]
 rfl
theorem tp_ (c:ab_) (h:Sm c.2.2.2.2.2.1.length):fi_ c=some (c,()):=by
 unfold fi_
 rw[aq_ h]
 rfl
theorem an6 {g:ac_} (h:SmG g):ip_ g=some (g,()):=by
  have hl:Sm g.2.1.length:=by have:=h.lk;omega
  have hn:Sm g.2.2.2.1.length:=by have:=h.nt;omega
  have hc:Sm g.2.2.1.length:=by have:=h.cd;omega
  unfold ip_
  rw[an7 h.room]
  simp only[aq_ hl,aq_ hn,a0_]
  have hgo:=ld_ g.2.2.1 (λ_ t x=>t++[x]) (λi t=>((i:Int),((t,()),()))) (λt=>((t,()),())) [] (body:=(λ(v3:(Int×(((List (List Int))×Unit)×Unit))) =>
 (cond (decide (v3.1<(g.2.2.1.length:Int)))
 ((at? g.2.2.1 v3.1).bind λv4 =>
 ((push? (α:=Int) [] v4).bind λv5 =>
 ((push? (α:=(List Int)) v3.2.1.1 [v5]).bind λv6 =>
 (some (inl ((w64 (v3.1+1)),((v6,()),())))))))
 (some (inr ((v3.2.1.1,()),())))))) (λi t=>t=g.2.2.1.take i) (by simp) (λi x t hx ht=>by
    have hi:=al_ hx
    have hx2:Sm x.length:=by have:=h.cdn x (bu_ hx);omega
    have ht2:Sm t.length:=by rw[ht,c0_];omega
    refine⟨?_,?_⟩
    · simp only[dlt hi,a5_,af_ hx,a0_,aq_ hx2,cp_ ht2,bn_ (show Sm i by omega)]
    · rw[ht,f3_,hx]
      rfl) (λt ht=>by simp only[dnl,a4_])
  obtain⟨t,ht,hw⟩:=hgo
  rw[e0_] at ht
  subst ht
  refine e2_ (congrArg (λo=>Option.bind o _) hw) ?_
  rw[a0_]
  refine ls_ hn (λi y hy => ?_) ?_ ?_
  · have hy2:=h.ntn y (bu_ hy)
    simp only[dlt (al_ hy),a5_,af_ hy,a0_,aq_ (show Sm y.2.2.2.1.length by omega),mj_ hy,tp_ _ (show Sm y.2.2.2.2.2.2.2.2.2.1.length by omega)]
  · simp only[dnl,a4_]
  rfl
end
section
set_option maxRecDepth 10000
theorem af8 {σ ρ τ:Type} (n:Nat) (F:Nat→τ→σ) (R:τ→ρ) (t0:τ) {body:σ→Option (σ⊕ρ)} (I:Nat→τ→Prop) (h0:I 0 t0)
  (h:∀ i t,i<n→I i t→Tot (body (F i t)) (λr=>∃ t',r = .inl (F (i+1) t')∧I (i+1) t')) (e:∀ t,I n t→body (F n t)=some (.inr (R t))) :
  Tot (ae_ body (F 0 t0)) (λr=>∃ t,r=R t∧I n t):=by
 refine jk_ (λi s=>∃ t,s=F i t∧I i t) _ n 0 (F 0 t0) ⟨t0,rfl,h0⟩ (λj s h1 h2 hs => ?_) (λs hs => ?_)
 ·obtain⟨t,rfl,ht⟩:=hs
  obtain⟨r,hr,t',rfl,ht'⟩:=h j t (by omega) ht
  exact .inl ⟨_,hr,t',rfl,ht'⟩
 ·obtain⟨t,rfl,ht⟩:=hs
  rw[a7_] at ht ⊢
  exact⟨_,e t ht,t,rfl,ht⟩
structure VS (r:ad_) (s:aj_):Prop where
 l1:s.1.length=r.2.1.length
 l2:s.2.1.length=r.2.2.1.length
 l3:(s.2.2.length:Int)=r.2.2.2.2.2.2.1
 th:∀ (i:Nat) n,s.1[i]?=some n→qv_ r.2.1 (i:Int) n=true
 pr:∀ (i:Nat) p,s.2.1[i]?=some p→inR r p=true
 py:∀ (i:Nat) p,s.2.2[i]?=some p→un_ r p=true
theorem bq7 {r:ad_} {s:aj_} (h:VS r s):ckS r s=0:=by
 unfold ckS
 have hl:wi_ r s=false:=by
  unfold wi_
  have:=h.l1
  have:=h.l2
  have:=h.l3
  simp only[b6_,n6_]
  omega
 rw[hl,a4_]
 rw[(ha_ s.1 0).2 (λj x hx=>by rw[a7_,h.th j x hx];rfl),Option.getD_none]
 rw[(ha_ s.2.1 0).2 (λj x hx=>by rw[h.pr j x hx];rfl),Option.getD_none]
 rw[(ha_ s.2.2 0).2 (λj x hx=>by rw[h.py j x hx];rfl),Option.getD_none]
theorem qu_ {r:ad_} (h:SmR r) (ok:OkR r) {i n:Int} (hs:qv_ r.2.1 i n=true):(0≤i∧i<r.2.1.length)∧(0≤n∧n≤5):=by
 unfold qv_ at hs
 rw[a1_] at hs
 have hi:=cl_.1 hs.1
 have hth:=h.th
 rw[ht_ (by omega) (by omega)] at hi
 obtain⟨t,ht,hg⟩:=bf3 (l:=r.2.1) (i:=i) (by omega) (by omega)
 have h2:=hs.2
 rw[ht] at h2
 have hn:=cl_.1 h2
 have:=ok.th _ _ hg
 unfold bi4 at this
 simp only[a1_] at this
 have h3:=cl_.1 this.2.2.1
 rw[ht_ (by omega) (by omega)] at hn
 omega
end
end Go.Proofs.YtlbfbdbagohinaaGreatDoor.Rx
namespace Go.Proofs.YtlbfbdbagohinaaGreatDoor.Rx
open Go Pad Rex Go.Proofs Go.Proofs.Tryz Sum
section
set_option maxRecDepth 100000
noncomputable def autB (a0:ad_) (th pr py:List Int):(Int×Unit)→Option ((Int×Unit)⊕(Unit⊕(Int×Unit))) :=
 (λ(v14:(Int×Unit)) =>
 (cond (decide (v14.1<(a0.2.2.2.2.2.1.length:Int)))
 ((at? a0.2.2.2.2.2.1 v14.1).bind λv15 =>
 ((((at? th v15.2.1).bind λv16 =>
 ((at? th v15.2.1).bind λv17 =>
 (cond (v17 != v15.2.2)
 ((aw_ (a0,(th,(pr,py))) v15.1).bind λv18 =>
 (some (v18.1,())))
 (some (false,())))))).bind λv19 =>
 (cond v19.1
 (some (inr (inr (v14.1,()))))
 (some (inl ((w64 (v14.1+1)),()))))))
 (some (inr (inl ())))))
noncomputable def setB (a0:ad_) (v11 v12:List Int):(Int×((List Int)×Unit))→Option ((Int×((List Int)×Unit))⊕(((List Int)×Unit)⊕(Bool×((List Int)×Unit)))) :=
 (λ(v13:(Int×((List Int)×Unit))) =>
 (cond (decide (v13.1<101))
 ((((ae_ (ρ:=(Unit⊕(Int×Unit))) (autB a0 v13.2.1 v11 v12) (0,())).bind λv20 =>
 (co_ v20 (λv21=>(some ((-1),())))
 (λv22=>(some v22))))).bind λv23 =>
 (cond (decide (v23.1<0))
 (some (inr (inr ((!true),(v13.2.1,())))))
 ((at? a0.2.2.2.2.2.1 v23.1).bind λv24 =>
 ((at? a0.2.2.2.2.2.1 v23.1).bind λv25 =>
 ((at? v13.2.1 v24.2.1).bind λv26 =>
 ((at? v13.2.1 v24.2.1).bind λv27 =>
 (some (inl ((w64 (v13.1+1)),((v13.2.1.set v24.2.1.toNat v25.2.2),()))))))))))
 (some (inr (inl (v13.2.1,()))))))
noncomputable def thgB (a0:ad_):(Int×(((List Int)×Unit)×Unit))→Option ((Int×(((List Int)×Unit)×Unit))⊕(((List Int)×Unit)×Unit)) :=
 (λ(v2:(Int×(((List Int)×Unit)×Unit))) =>
 (cond (decide (v2.1<(a0.2.1.length:Int)))
 ((at? a0.2.1 v2.1).bind λv3 =>
 ((push? (α:=Int) v2.2.1.1 [v3.2.2.2]).bind λv4 =>
 (some (inl ((w64 (v2.1+1)),((v4,()),()))))))
 (some (inr ((v2.2.1.1,()),())))))
noncomputable def prpB (a0:ad_):(Int×(((List Int)×Unit)×Unit))→Option ((Int×(((List Int)×Unit)×Unit))⊕(((List Int)×Unit)×Unit)) :=
 (λ(v6:(Int×(((List Int)×Unit)×Unit))) =>
 (cond (decide (v6.1<(a0.2.2.1.length:Int)))
 ((at? a0.2.2.1 v6.1).bind λv7 =>
 ((push? (α:=Int) v6.2.1.1 [v7.2.1]).bind λv8 =>
 (some (inl ((w64 (v6.1+1)),((v8,()),()))))))
 (some (inr ((v6.2.1.1,()),())))))
noncomputable def rbegX (a0:ad_):Option (aj_×(Int×Unit)) :=
 ((en_ a0).bind λv0 =>
 (cond (v0.1 != 0)
 (some (([],([],[])),(v0.1,())))
 ((mk? (α:=Int) a0.2.2.2.2.2.2.1 0).bind λv1 =>
 ((ae_ (ρ:=(((List Int)×Unit)×Unit)) (thgB a0) (0,(([],()),()))).bind λv5 =>
 ((ae_ (ρ:=(((List Int)×Unit)×Unit)) (prpB a0) (0,(([],()),()))).bind λv9 =>
 ((push? (α:=Int) [] v5.1.1).bind λv10 =>
 ((push? (α:=Int) [] v9.1.1).bind λv11 =>
 ((push? (α:=Int) [] v1).bind λv12 =>
 ((((ae_ (ρ:=(((List Int)×Unit)⊕(Bool×((List Int)×Unit)))) (setB a0 v11 v12) (0,(v10,()))).bind λv28 =>
 (co_ v28 (λv29=>(some ((!false),(v29.1,()))))
 (λv30=>(some v30))))).bind λv31 =>
 (cond v31.1
 (some (([],([],[])),(27,())))
 (some ((v31.2.1,(v11,v12)),(0,())))))))))))))
theorem bl1:hd_=rbegX:=by kernel_rfl
end
end Go.Proofs.YtlbfbdbagohinaaGreatDoor.Rx
namespace Go.Proofs.YtlbfbdbagohinaaGreatDoor.Rx
open Go Pad Rex Sum
section
set_option maxRecDepth 10000
def VT (r:ad_) (th:List Int):Prop:=th.length=r.2.1.length∧∀ (i:Nat) n,th[i]?=some n→qv_ r.2.1 (i:Int) n=true
theorem bw3 {r:ad_} (h:SmR r) (ok:OkR r) {th:List Int} (hv:VT r th) {i n:Int} (hs:qv_ r.2.1 i n=true):VT r (th.set i.toNat n):=by
 refine⟨by rw[e8_];exact hv.1,λj m hj => ?_⟩
 have hi:=(qu_ h ok hs).1
 rw[c6_] at hj
 split at hj
 ·next e =>
  split at hj
  ·obtain rfl:=a8_ hj
   rw[show (j:Int)=i by omega]
   exact hs
  ·cases hj
 ·exact hv.2 j m hj
theorem bi3 {r:ad_} (h:SmR r):ae_ (thgB r) (0,(([],()),()))=some ((r.2.1.map (·.2.2.2),()),()):=by
 have hth:=h.th
 obtain⟨z,hz,q,rfl,hq⟩:=af8 r.2.1.length (λi (q:List Int)=>((i:Int),((q,()),()))) (λq=>((q,()),())) [] (body:=thgB r) (λi q=>q=(r.2.1.take i).map (·.2.2.2)) rfl (λi q hi hq=>by
  obtain⟨x,hx⟩:=bl_ hi
  have hq2:Sm q.length:=by rw[hq,d6_,c0_];omega
  refine⟨_,?_,q++[x.2.2.2],rfl,?_⟩
  ·unfold thgB
   simp only[dlt hi,a5_,af_ hx,a0_,cp_ hq2,bn_ (show Sm i by omega)]
  ·rw[f3_,hx,hq,l9_]
   rfl) (λq hq=>by
  unfold thgB
  simp only[dnl,a4_])
 rw[e0_] at hq
 subst hq
 exact hz
theorem bl7 {r:ad_} (h:SmR r):ae_ (prpB r) (0,(([],()),()))=some ((r.2.2.1.map (·.2.1),()),()):=by
 have hth:=h.pr
 obtain⟨z,hz,q,rfl,hq⟩:=af8 r.2.2.1.length (λi (q:List Int)=>((i:Int),((q,()),()))) (λq=>((q,()),())) [] (body:=prpB r) (λi q=>q=(r.2.2.1.take i).map (·.2.1)) rfl (λi q hi hq=>by
  obtain⟨x,hx⟩:=bl_ hi
  have hq2:Sm q.length:=by rw[hq,d6_,c0_];omega
  refine⟨_,?_,q++[x.2.1],rfl,?_⟩
  ·unfold prpB
   simp only[dlt hi,a5_,af_ hx,a0_,cp_ hq2,bn_ (show Sm i by omega)]
  ·rw[f3_,hx,hq,l9_]
   rfl) (λq hq=>by
  unfold prpB
  simp only[dnl,a4_])
 rw[e0_] at hq
 subst hq
 exact hz
end
end Go.Proofs.YtlbfbdbagohinaaGreatDoor.Rx
namespace Go.Proofs.YtlbfbdbagohinaaGreatDoor.Rx
open Go Pad Rex Go.Proofs Go.Proofs.Tryz Sum
section
set_option maxRecDepth 100000
noncomputable def pbgB (a0:ac_) (s:aj_):(Int×((List Bool)×((List aa_)×Unit)))→Option ((Int×((List Bool)×((List aa_)×Unit)))⊕((List Bool)×((List aa_)×Unit))) :=
 (λ(v3:(Int×((List Bool)×((List aa_)×Unit)))) =>
 (cond (decide (v3.1<(a0.2.2.2.1.length:Int)))
 ((((at? a0.2.2.2.1 v3.1).bind λv4 =>
 ((fv_ a0.1 s v4.2.2.2.1).bind λv5 =>
 (((cond v5.1
 ((bh_ s.2.2 v4.2.1).bind λv6 =>
 (cond v6.1
 ((at? v3.2.1 v3.1).bind λv7 =>
 ((at? v3.2.1 v3.1).bind λv8 =>
 (some ((!v8),()))))
 (some (false,()))))
 (some (false,())))).bind λv9 =>
 (cond v9.1
 ((at? v3.2.1 v3.1).bind λv10 =>
 ((at? v3.2.1 v3.1).bind λv11 =>
 (some ((v3.2.1.set v3.1.toNat true),((wf_ v3.2.2.1 v4.2.2.1),())))))
 (some (v3.2.1,(v3.2.2.1,())))))))).bind λv12 =>
 (some (inl ((w64 (v3.1+1)),(v12.1,(v12.2.1,()))))))
 (some (inr (v3.2.1,(v3.2.2.1,()))))))
noncomputable def pbegX (a0:ac_):Option (ag_×(Int×Unit)) :=
 ((fw_ a0).bind λv0 =>
 (cond (v0.1 != 0)
 (some ((([],([],[])),[]),(v0.1,())))
 ((hd_ a0.1).bind λv1 =>
 (cond (v1.2.1 != 0)
 (some ((([],([],[])),[]),(v1.2.1,())))
 ((mk? (α:=Bool) (a0.2.2.2.1.length:Int) false).bind λv2 =>
 ((ae_ (ρ:=((List Bool)×((List aa_)×Unit))) (pbgB a0 v1.1) (0,(v2,([],())))).bind λv13 =>
 ((push? (α:=Int) [] v1.1.1).bind λv14 =>
 ((push? (α:=Int) [] v1.1.2.1).bind λv15 =>
 ((push? (α:=Int) [] v1.1.2.2).bind λv16 =>
 ((push? (α:=Bool) [] v13.1).bind λv17 =>
 (some (((v14,(v15,v16)),v17),(0,())))))))))))))
theorem bl9:iv_=pbegX:=by kernel_rfl
end
end Go.Proofs.YtlbfbdbagohinaaGreatDoor.Rx
namespace Go.Proofs.YtlbfbdbagohinaaGreatDoor.Rx
open Go Pad Rex Sum
section
set_option maxRecDepth 10000
theorem tv_ {r:ad_} (h:SmR r) (ok:OkR r) {s:aj_} (hv:VS r s):Sm s.1.length∧Sm s.2.1.length∧Sm s.2.2.length:=by
 have:=cl_.1 ok.py
 have h1:=hv.l1
 have h2:=hv.l2
 have h3:=hv.l3
 have:=h.th
 have:=h.pr
 refine⟨by show s.1.length≤1000000000;omega,by show s.2.1.length≤1000000000;omega,by show s.2.2.length≤1000000000;omega⟩
theorem jb_ {r:ad_} {s:aj_} (h0:ei_ r=0) (hv:VS r s):hp_ r s=0:=by
 unfold hp_
 rw[h0]
 exact bq7 hv
end
section
theorem iz_ (a b c:Int):bp_ a b c=some (wi a b c,()):=bh9 a b c
def okL (l:aa_):Bool:=wi l.1 1 4&&wi l.2 2 10
structure Lk (l:aa_):Prop where
 w1:1≤l.1
 w2:l.1≤4
 s1:2≤l.2
 s2:l.2≤10
theorem kx_ {l:aa_}:okL l=true↔Lk l:=by
 unfold okL
 rw[a1_,cl_,cl_]
 exact⟨λh=>⟨h.1.1,h.1.2,h.2.1,h.2.2⟩,λh=>⟨⟨h.w1,h.w2⟩,h.s1,h.s2⟩⟩
theorem ja_ (l:aa_):dv_ l=some (if okL l then 0 else 10,()):=by
 unfold dv_ okL
 simp only[iz_,a0_]
 cases wi l.1 1 4<;>cases wi l.2 2 10<;>rfl
def dd_ (l:aa_) (c:List Int):Bool:=decide ((c.length:Int)=l.1)&&c.all λn=>wi n 0 (l.2 - 1)
theorem Lk.ws {l:aa_} (h:Lk l):w64 (l.2 - 1)=l.2 - 1:=by have:=h.s1;have:=h.s2;exact qb_ (by omega) (by omega)
theorem Lk.ww {l:aa_} (h:Lk l):w64 (l.1 - 1)=l.1 - 1:=by have:=h.w1;have:=h.w2;exact qb_ (by omega) (by omega)
theorem ju_ {l:aa_} (h:Lk l) (n:Int):ce_ l n=some (wi n 0 (l.2 - 1),()):=by
 unfold ce_
 rw[iz_,h.ws]
 rfl
theorem qq_ {l:aa_} (h:Lk l) (n:Int):bm_ l n=some (wi n 0 (l.1 - 1),()):=by
 unfold bm_
 rw[iz_,h.ww]
 rfl
theorem all_any {α:Type} (l:List α) (q:α→Bool):(!(l.any λx=>!(q x)))=l.all q:=py_ l q
theorem lm_ {l:aa_} (h:Lk l) (c:List Int):cu_ l c=some (dd_ l c,()):=by
 have w2:=h.w2
 unfold cu_ dd_
 by_cases he:(c.length:Int)=l.1
 ·have hb:((c.length:Int)==l.1)=true:=by simp[he]
  rw[hb,b7_ he,d3_,a5_,lo_ (l:=c) (by unfold Sm;omega) (λn=>!(wi n 0 (l.2 - 1))) (λi y hy=>by
   simp only[dlt (al_ hy),a5_,af_ hy,a0_,ju_ h]
   cases wi y 0 (l.2 - 1)<;>rfl) (by simp only[dnl,a4_]),a0_,all_any]
 ·have hb:((c.length:Int)==l.1)=false:=by simp[he]
  rw[hb,c3_ he]
  rfl
theorem fj_ (l:aa_) (c:List Int):cf_ l c=some (if okL l then (if dd_ l c then 0 else 12) else 10,()):=by
 unfold cf_ gh_
 rw[ja_,a0_]
 cases h:okL l with
 | true =>
  have hl:=kx_.1 h
  have:=lo_ (l:=[c]) (by unfold Sm;simp) (λc=>!(dd_ l c)) (body:=λ(v1:(Int×Unit)) =>
   (cond (decide (v1.1<(([c]:List (List Int)).length:Int)))
   ((at? [c] v1.1).bind λv2 =>
   ((cu_ l v2).bind λv3 =>
   (cond (!v3.1)
   (some (inr (inr ((decide (0≤v1.1)),()))))
   (some (inl ((w64 (v1.1+1)),()))))))
   (some (inr (inl ()))))) (λi y hy=>by
   simp only[dlt (al_ hy),a5_,af_ hy,a0_,lm_ hl]
   cases dd_ l y<;>rfl) (by simp only[dnl,a4_])
  rw[this]
  simp only[List.any_cons,List.any_nil,h2_]
  cases dd_ l c<;>rfl
 | false=>rfl
def cn_ (l:aa_) (c:ab_):Bool :=
 if c.1=1 then wi c.2.1 0 (l.1 - 1)&&(wi c.2.2.2.1 0 (l.2 - 1)&&(c.2.2.1==0&&(c.2.2.2.2.1==0&&decide (c.2.2.2.2.2.1=[]))))
 else if c.1=2 then wi c.2.1 0 (l.1 - 1)&&(wi c.2.2.1 0 (l.1 - 1)&&(decide (c.2.1≤c.2.2.1)&&(wi c.2.2.2.1 0 100&&(c.2.2.2.2.1==0&&decide (c.2.2.2.2.2.1=[])))))
 else if c.1=3∨c.1=4 then wi c.2.1 0 (l.1 - 1)&&(wi c.2.2.1 0 (l.1 - 1)&&(c.2.1 != c.2.2.1&&(c.2.2.2.1==0&&(c.2.2.2.2.1==0&&decide (c.2.2.2.2.2.1=[])))))
 else if c.1=5 then wi c.2.2.2.1 0 (l.2 - 1)&&(wi c.2.2.2.2.1 0 l.1&&(c.2.1==0&&(c.2.2.1==0&&decide (c.2.2.2.2.2.1=[]))))
 else if c.1=6 then dd_ l c.2.2.2.2.2.1&&(wi c.2.2.2.1 0 l.1&&(wi c.2.2.2.2.1 0 l.1&&(c.2.1==0&&c.2.2.1==0)))
 else if c.1=7 then wi c.2.1 0 (l.1 - 1)&&(wi c.2.2.2.1 2 10&&(wi c.2.2.2.2.1 0 (c.2.2.2.1 - 1)&&(c.2.2.1==0&&decide (c.2.2.2.2.2.1=[]))))
 else false
theorem len0 (l:List Int):((l.length:Int)==((([]:List Int)).length:Int))=decide (l=[]):=by cases l<;>simp<;>omega
theorem ln_ {l:aa_} (h:Lk l) (c:ab_):cv_ l c=some (cn_ l c,()):=by
 unfold cv_ cn_
 simp only[iz_,qq_ h,ju_ h,lm_ h,a0_]
 by_cases h1:c.1=1
 ·simp only[h1]
  cases wi c.2.1 0 (l.1 - 1)<;>cases wi c.2.2.2.1 0 (l.2 - 1)<;>simp only[a5_,a4_,a0_,c7_,d3_,f6_,Int.reduceBEq,k6_,j3_,Int.reduceEq,or_true,true_or,or_self,len0]<;>cases c.2.2.1==0<;>cases c.2.2.2.2.1==0<;>rfl
 by_cases h2:c.1=2
 ·simp only[h2]
  cases wi c.2.1 0 (l.1 - 1)<;>cases wi c.2.2.1 0 (l.1 - 1)<;>cases decide (c.2.1≤c.2.2.1)<;>cases wi c.2.2.2.1 0 100<;>simp only[a5_,a4_,a0_,c7_,d3_,f6_,Int.reduceBEq,k6_,j3_,Int.reduceEq,or_true,true_or,or_self,len0]<;>cases c.2.2.2.2.1==0<;>rfl
 by_cases h3:c.1=3
 ·simp only[h3]
  cases wi c.2.1 0 (l.1 - 1)<;>cases wi c.2.2.1 0 (l.1 - 1)<;>cases c.2.1 != c.2.2.1<;>simp only[a5_,a4_,a0_,c7_,d3_,f6_,Int.reduceBEq,k6_,j3_,Int.reduceEq,or_true,true_or,or_self,len0]<;>cases c.2.2.2.1==0<;>cases c.2.2.2.2.1==0<;>rfl
 by_cases h4:c.1=4
 ·simp only[h4]
  cases wi c.2.1 0 (l.1 - 1)<;>cases wi c.2.2.1 0 (l.1 - 1)<;>cases c.2.1 != c.2.2.1<;>simp only[a5_,a4_,a0_,c7_,d3_,f6_,Int.reduceBEq,k6_,j3_,Int.reduceEq,or_true,true_or,or_self,len0]<;>cases c.2.2.2.1==0<;>cases c.2.2.2.2.1==0<;>rfl
 by_cases h5:c.1=5
 ·simp only[h5]
  cases wi c.2.2.2.1 0 (l.2 - 1)<;>cases wi c.2.2.2.2.1 0 l.1<;>simp only[a5_,a4_,a0_,c7_,d3_,f6_,Int.reduceBEq,k6_,j3_,Int.reduceEq,or_true,true_or,or_self,len0]<;>cases c.2.1==0<;>cases c.2.2.1==0<;>rfl
 by_cases h6:c.1=6
 ·simp only[h6]
  cases dd_ l c.2.2.2.2.2.1<;>cases wi c.2.2.2.1 0 l.1<;>cases wi c.2.2.2.2.1 0 l.1<;>simp only[a5_,a4_,a0_,c7_,d3_,f6_,Int.reduceBEq,k6_,j3_,Int.reduceEq,or_true,true_or,or_self,len0]<;>cases c.2.1==0<;>cases c.2.2.1==0<;>rfl
 by_cases h7:c.1=7
 ·simp only[h7]
  cases wi c.2.1 0 (l.1 - 1)
  ·rfl
  cases hn:wi c.2.2.2.1 2 10
  ·rfl
  have:=cl_.1 hn
  rw[qb_ (n:=c.2.2.2.1 - 1) (by omega) (by omega)]
  cases wi c.2.2.2.2.1 0 (c.2.2.2.1 - 1)<;>simp only[a5_,a4_,a0_,c7_,d3_,f6_,Int.reduceBEq,k6_,j3_,Int.reduceEq,or_true,true_or,or_self,len0]<;>cases c.2.2.1==0<;>rfl
 have b1:(c.1==1)=false:=by simp[h1]
 have b2:(c.1==2)=false:=by simp[h2]
 have b3:(c.1==3)=false:=by simp[h3]
 have b4:(c.1==4)=false:=by simp[h4]
 have b5:(c.1==5)=false:=by simp[h5]
 have b6:(c.1==6)=false:=by simp[h6]
 have b7:(c.1==7)=false:=by simp[h7]
 simp only[b1,b2,b3,b4,b5,b6,b7,h1,h2,h3,h4,h5,h6,h7,a4_,a0_,j3_,or_self]
theorem qr_ {l:aa_} (hl:Lk l) (c:ab_):ey_ l c=some (cond (cn_ l c) 0 11,()):=by
 unfold ey_
 rw[ja_,kx_.2 hl,if_pos rfl,a0_,ln_ hl]
 cases cn_ l c<;>rfl
end
section
theorem uw_ {α τ σ ρ:Type} (l:List α) (f:τ→α→τ) (F:Nat→τ→σ) (R:τ→ρ) (t0:τ) {body:σ→Option (σ⊕ρ)}
  (h:∀ i x t,l[i]?=some x→body (F i t)=some (.inl (F (i+1) (f t x)))) (e:∀ t,body (F l.length t)=some (.inr (R t))):ae_ body (F 0 t0)=some (R (l.foldl f t0)):=by
 obtain⟨t,h1,h2⟩:=ld_ l (λ_=>f) F R t0 (λi t=>t=(l.take i).foldl f t0) rfl (λi x t hx ht=>⟨h i x t hx,by
  rw[ht,f3_,hx,l3_]
  rfl⟩) (λt _=>e t)
 rw[h2,h1,e0_]
theorem jx_ {α τ σ ρ υ:Type} (l:List α) (f:τ→α→τ) (F:Nat→τ→σ) (R:τ→ρ) (t0:τ) {body:σ→Option (σ⊕ρ)} {K:ρ→Option υ} {x:Option υ}
  (h:∀ i x t,l[i]?=some x→body (F i t)=some (.inl (F (i+1) (f t x)))) (e:∀ t,body (F l.length t)=some (.inr (R t))) (hk:K (R (l.foldl f t0))=x):(ae_ body (F 0 t0)).bind K=x:=by
 rw[uw_ l f F R t0 h e,a0_,hk]
theorem xs_ {α β:Type}:∀ (l:List α) (m:List β) (i:Nat),(l.zip m).take i=(l.take i).zip (m.take i)
 | [],m,i=>by simp
 | x::l,[],i=>by cases i<;>simp
 | x::l,y::m,0=>rfl
 | x::l,y::m,i+1=>by simp[xs_ l m i]
theorem gq_ {l:aa_} {c:List Int}:dd_ l c=true↔(c.length:Int)=l.1∧∀ n ∈ c,0≤n∧n≤l.2 - 1:=by
 unfold dd_
 rw[a1_,decide_eq_true_iff,f1_]
 exact⟨λh=>⟨h.1,λn hn=>cl_.1 (h.2 n hn)⟩,λh=>⟨h.1,λn hn=>cl_.2 (h.2 n hn)⟩⟩
def vb_ (l:List Int) (k:Int):Int:=l.foldl (λs x=>cond (x==k) (w64 (s+1)) s) 0
def bh0 (code guess:List Int):Int:=(code.zip guess).foldl (λs p=>cond (p.1==p.2) (w64 (s+1)) s) 0
def comW (code guess:List Int):Int:=(List.range 10).foldl (λs (k:Nat)=>w64 (s+minI (vb_ code k) (vb_ guess k))) 0
theorem zj_ {l:List Int} {j:Nat} {x k:Int} (h:l[j]?=some x):vb_ (l.take (j+1)) k=cond (x==k) (w64 (vb_ (l.take j) k+1)) (vb_ (l.take j) k):=by
 unfold vb_
 rw[f3_,h,l3_]
 rfl
theorem nk_ {l:List Int} {k:Int} (hl:Sm l.length):ev_ l k=some (vb_ l k,()):=by
 unfold ev_ vb_
 refine jx_ l (λs x=>cond (x==k) (w64 (s+1)) s) (λi s=>(s,((i:Int),()))) (λs=>(s,())) 0 (λi x s hx=>by
  have hi:=al_ hx
  simp only[dlt hi,a5_,af_ hx,a0_,bn_ (show Sm i by unfold Sm at *; omega)]
  cases x==k<;>rfl) (λs=>by simp only[dnl,a4_]) rfl
theorem yc_ {l:aa_} (hl:Lk l) {code guess:List Int} (hc:dd_ l code=true) (hg:dd_ l guess=true):jf_ code guess=some (bh0 code guess,(w64 (comW code guess - bh0 code guess),())):=by
 obtain⟨c1,_⟩:=gq_.1 hc
 obtain⟨g1,_⟩:=gq_.1 hg
 have w2:=hl.w2
 have sc:Sm code.length:=by unfold Sm;omega
 have sg:Sm guess.length:=by unfold Sm;omega
 have hz:(code.zip guess).length=code.length:=by rw[l1_];omega
 unfold jf_
 refine jx_ (code.zip guess) (λs p=>cond (p.1==p.2) (w64 (s+1)) s) (λi s=>(s,((i:Int),()))) (λs=>(s,())) 0 (λi p s hp=>by
  obtain⟨h1,h2⟩:=h9_.1 hp
  simp only[dlt (al_ h1),a5_,af_ h1,af_ h2,a0_,bn_ (show Sm i by have:=al_ h1;unfold Sm at *; omega)]
  cases p.1==p.2<;>rfl) (λs=>by rw[hz];simp only[dnl,a4_]) ?_
 refine jx_ (List.range 10) (λs (k:Nat)=>w64 (s+minI (vb_ code k) (vb_ guess k))) (λi s=>(s,((i:Int),()))) (λs=>(s,())) 0 (λi k s hk=>by
  have hi:=al_ hk
  rw[i5_] at hi
  rw[i9_ hi] at hk
  obtain rfl:=a8_ hk
  simp only[show decide ((i:Int)<10)=true from b7_ (by omega),a5_,nk_ sc,nk_ sg,a0_,bn_ (show Sm i by unfold Sm;omega)]) (λs=>by
  rw[i5_]
  rfl) rfl
theorem zi_ {l:aa_} (hl:Lk l) {code guess:List Int} (hc:dd_ l code=true) (hg:dd_ l guess=true):gx_ code guess=some (bh0 code guess,(w64 (comW code guess - bh0 code guess),())):=by
  obtain⟨c1,c2⟩:=gq_.1 hc
  obtain⟨g1,g2⟩:=gq_.1 hg
  have w2:=hl.w2
  have s2:=hl.s2
  have hz:(code.zip guess).length=code.length:=by rw[l1_];omega
  have tk:∀ i,(code.zip guess).take i=(code.take i).zip (guess.take i):=λi=>xs_ _ _ i
  let I:Nat→(Int×(List Int×List Int))→Prop:=λi t=>t.1=bh0 (code.take i) (guess.take i)∧t.2.1.length=10∧t.2.2.length=10∧∀ k:Nat,k<10→t.2.1[k]?=some (vb_ (code.take i) k)∧t.2.2[k]?=some (vb_ (guess.take i) k)
  have h1:=ld_ (code.zip guess) (λ_ (t:Int×(List Int×List Int)) p=>(cond (p.1==p.2) (w64 (t.1+1)) t.1,(t.2.1.set p.1.toNat (w64 ((t.2.1[p.1.toNat]?).getD 0+1)),t.2.2.set p.2.toNat (w64 ((t.2.2[p.2.toNat]?).getD 0+1)))))
    (λi t=>(t.1,((i:Int),(t.2.1,(t.2.2,()))))) (λt=>(t.1,(t.2.1,(t.2.2,())))) (0,([0,0,0,0,0,0,0,0,0,0],[0,0,0,0,0,0,0,0,0,0])) I
    (body:=λ(v0:(Int×(Int×((List Int)×((List Int)×Unit))))) =>
 (cond (decide (v0.2.1<(code.length:Int)))
 ((at? code v0.2.1).bind λv1 =>
 ((((at? guess v0.2.1).bind λv2 =>
 (cond (v1==v2)
 (some ((w64 (v0.1+1)),()))
 (some (v0.1,()))))).bind λv3 =>
 (cond (decide (v1<(10:Int)))
 ((at? v0.2.2.1 v1).bind λv4 =>
 ((at? v0.2.2.1 v1).bind λv5 =>
 (cond (decide (v1<(10:Int)))
 ((at? v0.2.2.1 v1).bind λv6 =>
 ((at? v0.2.2.1 v1).bind λv7 =>
 ((at? guess v0.2.1).bind λv8 =>
 (cond (decide (v8<(10:Int)))
 ((at? v0.2.2.2.1 v8).bind λv9 =>
 ((at? v0.2.2.2.1 v8).bind λv10 =>
 (cond (decide (v8<(10:Int)))
 ((at? v0.2.2.2.1 v8).bind λv11 =>
 ((at? v0.2.2.2.1 v8).bind λv12 =>
 (some (inl (v3.1,((w64 (v0.2.1+1)),((v0.2.2.1.set v1.toNat (w64 (v5+1))),((v0.2.2.2.1.set v8.toNat (w64 (v10+1))),()))))))))
 none)))
 none))))
 none)))
 none)))
 (some (inr (v0.1,(v0.2.2.1,(v0.2.2.2.1,())))))))
    ⟨rfl,rfl,rfl,λk hk=>⟨by
      match k,hk with
      | 0,_ | 1,_ | 2,_ | 3,_ | 4,_ | 5,_ | 6,_ | 7,_ | 8,_ | 9,_=>rfl,by
      match k,hk with
      | 0,_ | 1,_ | 2,_ | 3,_ | 4,_ | 5,_ | 6,_ | 7,_ | 8,_ | 9,_=>rfl⟩⟩ (λi p t hp ht=>by
      obtain⟨x,y⟩:=p
      obtain⟨hx,hy⟩:=h9_.1 hp
      obtain⟨t1,t2,t3,t4⟩:=ht
      have hx':=c2 x (b4_ hx)
      have hy':=g2 y (b4_ hy)
      have ax:at? t.2.1 x=some (vb_ (code.take i) x):=by
        have:=(t4 x.toNat (by omega)).1
        rw[show ((x.toNat:Nat):Int)=x by omega] at this
        unfold at?
        rw[if_pos hx'.1]
        exact this
      have ay:at? t.2.2 y=some (vb_ (guess.take i) y):=by
        have:=(t4 y.toNat (by omega)).2
        rw[show ((y.toNat:Nat):Int)=y by omega] at this
        unfold at?
        rw[if_pos hy'.1]
        exact this
      have gx:t.2.1[x.toNat]?=some (vb_ (code.take i) x):=by
        have:=(t4 x.toNat (by omega)).1
        rwa [show ((x.toNat:Nat):Int)=x by omega] at this
      have gy:t.2.2[y.toNat]?=some (vb_ (guess.take i) y):=by
        have:=(t4 y.toNat (by omega)).2
        rwa [show ((y.toNat:Nat):Int)=y by omega] at this
      refine⟨?_,?_,?_,?_,λk hk => ?_⟩
      · simp only[dlt (al_ hx),a5_,af_ hx,af_ hy,a0_,ax,ay,show decide (x<10)=true from b7_ (by omega),show decide (y<10)=true from b7_ (by omega),bn_ (show Sm i by have:=al_ hx;unfold Sm;omega),gx,gy,g8_]
        cases x==y<;>rfl
      · show cond (x==y) (w64 (t.1+1)) t.1=bh0 (code.take (i+1)) (guess.take (i+1))
        unfold bh0
        rw[← tk,f3_,hp,l3_,tk,t1]
        rfl
      · simp[t2]
      · simp[t3]
      · obtain⟨q1,q2⟩:=t4 k hk
        constructor
        · show (t.2.1.set x.toNat (w64 ((t.2.1[x.toNat]?).getD 0+1)))[k]?=_
          rw[zj_ hx,gx,g8_,c6_]
          by_cases e:x.toNat=k
          · have e2:x=(k:Int):=by omega
            rw[if_pos e,if_pos (by omega),e2,c7_,a5_]
          · have e2:(x==(k:Int))=false:=by simp;omega
            rw[if_neg e,q1,e2,a4_]
        · show (t.2.2.set y.toNat (w64 ((t.2.2[y.toNat]?).getD 0+1)))[k]?=_
          rw[zj_ hy,gy,g8_,c6_]
          by_cases e:y.toNat=k
          · have e2:y=(k:Int):=by omega
            rw[if_pos e,if_pos (by omega),e2,c7_,a5_]
          · have e2:(y==(k:Int))=false:=by simp;omega
            rw[if_neg e,q2,e2,a4_]) (λt _=>by rw[hz];simp only[dnl,a4_])
  obtain⟨t,⟨t1,t2,t3,t4⟩,h2⟩:=h1
  rw[hz] at t1 t4
  rw[e0_,show guess.take code.length=guess by rw[d8_ (by omega)]] at t1
  unfold gx_
  refine (congrArg (λo=>Option.bind o _) h2).trans ?_
  rw[a0_]
  refine jx_ (List.range 10) (λs (k:Nat)=>w64 (s+minI (vb_ code k) (vb_ guess k))) (λi s=>(s,((i:Int),()))) (λs=>(s,())) 0 (λi k s hk=>by
    have hi:=al_ hk
    rw[i5_] at hi
    rw[i9_ hi] at hk
    obtain rfl:=a8_ hk
    obtain⟨q1,q2⟩:=t4 i hi
    rw[e0_] at q1
    rw[show guess.take code.length=guess by rw[d8_ (by omega)]] at q2
    simp only[show decide ((i:Int)<10)=true from b7_ (by omega),a5_,af_ q1,af_ q2,a0_,bn_ (show Sm i by unfold Sm;omega)]) (λs=>by
    rw[i5_]
    rfl) ?_
  rw[t1]
  rfl
end
section
def sc_ (code:List Int) (a b:Int):List Int:=(code.take (b+1).toNat).drop a.toNat
def sumW (l:List Int):Int:=l.foldl (λs x=>w64 (s+x)) 0
def gt0 (code:List Int) (i:Int):Int:=(at? code i).getD 0
def plV (c:ab_) (code:List Int):Bool :=
 cond (c.1==1) (gt0 code c.2.1==c.2.2.2.1) <|
 cond (c.1==2) (sumW (sc_ code c.2.1 c.2.2.1)==c.2.2.2.1) <|
 cond (c.1==3) (decide (gt0 code c.2.1<gt0 code c.2.2.1)) <|
 cond (c.1==4) (gt0 code c.2.1==gt0 code c.2.2.1) <|
 cond (c.1==5) (vb_ code c.2.2.2.1==c.2.2.2.2.1) <|
 cond (c.1==6) (cond (bh0 code c.2.2.2.2.2.1==c.2.2.2.1) (w64 (comW code c.2.2.2.2.2.1 - bh0 code c.2.2.2.2.2.1)==c.2.2.2.2.1) false) <|
 cond (c.1==7) ((gt0 code c.2.1).tmod c.2.2.2.1==c.2.2.2.2.1) false
def tr (c:ab_) (code:List Int):Bool:=plV c code != c.2.2.2.2.2.2
theorem za_ {code:List Int} {i x:Int} (h:at? code i=some x):gt0 code i=x:=by unfold gt0;rw[h];rfl
theorem us_ {l:aa_} (hl:Lk l) {c:ab_} {code:List Int} (hc:cn_ l c=true) (hk:dd_ l code=true):qj_ c code=some (tr c code,())∧ex_ c code=some (tr c code,()):=by
 obtain⟨c1,c2⟩:=gq_.1 hk
 have w1:=hl.w1;have w2:=hl.w2;have s1:=hl.s1;have s2:=hl.s2
 have sc:Sm code.length:=by unfold Sm;omega
 unfold cn_ at hc
 have hat:∀ i,wi i 0 (l.1 - 1)=true→at? code i=some (gt0 code i):=by
  intro i hi
  obtain⟨a,b⟩:=cl_.1 hi
  obtain⟨x,h1⟩:=bl_ (l:=code) (i:=i.toNat) (by omega)
  have h2:at? code i=some x:=by unfold at?; rw[if_pos a];exact h1
  rw[h2,za_ h2]
 unfold qj_ ex_ kl_ tr plV
 by_cases h1:c.1=1
 ·simp only[h1,k6_,a1_] at hc
  have hx:=hat _ hc.1
  simp only[h1,hx,c7_,a5_,a0_,and_self]
 have b1:(c.1==1)=false:=by simp[h1]
 simp only[b1,a4_]
 by_cases h2:c.1=2
 ·simp only[h2,k6_,a1_,show ¬ ((2:Int)=1) by omega,j3_] at hc
  obtain⟨hA,hB,hAB,_⟩:=hc
  obtain⟨a1,a2⟩:=cl_.1 hA
  obtain⟨d1,d2⟩:=cl_.1 hB
  have hab:c.2.1≤c.2.2.1:=by simpa using hAB
  have hsub:sub? code c.2.1 (w64 (c.2.2.1+1))=some (sc_ code c.2.1 c.2.2.1):=by
   rw[qb_ (by omega) (by omega)]
   unfold sub? sc_
   rw[if_pos ⟨a1,by omega,by omega⟩]
  have hsl:(sc_ code c.2.1 c.2.2.1).length=(c.2.2.1 - c.2.1+1).toNat:=by
   unfold sc_
   rw[h0_,c0_]
   omega
  have hsg:∀ (j:Nat) x,(sc_ code c.2.1 c.2.2.1)[j]?=some x→at? code (c.2.1+(j:Int))=some x:=by
   intro j x hj
   have hlt:=al_ hj
   unfold sc_ at hj
   rw[List.getElem?_drop,m2_,if_pos (by omega)] at hj
   unfold at?
   rw[if_pos (by omega),show (c.2.1+(j:Int)).toNat=c.2.1.toNat+j by omega]
   exact hj
  simp only[h2,c7_,a5_,hsub,a0_]
  constructor
  ·have:=uw_ (sc_ code c.2.1 c.2.2.1) (λs x=>w64 (s+x)) (λi s=>(s,(c.2.1+(i:Int),()))) (λs=>(s,())) 0 (body:=λ(v1:(Int×(Int×Unit))) =>
    (cond (decide (v1.2.1≤c.2.2.1))
    ((at? code v1.2.1).bind λv2 =>
    (some (inl ((w64 (v1.1+v2)),((w64 (v1.2.1+1)),())))))
    (some (inr (v1.1,()))))) (λi x s hx=>by
    have hi:=al_ hx
    simp only[show decide (c.2.1+(i:Int)≤c.2.2.1)=true from b7_ (by omega),a5_,hsg i x hx,a0_,qb_ (n:=c.2.1+(i:Int)+1) (by omega) (by omega)]
    rw[show c.2.1+(i:Int)+1=c.2.1+((i+1:Nat):Int) by omega]) (λs=>by
    simp only[show decide (c.2.1+((sc_ code c.2.1 c.2.2.1).length:Int)≤c.2.2.1)=false from c3_ (by omega),a4_])
   simp only[Int.natCast_zero,Int.add_zero] at this
   rw[this]
   rfl
  ·refine congrArg (λo=>Option.bind o _) (?_:_=some (sumW (sc_ code c.2.1 c.2.2.1)==c.2.2.2.1,())) |>.trans rfl
   refine jx_ (sc_ code c.2.1 c.2.2.1) (λs x=>w64 (s+x)) (λi s=>(s,((i:Int),()))) (λs=>(s,())) 0 (λi x s hx=>by
    have hi:=al_ hx
    simp only[dlt hi,a5_,af_ hx,a0_,bn_ (show Sm i by unfold Sm;omega)]) (λs=>by simp only[dnl,a4_]) rfl
 have b2:(c.1==2)=false:=by simp[h2]
 simp only[b2,a4_]
 by_cases h3:c.1=3
 ·simp only[h3,k6_,a1_,show ¬ ((3:Int)=1) by omega,show ¬ ((3:Int)=2) by omega,j3_,true_or] at hc
  simp only[h3,hat _ hc.1,hat _ hc.2.1,c7_,a5_,a0_,and_self]
 have b3:(c.1==3)=false:=by simp[h3]
 simp only[b3,a4_]
 by_cases h4:c.1=4
 ·simp only[h4,k6_,a1_,show ¬ ((4:Int)=1) by omega,show ¬ ((4:Int)=2) by omega,j3_,or_true] at hc
  simp only[h4,hat _ hc.1,hat _ hc.2.1,c7_,a5_,a0_,and_self]
 have b4:(c.1==4)=false:=by simp[h4]
 simp only[b4,a4_]
 by_cases h5:c.1=5
 ·have hs:=nk_ (k:=c.2.2.2.1) sc
  simp only[h5,c7_,a5_,hs,a0_,true_and]
  have:=hs
  unfold ev_ at this
  obtain⟨y,h6,h7⟩:=bnd this
  rw[h6]
  have e:y.1=vb_ code c.2.2.2.1:=congrArg Prod.fst (a8_ h7)
  rw[a0_,a0_,e]
 have b5:(c.1==5)=false:=by simp[h5]
 simp only[b5,a4_]
 by_cases h6:c.1=6
 ·simp only[h6,k6_,a1_,show ¬ ((6:Int)=1) by omega,show ¬ ((6:Int)=2) by omega,show ¬ ((6:Int)=3∨(6:Int)=4) by omega,show ¬ ((6:Int)=5) by omega,j3_] at hc
  simp only[h6,c7_,a5_,yc_ hl hk hc.1,zi_ hl hk hc.1,a0_]
  cases bh0 code c.2.2.2.2.2.1==c.2.2.2.1<;>exact⟨rfl,rfl⟩
 have b6:(c.1==6)=false:=by simp[h6]
 simp only[b6,a4_]
 by_cases h7:c.1=7
 ·simp only[h7,k6_,a1_,show ¬ ((7:Int)=1) by omega,show ¬ ((7:Int)=2) by omega,show ¬ ((7:Int)=3∨(7:Int)=4) by omega,show ¬ ((7:Int)=5) by omega,show ¬ ((7:Int)=6) by omega,j3_] at hc
  obtain⟨n1,n2⟩:=cl_.1 hc.2.1
  have hm:md (gt0 code c.2.1) c.2.2.2.1=some ((gt0 code c.2.1).tmod c.2.2.2.1):=md_pos (by omega)
  simp only[h7,hat _ hc.1,hm,c7_,a5_,a0_,and_self]
 ·simp[h1,h2,h3,h4,h5,h6,h7] at hc
end
section
def dn_ (S:Nat):Nat→List (List Int)
 | 0=>[[]]
 | W+1=>(List.range S).flatMap λ(x:Nat)=>(dn_ S W).map λc=>(x:Int)::c
theorem wv_ {α β:Type} {f:α→List β} {m:Nat}:∀ (l:List α),(∀ x ∈ l,(f x).length=m)→(l.flatMap f).length=l.length * m
 | [],_=>by simp
 | x::l,h=>by
  rw[l4_,c5_,h x (by simp),wv_ l (λy hy=>h y (by simp[hy])),d1_,g9_]
  omega
theorem aj9 {α β:Type} {f:α→List β} {m:Nat}:∀ (l:List α) (q r:Nat) (x:α),(∀ x ∈ l,(f x).length=m)→r<m→l[q]?=some x→(l.flatMap f)[q * m+r]?=(f x)[r]?
 | [],q,r,x,h,hr,hq=>by simp at hq
 | y::l,0,r,x,h,hr,hq=>by
  have e:y=x:=by simpa using hq
  subst e
  rw[l4_,Nat.zero_mul,a7_,b1_ (by rw[h y (by simp)];exact hr)]
 | y::l,q+1,r,x,h,hr,hq=>by
  have hq':l[q]?=some x:=by simpa using hq
  have hl:=h y (by simp)
  rw[l4_,b3_ (by rw[hl,g9_];omega),hl,show (q+1) * m+r - m=q * m+r by rw[g9_];omega]
  exact aj9 l q r x (λz hz=>h z (by simp[hz])) hr hq'
theorem jw_ (S:Nat):∀ W,(dn_ S W).length=S ^ W
 | 0=>rfl
 | W+1=>by
  unfold dn_
  rw[wv_ (m:=S ^ W) _ (λx _=>by rw[d6_,jw_ S W]),i5_,j7_,h3_]
theorem ps_ (S:Nat):∀ W c,c ∈ dn_ S W↔c.length=W∧∀ n ∈ c,0≤n∧n<(S:Int)
 | 0,c=>by
  unfold dn_
  rw[j4_]
  constructor
  ·rintro rfl;exact⟨rfl,by simp⟩
  ·rintro⟨h,_⟩;exact i8_.1 h
 | W+1,c=>by
  unfold dn_
  rw[List.mem_flatMap]
  constructor
  ·rintro⟨x,hx,hc⟩
   obtain⟨d,hd,rfl⟩:=d4_.1 hc
   obtain⟨h1,h2⟩:=(ps_ S W d).1 hd
   have:=n5_.1 hx
   refine⟨by rw[d1_,h1],λn hn => ?_⟩
   rcases d0_.1 hn with rfl | hn
   ·omega
   ·exact h2 n hn
  ·rintro⟨h1,h2⟩
   cases c with
   | nil=>simp at h1
   | cons x c =>
    obtain⟨a,b⟩:=h2 x (by simp)
    refine⟨x.toNat,n5_.2 (by omega),d4_.2 ⟨c,(ps_ S W c).2 ⟨by simpa using h1,λn hn=>h2 n (by simp[hn])⟩,?_⟩⟩
    rw[show ((x.toNat:Nat):Int)=x by omega]
def dig (S:Nat):Nat→Nat→List Int
 | 0,_=>[]
 | W+1,i=>dig S W (i / S)++[((i % S:Nat):Int)]
theorem bc5 (S:Nat):∀ W i,(dig S W i).length=W
 | 0,_=>rfl
 | W+1,i=>by unfold dig;rw[c5_,bc5 S W];rfl
theorem ak7 {S:Nat} (hS:0<S):∀ (W q r:Nat),q<S→r<S ^ W→dig S (W+1) (q * S ^ W+r)=(q:Int)::dig S W r
 | 0,q,r,hq,hr=>by
  have:r=0:=by simpa using hr
  subst this
  simp[dig,k5_ hq]
 | W+1,q,r,hq,hr=>by
  have e1:(q * S ^ (W+1)+r) / S=q * S ^ W+r / S:=by
   rw[j7_,← Nat.mul_assoc,h3_ (q * S ^ W) S,Nat.mul_add_div hS]
  have e2:(q * S ^ (W+1)+r) % S=r % S:=by
   rw[j7_,← Nat.mul_assoc,h3_ (q * S ^ W) S,Nat.mul_add_mod]
  have hr':r / S<S ^ W:=Nat.div_lt_of_lt_mul (by rw[h3_,← j7_];exact hr)
  rw[dig,e1,e2,ak7 hS W q (r / S) hq hr']
  rfl
theorem pt_ {S:Nat} (hS:0<S):∀ (W i:Nat),i<S ^ W→(dn_ S W)[i]?=some (dig S W i)
 | 0,i,h=>by
  have:i=0:=by simpa using h
  subst this;rfl
 | W+1,i,h=>by
  have hP:0<S ^ W:=Nat.pow_pos hS
  have hr:i % S ^ W<S ^ W:=Nat.mod_lt _ hP
  have hq:i / S ^ W<S:=Nat.div_lt_of_lt_mul (by rw[← j7_];exact h)
  have he:i=i / S ^ W * S ^ W+i % S ^ W:=by rw[h3_];exact (Nat.div_add_mod i (S ^ W)).symm
  rw[he,ak7 hS W _ _ hq hr]
  unfold dn_
  rw[aj9 (m:=S ^ W) _ _ _ (i / S ^ W) (λx _=>by rw[d6_,jw_]) hr (by rw[i9_ hq]),c4_,pt_ hS W _ hr]
  rfl
def rdg (l:aa_) (cl:List ab_):List (List Int):=(dn_ l.2.toNat l.1.toNat).filter λc=>cl.all (tr · c)
theorem ak8 {l:aa_} (hl:Lk l) {c:List Int}:c ∈ dn_ l.2.toNat l.1.toNat↔dd_ l c=true:=by
 have:=hl.w1;have:=hl.s1
 rw[ps_,gq_]
 constructor
 ·rintro⟨a,b⟩;exact⟨by omega,λn hn=>by have:=b n hn;omega⟩
 ·rintro⟨a,b⟩;exact⟨by omega,λn hn=>by have:=b n hn;omega⟩
theorem av3 {l:aa_} (hl:Lk l):l.2.toNat ^ l.1.toNat≤10000:=by
 have:=hl.w1;have:=hl.w2;have:=hl.s1;have:=hl.s2
 have h1:l.2.toNat ^ l.1.toNat≤10 ^ l.1.toNat:=Nat.pow_le_pow_left (by omega) _
 have h2:10 ^ l.1.toNat≤10 ^ 4:=Nat.pow_le_pow_right (by omega) (by omega)
 omega
theorem bt7 {l:aa_} (hl:Lk l) (cl:List ab_):(rdg l cl).length≤10000:=by
 have h:=l6_ (λc=>cl.all (tr · c)) (dn_ l.2.toNat l.1.toNat)
 have:=av3 hl
 rw[jw_] at h
 unfold rdg
 omega
theorem any_all (cl:List ab_) (code:List Int):(!(cl.any λc=>!(tr c code)))=cl.all (tr · code):=py_ cl λc=>tr c code
theorem tc_ {l:aa_} (hl:Lk l) {cl:List ab_} (hn:cl.length≤20) {code:List Int} (hc:∀ c ∈ cl,cn_ l c=true) (hk:dd_ l code=true):∃ r,du_ cl code=some (r,())∧decide (r<0)=cl.all (tr · code):=by
 obtain⟨n,h1,h2,_⟩:=if_lt (l:=cl) (by unfold Sm;omega) (λc=>!(tr c code)) (body:=λ(v0:(Int×Unit)) =>
  (cond (decide (v0.1<(cl.length:Int)))
  ((at? cl v0.1).bind λv1 =>
  ((ex_ v1 code).bind λv2 =>
  (cond (!v2.1)
  (some (inr (inr (v0.1,()))))
  (some (inl ((w64 (v0.1+1)),()))))))
  (some (inr (inl ()))))) (λi c hi=>by
  simp only[dlt (al_ hi),a5_,af_ hi,a0_,(us_ hl (hc c (b4_ hi)) hk).2]
  cases tr c code<;>rfl) (by simp only[dnl,a4_])
 exact⟨n,h1,by rw[h2,any_all]⟩
end
section
theorem aq2 {σ ρ:Type} {body:σ→Option (σ⊕ρ)} (F:Nat→σ) {n:Nat} {r:ρ} (h:∀ j,j<n→body (F j)=some (.inl (F (j+1)))) (e:body (F n)=some (.inr r)):ae_ body (F 0)=some r:=by
 have:=jk_ (body:=body) (λj s=>s=F j) (λx=>x=r) n 0 (F 0) rfl (λj s _ hj q=>by subst q;exact .inl ⟨_,h j (by omega),rfl⟩) (λs q=>by subst q;rw[a7_];exact⟨_,e,rfl⟩)
 obtain⟨x,h1,rfl⟩:=this
 exact h1
theorem bk0 {p:List Int} {x y:Int} {t:List Int}:(p++x::t).set p.length y=p++y::t:=by
 rw[h6_ _ _ (c1_ _),e5_]
 rfl
theorem bo9 {p:List Int} {x:Int} {t:List Int}:at? (p++x::t) ((p.length:Nat):Int)=some x:=by
 rw[at?_nat,b3_ (c1_ _),e5_]
 rfl
def odoB (l:aa_):(Int×(List Int×Unit))→Option ((Int×(List Int×Unit))⊕(Int×(List Int×Unit))):=(λ(v3:(Int×((List Int)×Unit))) =>
 (((cond (decide (0≤v3.1))
 ((at? v3.2.1 v3.1).bind λv4 =>
 ((at? v3.2.1 v3.1).bind λv5 =>
 (some ((v5==(w64 (l.2 - 1))),()))))
 (some (false,())))).bind λv6 =>
 (cond v6.1
 ((at? v3.2.1 v3.1).bind λv7 =>
 ((at? v3.2.1 v3.1).bind λv8 =>
 (some (inl ((w64 (v3.1 - 1)),((v3.2.1.set v3.1.toNat 0),()))))))
 (some (inr (v3.1,(v3.2.1,())))))))
theorem odo {l:aa_} (hl:Lk l) {S:Nat} (hS:l.2=(S:Int)):∀ (W j k:Nat),W≤4→∃ (i:Int) (c:List Int),
  ae_ (odoB l) ((W:Int) - 1,(dig S W j++List.replicate k 0,()))=some (i,(c,())) ∧
  (j+1=S ^ W→i<0)∧(j+1<S ^ W→0≤i∧∃ x,at? c i=some x∧c.set i.toNat (w64 (x+1))=dig S W (j+1)++List.replicate k 0):=by
 have s1:=hl.s1;have s2:=hl.s2
 intro W
 induction W with
 | zero =>
  intro j k _
  refine⟨_,_,lz_ (r:=((0:Int) - 1,(dig S 0 j++List.replicate k 0,()))) rfl,λ_=>by omega,λh => ?_⟩
  simp at h
 | succ W ih =>
  intro j k hW
  have hd:dig S (W+1) j++List.replicate k 0=dig S W (j / S)++((j % S:Nat):Int)::List.replicate k 0:=by rw[dig,b0_];rfl
  have hlen:=bc5 S W (j / S)
  have hg:at? (dig S W (j / S)++((j % S:Nat):Int)::List.replicate k 0) ((W:Nat):Int)=some ((j % S:Nat):Int):=by
   have:=bo9 (p:=dig S W (j / S)) (x:=((j % S:Nat):Int)) (t:=List.replicate k 0)
   rwa [hlen] at this
  have hse:∀ y:Int,(dig S W (j / S)++((j % S:Nat):Int)::List.replicate k 0).set W y=dig S W (j / S)++y::List.replicate k 0:=λy=>by
   have:=bk0 (p:=dig S W (j / S)) (x:=((j % S:Nat):Int)) (y:=y) (t:=List.replicate k 0)
   rwa [hlen] at this
  have hmod:j % S<S:=Nat.mod_lt _ (by omega)
  have hdm:=Nat.div_add_mod j S
  have hpos:decide (0≤(W:Int))=true:=b7_ (by omega)
  rw[hd,show ((W+1:Nat):Int) - 1=(W:Int) by omega]
  by_cases h9:j % S=S - 1
  ·obtain⟨i,c,e1,e2,e3⟩:=ih (j / S) (k+1) (by omega)
   have hj1:j+1=S * (j / S+1):=by rw[Nat.mul_add,Nat.mul_one];omega
   have hb:(((j % S:Nat):Int)==w64 (l.2 - 1))=true:=by rw[hl.ws,hS];simp;omega
   refine⟨i,c,?_,λh=>e2 ?_,λh => ?_⟩
   ·rw[← e1]
    refine tw_ ?_
    unfold odoB
    simp only[hpos,a5_,hg,a0_,hb,b9_,hse,qb_ (n:=(W:Int) - 1) (by omega) (by omega)]
    rfl
   ·rw[j7_,h3_] at h
    rw[hj1] at h
    exact Nat.eq_of_mul_eq_mul_left (by omega) h
   ·have:j / S+1<S ^ W:=by
     rw[j7_,h3_,hj1] at h
     exact Nat.lt_of_mul_lt_mul_left h
    obtain⟨f1,x,f2,f3⟩:=e3 this
    refine⟨f1,x,f2,?_⟩
    rw[f3,dig,hj1,Nat.mul_div_cancel_left _ (by omega),Nat.mul_mod_right,b0_]
    rfl
  ·have hb:(((j % S:Nat):Int)==w64 (l.2 - 1))=false:=by rw[hl.ws,hS];simp;omega
   refine⟨_,_,lz_ (r:=((W:Int),(dig S W (j / S)++((j % S:Nat):Int)::List.replicate k 0,()))) (by
    unfold odoB
    simp only[hpos,a5_,hg,a0_,hb,a4_]),λh => ?_,λh=>⟨by omega,_,hg,?_⟩⟩
   ·exfalso
    have:(j+1) % S=0:=by rw[h,j7_];exact Nat.mul_mod_left _ _
    have h2:(j+1) % S=j % S+1:=by rw[Nat.add_mod,k5_ (show 1<S by omega),k5_ (by omega)]
    omega
   ·simp only[b9_]
    rw[hse,qb_ (by omega) (by omega),dig,b0_]
    have h2:(j+1) % S=j % S+1:=by rw[Nat.add_mod,k5_ (show 1<S by omega),k5_ (by omega)]
    have h3:(j+1) / S=j / S:=by
     refine Nat.div_eq_of_lt_le ?_ ?_
     ·rw[h3_];omega
     ·rw[h3_,Nat.mul_add];omega
    rw[h2,h3]
    simp
theorem ak6 (S:Nat):∀ W,List.replicate W (0:Int)=dig S W 0
 | 0=>rfl
 | W+1=>by rw[dig,Nat.zero_div,Nat.zero_mod,← ak6 S W,List.replicate_succ'];rfl
noncomputable def aw9 (l:aa_) (n:Int) (c:List Int):Option ((Unit×(Unit×((List Int)×((Int×Unit)×Unit))))⊕((Unit×(Unit×((List Int)×((Int×Unit)×Unit))))⊕(Int×Unit))) :=
 ((ae_ (odoB l) ((w64 (l.1 - 1)),(c,()))).bind λv9 =>
 (cond (decide (v9.1<0))
 (some (inr (inr (n,()))))
 ((at? v9.2.1 v9.1).bind λv10 =>
 ((at? v9.2.1 v9.1).bind λv11 =>
 ((at? v9.2.1 v9.1).bind λv12 =>
 ((at? v9.2.1 v9.1).bind λv13 =>
 (some (inl ((),((),((v9.2.1.set v9.1.toNat (w64 (v11+1))),((n,()),()))))))))))))
noncomputable def cntX (a0:aa_) (a1:List ab_):Option (Int×Unit) :=
 ((mk? (α:=Int) a0.1 0).bind λv0 =>
 ((ae_ (ρ:=((Unit×(Unit×((List Int)×((Int×Unit)×Unit))))⊕(Int×Unit))) (λ(v1:(Unit×(Unit×((List Int)×((Int×Unit)×Unit))))) =>
 ((du_ a1 v1.2.2.1).bind λv2 =>
 (cond (decide (v2.1<0)) (aw9 a0 (w64 (v1.2.2.2.1.1+1)) v1.2.2.1) (aw9 a0 v1.2.2.2.1.1 v1.2.2.1)))) ((),((),(v0,((0,()),()))))).bind λv25 =>
 (co_ v25 (λv26=>(some (v26.2.2.2.1.1,())))
 (λv27=>(some v27)))))
theorem cntX_eq:eh_=cntX:=by kernel_rfl
theorem ao4 {l:aa_} (hl:Lk l) {cl:List ab_} (hn:cl.length≤20) (hc:∀ c ∈ cl,cn_ l c=true):eh_ l cl=some (((rdg l cl).length:Int),()):=by
  have w1:=hl.w1;have w2:=hl.w2;have s1:=hl.s1;have s2:=hl.s2
  obtain⟨W,hW⟩:∃ W:Nat,l.1=(W:Int):=⟨l.1.toNat,by omega⟩
  obtain⟨S,hS⟩:∃ S:Nat,l.2=(S:Int):=⟨l.2.toNat,by omega⟩
  have hpow:S ^ W≤10000:=by have:=av3 hl;rwa [hW,hS,b9_,b9_] at this
  have hSp:0<S:=by omega
  have hN:0<S ^ W:=Nat.pow_pos hSp
  have hlen:=jw_ S W
  have hok:∀ j,j<S ^ W→dd_ l (dig S W j)=true:=λj hj=>(ak8 hl).1 (by rw[hW,hS,b9_,b9_];exact b4_ (pt_ hSp W j hj))
  let cn:Nat→Nat:=λj=>(((dn_ S W).take j).filter λc=>cl.all (tr · c)).length
  have hcn:∀ j,j<S ^ W→cn j≤j∧cn (j+1)=cond (cl.all (tr · (dig S W j))) (cn j+1) (cn j):=by
    intro j hj
    constructor
    · have hb:=l6_ (λc=>cl.all (tr · c)) ((dn_ S W).take j)
      rw[c0_] at hb
      exact e7_ hb (Nat.min_le_left _ _)
    · show (((dn_ S W).take (j+1)).filter _).length=_
      rw[f3_,pt_ hSp W j hj,List.filter_append,c5_]
      cases hp:cl.all (tr · (dig S W j))<;>simp[hp,cn]
  have step:∀ j,j<S ^ W→∀ m:Int,(j+1<S ^ W→aw9 l m (dig S W j)=some (inl ((),((),(dig S W (j+1),((m,()),()))))))∧(j+1=S ^ W→aw9 l m (dig S W j)=some (inr (inr (m,())))):=by
    intro j hj m
    obtain⟨i,c,o1,o2,o3⟩:=odo hl hS W j 0 (by omega)
    simp only[k7_,d5_] at o1 o3
    rw[← hW,← hl.ww] at o1
    constructor
    · intro h
      obtain⟨p1,x,p2,p3⟩:=o3 h
      unfold aw9
      rw[o1,a0_]
      simp only[show decide (i<0)=false from c3_ (by omega),a4_,p2,a0_,p3]
    · intro h
      unfold aw9
      rw[o1,a0_]
      simp only[show decide (i<0)=true from b7_ (o2 h),a5_]
  have body:∀ j,j<S ^ W→(((du_ cl (dig S W j)).bind λv2=>(cond (decide (v2.1<0)) (aw9 l (w64 ((cn j:Int)+1)) (dig S W j)) (aw9 l (cn j) (dig S W j)))))=aw9 l ((cn (j+1):Nat):Int) (dig S W j):=by
    intro j hj
    obtain⟨r,r1,r2⟩:=tc_ hl hn hc (hok j hj)
    obtain⟨q1,q2⟩:=hcn j hj
    rw[r1,a0_,r2,q2]
    cases cl.all (tr · (dig S W j)) with
    | false=>rfl
    | true=>rw[a5_,a5_,bn_ (show Sm (cn j) by unfold Sm;omega)]
  rw[cntX_eq]
  unfold cntX
  rw[ne_ (by omega) (by omega),a0_,show l.1.toNat=W by omega,ak6 S W]
  have hw:=aq2 (n:=S ^ W - 1) (F:=λj=>((),((),(dig S W j,(((cn j:Int),()),()))))) (r:=inr ((cn (S ^ W):Int),())) (body:=λ(v1:(Unit×(Unit×((List Int)×((Int×Unit)×Unit))))) =>
 ((du_ cl v1.2.2.1).bind λv2 =>
 (cond (decide (v2.1<0)) (aw9 l (w64 (v1.2.2.2.1.1+1)) v1.2.2.1) (aw9 l v1.2.2.2.1.1 v1.2.2.1)))) (λj hj=>(body j (by omega)).trans ((step j (by omega) _).1 (by omega))) ((body (S ^ W - 1) (by omega)).trans (by
    rw[show S ^ W - 1+1=S ^ W by omega]
    exact (step (S ^ W - 1) (by omega) _).2 (by omega)))
  refine (congrArg (λo=>Option.bind o _) (show ae_ _ _=_ from hw)).trans ?_
  have e:cn (S ^ W)=(rdg l cl).length:=by
    show (((dn_ S W).take (S ^ W)).filter _).length=_
    rw[← hlen,e0_]
    unfold rdg
    rw[hW,hS,b9_,b9_]
  rw[a0_,← e]
  rfl
theorem jv_ {l:aa_} (hl:Lk l) {cl:List ab_} (hn:cl.length≤20) (hc:∀ c ∈ cl,cn_ l c=true):dj_ l cl=some (0,()):=by
  unfold dj_
  rw[ja_,kx_.2 hl,if_pos rfl,a0_]
  have:=lo_ (l:=cl) (by unfold Sm;omega) (λc=>!(cn_ l c)) (body:=λ(v1:(Int×Unit)) =>
 (cond (decide (v1.1<(cl.length:Int)))
 ((at? cl v1.1).bind λv2 =>
 ((cv_ l v2).bind λv3 =>
 (cond (!v3.1)
 (some (inr (inr ((decide (0≤v1.1)),()))))
 (some (inl ((w64 (v1.1+1)),()))))))
 (some (inr (inl ()))))) (λi y hy=>by
    simp only[dlt (al_ hy),a5_,af_ hy,a0_,ln_ hl]
    cases cn_ l y<;>rfl) (by simp only[dnl,a4_])
  have ha:(cl.any λc=>!(cn_ l c))=false:=by
    rw[List.any_eq_false]
    intro c h
    simp[hc c h]
  rw[ha] at this
  simp only[show decide ((20:Int)<(cl.length:Int))=false from c3_ (by omega),e3_,a4_,this,a0_]
theorem dr_ {l:aa_} (hl:Lk l) {cl:List ab_} (hn:cl.length≤20) (hc:∀ c ∈ cl,cn_ l c=true):ax_ l cl=some (((rdg l cl).length:Int),(0,())):=by
 unfold ax_
 rw[jv_ hl hn hc,a0_]
 simp only[e3_,a4_,ao4 hl hn hc,a0_]
theorem qk_ {l:aa_} (hl:Lk l) (c:ab_) {k:List Int} (hk:dd_ l k=true):gi_ l c k=some (cond (cn_ l c) (tr c k) false,(cond (cn_ l c) 0 11,())):=by
 unfold gi_
 rw[qr_ hl,a0_]
 cases hc:cn_ l c with
 | false=>rfl
 | true =>
  simp only[a5_,e3_,a4_]
  rw[fj_,kx_.2 hl,if_pos rfl,hk,if_pos rfl,a0_]
  simp only[e3_,a4_,(us_ hl hc hk).2,a0_]
end
section
def clOk (l:aa_) (c:ab_) (k:List Int):Bool:=cn_ l c&&tr c k
end
section
set_option maxRecDepth 10000
def zeroB (c:ab_):Bool:=c.1==0&&(c.2.1==0&&(c.2.2.1==0&&(c.2.2.2.1==0&&(c.2.2.2.2.1==0&&(((c.2.2.2.2.2.1.length:Int)==0)&&!c.2.2.2.2.2.2)))))
theorem av5 (c:ab_):kg_ c=some (zeroB c,()):=by
 unfold kg_ zeroB
 cases c.1==0 with
 | false=>rfl
 | true =>
 cases c.2.1==0 with
 | false=>rfl
 | true =>
 cases c.2.2.1==0 with
 | false=>rfl
 | true =>
 cases c.2.2.2.1==0 with
 | false=>rfl
 | true =>
 cases c.2.2.2.2.1==0 with
 | false=>rfl
 | true=>cases (c.2.2.2.2.2.1.length:Int)==0<;>rfl
def twNt (g:ac_) (i:Nat) (n:bw_):Bool:=(g.2.2.2.1.take i).any λy=>y.1==n.1
def cdOk (g:ac_) (i:Nat) (l:aa_):Bool:=match g.2.2.1[i]? with
 | some k=>dd_ l k
 | none=>false
noncomputable def bu0 (g:ac_) (i:Nat) (n:bw_):Bool:=okN n.1&&(!(twNt g i n)&&(wi n.2.1 0 (w64 ((g.1.1.length:Int) - 1))&&(wi n.2.2.1 (-1) (w64 ((g.2.1.length:Int) - 1))&&(cond (decide (n.2.2.1<0)) (zeroB n.2.2.2.2) (match at? g.2.1 n.2.2.1,at? g.2.2.1 n.2.2.1 with
 | some l,some k=>clOk l n.2.2.2.2 k
 | _,_=>false)))))
def LkAll (g:ac_):Prop:=∀ (i:Nat) l,g.2.1[i]?=some l→Lk l∧∃ k,g.2.2.1[i]?=some k∧dd_ l k=true
theorem LkAll.at {g:ac_} (hg:SmG g) (h:LkAll g) {i:Int} (h0:¬ i<0) (hw:wi i (-1) (w64 ((g.2.1.length:Int) - 1))=true):∃ l k,at? g.2.1 i=some l∧at? g.2.2.1 i=some k∧Lk l∧dd_ l k=true:=by
 have hlk:=hg.lk
 rw[ht_ (by omega) (by omega)] at hw
 have hw:=cl_.1 hw
 obtain⟨l,hl⟩:=bl_ (l:=g.2.1) (i:=i.toNat) (by omega)
 obtain⟨h1,k,hk,h2⟩:=h _ l hl
 have hi:i=((i.toNat:Nat):Int):=by omega
 exact⟨l,k,by rw[hi];exact af_ hl,by rw[hi];exact af_ hk,h1,h2⟩
theorem ao0 {g:ac_} (hg:SmG g) (hL:LkAll g) {i:Nat} {n:bw_} (hn:g.2.2.2.1[i]?=some n):iu_ g (i:Int) n=some (bu0 g i n,()):=by
 have hi:=al_ hn
 have hs:=hg.nt
 have hnm:=(hg.ntn n (bu_ hn)).1
 have ht:Sm (g.2.2.2.1.take i).length:=by rw[c0_];show _≤1000000000;omega
 unfold iu_
 rw[mg_ (g4_ hi),a0_]
 refine e2_ (congrArg (λo=>Option.bind o _) (lo_ ht (λy=>y.1==n.1) (λk y hy => ?_) ?_)) ?_
 ·simp only[dlt (al_ hy),a5_,af_ hy,a0_]
  cases y.1==n.1<;>rfl
 ·simp only[dnl,a4_]
 rw[a0_]
 simp only[av6 (show Sm n.1.length by show _≤1000000000;omega),id_,a0_]
 unfold bu0 okN twNt
 cases okW n.1 with
 | false=>simp only[l5_,f6_];rfl
 | true =>
 by_cases h12:(n.1.length:Int)≤12
 ·rw[b7_ h12,c3_ (by omega:¬ 12<(n.1.length:Int))]
  cases (g.2.2.2.1.take i).any λy=>y.1==n.1 with
  | true=>rfl
  | false =>
  cases wi n.2.1 0 (w64 ((g.1.1.length:Int) - 1)) with
  | false=>rfl
  | true =>
  cases hw:wi n.2.2.1 (-1) (w64 ((g.2.1.length:Int) - 1)) with
  | false=>rfl
  | true =>
  cases hz:decide (n.2.2.1<0) with
  | true=>simp only[av5];rfl
  | false =>
  obtain⟨l,k,e1,e2,h1,h2⟩:=hL.at hg (c9_ hz) hw
  simp only[e1,e2,e1_,k4_,a4_,a0_,qk_ h1 _ h2,d3_]
  unfold clOk
  cases cn_ l n.2.2.2.2<;>rfl
 ·rw[c3_ h12,b7_ (by omega:12<(n.1.length:Int))]
  rfl
noncomputable def cy_ (g:ac_):Int :=
  cond (ei_ g.1 != 0) (ei_ g.1) (cond (decide (8<(g.2.1.length:Int))||decide (16<(g.2.2.2.1.length:Int))) 2
   ((ga_ (λ_ l=>nu_ (okL l) 10) 0 g.2.1).getD
    (cond ((g.2.2.1.length:Int) != (g.2.1.length:Int)) 12
     ((ga_ (λi l=>nu_ (cdOk g i l) 12) 0 g.2.1).getD
      ((ga_ (λ_ (a:dk_)=>nu_ (!(decide ((g.2.1.length:Int)≤a.2.2.1))) 26) 0 g.1.2.2.2.2.1).getD
       ((ga_ (λi n=>xn_ (bu0 g i n) 40 (cOk g.1.2.1 n.2.2.2.1) 25) 0 g.2.2.2.1).getD
        (cond (wi g.2.2.2.2 1 100) 0 1)))))))
theorem rj_ {o:Option Int} {K:Unit→Option (Int×Unit)} {k:Int} (h:o=none→K ()=some (k,())):co_ (left o) K (λy=>some y)=some (o.getD k,()):=by
 cases o with
 | none=>exact h rfl
 | some e=>rfl
theorem bu2 {g:ac_} (h1:ga_ (λ_ l=>nu_ (okL l) 10) 0 g.2.1=none) (h2:ga_ (λi l=>nu_ (cdOk g i l) 12) 0 g.2.1=none):LkAll g:=by
 intro i l hl
 refine⟨kx_.1 (gj_ (ca_ h1 hl)),?_⟩
 have:=gj_ (ca_ h2 hl)
 unfold cdOk at this
 cases hk:g.2.2.1[i]? with
 | none=>rw[hk] at this;cases this
 | some k=>rw[hk] at this;exact⟨k,rfl,this⟩
theorem mn_of (g:ac_):(cond (decide (8<(g.2.1.length:Int))) (some (true,())) (some ((decide (16<(g.2.2.2.1.length:Int))),())))=some (decide (8<(g.2.1.length:Int))||decide (16<(g.2.2.2.1.length:Int)),()):=by
 cases decide (8<(g.2.1.length:Int))<;>rfl
theorem uh_ {g:ac_} (hg:SmG g):fw_ g=some (cy_ g,()):=by
 have hlk:=hg.lk
 have hac:=hg.ac
 have hnt:=hg.nt
 unfold fw_ cy_
 rw[pf_ hg.room,a0_]
 cases hr:ei_ g.1 != 0 with
 | true=>rfl
 | false =>
 simp only[a4_]
 refine e2_ (congrArg (λo=>Option.bind o _) (mn_of g)) ?_
 rw[a0_]
 cases hm:(decide (8<(g.2.1.length:Int))||decide (16<(g.2.2.2.1.length:Int))) with
 | true=>rfl
 | false =>
 simp only[a4_]
 refine dp_ g.2.1 (λ_ l=>nu_ (okL l) 10) (λi y hy => ?_) ?_ (rj_ λhA => ?_)
 ·have hi:=al_ hy
  simp only[dlt hi,a5_,af_ hy,a0_,bn_ (show Sm i by show _≤1000000000;omega),ja_]
  unfold nu_
  cases okL y<;>rfl
 ·simp only[dnl,a4_]
 cases hcl:((g.2.2.1.length:Int) != (g.2.1.length:Int)) with
 | true=>rfl
 | false =>
 have hcl:(g.2.2.1.length:Int)=(g.2.1.length:Int):=by simpa using hcl
 simp only[a4_]
 refine dp_ g.2.1 (λi l=>nu_ (cdOk g i l) 12) (λi y hy => ?_) ?_ (rj_ λhB => ?_)
 ·have hi:=al_ hy
  obtain⟨k,hk⟩:=bl_ (l:=g.2.2.1) (i:=i) (by omega)
  have hy1:=gj_ (ca_ hA hy)
  simp only[dlt hi,a5_,af_ hy,af_ hk,a0_,bn_ (show Sm i by show _≤1000000000;omega),fj_,hy1]
  unfold nu_ cdOk
  rw[hk]
  simp only
  cases dd_ y k<;>rfl
 ·simp only[dnl,a4_]
 refine dp_ g.1.2.2.2.2.1 (λ_ (a:dk_)=>nu_ (!(decide ((g.2.1.length:Int)≤a.2.2.1))) 26) (λi y hy => ?_) ?_ (rj_ λhC => ?_)
 ·have hi:=al_ hy
  simp only[dlt hi,a5_,af_ hy,a0_,bn_ (show Sm i by show _≤1000000000;omega)]
  unfold nu_
  cases decide ((g.2.1.length:Int)≤y.2.2.1)<;>rfl
 ·simp only[dnl,a4_]
 have hL:=bu2 hA hB
 refine dp_ g.2.2.2.1 (λi n=>xn_ (bu0 g i n) 40 (cOk g.1.2.1 n.2.2.2.1) 25) (λi y hy => ?_) ?_ (rj_ λhD => ?_)
 ·have hi:=al_ hy
  simp only[dlt hi,a5_,af_ hy,a0_,bn_ (show Sm i by show _≤1000000000;omega),ao0 hg hL hy,an9 hg.room.th]
  unfold xn_
  cases bu0 g i y with
  | false=>rfl
  | true=>cases cOk g.1.2.1 y.2.2.2.1<;>rfl
 ·simp only[dnl,a4_]
 rw[id_,a0_]
 cases wi g.2.2.2.2 1 100<;>rfl
structure OkG (g:ac_):Prop where
 room:ei_ g.1=0
 n8:g.2.1.length≤8
 n16:g.2.2.2.1.length≤16
 lk:LkAll g
 cd:g.2.2.1.length=g.2.1.length
 ac:∀ (i:Nat) (a:dk_),g.1.2.2.2.2.1[i]?=some a→a.2.2.1<(g.2.1.length:Int)
 nt:∀ (i:Nat) n,g.2.2.2.1[i]?=some n→bu0 g i n=true∧cOk g.1.2.1 n.2.2.2.1=true
 tr:wi g.2.2.2.2 1 100=true
theorem dy_ {g:ac_} (h:cy_ g=0):OkG g:=by
 unfold cy_ at h
 cases hr:ei_ g.1 != 0 with
 | true =>
  rw[hr] at h
  rw[k8_] at hr
  exact absurd h hr
 | false =>
 rw[hr,a4_] at h
 cases hm:(decide (8<(g.2.1.length:Int))||decide (16<(g.2.2.2.1.length:Int))) with
 | true=>rw[hm] at h;exact absurd (show (2:Int)=0 from h) (by decide)
 | false =>
 rw[hm,a4_] at h
 rw[b6_] at hm
 have m1:=c9_ hm.1
 have m2:=c9_ hm.2
 obtain⟨hA,h⟩:=dm_ h (gc_ (λi x=>lj_ (by decide)) _ _)
 cases hcl:((g.2.2.1.length:Int) != (g.2.1.length:Int)) with
 | true=>rw[hcl] at h;exact absurd (show (12:Int)=0 from h) (by decide)
 | false =>
 rw[hcl,a4_] at h
 have hcl:(g.2.2.1.length:Int)=(g.2.1.length:Int):=by simpa using hcl
 obtain⟨hB,h⟩:=dm_ h (gc_ (λi x=>lj_ (by decide)) _ _)
 obtain⟨hC,h⟩:=dm_ h (gc_ (λi x=>lj_ (by decide)) _ _)
 obtain⟨hD,h⟩:=dm_ h (gc_ (λi x=>sx_ (by decide) (by decide)) _ _)
 refine⟨by simpa using hr,by omega,by omega,bu2 hA hB,by omega,λi a ha => ?_,λi n hn=>li_ (ca_ hD hn),?_⟩
 ·have:=gj_ (ca_ hC ha)
  simpa using this
 ·cases hw:wi g.2.2.2.2 1 100 with
  | true=>rfl
  | false=>rw[hw] at h;exact absurd (show (1:Int)=0 from h) (by decide)
end
section
set_option maxRecDepth 10000
theorem ia_ {σ ρ:Type} {body:σ→Option (σ⊕ρ)} {s t:σ} {r:ρ} (h:body s=some (.inl t)) (e:ae_ body t=some r):ae_ body s=some r:=by
 obtain⟨k,hk⟩:=gp_.1 e
 exact ly_ (k:=k+1) (by rw[ad6 h];exact hk)
theorem fr_ {σ ρ:Type} {body:σ→Option (σ⊕ρ)} {s:σ} {r:ρ} (h:body s=some (.inr r)):ae_ body s=some r:=ly_ (k:=1) (re_ h)
theorem be7 {α τ σ ρ υ:Type} (l:List α) (f:Nat→τ→α→τ) (F:Nat→τ→σ) (R:τ→ρ) (t0:τ) {body:σ→Option (σ⊕ρ)} (I:Nat→τ→Prop) {K:ρ→Option υ} {x:Option υ} (h0:I 0 t0)
  (h:∀ i x t,l[i]?=some x→I i t→body (F i t)=some (.inl (F (i+1) (f i t x)))∧I (i+1) (f i t x)) (e:∀ t,I l.length t→body (F l.length t)=some (.inr (R t))) (hk:∀ t,I l.length t→K (R t)=x) :
  (ae_ body (F 0 t0)).bind K=x:=by
 obtain⟨t,h1,h2⟩:=ld_ l f F R t0 I h0 h e
 rw[h2,a0_]
 exact hk t h1
theorem bf4 {np:Nat} {l:List Int} (h:th_ np l=true):∀ x ∈ l,0≤x∧x<(np:Int):=by
 intro x hx
 obtain⟨i,hi⟩:=f4_ hx
 rw[← asc_eq] at h
 have:=(vp_ l).1 h i x hi
 unfold badQ at this
 rw[b6_] at this
 have h1:wi x 0 ((np:Int) - 1)=true:=by simpa using this.1
 have:=cl_.1 h1
 omega
structure ActIn (r:ad_) (a:dk_):Prop where
 us:∀ p ∈ a.2.2.2.1,0≤p∧p<(r.2.2.1.length:Int)
 sp:∀ p ∈ a.2.2.2.2.2.2.1,0≤p∧p<(r.2.2.1.length:Int)
 br:∀ p ∈ a.2.2.2.2.2.2.2,0≤p∧p<(r.2.2.1.length:Int)
 st:∀ x ∈ a.2.2.2.2.2.1,qv_ r.2.1 x.1 x.2=true
theorem bg2 {r:ad_} {i:Nat} {a:dk_} (h:zr_ r i a=true):ActIn r a:=by
 unfold zr_ at h
 simp only[a1_] at h
 obtain⟨_,_,_,h1,h2,h3,_,_,_,h4⟩:=h
 refine⟨bf4 h1,bf4 h2,bf4 h3,λx hx => ?_⟩
 obtain⟨j,hj⟩:=f4_ hx
 rw[Option.isNone_iff_eq_none] at h4
 have:=ca_ h4 hj
 cases hs:ua_ r a.2.2.2.2.2.1 j x with
 | false=>rw[hs] at this;cases this
 | true =>
  unfold ua_ at hs
  rw[a1_] at hs
  exact hs.1
theorem dt_ {α:Type} {l:List α} (hl:Sm l.length) (i:Int):(wi i 0 (w64 ((l.length:Int) - 1))=false∧at? l i=none)∨∃ (j:Nat) (x:α),i=(j:Int)∧l[j]?=some x∧wi i 0 (w64 ((l.length:Int) - 1))=true∧at? l i=some x:=by
 rw[ht_ (by omega) (by omega)]
 by_cases h:0≤i∧i<(l.length:Int)
 ·obtain⟨x,hx⟩:=bl_ (l:=l) (i:=i.toNat) (by omega)
  have hi:i=((i.toNat:Nat):Int):=by omega
  exact .inr ⟨i.toNat,x,hi,hx,cl_.2 (by omega),by rw[hi];exact af_ hx⟩
 ·refine .inl ⟨?_,?_⟩
  ·cases hw:wi i 0 ((l.length:Int) - 1) with
   | false=>rfl
   | true=>have:=cl_.1 hw;omega
  ·unfold at?
   split
   ·exact c8_ (by omega)
   ·rfl
def qn_ (pr:List Int) (h:Int):Nat:=pr.countP (· == h)
theorem aj3 (pr:List Int) (h:Int):qn_ pr h≤pr.length:=l8_
theorem am8 {t:hi_} (h:Sm t.2.2.1.length) (p:Int):ct_ t p=some ((qn_ t.2.2.1 (w64 ((-2) - p)):Int),()):=by
 unfold ct_
 refine be7 t.2.2.1 (λ_ (c:Nat) x=>cond (x==w64 ((-2) - p)) (c+1) c) (λi c=>((c:Int),((i:Int),()))) (λc=>((c:Int),())) 0 (λi c=>c=qn_ (t.2.2.1.take i) (w64 ((-2) - p))) rfl (λi x c hx hc => ?_) (λc hc => ?_) (λc hc => ?_)
 ·have hi:=al_ hx
  have hcl:c≤i:=by rw[hc];refine e7_ (aj3 _ _) ?_;rw[c0_];omega
  have hn:qn_ (t.2.2.1.take (i+1)) (w64 ((-2) - p))=cond (x==w64 ((-2) - p)) (c+1) c:=by
   unfold qn_
   rw[f3_,hx,hc,List.countP_append]
   unfold qn_
   cases hq:x==w64 ((-2) - p) with
   | true=>simp[hq]
   | false=>simp[hq]
  refine⟨?_,hn.symm⟩
  simp only[dlt hi,a5_,af_ hx,a0_,bn_ (show Sm i by omega)]
  cases hq:x==w64 ((-2) - p) with
  | true=>simp only[a5_,a0_,bn_ (show Sm c by omega)]
  | false=>rfl
 ·simp only[dnl,a4_]
 ·rw[e0_] at hc
  rw[hc]
abbrev hdl (m:ay_):Int:=w64 ((-2) - m.1)
def lgl (r:ad_) (s:aj_) (m:ay_):Bool :=
  wi m.1 0 (w64 ((s.2.2.length:Int) - 1)) &&
  cond (m.2.1==1) ((at? r.2.2.2.1 m.2.2).elim false λw=>(w.1==gi s.2.2 m.1||w.2.1==gi s.2.2 m.1)&&ke_ s.1 w.2.2)
  (cond (m.2.1==2) ((at? r.2.2.1 m.2.2).elim false λx=>gi s.2.1 m.2.2==gi s.2.2 m.1&&(ke_ s.1 x.2.2&&decide ((qn_ s.2.1 (hdl m):Int)<3)))
  (cond (m.2.1==3) ((at? s.2.1 m.2.2).elim false λp=>p==hdl m)
  (cond (m.2.1==4) ((at? r.2.2.2.2.1 m.2.2).elim false λa=>a.2.1==gi s.2.2 m.1&&((a.2.2.2.1.all λp=>gi s.2.1 p==hdl m)&&(ke_ s.1 a.2.2.2.2.1&&((a.2.2.2.2.2.2.2.all λp=>gi s.2.1 p==-1)&&decide ((qn_ s.2.1 (hdl m):Int) - (a.2.2.2.2.2.2.1.length:Int)+(a.2.2.2.2.2.2.2.length:Int)≤3)))))
   false)))
theorem am1 {l t:List Int} (hl:Sm l.length) (hi:∀ p ∈ l,0≤p∧p<(t.length:Int)) (h:Int) :
    ((ae_ (ρ:=(Unit⊕(Bool×Unit))) (λ(v15:(Int×Unit)) =>
 (cond (decide (v15.1<(l.length:Int)))
 ((at? l v15.1).bind λv16 =>
 ((at? t v16).bind λv17 =>
 (cond (!(v17==h))
 (some (inr (inr ((decide (0≤v15.1)),()))))
 (some (inl ((w64 (v15.1+1)),()))))))
 (some (inr (inl ()))))) (0,())).bind λv18 =>
 (co_ v18 (λv19=>(some ((decide ((0:Int)≤(-1))),())))
 (λv20=>(some v20))))=some (!(l.all λp=>gi t p==h),()):=by
  refine e2_ (lo_ hl (λp=>!(gi t p==h)) (λi y hy => ?_) ?_) ?_
  · have:=hi y (bu_ hy)
    simp only[dlt (al_ hy),a5_,af_ hy,a0_,ap4 this.1 this.2]
    cases gi t y==h<;>rfl
  · simp only[dnl,a4_]
  · rw[← py_,Bool.not_not]
theorem aa5 {r:ad_} (h:SmR r) (ok:OkR r) {s:aj_} (hv:VS r s) (m:ay_):dg_ (r,s) m=some (lgl r s m,()):=by
 obtain⟨m1,m2,m3⟩:=tv_ h ok hv
 have hl1:=hv.l1
 have hl2:=hv.l2
 have hH:∀ {c:List bi_},cOk r.2.1 c=true→aw_ (r,s) c=some (ke_ s.1 c,()):=λ{c} hc=>by
  obtain⟨c1,c2⟩:=be1 h.th hc
  exact ni_ (t:=(r,s)) (show c.length≤1000000000 by omega) (by show InC s.1.length c;rw[hl1];exact c1)
 have hD:ct_ (r,s) m.1=some ((qn_ s.2.1 (hdl m):Int),()):=am8 (t:=(r,s)) m2 m.1
 have hDl:=aj3 s.2.1 (hdl m)
 unfold dg_ lgl
 simp only[dl_,a0_]
 rcases dt_ m3 m.1 with ⟨e1,_⟩ | ⟨pj,px,hpj,hp,e1,e2⟩
 ·rw[e1];rfl
 ·have eg:gi s.2.2 m.1=px:=az6 e2
  simp only[e1,e2,eg,e1_,a4_,a0_,d3_]
  cases hk1:m.2.1==1 with
  | true =>
   simp only[a5_]
   rcases dt_ h.wy m.2.2 with ⟨f1,f2⟩ | ⟨j,w,hj,hw,f1,f2⟩
   ·simp only[f1,f2];rfl
   ·simp only[f1,f2,e1_,a4_,a0_,hH (ok.wy j w hw).2]
    show _=some ((w.1==px||w.2.1==px)&&ke_ s.1 w.2.2,())
    cases w.1==px with
    | true=>rfl
    | false=>cases w.2.1==px<;>rfl
  | false =>
  simp only[a4_]
  cases hk2:m.2.1==2 with
  | true =>
   simp only[a5_]
   rcases dt_ m2 m.2.2 with ⟨f1,f2⟩ | ⟨j,p,hj,hp,f1,f2⟩
   ·have f3:at? r.2.2.1 m.2.2=none:=by
     rcases dt_ h.pr m.2.2 with ⟨_,g2⟩ | ⟨j,x,hj,hx,g1,g2⟩
     ·exact g2
     ·rw[← hl2,f1] at g1;cases g1
    simp only[f1,f3,a4_];rfl
   ·obtain⟨x,hx⟩:=bl_ (l:=r.2.2.1) (i:=j) (by have:=al_ hp;omega)
    have f3:at? r.2.2.1 m.2.2=some x:=by rw[hj];exact af_ hx
    have f4:gi s.2.1 m.2.2=p:=az6 f2
    simp only[f1,f2,f3,f4,a5_,a0_,hH (ok.pr j x hx).2,hD]
    show _=some (p==px&&(ke_ s.1 x.2.2&&decide ((qn_ s.2.1 (hdl m):Int)<3)),())
    cases p==px with
    | false=>rfl
    | true=>cases ke_ s.1 x.2.2<;>rfl
  | false =>
  simp only[a4_]
  cases hk3:m.2.1==3 with
  | true =>
   simp only[a5_]
   rcases dt_ m2 m.2.2 with ⟨f1,f2⟩ | ⟨j,p,hj,hp,f1,f2⟩
   ·simp only[f1,f2];rfl
   ·simp only[f1,f2,a5_,a0_];rfl
  | false =>
  simp only[a4_]
  cases hk4:m.2.1==4 with
  | false=>rfl
  | true =>
   simp only[a5_]
   rcases dt_ h.ac m.2.2 with ⟨f1,f2⟩ | ⟨j,a,hj,ha,f1,f2⟩
   ·simp only[f1,f2];rfl
   ·obtain⟨oa,oc⟩:=ok.ac j a ha
    have ai:=bg2 oa
    obtain⟨s1,s2,s3,s4,s5,s6⟩:=h.acn a (bu_ ha)
    simp only[f1,f2,e1_,a4_,a0_]
    show _=some (a.2.1==px&&((a.2.2.2.1.all λp=>gi s.2.1 p==hdl m)&&(ke_ s.1 a.2.2.2.2.1&&((a.2.2.2.2.2.2.2.all λp=>gi s.2.1 p==-1)&&decide ((qn_ s.2.1 (hdl m):Int) - (a.2.2.2.2.2.2.1.length:Int)+(a.2.2.2.2.2.2.2.length:Int)≤3)))),())
    cases a.2.1==px with
    | false=>rfl
    | true =>
    simp only[a5_,d3_]
    refine e2_ (congrArg (λo=>Option.bind o _) (am1 s2 (λp hp=>by have:=ai.us p hp;omega) (hdl m))) ?_
    rw[a0_]
    cases a.2.2.2.1.all λp=>gi s.2.1 p==hdl m with
    | false=>rfl
    | true =>
    simp only[e1_,k4_,a5_,hH oc,a0_,d3_]
    cases ke_ s.1 a.2.2.2.2.1 with
    | false=>rfl
    | true =>
    simp only[a5_,d3_]
    refine e2_ (congrArg (λo=>Option.bind o _) (am1 s6 (λp hp=>by have:=ai.br p hp;omega) (-1))) ?_
    rw[a0_]
    cases a.2.2.2.2.2.2.2.all λp=>gi s.2.1 p==-1 with
    | false=>rfl
    | true =>
    simp only[e1_,k4_,a5_,hD,a0_,d3_]
    rw[ht_ (n:=(qn_ s.2.1 (hdl m):Int) - _) (by omega) (by omega),ht_ (by omega) (by omega)]
theorem vo_ {α:Type} (l:List α) (hl:Sm l.length) (ix vl:α→Int) (t:List Int) (hi:∀ x ∈ l,0≤ix x∧ix x<(t.length:Int)) {body:(Int×(List Int×Unit))→Option ((Int×(List Int×Unit))⊕(List Int×Unit))}
  (hb:∀ (i:Nat) (x:α) (t':List Int) (y:Int),l[i]?=some x→at? t' (ix x)=some y→body ((i:Int),(t',()))=some (.inl (w64 ((i:Int)+1),(t'.set (ix x).toNat (vl x),())))) (e:∀ t',body ((l.length:Int),(t',()))=some (.inr (t',()))) :
  ae_ body (0,(t,()))=some (l.foldl (λt x=>t.set (ix x).toNat (vl x)) t,()):=by
 obtain⟨z,⟨_,hz⟩,e⟩:=ld_ l (λ_ t x=>t.set (ix x).toNat (vl x)) (λi t=>((i:Int),(t,()))) (λt=>(t,())) t (body:=body) (λi t'=>t'.length=t.length∧t'=(l.take i).foldl (λt x=>t.set (ix x).toNat (vl x)) t) ⟨rfl,rfl⟩ (λi x t' hx ht=>by
  obtain⟨h1,h2⟩:=ht
  have hil:=al_ hx
  have:=hi x (bu_ hx)
  refine⟨?_,by rw[e8_,h1],?_⟩
  ·rw[hb i x t' _ hx (ap4 this.1 (by omega)),bn_ (show Sm i by omega)]
  ·rw[f3_,hx,l3_,← h2]
   rfl) (λt' _=>e t')
 rw[e0_] at hz
 rw[← hz]
 exact e
def mvP (r:ad_) (s:aj_) (m:ay_):aj_ :=
  cond (m.2.1==1) ((at? r.2.2.2.1 m.2.2).elim s λw=>(s.1,(s.2.1,s.2.2.set m.1.toNat (w.1+w.2.1 - gi s.2.2 m.1))))
  (cond (m.2.1==2) (s.1,(s.2.1.set m.2.2.toNat (hdl m),s.2.2))
  (cond (m.2.1==3) (s.1,(s.2.1.set m.2.2.toNat (gi s.2.2 m.1),s.2.2))
  (cond (m.2.1==4) ((at? r.2.2.2.2.1 m.2.2).elim s λa=>(a.2.2.2.2.2.1.foldl (λt x=>t.set x.1.toNat x.2) s.1,(a.2.2.2.2.2.2.2.foldl (λt p=>t.set p.toNat (hdl m)) (a.2.2.2.2.2.2.1.foldl (λt p=>t.set p.toNat (-1)) s.2.1),s.2.2)))
   s)))
theorem tj_ {α:Type} {l:List α} {P:α→Prop} (h:∀ (i:Nat) x,l[i]?=some x→P x) {j:Nat} {v:α} (hv:P v):∀ (i:Nat) x,(l.set j v)[i]?=some x→P x:=by
 intro i x hx
 rw[c6_] at hx
 split at hx
 ·split at hx
  ·obtain rfl:=a8_ hx
   exact hv
  ·cases hx
 ·exact h i x hx
theorem lf_ {α τ:Type} {f:τ→α→τ} {P:τ→Prop}:∀ (l:List α) (t:τ),P t→(∀ t x,x ∈ l→P t→P (f t x))→P (l.foldl f t)
 | [],t,h,_=>h
 | x::l,t,h,hf=>lf_ l (f t x) (hf t x (List.mem_cons_self ..) h) λt y hy=>hf t y (List.mem_cons_of_mem _ hy)
theorem vn_ {α:Type} (ix vl:α→Int) (l:List α) (t:List Int):(l.foldl (λt x=>t.set (ix x).toNat (vl x)) t).length=t.length :=
 lf_ (P:=λt'=>t'.length=t.length) l t rfl λt' x _ h=>by rw[e8_,h]
theorem kd_ {r:ad_} (h:SmR r) {p:Int}:un_ r p=true↔0≤p∧p<(r.1.length:Int):=by
 have:=h.pl
 unfold un_
 rw[cl_,ht_ (by omega) (by omega)]
 omega
theorem ad8 {r:ad_} (h:SmR r) (ok:OkR r) {p:Int}:inR r p=true↔(-2) - r.2.2.2.2.2.2.1<p∧p<(r.1.length:Int):=by
 have:=h.pl
 have hp:=cl_.1 ok.py
 unfold inR
 rw[cl_,ht_ (n:=(-2) - r.2.2.2.2.2.2.1) (by omega) (by omega),ht_ (by omega) (by omega),ht_ (by omega) (by omega)]
 omega
theorem pl_pos {r:ad_} (ok:OkR r):0<r.1.length:=by
 have hne:r.1.length≠0:=λe=>ok.ne (i8_.1 e)
 omega
theorem hdl_eq {r:ad_} (ok:OkR r) {s:aj_} (hv:VS r s) {m:ay_} {j:Nat} {x:Int} (hj:m.1=(j:Int)) (hx:s.2.2[j]?=some x):hdl m=(-2) - m.1∧m.1<r.2.2.2.2.2.2.1:=by
 have hp:=cl_.1 ok.py
 have:=al_ hx
 have:=hv.l3
 exact⟨ht_ (by omega) (by omega),by omega⟩
theorem bu3 {r:ad_} {s:aj_} {m:ay_} (m3:Sm s.2.2.length) (hl:lgl r s m=true):∃ (j:Nat) (x:Int),m.1=(j:Int)∧s.2.2[j]?=some x∧at? s.2.2 m.1=some x:=by
 unfold lgl at hl
 rw[a1_] at hl
 rcases dt_ m3 m.1 with ⟨e1,_⟩ | ⟨pj,px,hpj,hp,e1,e2⟩
 ·rw[e1] at hl;cases hl.1
 ·exact⟨pj,px,hpj,hp,e2⟩
theorem VS_mv {r:ad_} (h:SmR r) (ok:OkR r) {s:aj_} (hv:VS r s) {m:ay_} (hl:lgl r s m=true):VS r (mvP r s m):=by
 obtain⟨m1,m2,m3⟩:=tv_ h ok hv
 obtain⟨pj,px,hpj,hp,e2⟩:=bu3 m3 hl
 obtain⟨d1,d2⟩:=hdl_eq ok hv hpj hp
 have hpy:=cl_.1 ok.py
 have hpos:=pl_pos ok
 have hhd:inR r (hdl m)=true:=(ad8 h ok).2 (by omega)
 have hm1:inR r (-1)=true:=(ad8 h ok).2 (by omega)
 unfold lgl at hl
 rw[a1_] at hl
 have hl:=hl.2
 have eg:gi s.2.2 m.1=px:=az6 e2
 have hpx:=hv.py _ _ hp
 unfold mvP
 cases hk1:m.2.1==1 with
 | true =>
  rw[hk1] at hl
  simp only[a5_] at hl ⊢
  cases hw:at? r.2.2.2.1 m.2.2 with
  | none=>exact hv
  | some w =>
   rw[hw] at hl
   have hl:((w.1==gi s.2.2 m.1||w.2.1==gi s.2.2 m.1)&&ke_ s.1 w.2.2)=true:=hl
   rw[a1_,c2_,l2_,l2_] at hl
   rcases dt_ h.wy m.2.2 with ⟨f1,f2⟩ | ⟨j,w',hj,hw',f1,f2⟩
   ·rw[f2] at hw;cases hw
   ·rw[f2] at hw
    obtain rfl:=a8_ hw
    have ow:=(ok.wy j w' hw').1
    unfold bs3 at ow
    simp only[a1_] at ow
    have o1:=(kd_ h).1 ow.1
    have o2:=(kd_ h).1 ow.2.1
    refine⟨hv.l1,hv.l2,by show ((s.2.2.set _ _).length:Int)=_;rw[e8_];exact hv.l3,hv.th,hv.pr,tj_ hv.py ((kd_ h).2 ?_)⟩
    rcases hl.1 with e | e<;>omega
 | false =>
 rw[hk1] at hl
 simp only[a4_] at hl ⊢
 cases hk2:m.2.1==2 with
 | true=>exact⟨hv.l1,by show (s.2.1.set _ _).length=_;rw[e8_];exact hv.l2,hv.l3,hv.th,tj_ hv.pr hhd,hv.py⟩
 | false =>
 rw[hk2] at hl
 simp only[a4_] at hl ⊢
 cases hk3:m.2.1==3 with
 | true =>
  refine⟨hv.l1,by show (s.2.1.set _ _).length=_;rw[e8_];exact hv.l2,hv.l3,hv.th,tj_ hv.pr ?_,hv.py⟩
  rw[eg]
  have:=(kd_ h).1 hpx
  exact (ad8 h ok).2 (by omega)
 | false =>
 rw[hk3] at hl
 simp only[a4_] at hl ⊢
 cases hk4:m.2.1==4 with
 | false=>exact hv
 | true =>
  simp only[a5_]
  rcases dt_ h.ac m.2.2 with ⟨f1,f2⟩ | ⟨j,a,hj,ha,f1,f2⟩
  ·rw[f2];exact hv
  ·rw[f2]
   have ai:=bg2 (ok.ac j a ha).1
   have hth:VT r (a.2.2.2.2.2.1.foldl (λt x=>t.set x.1.toNat x.2) s.1):=lf_ (P:=VT r) _ _ ⟨hv.l1,hv.th⟩ λt x hx ht=>bw3 h ok ht (ai.st x hx)
   have hpr:∀ (i:Nat) p,(a.2.2.2.2.2.2.2.foldl (λt p=>t.set p.toNat (hdl m)) (a.2.2.2.2.2.2.1.foldl (λt p=>t.set p.toNat (-1)) s.2.1))[i]?=some p→inR r p=true:=by
    refine lf_ (P:=λt=>∀ (i:Nat) p,t[i]?=some p→inR r p=true) _ _ ?_ λt x hx ht=>tj_ ht hhd
    exact lf_ (P:=λt=>∀ (i:Nat) p,t[i]?=some p→inR r p=true) _ _ hv.pr λt x hx ht=>tj_ ht hm1
   refine⟨hth.1,?_,hv.l3,hth.2,hpr,hv.py⟩
   show (a.2.2.2.2.2.2.2.foldl (λt p=>t.set p.toNat (hdl m)) (a.2.2.2.2.2.2.1.foldl (λt p=>t.set p.toNat (-1)) s.2.1)).length=_
   rw[vn_ (λp=>p) (λ_=>hdl m),vn_ (λp=>p) (λ_=>-1)]
   exact hv.l2
end
end Go.Proofs.YtlbfbdbagohinaaGreatDoor.Rx
namespace Go.Proofs.YtlbfbdbagohinaaGreatDoor.Rx
open Go Pad Rex Go.Proofs Go.Proofs.Tryz Sum
section
set_option maxRecDepth 100000
noncomputable def mvX (a0:ad_) (a2:ay_) (v1 v2 v3:List Int):Option (List Int×(List Int×(List Int×Unit))) :=
 (cond (a2.2.1==1)
 ((at? a0.2.2.2.1 a2.2.2).bind λv5 =>
 ((at? v3 a2.1).bind λv6 =>
 ((at? v3 a2.1).bind λv7 =>
 ((at? v3 a2.1).bind λv8 =>
 ((at? v3 a2.1).bind λv9 =>
 (some (v1,(v2,((v3.set a2.1.toNat (w64 ((w64 (v5.1+v5.2.1)) - v7))),())))))))))
 (cond (a2.2.1==2)
 ((at? v2 a2.2.2).bind λv10 =>
 ((at? v2 a2.2.2).bind λv11 =>
 (some (v1,((v2.set a2.2.2.toNat (w64 ((-2) - a2.1))),(v3,()))))))
 (cond (a2.2.1==3)
 ((at? v3 a2.1).bind λv12 =>
 ((at? v3 a2.1).bind λv13 =>
 ((at? v2 a2.2.2).bind λv14 =>
 ((at? v2 a2.2.2).bind λv15 =>
 (some (v1,((v2.set a2.2.2.toNat v13),(v3,()))))))))
 (cond (a2.2.1==4)
 ((at? a0.2.2.2.2.1 a2.2.2).bind λv16 =>
 ((ae_ (ρ:=((List Int)×Unit)) (λ(v17:(Int×((List Int)×Unit))) =>
 (cond (decide (v17.1<(v16.2.2.2.2.2.2.1.length:Int)))
 ((at? v16.2.2.2.2.2.2.1 v17.1).bind λv18 =>
 ((at? v17.2.1 v18).bind λv19 =>
 ((at? v17.2.1 v18).bind λv20 =>
 (some (inl ((w64 (v17.1+1)),((v17.2.1.set v18.toNat (-1)),())))))))
 (some (inr (v17.2.1,()))))) (0,(v2,()))).bind λv21 =>
 ((ae_ (ρ:=((List Int)×Unit)) (λ(v22:(Int×((List Int)×Unit))) =>
 (cond (decide (v22.1<(v16.2.2.2.2.2.2.2.length:Int)))
 ((at? v16.2.2.2.2.2.2.2 v22.1).bind λv23 =>
 ((at? v22.2.1 v23).bind λv24 =>
 ((at? v22.2.1 v23).bind λv25 =>
 (some (inl ((w64 (v22.1+1)),((v22.2.1.set v23.toNat (w64 ((-2) - a2.1))),())))))))
 (some (inr (v22.2.1,()))))) (0,(v21.1,()))).bind λv26 =>
 ((ae_ (ρ:=((List Int)×Unit)) (λ(v27:(Int×((List Int)×Unit))) =>
 (cond (decide (v27.1<(v16.2.2.2.2.2.1.length:Int)))
 ((at? v16.2.2.2.2.2.1 v27.1).bind λv28 =>
 ((at? v27.2.1 v28.1).bind λv29 =>
 ((at? v27.2.1 v28.1).bind λv30 =>
 (some (inl ((w64 (v27.1+1)),((v27.2.1.set v28.1.toNat v28.2),())))))))
 (some (inr (v27.2.1,()))))) (0,(v1,()))).bind λv31 =>
 (some (v31.1,(v26.1,(v3,()))))))))
 (some (v1,(v2,(v3,()))))))))
noncomputable def rstX (a0:ad_) (a1:aj_) (a2:ay_):Option (aj_×(Int×Unit)) :=
 ((cb_ a0 a1).bind λv0 =>
 (cond (v0.1 != 0)
 (some (([],([],[])),(v0.1,())))
 ((push? (α:=Int) [] a1.1).bind λv1 =>
 ((push? (α:=Int) [] a1.2.1).bind λv2 =>
 ((push? (α:=Int) [] a1.2.2).bind λv3 =>
 ((dg_ (a0,(v1,(v2,v3))) a2).bind λv4 =>
 (cond (!v4.1)
 (some (([],([],[])),(29,())))
 ((mvX a0 a2 v1 v2 v3).bind λv32 =>
 ((((ae_ (ρ:=(((List Int)×Unit)⊕(Bool×((List Int)×Unit)))) (setB a0 v32.2.1 v32.2.2.1) (0,(v32.1,()))).bind λv48 =>
 (co_ v48 (λv49=>(some ((!false),(v49.1,()))))
 (λv50=>(some v50))))).bind λv51 =>
 (cond v51.1
 (some (([],([],[])),(27,())))
 (some ((v51.2.1,(v32.2.1,v32.2.2.1)),(0,())))))))))))))
theorem rstX_eq:ij_=rstX:=by kernel_rfl
theorem mvX_eq {r:ad_} (h:SmR r) (ok:OkR r) {s:aj_} (hv:VS r s) {m:ay_} (hl:lgl r s m=true):mvX r m s.1 s.2.1 s.2.2=some ((mvP r s m).1,((mvP r s m).2.1,((mvP r s m).2.2,()))):=by
  obtain⟨m1,m2,m3⟩:=tv_ h ok hv
  have hl1:=hv.l1
  have hl2:=hv.l2
  obtain⟨pj,px,hpj,hp,e2⟩:=bu3 m3 hl
  have eg:gi s.2.2 m.1=px:=az6 e2
  have hpx:=(kd_ h).1 (hv.py _ _ hp)
  have hpl:=h.pl
  unfold lgl at hl
  rw[a1_] at hl
  have hl:=hl.2
  unfold mvX mvP
  cases hk1:m.2.1==1 with
  | true =>
    rw[hk1] at hl
    simp only[a5_] at hl ⊢
    rcases dt_ h.wy m.2.2 with ⟨f1,f2⟩ | ⟨j,w,hj,hw,f1,f2⟩
    · rw[f2] at hl;cases hl
    · have ow:=(ok.wy j w hw).1
      unfold bs3 at ow
      simp only[a1_] at ow
      have o1:=(kd_ h).1 ow.1
      have o2:=(kd_ h).1 ow.2.1
      simp only[f2,e2,eg,a0_,Option.elim]
      rw[ht_ (n:=w.1+w.2.1) (by omega) (by omega),ht_ (by omega) (by omega)]
  | false =>
  rw[hk1] at hl
  simp only[a4_] at hl ⊢
  cases hk2:m.2.1==2 with
  | true =>
    rw[hk2] at hl
    simp only[a5_] at hl ⊢
    rcases dt_ h.pr m.2.2 with ⟨f1,f2⟩ | ⟨j,x,hj,hx,f1,f2⟩
    · rw[f2] at hl;cases hl
    · have:=al_ hx
      rw[ap4 (l:=s.2.1) (i:=m.2.2) (by omega) (by omega)]
      rfl
  | false =>
  rw[hk2] at hl
  simp only[a4_] at hl ⊢
  cases hk3:m.2.1==3 with
  | true =>
    rw[hk3] at hl
    simp only[a5_] at hl ⊢
    rcases dt_ m2 m.2.2 with ⟨f1,f2⟩ | ⟨j,x,hj,hx,f1,f2⟩
    · rw[f2] at hl;cases hl
    · simp only[f2,e2,eg,a0_]
  | false =>
  rw[hk3] at hl
  simp only[a4_] at hl ⊢
  cases hk4:m.2.1==4 with
  | false=>rfl
  | true =>
    rw[hk4] at hl
    simp only[a5_] at hl ⊢
    rcases dt_ h.ac m.2.2 with ⟨f1,f2⟩ | ⟨j,a,hj,ha,f1,f2⟩
    · rw[f2] at hl;cases hl
    · have ai:=bg2 (ok.ac j a ha).1
      obtain⟨s1,s2,s3,s4,s5,s6⟩:=h.acn a (bu_ ha)
      simp only[f2,a0_,Option.elim]
      have hA:=vo_ a.2.2.2.2.2.2.1 s5 (λp=>p) (λ_=>-1) s.2.1 (λp hp=>by have:=ai.sp p hp;omega) (body:=(λ(v17:(Int×((List Int)×Unit))) =>
 (cond (decide (v17.1<(a.2.2.2.2.2.2.1.length:Int)))
 ((at? a.2.2.2.2.2.2.1 v17.1).bind λv18 =>
 ((at? v17.2.1 v18).bind λv19 =>
 ((at? v17.2.1 v18).bind λv20 =>
 (some (inl ((w64 (v17.1+1)),((v17.2.1.set v18.toNat (-1)),())))))))
 (some (inr (v17.2.1,())))))) (λi x t' y hx hy=>by simp only[dlt (al_ hx),a5_,af_ hx,a0_,hy]) (λt'=>by simp only[dnl,a4_])
      rw[hA,a0_]
      have hl3:(a.2.2.2.2.2.2.1.foldl (λt p=>t.set p.toNat (-1)) s.2.1).length=s.2.1.length:=vn_ (λp=>p) (λ_=>-1) _ _
      have hB:=vo_ a.2.2.2.2.2.2.2 s6 (λp=>p) (λ_=>hdl m) (a.2.2.2.2.2.2.1.foldl (λt p=>t.set p.toNat (-1)) s.2.1) (λp hp=>by have:=ai.br p hp;omega) (body:=(λ(v22:(Int×((List Int)×Unit))) =>
 (cond (decide (v22.1<(a.2.2.2.2.2.2.2.length:Int)))
 ((at? a.2.2.2.2.2.2.2 v22.1).bind λv23 =>
 ((at? v22.2.1 v23).bind λv24 =>
 ((at? v22.2.1 v23).bind λv25 =>
 (some (inl ((w64 (v22.1+1)),((v22.2.1.set v23.toNat (w64 ((-2) - m.1))),())))))))
 (some (inr (v22.2.1,())))))) (λi x t' y hx hy=>by simp only[dlt (al_ hx),a5_,af_ hx,a0_,hy]) (λt'=>by simp only[dnl,a4_])
      simp only
      rw[hB,a0_]
      have hC:=vo_ a.2.2.2.2.2.1 s4 (λx:Int×Int=>x.1) (λx=>x.2) s.1 (λx hx=>by have:=(qu_ h ok (ai.st x hx)).1;omega) (body:=(λ(v27:(Int×((List Int)×Unit))) =>
 (cond (decide (v27.1<(a.2.2.2.2.2.1.length:Int)))
 ((at? a.2.2.2.2.2.1 v27.1).bind λv28 =>
 ((at? v27.2.1 v28.1).bind λv29 =>
 ((at? v27.2.1 v28.1).bind λv30 =>
 (some (inl ((w64 (v27.1+1)),((v27.2.1.set v28.1.toNat v28.2),())))))))
 (some (inr (v27.2.1,())))))) (λi x t' y hx hy=>by simp only[dlt (al_ hx),a5_,af_ hx,a0_,hy]) (λt'=>by simp only[dnl,a4_])
      rw[hC,a0_]
def fstA (r:ad_) (th:List Int):Option (List bi_×aa_):=r.2.2.2.2.2.1.find? λy=>(gi th y.2.1 != y.2.2)&&ke_ th y.1
def stl (r:ad_):Nat→List Int→Option (List Int)
 | 0,_=>none
 | n+1,th=>match fstA r th with
  | none=>some th
  | some y=>stl r n (th.set y.2.1.toNat y.2.2)
theorem xy_ {α ρ:Type} {q:α→Bool} {f:Nat→ρ}:∀ (m:List α) (k:Nat),(ga_ (λi y=>cond (q y) (some (f i)) none) k m=none∧m.find? q=none)∨∃ (i:Nat) (y:α),m[i]?=some y∧m.find? q=some y∧ga_ (λi y=>cond (q y) (some (f i)) none) k m=some (f (k+i))
 | [],_=>.inl ⟨rfl,rfl⟩
 | x::m,k=>by
  unfold ga_
  cases hq:q x with
  | true=>exact .inr ⟨0,x,rfl,by simp[hq],rfl⟩
  | false =>
   rcases xy_ (q:=q) (f:=f) m (k+1) with ⟨h1,h2⟩ | ⟨i,y,h1,h2,h3⟩
   ·exact .inl ⟨h1,by simp[hq,h2]⟩
   ·exact .inr ⟨i+1,y,by simpa using h1,by simp[hq,h2],by rw[show k+(i+1)=k+1+i by omega];exact h3⟩
theorem if_find {α:Type} {l:List α} (hl:Sm l.length) (q:α→Bool) {body:(Int×Unit)→Option ((Int×Unit)⊕(Unit⊕(Int×Unit)))}
  (h:∀ (i:Nat) y,l[i]?=some y→body ((i:Int),())=some (cond (q y) (.inr (.inr ((i:Int),()))) (.inl (w64 ((i:Int)+1),())))) (e:body ((l.length:Int),())=some (.inr (.inl ()))) :
  ∃ n:Int,((ae_ body (0,())).bind λv=>co_ v (λ_=>some ((-1:Int),())) (λw=>some w))=some (n,())∧((n = -1∧l.find? q=none)∨∃ (i:Nat) (y:α),n=(i:Int)∧l[i]?=some y∧l.find? q=some y):=by
 have hrun:=lc_ l (λi y=>cond (q y) (some (inr ((i:Int),()):Unit⊕(Int×Unit))) none) (λi=>((i:Int),())) (r0:=inl ()) (body:=body) (λi y hy=>by
  have hi:=al_ hy
  rw[h i y hy,bn_ (show Sm i by omega)]
  cases q y<;>rfl) e
 have hr2:ae_ body (0,())=some ((ga_ (λi y=>cond (q y) (some (inr ((i:Int),()):Unit⊕(Int×Unit))) none) 0 l).getD (inl ())):=hrun
 rw[hr2]
 rcases xy_ (q:=q) (f:=λi=>(inr ((i:Int),()):Unit⊕(Int×Unit))) l 0 with ⟨h1,h2⟩ | ⟨i,y,h1,h2,h3⟩
 ·exact⟨-1,by rw[h1];rfl,.inl ⟨rfl,h2⟩⟩
 ·exact⟨(i:Int),by rw[h3,a7_];rfl,.inr ⟨i,y,rfl,h1,h2⟩⟩
theorem br7 {r:ad_} (h:SmR r) (ok:OkR r) {th pr py:List Int} (hv:VT r th) :
  ∃ n:Int,((ae_ (autB r th pr py) (0,())).bind λv=>co_ v (λ_=>some ((-1:Int),())) (λw=>some w))=some (n,())∧((n = -1∧fstA r th=none)∨∃ (i:Nat) (y:List bi_×aa_),n=(i:Int)∧r.2.2.2.2.2.1[i]?=some y∧fstA r th=some y) :=
 if_find (l:=r.2.2.2.2.2.1) h.au (λy=>(gi th y.2.1 != y.2.2)&&ke_ th y.1) (body:=autB r th pr py) (λi y hy=>by
  obtain⟨g1,g2⟩:=ok.au i y hy
  have hi:=(qu_ h ok g1).1
  obtain⟨c1,c2⟩:=be1 h.th g2
  have hl:=hv.1
  unfold autB
  have ht:aw_ (r,(th,(pr,py))) y.1=some (ke_ th y.1,()):=ni_ (t:=(r,(th,(pr,py)))) (by omega) (by show InC th.length y.1;rw[hl];exact c1)
  simp only[dlt (al_ hy),a5_,af_ hy,a0_,ap4 hi.1 (show y.2.1<th.length by omega),ht]
  cases gi th y.2.1 != y.2.2 with
  | false=>rfl
  | true=>cases ke_ th y.1<;>rfl) (by
  unfold autB
  simp only[dnl,a4_])
theorem ks_ {r:ad_} (h:SmR r) (ok:OkR r) {pr py:List Int}:∀ (n i:Nat) (th:List Int),i+n=101→VT r th →
  ∃ z,ae_ (setB r pr py) ((i:Int),(th,()))=some z∧match stl r n th with
   | some th'=>z = .inr (false,(th',()))∧VT r th'
   | none=>∃ w,z = .inl w
 | 0,i,th,hi,hv=>by
  obtain rfl:i=101:=by omega
  exact⟨.inl (th,()),fr_ (by unfold setB;rfl),_,rfl⟩
 | n+1,i,th,hi,hv=>by
  obtain⟨k,e,hc⟩:=br7 h ok hv (pr:=pr) (py:=py)
  have hd:decide ((i:Int)<101)=true:=b7_ (by omega)
  unfold stl
  rcases hc with ⟨rfl,hf⟩ | ⟨j,y,rfl,hy,hf⟩
  ·rw[hf]
   refine⟨.inr (false,(th,())),fr_ ?_,rfl,hv⟩
   unfold setB
   simp only[hd,a5_]
   refine e2_ (congrArg (λo=>Option.bind o _) e) rfl
  ·rw[hf]
   have g1:=(ok.au j y hy).1
   have hi2:=(qu_ h ok g1).1
   have hl:=hv.1
   obtain⟨z,ez,hz⟩:=ks_ h ok (pr:=pr) (py:=py) n (i+1) (th.set y.2.1.toNat y.2.2) (by omega) (bw3 h ok hv g1)
   refine⟨z,ia_ ?_ ez,hz⟩
   unfold setB
   simp only[hd,a5_]
   refine e2_ (congrArg (λo=>Option.bind o _) e) ?_
   simp only[a0_,show decide ((j:Int)<0)=false from c3_ (by omega),a4_,af_ hy,ap4 hi2.1 (show y.2.1<th.length by omega),bn_ (show Sm i by show _≤1000000000;omega)]
def an0 (r:ad_) (s:aj_) (m:ay_):Option aj_:=(stl r 101 (mvP r s m).1).map λth=>(th,(mvP r s m).2)
abbrev eS:aj_:=([],([],[]))
theorem at8 {r:ad_} (h:SmR r) (h0:ei_ r=0) {s:aj_} (hv:VS r s) (m:ay_) :
  ij_ r s m=some (cond (lgl r s m) ((an0 r s m).elim (eS,(27,())) λt=>(t,(0,()))) (eS,(29,()))):=by
 have ok:=ep_ h0
 obtain⟨m1,m2,m3⟩:=tv_ h ok hv
 rw[rstX_eq]
 unfold rstX
 rw[ib_ h,a0_,jb_ h0 hv]
 simp only[show ((0:Int) != 0)=false from rfl,a4_]
 rw[aq_ m1,a0_,aq_ m2,a0_,aq_ m3,a0_]
 refine e2_ (congrArg (λo=>Option.bind o _) (aa5 h ok hv m)) ?_
 rw[a0_]
 cases hl:lgl r s m with
 | false=>rfl
 | true =>
 simp only[e1_,a4_,a5_]
 rw[mvX_eq h ok hv hl,a0_]
 simp only
 have hv2:=VS_mv h ok hv hl
 obtain⟨z,ez,hz⟩:=ks_ h ok (pr:=(mvP r s m).2.1) (py:=(mvP r s m).2.2) 101 0 (mvP r s m).1 rfl ⟨hv2.l1,hv2.th⟩
 refine e2_ (congrArg (λo=>Option.bind (Option.bind o _) _) ez) ?_
 unfold an0
 cases hs:stl r 101 (mvP r s m).1 with
 | none =>
  rw[hs] at hz
  obtain⟨w,rfl⟩:=hz
  rfl
 | some th' =>
  rw[hs] at hz
  obtain⟨rfl,_⟩:=hz
  rfl
theorem af9 {r:ad_} (h:SmR r) (h0:ei_ r=0) {s t:aj_} (hv:VS r s) {m:ay_} (hl:lgl r s m=true) (ht:an0 r s m=some t):VS r t:=by
 have ok:=ep_ h0
 have hv2:=VS_mv h ok hv hl
 unfold an0 at ht
 obtain⟨th,hs,rfl⟩:=f5_.1 ht
 obtain⟨z,ez,hz⟩:=ks_ h ok (pr:=(mvP r s m).2.1) (py:=(mvP r s m).2.2) 101 0 (mvP r s m).1 rfl ⟨hv2.l1,hv2.th⟩
 rw[hs] at hz
 exact⟨hz.2.1,hv2.l2,hv2.l3,hz.2.2,hv2.pr,hv2.py⟩
end
section
set_option maxRecDepth 100000
theorem ab4 {r:ad_} (h:SmR r) (h0:ei_ r=0) {s:aj_} (hv:VS r s) {c:List bi_} (hc:cOk r.2.1 c=true):fv_ r s c=some (ke_ s.1 c,(0,())):=by
 have ok:=ep_ h0
 obtain⟨m1,m2,m3⟩:=tv_ h ok hv
 unfold fv_
 rw[ib_ h,a0_,jb_ h0 hv]
 simp only[show ((0:Int) != 0)=false from rfl,a4_]
 rw[hx_ h.th,a0_,hc]
 obtain⟨c1,c2⟩:=be1 h.th hc
 have hl:=hv.l1
 simp only[e1_,a4_]
 rw[aq_ m1,a0_,aq_ m2,a0_,aq_ m3,a0_,ni_ (t:=(r,(s.1,(s.2.1,s.2.2)))) (show c.length≤1000000000 by omega) (by show InC s.1.length c;rw[hl];exact c1)]
 rfl
def rdB (s:aj_) (n:bw_) (b:Bool):Bool:=b||(ke_ s.1 n.2.2.2.1&&s.2.2.contains n.2.1)
def rdN (g:ac_) (s:aj_) (d:List Bool):List Bool:=List.zipWith (rdB s) g.2.2.2.1 d
theorem ry_ {g:ac_} {s:aj_} {d:List Bool} (hd:d.length=g.2.2.2.1.length):(rdN g s d).length=g.2.2.2.1.length:=by
 unfold rdN
 rw[List.length_zipWith]
 omega
theorem rdN_get {g:ac_} {s:aj_} {d:List Bool} {i:Nat} {n:bw_} {b:Bool} (hn:g.2.2.2.1[i]?=some n) (hb:d[i]?=some b):(rdN g s d)[i]?=some (rdB s n b):=by
 unfold rdN
 rw[List.getElem?_zipWith,hn,hb]
theorem yj_ {g:ac_} (hg:SmG g) (ok:OkG g) {s:aj_} (hv:VS g.1 s) {d:List Bool} (hd:d.length=g.2.2.2.1.length) (m:List aa_) :
  ∃ z,ae_ (pbgB g s) (0,(d,(m,())))=some z∧z.1=rdN g s d:=by
 have h0:=ok.room
 have okr:=ep_ h0
 obtain⟨m1,m2,m3⟩:=tv_ hg.room okr hv
 have hn:=hg.nt
 have hrl:=ry_ (s:=s) hd
 refine jk_ (λ(i:Nat) (z:Int×(List Bool×(List aa_×Unit)))=>∃ d' m',z=((i:Int),(d',(m',())))∧∀ j,d'[j]?=if j<i then (rdN g s d)[j]? else d[j]?) _ g.2.2.2.1.length 0 _ ⟨d,m,rfl,λj=>by simp⟩ (λj z h1 h2 hz=>.inl ?_) (λz hz => ?_)
 ·obtain⟨d',m',rfl,hd'⟩:=hz
  obtain⟨x,hx⟩:=bl_ (l:=g.2.2.2.1) (i:=j) (by omega)
  obtain⟨y,hy⟩:=bl_ (l:=d) (i:=j) (by omega)
  have hy':d'[j]?=some y:=by rw[hd' j,if_neg (by omega)];exact hy
  have hr:=rdN_get (s:=s) hx hy
  have hH:=ab4 hg.room h0 hv (ok.nt j x hx).2
  have keep:rdB s x y=y→∀ k,d'[k]?=if k<j+1 then (rdN g s d)[k]? else d[k]?:=λe k=>by
   rw[hd' k]
   by_cases hk:k=j
   ·subst hk
    rw[if_neg (by omega),if_pos (by omega),hr,hy,e]
   ·by_cases hk2:k<j
    ·rw[if_pos hk2,if_pos (by omega)]
    ·rw[if_neg hk2,if_neg (by omega)]
  have turn:rdB s x y=true→∀ k,(d'.set ((j:Int)).toNat true)[k]?=if k<j+1 then (rdN g s d)[k]? else d[k]?:=λe k=>by
   rw[b9_,c6_]
   by_cases hk:j=k
   ·subst hk
    rw[if_pos rfl,if_pos (al_ hy'),if_pos (by omega),hr,e]
   ·rw[if_neg hk,hd' k]
    by_cases hk2:k<j
    ·rw[if_pos hk2,if_pos (by omega)]
    ·rw[if_neg hk2,if_neg (by omega)]
  unfold pbgB
  simp only[dlt (al_ hx),a5_,af_ hx,af_ hy',a0_,hH,lw_ m3,bn_ (show Sm j by omega)]
  unfold rdB at keep turn
  cases hb:ke_ s.1 x.2.2.2.1 with
  | false=>exact⟨_,rfl,_,_,rfl,keep (by rw[hb];simp)⟩
  | true =>
  cases hc:s.2.2.contains x.2.1 with
  | false =>
   refine⟨_,?_,d',m',rfl,keep (by rw[hc];simp)⟩
   simp only[a5_,a4_,a0_]
  | true =>
  cases y with
  | true=>exact⟨_,rfl,_,_,rfl,keep rfl⟩
  | false=>exact⟨_,rfl,_,_,rfl,turn (by rw[hb,hc];rfl)⟩
 ·obtain⟨d',m',rfl,hd'⟩:=hz
  rw[a7_]
  unfold pbgB
  simp only[dnl,a4_]
  refine⟨_,rfl,f9_ λk => ?_⟩
  rw[hd' k]
  split
  ·rfl
  ·rw[c8_ (by omega),c8_ (by omega)]
def zk_ (g:ac_) (d:List Bool) (lock:Int):List ab_:=(g.2.2.2.1.zip d).filterMap λx=>cond (x.1.2.2.1==lock&&x.2) (some x.1.2.2.2.2) none
theorem xc_ {g:ac_} {d:List Bool} {lock:Int} {c:ab_} (h:c ∈ zk_ g d lock):∃ (i:Nat) (n:bw_),g.2.2.2.1[i]?=some n∧n.2.2.1=lock∧n.2.2.2.2=c:=by
 unfold zk_ at h
 obtain⟨x,hx,he⟩:=List.mem_filterMap.1 h
 obtain⟨i,hi⟩:=f4_ (List.of_mem_zip hx).1
 cases hq:(x.1.2.2.1==lock&&x.2) with
 | false=>rw[hq] at he;cases he
 | true =>
  rw[hq] at he
  rw[a1_,l2_] at hq
  exact⟨i,x.1,hi,hq.1,a8_ he⟩
theorem xd_ {g:ac_} (hg:SmG g) (d:List Bool) (lock:Int):(zk_ g d lock).length≤20:=by
 unfold zk_
 refine e7_ (m6_ ..) ?_
 rw[l1_]
 have:=hg.nt
 omega
theorem nt_clue {g:ac_} (ok:OkG g) {i:Nat} {n:bw_} (hn:g.2.2.2.1[i]?=some n) {l:aa_} (h0:0≤n.2.2.1) (hl:at? g.2.1 n.2.2.1=some l):cn_ l n.2.2.2.2=true:=by
 have h:=(ok.nt i n hn).1
 unfold bu0 at h
 simp only[a1_] at h
 have h5:=h.2.2.2.2
 rw[c3_ (by omega),hl] at h5
 simp only[a4_] at h5
 cases hk:at? g.2.2.1 n.2.2.1 with
 | none=>rw[hk] at h5;cases h5
 | some k =>
  rw[hk] at h5
  have h5:clOk l n.2.2.2.2 k=true:=h5
  unfold clOk at h5
  rw[a1_] at h5
  exact h5.1
noncomputable def rdC (g:ac_) (d:List Bool) (lock:Int) (l:aa_):Int:=((rdg l ((zk_ g d lock))).length:Int)
theorem tb_ {g:ac_} (hg:SmG g) (ok:OkG g) (d:List Bool) {lock:Int} (h0:0≤lock) {l:aa_} (hl:at? g.2.1 lock=some l):ax_ l (zk_ g d lock)=some (rdC g d lock l,(0,())):=by
 obtain⟨_,_,l1⟩:=fl_ hl
 refine dr_ (ok.lk _ l l1).1 (xd_ hg d lock) λc hc => ?_
 obtain⟨i,n,hn,rfl,rfl⟩:=xc_ hc
 exact nt_clue ok hn h0 hl
noncomputable def opn (g:ac_) (d:List Bool) (lock:Int):Bool:=cond (decide (lock<0)) true ((at? g.2.1 lock).elim false λl=>decide (rdC g d lock l≤g.2.2.2.2))
noncomputable def abB (a0:ac_) (v1:List Bool) (lock:Int):(List Int×(List ab_×(Int×Unit)))→Option ((List Int×(List ab_×(Int×Unit)))⊕(List Int×(List ab_×Unit))) :=
 (λ(v4:((List Int)×((List ab_)×(Int×Unit)))) =>
 (cond (decide (v4.2.2.1<(a0.2.2.2.1.length:Int)))
 ((((at? a0.2.2.2.1 v4.2.2.1).bind λv5 =>
 (((cond (v5.2.2.1==lock)
 ((at? v1 v4.2.2.1).bind λv6 =>
 ((at? v1 v4.2.2.1).bind λv7 =>
 (some (v7,()))))
 (some (false,())))).bind λv8 =>
 (cond v8.1
 ((push? (α:=Int) v4.1 [v4.2.2.1]).bind λv9 =>
 ((push? (α:=ab_) v4.2.1 [v5.2.2.2.2]).bind λv10 =>
 (some (v9,(v10,())))))
 (some (v4.1,(v4.2.1,()))))))).bind λv11 =>
 (some (inl (v11.1,(v11.2.1,((w64 (v4.2.2.1+1)),()))))))
 (some (inr (v4.1,(v4.2.1,()))))))
theorem ae7 {g:ac_} (hg:SmG g) {d:List Bool} (hd:d.length=g.2.2.2.1.length) (lock:Int):∃ q,ae_ (abB g d lock) ([],([],(0,())))=some (q,(zk_ g d lock,())):=by
 have hn:=hg.nt
 suffices hk:∃ r,ae_ (abB g d lock) ([],([],(0,())))=some r∧∃ q,r=(q,(zk_ g d lock,())) by
  obtain⟨z,ez,q,rfl⟩:=hk
  exact⟨q,ez⟩
 refine jk_ (λ(i:Nat) (z:List Int×(List ab_×(Int×Unit)))=>∃ q,z=(q,(((g.2.2.2.1.zip d).take i).filterMap (λx=>cond (x.1.2.2.1==lock&&x.2) (some x.1.2.2.2.2) none),((i:Int),())))∧q.length≤i) (λw=>∃ q,w=(q,(zk_ g d lock,()))) g.2.2.2.1.length 0 ([],([],(0,()))) ⟨[],rfl,c1_ _⟩ (λj z h1 h2 hz=>.inl ?_) (λz hz => ?_)
 ·obtain⟨q,rfl,hq⟩:=hz
  obtain⟨x,hx⟩:=bl_ (l:=g.2.2.2.1) (i:=j) (by omega)
  obtain⟨y,hy⟩:=bl_ (l:=d) (i:=j) (by omega)
  have hzip:(g.2.2.2.1.zip d)[j]?=some (x,y):=by rw[h9_];exact⟨hx,hy⟩
  have hlen:(((g.2.2.2.1.zip d).take j).filterMap (λx=>cond (x.1.2.2.1==lock&&x.2) (some x.1.2.2.2.2) none)).length≤j:=by
   refine e7_ (m6_ ..) ?_
   rw[c0_];omega
  have hstep:((g.2.2.2.1.zip d).take (j+1)).filterMap (λx=>cond (x.1.2.2.1==lock&&x.2) (some x.1.2.2.2.2) none)=((g.2.2.2.1.zip d).take j).filterMap (λx=>cond (x.1.2.2.1==lock&&x.2) (some x.1.2.2.2.2) none)++cond (x.2.2.1==lock&&y) [x.2.2.2.2] []:=by
   rw[f3_,hzip,l7_]
   cases hc:(x.2.2.1==lock&&y) with
   | false=>simp[hc]
   | true=>simp[hc]
  unfold abB
  simp only[dlt (al_ hx),a5_,af_ hx,af_ hy,a0_,bn_ (show Sm j by omega)]
  cases h1:x.2.2.1==lock with
  | false =>
   refine⟨_,rfl,q,?_,by omega⟩
   rw[hstep,h1,f6_,a4_,d5_]
  | true =>
  cases y with
  | false =>
   refine⟨_,rfl,q,?_,by omega⟩
   rw[hstep,l5_,a4_,d5_]
  | true =>
   simp only[a5_,a0_,cp_ (show Sm q.length by show _≤1000000000;omega),cp_ (show Sm _ from e7_ hlen (by omega))]
   refine⟨_,rfl,q++[(j:Int)],?_,by rw[c5_,g5_];omega⟩
   rw[hstep,h1,h8_,a5_]
 ·obtain⟨q,rfl,hq⟩:=hz
  rw[a7_]
  unfold abB
  simp only[dnl,a4_]
  refine⟨_,rfl,q,?_⟩
  unfold zk_
  rw[d8_ (by rw[l1_];omega)]
end
section
set_option maxRecDepth 100000
noncomputable def opX (a0:ac_) (v1:List Bool) (a2:ay_):Option (Bool×(List aa_×Unit)) :=
 (cond (a2.2.1==4)
 ((ch_ a2.2.2 0 (w64 ((a0.1.2.2.2.2.1.length:Int) - 1))).bind λv2 =>
 (cond v2.1
 ((at? a0.1.2.2.2.2.1 a2.2.2).bind λv3 =>
 (cond (decide (v3.2.2.1<0))
 (some ((!true),([],())))
 ((((ae_ (abB a0 v1 v3.2.2.1) ([],([],(0,())))).bind λv12 =>
 ((at? a0.2.1 v3.2.2.1).bind λv13 =>
 ((ax_ v13 v12.2.1).bind λv14 =>
 (((cond (v14.2.1==0)
 (some ((decide (v14.1≤a0.2.2.2.2)),()))
 (some (false,())))).bind λv15 =>
 (cond v15.1
 (some ((pi_ (pi_ [] v3.2.2.1 2) v3.2.2.1 1),()))
 (some ((pi_ [] v3.2.2.1 2),())))))))).bind λv16 =>
 (some ((!((sj_ 0 v16.1 v3.2.2.1)==1)),(v16.1,()))))))
 (some (false,([],())))))
 (some (false,([],()))))
noncomputable def pstX (a0:ac_) (a1:ag_) (a2:ay_):Option (ag_×(Int×Unit)) :=
 ((cj_ a0 a1).bind λv0 =>
 (cond (v0.1 != 0)
 (cond (v0.1 != 0)
 (some ((([],([],[])),[]),(v0.1,())))
 none)
 ((push? (α:=Bool) [] a1.2).bind λv1 =>
 ((((opX a0 v1 a2).bind λv17 =>
 (cond v17.1
 (some ((!false),(v1,(v17.2.1,((a1.1.1,(a1.1.2.1,(a1.1.2.2,()))),())))))
 ((ij_ a0.1 a1.1 a2).bind λv18 =>
 (cond (v18.2.1 != 0)
 (some ((!false),(v1,(v17.2.1,((a1.1.1,(a1.1.2.1,(a1.1.2.2,()))),())))))
 ((ae_ (ρ:=((List Bool)×((List aa_)×Unit))) (pbgB a0 v18.1) (0,(v1,(v17.2.1,())))).bind λv29 =>
 (some ((!true),(v29.1,(v29.2.1,((v18.1.1,(v18.1.2.1,(v18.1.2.2,()))),()))))))))))).bind λv30 =>
 (cond v30.1
 (some ((([],([],[])),[]),(29,())))
 ((push? (α:=Int) [] v30.2.2.2.1.1).bind λv31 =>
 ((push? (α:=Int) [] v30.2.2.2.1.2.1).bind λv32 =>
 ((push? (α:=Int) [] v30.2.2.2.1.2.2.1).bind λv33 =>
 ((push? (α:=Bool) [] v30.2.1).bind λv34 =>
 (some (((v31,(v32,v33)),v34),(0,()))))))))))))
theorem pstX_eq:ki_=pstX:=by kernel_rfl
noncomputable def okM (g:ac_) (d:List Bool) (m:ay_):Bool:=cond (m.2.1==4) ((at? g.1.2.2.2.2.1 m.2.2).elim true λa=>opn g d a.2.2.1) true
noncomputable def stepP (g:ac_) (p:ag_) (m:ay_):Option ag_ :=
 cond (okM g p.2 m&&lgl g.1 p.1 m) ((an0 g.1 p.1 m).map λs=>(s,rdN g s p.2)) none
abbrev eP:ag_:=(eS,[])
theorem ug_ {g:ac_} (hg:SmG g) (p:ag_):cj_ g p=some (cond (cy_ g != 0) (cy_ g) (cond (hp_ g.1 p.1 != 0) (hp_ g.1 p.1) (cond ((p.2.length:Int) != (g.2.2.2.1.length:Int)) 28 0)),()):=by
 unfold cj_
 rw[uh_ hg,a0_]
 cases cy_ g != 0 with
 | true=>rfl
 | false =>
 simp only[a4_]
 rw[ib_ hg.room,a0_]
 cases hp_ g.1 p.1 != 0 with
 | true=>rfl
 | false =>
 simp only[a4_]
 cases (p.2.length:Int) != (g.2.2.2.1.length:Int)<;>rfl
structure VP (g:ac_) (p:ag_):Prop where
 st:VS g.1 p.1
 rd:p.2.length=g.2.2.2.1.length
theorem nl_ {g:ac_} (hg:SmG g) (h0:cy_ g=0) {p:ag_} (hv:VP g p):cj_ g p=some (0,()):=by
 rw[ug_ hg,h0,jb_ (dy_ h0).room hv.st,hv.rd,show ((g.2.2.2.1.length:Int) != (g.2.2.2.1.length:Int))=false by simp]
 rfl
theorem opX_eq {g:ac_} (hg:SmG g) (ok:OkG g) {d:List Bool} (hd:d.length=g.2.2.2.1.length) (m:ay_):∃ x,opX g d m=some (!(okM g d m),(x,())):=by
 have hac:=hg.ac
 unfold opX okM
 cases hk:m.2.1==4 with
 | false=>exact⟨[],rfl⟩
 | true =>
 simp only[a5_,id_,a0_]
 rcases dt_ (l:=g.1.2.2.2.2.1) (by show _≤1000000000;omega) m.2.2 with ⟨f1,f2⟩ | ⟨j,a,hj,ha,f1,f2⟩
 ·rw[f1,f2];exact⟨[],rfl⟩
 ·rw[f1,f2]
  simp only[a5_,a0_,Option.elim]
  unfold opn
  cases hz:decide (a.2.2.1<0) with
  | true=>exact⟨[],rfl⟩
  | false =>
  have hz:=c9_ hz
  have hlt:=ok.ac j a ha
  obtain⟨l,hl⟩:=bl_ (l:=g.2.1) (i:=a.2.2.1.toNat) (by omega)
  have hl2:at? g.2.1 a.2.2.1=some l:=by rw[show a.2.2.1=((a.2.2.1.toNat:Nat):Int) by omega];exact af_ hl
  obtain⟨q,e⟩:=ae7 hg hd a.2.2.1
  rw[e]
  simp only[a4_,a0_,hl2,tb_ hg ok d (by omega) hl2,Option.elim]
  simp only[show ((0:Int)==0)=true from rfl,a5_,a0_]
  cases decide (rdC g d a.2.2.1 l≤g.2.2.2.2) with
  | true=>exact⟨_,by simp[pi_,sj_,mget?];rfl⟩
  | false=>exact⟨_,by simp[pi_,sj_,mget?];rfl⟩
theorem av7 {g:ac_} (hg:SmG g) (h0:cy_ g=0) {p:ag_} (hv:VP g p) (m:ay_) :
  ki_ g p m=some ((stepP g p m).elim (eP,(29,())) λq=>(q,(0,()))):=by
 have ok:=dy_ h0
 have hn:=hg.nt
 have hrd:=hv.rd
 rw[pstX_eq]
 unfold pstX
 rw[nl_ hg h0 hv,a0_]
 simp only[show ((0:Int) != 0)=false from rfl,a4_]
 rw[aq_ (show Sm p.2.length by show _≤1000000000;omega),a0_]
 obtain⟨x,ex⟩:=opX_eq hg ok hv.rd m
 rw[ex,a0_]
 unfold stepP
 cases okM g p.2 m with
 | false=>rfl
 | true =>
 simp only[e1_,a4_,d3_]
 rw[at8 hg.room ok.room hv.st m,a0_]
 cases hl:lgl g.1 p.1 m with
 | false=>rfl
 | true =>
 simp only[a5_]
 cases hs:an0 g.1 p.1 m with
 | none=>rfl
 | some s =>
 have hv2:=af9 hg.room ok.room hv.st hl hs
 obtain⟨m1,m2,m3⟩:=tv_ hg.room (ep_ ok.room) hv2
 have hrl:=ry_ (s:=s) hv.rd
 obtain⟨z,ez,hz⟩:=yj_ hg ok hv2 hv.rd x
 simp only[Option.elim,show ((0:Int) != 0)=false from rfl,a4_]
 rw[ez,a0_,a0_]
 simp only[e1_,a4_]
 rw[aq_ m1,a0_,aq_ m2,a0_,aq_ m3,a0_,hz,aq_ (show Sm (rdN g s p.2).length by show _≤1000000000;omega),a0_]
 rfl
theorem bj5 {g:ac_} (hg:SmG g) (h0:cy_ g=0) {p q:ag_} (hv:VP g p) {m:ay_} (h:stepP g p m=some q):VP g q:=by
 have ok:=dy_ h0
 unfold stepP at h
 cases hc:(okM g p.2 m&&lgl g.1 p.1 m) with
 | false=>rw[hc] at h;cases h
 | true =>
 rw[hc,a5_] at h
 obtain⟨s,hs,rfl⟩:=f5_.1 h
 rw[a1_] at hc
 exact⟨af9 hg.room ok.room hv.st hc.2 hs,ry_ hv.rd⟩
end
end Go.Proofs.YtlbfbdbagohinaaGreatDoor.Rx
namespace Go.Proofs.YtlbfbdbagohinaaGreatDoor.Rx
open Go Pad Rex Sum
section
set_option maxRecDepth 10000

end
section
set_option maxRecDepth 10000

end
section
set_option maxRecDepth 10000
theorem run_cnt {σ ρ:Type} (n:Nat) (S:Nat→σ) {body:σ→Option (σ⊕ρ)} {r:ρ} (h:∀ i,i<n→body (S i)=some (.inl (S (i+1)))) (e:body (S n)=some (.inr r)):ae_ body (S 0)=some r:=by
 have gen:∀ (k i:Nat),i+k=n→ae_ body (S i)=some r:=by
  intro k
  induction k with
  | zero =>
   intro i hi
   obtain rfl:i=n:=by omega
   exact fr_ e
  | succ k ih =>
   intro i hi
   exact ia_ (h i (by omega)) (ih (i+1) (by omega))
 exact gen n 0 (by omega)
theorem pa_ {σ ρ υ:Type} (n:Nat) (S:Nat→σ) {body:σ→Option (σ⊕ρ)} {r:ρ} {s0:σ} {K:ρ→Option υ} {x:Option υ} (h0:S 0=s0) (h:∀ i,i<n→body (S i)=some (.inl (S (i+1)))) (e:body (S n)=some (.inr r)) (hk:K r=x):(ae_ body s0).bind K=x:=by
 rw[← h0,run_cnt n S h e,a0_,hk]
section
variable (q:ay_→Bool)
end
end
section
set_option maxRecDepth 10000
def bh5 (r:ad_):aj_:=(r.2.1.map (·.2.2.2),(r.2.2.1.map (·.2.1),List.replicate r.2.2.2.2.2.2.1.toNat 0))
theorem bf0 {r:ad_} (h:SmR r) (h0:ei_ r=0):VS r (bh5 r):=by
 have ok:=ep_ h0
 have hpy:=cl_.1 ok.py
 have hth:=h.th
 refine⟨d6_ _,d6_ _,?_,λi n hn => ?_,λi p hp => ?_,λi p hp => ?_⟩
 ·show ((List.replicate _ (0:Int)).length:Int)=_
  rw[h7_]
  omega
 ·have hn:(r.2.1.map (·.2.2.2))[i]?=some n:=hn
  rw[c4_] at hn
  obtain⟨x,hx,rfl⟩:=f5_.1 hn
  have hk:=ok.th i x hx
  unfold bi4 at hk
  simp only[a1_] at hk
  have hi:=al_ hx
  unfold qv_
  rw[af_ hx,a1_]
  exact⟨cl_.2 (by rw[ht_ (by omega) (by omega)];omega),hk.2.2.2⟩
 ·have hp:(r.2.2.1.map (·.2.1))[i]?=some p:=hp
  rw[c4_] at hp
  obtain⟨x,hx,rfl⟩:=f5_.1 hp
  have hk:=(ok.pr i x hx).1
  unfold prOk at hk
  simp only[a1_,c2_] at hk
  rw[inR_eq h ok.py,c2_,c2_]
  rcases hk.2 with hk | hk
  ·exact .inl hk
  ·exact .inr (.inl hk)
 ·have hp:(List.replicate r.2.2.2.2.2.2.1.toNat (0:Int))[i]?=some p:=hp
  rw[m7_] at hp
  split at hp
  ·obtain rfl:=a8_ hp
   have hpl:=h.pl
   have hne:r.1.length≠0:=λe=>ok.ne (i8_.1 e)
   unfold un_
   exact cl_.2 (by rw[ht_ (by omega) (by omega)];omega)
  ·cases hp
def begS (r:ad_):Option aj_:=(stl r 101 (bh5 r).1).map λth=>(th,(bh5 r).2)
theorem begS_VS {r:ad_} (h:SmR r) (h0:ei_ r=0) {t:aj_} (ht:begS r=some t):VS r t:=by
 have ok:=ep_ h0
 have hv:=bf0 h h0
 unfold begS at ht
 obtain⟨th,hs,rfl⟩:=f5_.1 ht
 obtain⟨z,ez,hz⟩:=ks_ h ok (pr:=(bh5 r).2.1) (py:=(bh5 r).2.2) 101 0 (bh5 r).1 rfl ⟨hv.l1,hv.th⟩
 rw[hs] at hz
 exact⟨hz.2.1,hv.l2,hv.l3,hz.2.2,hv.pr,hv.py⟩
def al6 (r:ad_):aj_×(Int×Unit):=cond (ei_ r != 0) (eS,(ei_ r,())) ((begS r).elim (eS,(27,())) λs=>(s,(0,())))
theorem ab5 {r:ad_} (h:SmR r):hd_ r=some (al6 r):=by
 rw[bl1]
 unfold rbegX al6
 rw[pf_ h,a0_]
 cases hr:ei_ r != 0 with
 | true=>rfl
 | false =>
 have h0:ei_ r=0:=by simpa using hr
 have ok:=ep_ h0
 have hpy:=cl_.1 ok.py
 have hv:=bf0 h h0
 obtain⟨m1,m2,m3⟩:=tv_ h ok hv
 simp only[a4_]
 have hplayers:mk? (α:=Int) r.2.2.2.2.2.2.1 0=some (List.replicate r.2.2.2.2.2.2.1.toNat 0):=ne_ (by omega) (by omega)
 rw[hplayers,a0_,bi3 h,a0_,bl7 h,a0_]
 simp only
 refine e2_ (congrArg (λo=>Option.bind o _) (aq_ m1)) ?_
 rw[a0_]
 refine e2_ (congrArg (λo=>Option.bind o _) (aq_ m2)) ?_
 rw[a0_]
 refine e2_ (congrArg (λo=>Option.bind o _) (aq_ m3)) ?_
 rw[a0_]
 obtain⟨z,ez,hz⟩:=ks_ h ok (pr:=(bh5 r).2.1) (py:=(bh5 r).2.2) 101 0 (bh5 r).1 rfl ⟨hv.l1,hv.th⟩
 refine e2_ (congrArg (λo=>Option.bind (Option.bind o _) _) ez) ?_
 unfold begS
 cases hs:stl r 101 (bh5 r).1 with
 | none =>
  rw[hs] at hz
  obtain⟨w,rfl⟩:=hz
  rfl
 | some th' =>
  rw[hs] at hz
  obtain⟨rfl,_⟩:=hz
  rfl
end
section
set_option maxRecDepth 10000
theorem fk_ {σ ρ υ:Type} (n:Nat) (Inv:Nat→σ→Prop) {body:σ→Option (σ⊕ρ)} {z0:σ} {K:ρ→Option υ} {x:Option υ} (h0:Inv 0 z0)
  (hs:∀ j z,j<n→Inv j z→∃ z',body z=some (.inl z')∧Inv (j+1) z') (he:∀ z,Inv n z→∃ r,body z=some (.inr r)∧K r=x):(ae_ body z0).bind K=x:=by
 have gen:∀ (k i:Nat) (z:σ),i+k=n→Inv i z→∃ r,ae_ body z=some r∧K r=x:=by
  intro k
  induction k with
  | zero =>
   intro i z hi hz
   obtain rfl:i=n:=by omega
   obtain⟨r,e,hr⟩:=he z hz
   exact⟨r,fr_ e,hr⟩
  | succ k ih =>
   intro i z hi hz
   obtain⟨z',e,hz'⟩:=hs i z (by omega) hz
   obtain⟨r,er,hr⟩:=ih (i+1) z' (by omega) hz'
   exact⟨r,ia_ e er,hr⟩
 obtain⟨r,e,hr⟩:=gen n 0 z0 (by omega) h0
 rw[e,a0_]
 exact hr
theorem rx_ {s:aj_} (m1:Sm s.1.length) (m2:Sm s.2.1.length) (m3:Sm s.2.2.length):eu_ s=some (s,()):=by
 unfold eu_
 simp only[aq_ m1,aq_ m2,aq_ m3,a0_]
noncomputable def begP (g:ac_):ag_×(Int×Unit):=cond (cy_ g != 0) (eP,(cy_ g,())) (cond ((al6 g.1).2.1 != 0) (eP,((al6 g.1).2.1,())) (((al6 g.1).1,rdN g (al6 g.1).1 (List.replicate g.2.2.2.1.length false)),(0,())))
theorem be9 {r:ad_} (h:SmR r) (he:(al6 r).2.1=0):VS r (al6 r).1:=by
 unfold al6 at he ⊢
 cases hr:ei_ r != 0 with
 | true =>
  rw[hr] at he
  rw[k8_] at hr
  exact absurd he hr
 | false =>
 have h0:ei_ r=0:=by simpa using hr
 rw[hr,a4_] at he
 cases hb:begS r with
 | none =>
  rw[hb] at he
  exact absurd (show (27:Int)=0 from he) (by decide)
 | some t=>exact begS_VS h h0 hb
theorem begP_VP {g:ac_} (hg:SmG g) (he:(begP g).2.1=0):cy_ g=0∧VP g (begP g).1:=by
 unfold begP at he ⊢
 cases hr:cy_ g != 0 with
 | true =>
  rw[hr] at he
  rw[k8_] at hr
  exact absurd he hr
 | false =>
 rw[hr,a4_] at he
 have h0:cy_ g=0:=by simpa using hr
 cases hb:(al6 g.1).2.1 != 0 with
 | true =>
  rw[hb] at he
  rw[k8_] at hb
  exact absurd he hb
 | false =>
 have hb:(al6 g.1).2.1=0:=by simpa using hb
 exact⟨h0,be9 hg.room hb,ry_ h7_⟩
theorem mk_nt {g:ac_} (hg:SmG g):mk? (α:=Bool) (g.2.2.2.1.length:Int) false=some (List.replicate g.2.2.2.1.length false):=by
 have:=hg.nt
 rw[ne_ (by omega) (by omega),b9_]
theorem ac6 {g:ac_} (hg:SmG g):iv_ g=some (begP g):=by
 rw[bl9]
 unfold pbegX begP
 rw[uh_ hg,a0_]
 cases hr:cy_ g != 0 with
 | true=>rfl
 | false =>
 have h0:cy_ g=0:=by simpa using hr
 have ok:=dy_ h0
 have hn:=hg.nt
 simp only[a4_]
 rw[ab5 hg.room,a0_]
 cases hb:(al6 g.1).2.1 != 0 with
 | true=>rfl
 | false =>
 have hb:(al6 g.1).2.1=0:=by simpa using hb
 have hv:=be9 hg.room hb
 obtain⟨m1,m2,m3⟩:=tv_ hg.room (ep_ ok.room) hv
 simp only[a4_]
 rw[mk_nt hg,a0_]
 obtain⟨z,ez,hz⟩:=yj_ hg ok hv (d:=List.replicate g.2.2.2.1.length false) h7_ []
 have hrl:=ry_ (g:=g) (s:=(al6 g.1).1) (d:=List.replicate g.2.2.2.1.length false) h7_
 rw[ez,a0_,aq_ m1,a0_,aq_ m2,a0_,aq_ m3,a0_,hz,aq_ (show Sm (rdN g _ _).length by show _≤1000000000;omega),a0_]
def ap6 (g:ac_) (q:List Nat):List ab_:=q.filterMap λe=>(g.2.2.2.1[e]?).map (·.2.2.2.2)
end
section
set_option maxRecDepth 10000

end
section
set_option maxRecDepth 10000
theorem VS_of {r:ad_} {s:aj_} (hk:ckS r s=0):VS r s:=by
 unfold ckS at hk
 cases hl:wi_ r s with
 | true=>rw[hl] at hk;exact absurd (show (28:Int)=0 from hk) (by decide)
 | false =>
 rw[hl,a4_] at hk
 obtain⟨l1,l2,l3⟩:=ai5 hl
 obtain⟨h1,hk⟩:=dm_ hk (gc_ (λi x=>lj_ (by decide)) _ _)
 obtain⟨h2,hk⟩:=dm_ hk (gc_ (λi x=>lj_ (by decide)) _ _)
 obtain⟨h3,_⟩:=dm_ hk (gc_ (λi x=>lj_ (by decide)) _ _)
 exact⟨l1,l2,l3,λi n hn=>gj_ (ca_ h1 hn),λi n hn=>gj_ (ca_ h2 hn),λi n hn=>gj_ (ca_ h3 hn)⟩
noncomputable def pck (g:ac_) (p:ag_):Int:=cond (hp_ g.1 p.1 != 0) (hp_ g.1 p.1) (cond ((p.2.length:Int) != (g.2.2.2.1.length:Int)) 28 0)
theorem pck_VP {g:ac_} (h0:cy_ g=0) {p:ag_} (h:pck g p=0):VP g p:=by
 have ok:=dy_ h0
 unfold pck at h
 cases hs:hp_ g.1 p.1 != 0 with
 | true =>
  rw[hs] at h
  rw[k8_] at hs
  exact absurd h hs
 | false =>
 rw[hs,a4_] at h
 cases hl:(p.2.length:Int) != (g.2.2.2.1.length:Int) with
 | true=>rw[hl] at h;exact absurd (show (28:Int)=0 from h) (by decide)
 | false =>
 have hs:hp_ g.1 p.1=0:=by simpa using hs
 unfold hp_ at hs
 rw[ok.room] at hs
 rw[n6_] at hl
 exact⟨VS_of hs,by omega⟩
end
section
set_option maxRecDepth 10000
theorem dc_ {α:Type} {l:List α} {k:Nat} {x:α} (h:l[k]?=some x):l.take (k+1)=l.take k++[x]:=by
 rw[f3_,h];rfl
theorem mx_ {σ ρ υ:Type} (n:Nat) (Inv:Nat→σ→Prop) {body:σ→Option (σ⊕ρ)} {z0:σ} {K:ρ→Option υ} {Q:υ→Prop} (h0:Inv 0 z0)
  (hs:∀ j z,j<n→Inv j z→∃ z',body z=some (.inl z')∧Inv (j+1) z') (he:∀ z,Inv n z→∃ r,body z=some (.inr r)∧∃ y,K r=some y∧Q y):∃ y,(ae_ body z0).bind K=some y∧Q y:=by
 have gen:∀ (k i:Nat) (z:σ),i+k=n→Inv i z→∃ r,ae_ body z=some r∧∃ y,K r=some y∧Q y:=by
  intro k
  induction k with
  | zero =>
   intro i z hi hz
   obtain rfl:i=n:=by omega
   obtain⟨r,e,hr⟩:=he z hz
   exact⟨r,fr_ e,hr⟩
  | succ k ih =>
   intro i z hi hz
   obtain⟨z',e,hz'⟩:=hs i z (by omega) hz
   obtain⟨r,er,hr⟩:=ih (i+1) z' (by omega) hz'
   exact⟨r,ia_ e er,hr⟩
 obtain⟨r,e,y,h1,h2⟩:=gen n 0 z0 (by omega) h0
 exact⟨y,by rw[e,a0_];exact h1,h2⟩
theorem sm {n:Nat} (h:n≤30000):Sm n:=e7_ h (by decide)
noncomputable def pk (g:ac_) (p:ag_):Int:=cond (cy_ g != 0) (cy_ g) (pck g p)
theorem ac3 {g:ac_} (hg:SmG g) (p:ag_):cj_ g p=some (pk g p,()):=ug_ hg p
theorem pk_ok {g:ac_} {p:ag_} (h:(pk g p != 0)=false):cy_ g=0∧VP g p:=by
 have h:pk g p=0:=by simpa using h
 unfold pk at h
 cases hc:cy_ g != 0 with
 | true=>rw[hc,a5_] at h;simp[h] at hc
 | false =>
  rw[hc,a4_] at h
  have h0:cy_ g=0:=by simpa using hc
  exact⟨h0,pck_VP h0 h⟩
theorem VP_pk {g:ac_} (h0:cy_ g=0) {p:ag_} (hv:VP g p):pk g p=0:=by
 unfold pk pck
 rw[h0,jb_ (dy_ h0).room hv.st,hv.rd]
 simp
theorem ac4 {g:ac_} (hg:SmG g) (p:ag_):∃ l,he_ g p=some (l,(pk g p,())):=by
 suffices h:∃ y,he_ g p=some y∧∃ l,y=(l,(pk g p,())) by
  obtain⟨y,h,l,rfl⟩:=h
  exact⟨l,h⟩
 unfold he_
 rw[ac3 hg,a0_]
 cases hk:pk g p != 0 with
 | true=>exact⟨_,rfl,_,rfl⟩
 | false =>
 obtain⟨h0,hv⟩:=pk_ok hk
 have hz:pk g p=0:=by simpa using hk
 have ok:=dy_ h0
 have hn:=hg.nt
 have hrd:=hv.rd
 have hlk:=hg.lk
 simp only[a4_]
 rw[aq_ (sm (by omega)),a0_,hz]
 refine mx_ g.2.1.length (λi (z:(List Bool)×(Int×((List aa_)×Unit)))=>∃ l mm,z=(l,((i:Int),(mm,())))∧l.length=i) ⟨[],[],rfl,rfl⟩ (λi z hi hz => ?_) (λz hz => ?_)
 ·obtain⟨l,mm,rfl,hl⟩:=hz
  obtain⟨x,hx⟩:=bl_ hi
  simp only[dlt hi,a5_,c3_ (show ¬ (i:Int)<0 by omega),a4_]
  have fin:∀ mm':List aa_,∃ z',((((some ((mm',()):List aa_×Unit)).bind λv16=>((push? (α:=Bool) l [((sj_ 0 v16.1 (i:Int))==1)]).bind λv17=>(some (v17,(v16.1,()))))).bind λv18=>(some (inl (v18.1,((w64 ((i:Int)+1)),(v18.2.1,()))))):Option (((List Bool)×(Int×((List aa_)×Unit)))⊕((List Bool)×((List aa_)×Unit))))=some (.inl z')∧∃ l mm,z'=(l,(((i+1:Nat):Int),(mm,())))∧l.length=i+1):=λmm'=>by
   simp only[a0_,cp_ (show Sm l.length from sm (by omega)),bn_ (show Sm i from sm (by omega))]
   exact⟨_,rfl,_,_,rfl,by simp[hl]⟩
  cases hm:sj_ 0 mm (i:Int)==0 with
  | false =>
   simp only[a4_]
   exact fin mm
  | true =>
   simp only[a5_]
   obtain⟨q,hq⟩:=ae7 hg hv.rd (i:Int)
   have hq':=hq
   unfold abB at hq'
   rw[hq']
   simp only[a0_,af_ hx]
   rw[tb_ hg ok p.2 (by omega) (af_ hx),a0_]
   simp only[c7_,a5_,a0_]
   cases decide (rdC g p.2 (i:Int) x≤g.2.2.2.2) with
   | true=>simp only[a5_];exact fin _
   | false=>simp only[a4_];exact fin _
 ·obtain⟨l,mm,rfl,hl⟩:=hz
  exact⟨_,by simp only[dnl,a4_];rfl,_,rfl,_,rfl⟩
end
end Go.Proofs.YtlbfbdbagohinaaGreatDoor.Rx
