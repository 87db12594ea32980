/- A part of the proof: what the functions of the program compute, shown over the model. -/
import Derived.KernelRfl
import Derived.Test.YtlbfbdbagohinaaGreatDoorPart1
import Derived.Test.YtlbfbdbagohinaaGreatDoorPart3
set_option linter.unusedSectionVars false
set_option linter.unusedVariables false
set_option linter.unusedSimpArgs false
namespace Go.Proofs.YtlbfbdbagohinaaGreatDoor.Pad
open Go
section
theorem AllP.v {l:List Nat} {sps:List Sp} {f:Fr} {vals:Nat→Value} {S':PH} (h:AllP l (λj=>∀ t,sps[j]?=some t→(∀ d,t.dst=some d→f d=vals j)∧t.fact (t.deps.map vals) S')) (i:Nat) {a d:Nat} {t:Sp} {x:Value}
  (e:(l[i]?,sps[a]?,t.dst,t.fact (t.deps.map vals) S')=(some a,some t,some d,vals a=x)):f d=x :=
 h.u i (i4_ e).1 (i4_ (i4_ e).2).1 (i4_ (i4_ e).2).2
section
variable {P:Program} {n:Nat} {ro:Option Nat} {ops:Array Oper} {sps:List Sp} {tks:List Tok} {f0:Fr} {S:PH} {i:Nat} {s:Sp}
end
section
variable {P:Program} {n:Nat} {ro:Option Nat} {f:Fr} {w:World} {K:Fr→World→Prop} {d k:Nat} {ty:TypeId} {pos:String} {af:Array Edge} {gd:Option (Nat×Bool)} {x y:Operand} {v:Value} {T:TypeId} {S:PH}
end
end
end Go.Proofs.YtlbfbdbagohinaaGreatDoor.Pad
namespace Go.Proofs.YtlbfbdbagohinaaGreatDoor.Rx
open Go Pad Rex Go.Proofs Go.Proofs.Tryz Sum
section
set_option maxRecDepth 100000
def atD {α R:Type} (b:Bool) (l:List α) (i:Int) (K:α→Option R):Option R:=cond b ((at? l i).bind λ_=>(at? l i).bind K) ((at? l i).bind K)
noncomputable def wlE {β Y:Type} (b:Bool) (ts:List ck_) (al:List (List (List Int))) (y:List Int→β→Option (β×Unit)) (ret:β→List Int→Y) (f:β) (w:List Int):Option Y :=
 ((ad_ (ρ:=(Unit⊕Y)) (λ(v8:(Int×Unit)) =>
 (cond (decide (v8.1<(ts.length:Int)))
 ((at? ts v8.1).bind λv9 =>
 (atD b al v9.1 λv10 =>
 ((at? w v9.1).bind λv11 =>
 ((at? w v9.1).bind λv12 =>
 ((at? v10 v12).bind λv13 =>
 ((at? v13 v9.2.1).bind λv14 =>
 (atD b al v9.2.2.1 λv15 =>
 ((at? w v9.2.2.1).bind λv16 =>
 ((at? w v9.2.2.1).bind λv17 =>
 ((at? v15 v17).bind λv18 =>
 ((at? v18 v9.2.2.2).bind λv19 =>
 (cond (v14 != v19)
 (some (inr (inr (ret f w))))
 (some (inl ((w64 (v8.1+1)),())))))))))))))))
 (some (inr (inl ()))))) (0,())).bind λv20 =>
 (bl_ v20 (λv21=>((y w f).bind λv30=>(some (ret v30.1 w)))) (λv22=>(some v22))))
noncomputable def wlP {β A:Type} (b:Bool) (pk:β→List Int→A) (u1:A→β) (u2:A→List Int) (ts:List ck_) (al:List (List (List Int))) (y:List Int→β→Option (β×Unit)):Nat→(Y:Type)→(β→List Int→Y)→Int→β→List Int→Option Y
 | 0,Y,ret,i,f,w =>
  (cond (i==(w.length:Int))
  ((ad_ (ρ:=(Unit⊕Y)) (λ(v8:(Int×Unit)) =>
  (cond (decide (v8.1<(ts.length:Int)))
  ((at? ts v8.1).bind λv9=>none)
  (some (inr (inl ()))))) (0,())).bind λv20 =>
  (bl_ v20 (λv21=>none) (λv22=>(some v22))))
  (atD b al i λv31 =>
  ((ad_ (ρ:=(A⊕Y)) (λ(v32:(Int×A)) =>
  (cond (decide (v32.1<(v31.length:Int)))
  ((((at? (u2 v32.2) i).bind λv33 =>
  ((at? (u2 v32.2) i).bind λv34=>(none:Option (A⊕((Int×A)⊕(A⊕Y)))))).bind λv308 =>
  (bl_ v308 (λv309=>(some (inl ((w64 (v32.1+1)),pk (u1 v309) (u2 v309)))))
  (λv310=>(some v310)))))
  (some (inr (inl (pk (u1 v32.2) (u2 v32.2))))))) (0,pk f w)).bind λv317 =>
  (bl_ v317 (λv318=>(some (ret (u1 v318) (u2 v318)))) (λv319=>(some v319))))))
 | n+1,Y,ret,i,f,w =>
  (cond (i==(w.length:Int))
  (wlE b ts al y ret f w)
  (atD b al i λv31 =>
  ((ad_ (ρ:=(A⊕Y)) (λ(v32:(Int×A)) =>
  (cond (decide (v32.1<(v31.length:Int)))
  ((((at? (u2 v32.2) i).bind λv33 =>
  ((at? (u2 v32.2) i).bind λv34=>(wlP b pk u1 u2 ts al y n (A⊕((Int×A)⊕(A⊕Y))) (λf w=>inl (pk f w)) (w64 (i+1)) (u1 v32.2) ((u2 v32.2).set i.toNat v32.1)))).bind λv308 =>
  (bl_ v308 (λv309=>(some (inl ((w64 (v32.1+1)),pk (u1 v309) (u2 v309)))))
  (λv310=>(some v310)))))
  (some (inr (inl (pk (u1 v32.2) (u2 v32.2))))))) (0,pk f w)).bind λv317 =>
  (bl_ v317 (λv318=>(some (ret (u1 v318) (u2 v318)))) (λv319=>(some v319))))))
noncomputable def fndB (w:List Int) (f:List (List Bool)):Option (List (List Bool)×Unit) :=
 (ad_ (ρ:=((List (List Bool))×Unit)) (λ(v23:(Int×((List (List Bool))×Unit))) =>
 (cond (decide (v23.1<(w.length:Int)))
 ((at? w v23.1).bind λv24 =>
 ((at? w v23.1).bind λv25 =>
 ((at? v23.2.1 v23.1).bind λv26 =>
 ((at? v23.2.1 v23.1).bind λv27 =>
 ((at? v27 v25).bind λv28 =>
 ((at? v27 v25).bind λv29 =>
 (some (inl ((w64 (v23.1+1)),((v23.2.1.set v23.1.toNat (v27.set v25.toNat true)),()))))))))))
 (some (inr (v23.2.1,()))))) (0,(f,())))
noncomputable def psbX {R:Type} (b:Bool) (m:Int) (ts:List ck_) (al:List (List (List Int))) (K:List (List Bool)×(List (List (List Int))×Unit)→Option R):Option R :=
 ((mk? (α:=(List Bool)) m []).bind λv0 =>
 ((ad_ (ρ:=((List (List Bool))×Unit)) (λ(v1:(Int×((List (List Bool))×Unit))) =>
 (cond (decide (v1.1<(al.length:Int)))
 (atD b al v1.1 λv2 =>
 ((mk? (α:=Bool) (v2.length:Int) false).bind λv3 =>
 ((at? v1.2.1 v1.1).bind λv4 =>
 ((at? v1.2.1 v1.1).bind λv5 =>
 (some (inl ((w64 (v1.1+1)),((v1.2.1.set v1.1.toNat v3),()))))))))
 (some (inr (v1.2.1,()))))) (0,(v0,()))).bind λv6 =>
 (((mk? (α:=Int) m 0).bind λv7 =>
 (wlP b (λf w=>(f,((),(w,())))) (λa=>a.1) (λa=>a.2.2.1) ts al fndB 9 (List (List Bool)×Unit) (λf w=>(f,())) 0 v6.1 v7)).bind λv320 =>
 ((mk? (α:=(List (List Int))) m []).bind λv321 =>
 ((ad_ (ρ:=((List (List Bool))×((List (List (List Int)))×Unit))) (λ(v322:(Int×((List (List Bool))×((List (List (List Int)))×Unit)))) =>
 (cond (decide (v322.1<(al.length:Int)))
 (atD b al v322.1 λv323 =>
 ((ad_ (ρ:=((List (List Bool))×((List (List (List Int)))×Unit))) (λ(v324:(Int×((List (List Bool))×((List (List (List Int)))×Unit)))) =>
 (cond (decide (v324.1<(v323.length:Int)))
 ((((at? v323 v324.1).bind λv325 =>
 ((at? v324.2.1 v322.1).bind λv326 =>
 ((at? v324.2.1 v322.1).bind λv327 =>
 ((at? v327 v324.1).bind λv328 =>
 ((at? v327 v324.1).bind λv329 =>
 (cond v329
 ((at? v324.2.2.1 v322.1).bind λv330 =>
 ((at? v324.2.2.1 v322.1).bind λv331 =>
 ((push? (α:=(List Int)) v331 ([v325]:List (List Int))).bind λv332 =>
 ((at? v324.2.2.1 v322.1).bind λv333 =>
 (cond ((v322.1==v322.1)&&true)
 ((at? v324.2.2.1 v322.1).bind λv334 =>
 (some ((v324.2.1.set v322.1.toNat v327),((v324.2.2.1.set v322.1.toNat v332),()))))
 none)))))
 (some ((v324.2.1.set v322.1.toNat v327),(v324.2.2.1,())))))))))).bind λv335 =>
 (some (inl ((w64 (v324.1+1)),(v335.1,(v335.2.1,()))))))
 (some (inr (v324.2.1,(v324.2.2.1,())))))) (0,(v322.2.1,(v322.2.2.1,())))).bind λv336 =>
 (some (inl ((w64 (v322.1+1)),(v336.1,(v336.2.1,())))))))
 (some (inr (v322.2.1,(v322.2.2.1,())))))) (0,(v320.1,(v321,())))).bind K)))))
noncomputable def rdL (ft:List Int→Option (Int×(Bool×(Int×Unit)))) (S:Int):Nat→Int→List Int→List (List Int)→Option ((List Int)×(((List (List Int))×Unit)×Unit))
 | 0,_,_,_=>none
 | n+1,i,c,o =>
  (cond (i==(c.length:Int))
  ((ft c).bind λv8 =>
  (cond v8.2.1
  ((push? (α:=Int) [] c).bind λv9 =>
  ((push? (α:=(List Int)) o ([v9]:List (List Int))).bind λv10 =>
  (some (c,((v10,()),())))))
  (some (c,((o,()),())))))
  ((at? c i).bind λv3 =>
  ((at? c i).bind λv4 =>
  ((ad_ (ρ:=((List Int)×(((List (List Int))×Unit)×Unit))) (λ(v5:((List Int)×(((List (List Int))×Unit)×Unit))) =>
  ((at? v5.1 i).bind λv6 =>
  ((at? v5.1 i).bind λv7 =>
  (cond (decide (v7<S))
  ((rdL ft S n (w64 (i+1)) v5.1 v5.2.1.1).bind λv67 =>
  ((at? v67.1 i).bind λv68 =>
  ((at? v67.1 i).bind λv69 =>
  ((at? v67.1 i).bind λv70 =>
  ((at? v67.1 i).bind λv71 =>
  (some (inl ((v67.1.set i.toNat (w64 (v69+1))),((v67.2.1.1,()),())))))))))
  (some (inr (v5.1,((v5.2.1.1,()),())))))))) ((c.set i.toNat 0),((o,()),()))).bind λv72 =>
  ((at? v72.1 i).bind λv73 =>
  ((at? v72.1 i).bind λv74 =>
  (some ((v72.1.set i.toNat 0),((v72.2.1.1,()),())))))))))
end
section
set_option maxRecDepth 100000
set_option maxHeartbeats 0
theorem cz_36:ks_ prog 86 ae_=some (show aa_ from (0,0)):=by kernel_rfl
theorem ce_36:Rex.elemOf prog 32=some 86:=by kernel_rfl
noncomputable def cp_36:Cpy prog:=⟨36,ae_,86,λhc hI h=>td_ func36 rfl rfl rfl ce_36 cz_36 rfl hc hI h⟩
theorem cz_37:ks_ prog 3 .int=some (show Int from 0):=by kernel_rfl
theorem ce_37:Rex.elemOf prog 38=some 3:=by kernel_rfl
noncomputable def bs2:Cpy prog:=⟨37,.int,3,λhc hI h=>td_ func37 rfl rfl rfl ce_37 cz_37 rfl hc hI h⟩
theorem cz_82:ks_ prog 4 .bool=some (show Bool from false):=by kernel_rfl
theorem ce_82:Rex.elemOf prog 48=some 4:=by kernel_rfl
noncomputable def cp_82:Cpy prog:=⟨82,.bool,4,λhc hI h=>td_ func82 rfl rfl rfl ce_82 cz_82 rfl hc hI h⟩
theorem cz_199:ks_ prog 131 ku_=some (show ck_ from (0,(0,(0,0)))):=by kernel_rfl
theorem ce_199:Rex.elemOf prog 58=some 131:=by kernel_rfl
noncomputable def cp_199:Cpy prog:=⟨199,ku_,131,λhc hI h=>td_ func199 rfl rfl rfl ce_199 cz_199 rfl hc hI h⟩
end
section
set_option maxRecDepth 100000
set_option maxHeartbeats 0
noncomputable def lq_ (a0:ag_):Option (Bool×Unit) :=
 (((cond (decide (12<(a0.1.length:Int)))
 (some (true,()))
 (cond (decide (15<(a0.2.1.length:Int)))
 (some (true,()))
 (cond (decide (14<(a0.2.2.1.length:Int)))
 (some (true,()))
 (cond (decide (20<(a0.2.2.2.1.length:Int)))
 (some (true,()))
 (cond (decide (30<(a0.2.2.2.2.1.length:Int)))
 (some (true,()))
 (cond (decide (15<(a0.2.2.2.2.2.1.length:Int)))
 (some (true,()))
 (some ((decide (20<(a0.2.2.2.2.2.2.2.length:Int))),()))))))))).bind λv0 =>
 (cond v0.1
 (some (true,()))
 ((ad_ (ρ:=(Unit⊕(Bool×Unit))) (λ(v1:(Int×Unit)) =>
 (cond (decide (v1.1<(a0.1.length:Int)))
 ((at? a0.1 v1.1).bind λv2 =>
 (cond (decide (100<(v2.length:Int)))
 (some (inr (inr (true,()))))
 (some (inl ((w64 (v1.1+1)),())))))
 (some (inr (inl ()))))) (0,())).bind λv3 =>
 (bl_ v3 (λv4=>((ad_ (ρ:=(Unit⊕(Bool×Unit))) (λ(v6:(Int×Unit)) =>
 (cond (decide (v6.1<(a0.2.1.length:Int)))
 ((at? a0.2.1 v6.1).bind λv7 =>
 (cond (decide (100<(v7.1.length:Int)))
 (some (inr (inr (true,()))))
 (some (inl ((w64 (v6.1+1)),())))))
 (some (inr (inl ()))))) (0,())).bind λv8 =>
 (bl_ v8 (λv9=>((ad_ (ρ:=(Unit⊕(Bool×Unit))) (λ(v11:(Int×Unit)) =>
 (cond (decide (v11.1<(a0.2.2.1.length:Int)))
 ((((at? a0.2.2.1 v11.1).bind λv12 =>
 (cond (decide (100<(v12.1.length:Int)))
 (some (true,()))
 ((at? a0.2.2.1 v11.1).bind λv13 =>
 (some ((decide (20<(v13.2.2.length:Int))),())))))).bind λv14 =>
 (cond v14.1
 (some (inr (inr (true,()))))
 (some (inl ((w64 (v11.1+1)),())))))
 (some (inr (inl ()))))) (0,())).bind λv15 =>
 (bl_ v15 (λv16=>((ad_ (ρ:=(Unit⊕(Bool×Unit))) (λ(v18:(Int×Unit)) =>
 (cond (decide (v18.1<(a0.2.2.2.1.length:Int)))
 ((at? a0.2.2.2.1 v18.1).bind λv19 =>
 (cond (decide (20<(v19.2.2.length:Int)))
 (some (inr (inr (true,()))))
 (some (inl ((w64 (v18.1+1)),())))))
 (some (inr (inl ()))))) (0,())).bind λv20 =>
 (bl_ v20 (λv21=>((ad_ (ρ:=(Unit⊕(Bool×Unit))) (λ(v23:(Int×Unit)) =>
 (cond (decide (v23.1<(a0.2.2.2.2.1.length:Int)))
 ((at? a0.2.2.2.2.1 v23.1).bind λv24 =>
 (((cond (decide (100<(v24.1.length:Int)))
 (some (true,()))
 (cond (decide (20<(v24.2.2.2.2.1.length:Int)))
 (some (true,()))
 (cond (decide (20<(v24.2.2.2.1.length:Int)))
 (some (true,()))
 (cond (decide (20<(v24.2.2.2.2.2.1.length:Int)))
 (some (true,()))
 (cond (decide (20<(v24.2.2.2.2.2.2.1.length:Int)))
 (some (true,()))
 (some ((decide (20<(v24.2.2.2.2.2.2.2.length:Int))),())))))))).bind λv25 =>
 (cond v25.1
 (some (inr (inr (true,()))))
 (some (inl ((w64 (v23.1+1)),()))))))
 (some (inr (inl ()))))) (0,())).bind λv26 =>
 (bl_ v26 (λv27=>((ad_ (ρ:=(Unit⊕(Bool×Unit))) (λ(v29:(Int×Unit)) =>
 (cond (decide (v29.1<(a0.2.2.2.2.2.1.length:Int)))
 ((at? a0.2.2.2.2.2.1 v29.1).bind λv30 =>
 (cond (decide (20<(v30.1.length:Int)))
 (some (inr (inr (true,()))))
 (some (inl ((w64 (v29.1+1)),())))))
 (some (inr (inl ()))))) (0,())).bind λv31 =>
 (bl_ v31 (λv32=>(some (false,())))
 (λv33=>(some v33)))))
 (λv28=>(some v28)))))
 (λv22=>(some v22)))))
 (λv17=>(some v17)))))
 (λv10=>(some v10)))))
 (λv5=>(some v5))))))
theorem x_25:ax_ (P:=prog) (cxC [] []) (.p .z (.p (.j0 [.v 49 .bool] .z .z) (.p (.p .z (.ls [.v 3 .int] [] [] 0 .z)) (.p (.p .z (.ls [.v 4 .int] [] [] 2 .z)) (.p (.p .z (.ls [.v 5 .int] [] [] 4 (.p .z (.p (.j0 [.v 103 .bool] .z .z) .z)))) (.p (.p .z (.ls [.v 6 .int] [] [] 6 .z)) (.p (.p .z (.ls [.v 7 .int] [] [] 8 (.p .z (.p (.p .z (.j0 [.v 164 .bool] .z .z)) .z)))) (.p (.p .z (.ls [.v 9 .int] [] [] 10 .z)) .z)))))))) 25 [au_] [.bool]=λx=>lq_ x.1:=by kernel_rfl
noncomputable def c_25:Con prog:=ay_ _ _ 25 [au_] [.bool] _ x_25
noncomputable def av_ (a0:Int) (a1:Int) (a2:Int):Option (Bool×Unit) :=
 (cond (decide (a1≤a0))
 (some ((decide (a0≤a2)),()))
 (some (false,())))
theorem x_131:ax_ (P:=prog) (cxC [] []) .z 131 [.int,.int,.int] [.bool]=λx=>av_ x.1 x.2.1 x.2.2.1:=by kernel_rfl
noncomputable def bt2:Con prog:=ay_ _ _ 131 [.int,.int,.int] [.bool] _ x_131
noncomputable def bf_ (a0:Int) (a1:Int) (a2:Int):Option (Bool×Unit) :=
 (cond (decide (a1≤a0))
 (some ((decide (a0≤a2)),()))
 (some (false,())))
theorem x_121:ax_ (P:=prog) (cxC [] []) .z 121 [.int,.int,.int] [.bool]=λx=>bf_ x.1 x.2.1 x.2.2.1:=by kernel_rfl
noncomputable def bt4:Con prog:=ay_ _ _ 121 [.int,.int,.int] [.bool] _ x_121
noncomputable def db_ (a0:(List (List UInt8))) (a1:(List UInt8)):Option (Int×Unit) :=
 ((ad_ (ρ:=(Unit⊕(Int×Unit))) (λ(v0:(Int×Unit)) =>
 (cond (decide (v0.1<(a0.length:Int)))
 ((at? a0 v0.1).bind λv1 =>
 (cond (a1==v1)
 (some (inr (inr (v0.1,()))))
 (some (inl ((w64 (v0.1+1)),())))))
 (some (inr (inl ()))))) (0,())).bind λv2 =>
 (bl_ v2 (λv3=>(some ((-1),())))
 (λv4=>(some v4))))
theorem x_226:ax_ (P:=prog) (cxC [] []) (.p .z (.p (.p .z (.ls [.v 8 .int] [] [] 0 .z)) .z)) 226 [(.list .str),.str] [.int]=λx=>db_ x.1 x.2.1:=by kernel_rfl
noncomputable def c_226:Con prog:=ay_ _ _ 226 [(.list .str),.str] [.int] _ x_226
noncomputable def sk_ (a0:(List UInt8)):Option ((List UInt8)×Unit) :=
 (some (a0,()))
theorem x_123:ax_ (P:=prog) (cxC [] []) .z 123 [.str] [.str]=λx=>sk_ x.1:=by kernel_rfl
noncomputable def c_123:Con prog:=ay_ _ _ 123 [.str] [.str] _ x_123
noncomputable def sj_ (a0:jq_):Option ((List UInt8)×Unit) :=
 (some (a0.1,()))
theorem x_125:ax_ (P:=prog) (cxC [] []) .z 125 [oo_] [.str]=λx=>sj_ x.1:=by kernel_rfl
noncomputable def c_125:Con prog:=ay_ _ _ 125 [oo_] [.str] _ x_125
noncomputable def uq_ (a0:rq_):Option ((List UInt8)×Unit) :=
 (some (a0.1,()))
theorem x_127:ax_ (P:=prog) (cxC [] []) .z 127 [qo_] [.str]=λx=>uq_ x.1:=by kernel_rfl
noncomputable def c_127:Con prog:=ay_ _ _ 127 [qo_] [.str] _ x_127
noncomputable def vm_ (a0:dz_):Option ((List UInt8)×Unit) :=
 (some (a0.1,()))
theorem x_185:ax_ (P:=prog) (cxC [] []) .z 185 [me_] [.str]=λx=>vm_ x.1:=by kernel_rfl
noncomputable def c_185:Con prog:=ay_ _ _ 185 [me_] [.str] _ x_185
noncomputable def gf_ (a0:ag_) (a1:(List Int)):Option (Bool×Unit) :=
 ((ad_ (ρ:=(Unit⊕(Bool×Unit))) (λ(v0:(Int×(Int×Unit))) =>
 (cond (decide (v0.2.1<(a1.length:Int)))
 ((at? a1 v0.2.1).bind λv1 =>
 (((cond (decide (v1≤v0.1))
 (some (true,()))
 (some ((decide ((a0.2.2.1.length:Int)≤v1)),())))).bind λv2 =>
 (cond v2.1
 (some (inr (inr (false,()))))
 (some (inl (v1,((w64 (v0.2.1+1)),())))))))
 (some (inr (inl ()))))) ((-1),(0,()))).bind λv3 =>
 (bl_ v3 (λv4=>(some (true,())))
 (λv5=>(some v5))))
theorem x_186:ax_ (P:=prog) (cxC [] []) (.p .z (.p .z (.p (.p .z (.ls [.v 5 .int,.v 10 .int] [] [] 0 (.p .z (.p .z (.p (.p .z (.p (.j0 [.v 23 .bool] .z .z) .z)) .z))))) .z))) 186 [au_,(.list .int)] [.bool]=λx=>gf_ x.1 x.2.1:=by kernel_rfl
noncomputable def c_186:Con prog:=ay_ _ _ 186 [au_,(.list .int)] [.bool] _ x_186
noncomputable def eg_ (a0:(List Int)) (a1:Int):Option (Int×Unit) :=
 ((ad_ (ρ:=(Unit⊕(Int×Unit))) (λ(v0:(Int×Unit)) =>
 (cond (decide (v0.1<(a0.length:Int)))
 ((at? a0 v0.1).bind λv1 =>
 (cond (a1==v1)
 (some (inr (inr (v0.1,()))))
 (some (inl ((w64 (v0.1+1)),())))))
 (some (inr (inl ()))))) (0,())).bind λv2 =>
 (bl_ v2 (λv3=>(some ((-1),())))
 (λv4=>(some v4))))
theorem x_140:ax_ (P:=prog) (cxC [] []) (.p .z (.p (.p .z (.ls [.v 8 .int] [] [] 0 .z)) .z)) 140 [(.list .int),.int] [.int]=λx=>eg_ x.1 x.2.1:=by kernel_rfl
noncomputable def c_140:Con prog:=ay_ _ _ 140 [(.list .int),.int] [.int] _ x_140
noncomputable def dd_ (a0:Int) (a1:Int) (a2:Int):Option (Bool×Unit) :=
 (cond (decide (a1≤a0))
 (some ((decide (a0≤a2)),()))
 (some (false,())))
theorem x_77:ax_ (P:=prog) (cxC [] []) .z 77 [.int,.int,.int] [.bool]=λx=>dd_ x.1 x.2.1 x.2.2.1:=by kernel_rfl
noncomputable def c_77:Con prog:=ay_ _ _ 77 [.int,.int,.int] [.bool] _ x_77
noncomputable def ea_ (a0:(List Int)) (a1:(List Int)):Option (Int×Int×Unit) :=
 ((ad_ (ρ:=(Int×((List Int)×((List Int)×Unit)))) (λ(v0:(Int×(Int×((List Int)×((List Int)×Unit))))) =>
 (cond (decide (v0.2.1<(a0.length:Int)))
 ((at? a0 v0.2.1).bind λv1 =>
 ((((at? a1 v0.2.1).bind λv2 =>
 (cond (v1==v2)
 (some ((w64 (v0.1+1)),()))
 (some (v0.1,()))))).bind λv3 =>
 (cond (decide (v1<(10:Int)))
 ((at? v0.2.2.1 v1).bind λv4 =>
 ((at? v0.2.2.1 v1).bind λv5 =>
 (cond (decide (v1<(10:Int)))
 ((at? v0.2.2.1 v1).bind λv6 =>
 ((at? v0.2.2.1 v1).bind λv7 =>
 ((at? a1 v0.2.1).bind λv8 =>
 (cond (decide (v8<(10:Int)))
 ((at? v0.2.2.2.1 v8).bind λv9 =>
 ((at? v0.2.2.2.1 v8).bind λv10 =>
 (cond (decide (v8<(10:Int)))
 ((at? v0.2.2.2.1 v8).bind λv11 =>
 ((at? v0.2.2.2.1 v8).bind λv12 =>
 (some (inl (v3.1,((w64 (v0.2.1+1)),((v0.2.2.1.set v1.toNat (w64 (v5+1))),((v0.2.2.2.1.set v8.toNat (w64 (v10+1))),()))))))))
 none)))
 none))))
 none)))
 none)))
 (some (inr (v0.1,(v0.2.2.1,(v0.2.2.2.1,()))))))) (0,(0,([0,0,0,0,0,0,0,0,0,0],([0,0,0,0,0,0,0,0,0,0],()))))).bind λv13 =>
 ((ad_ (ρ:=(Int×Unit)) (λ(v14:(Int×(Int×Unit))) =>
 (cond (decide (v14.2.1<10))
 (cond (decide (v14.2.1<(10:Int)))
 ((at? v13.2.1 v14.2.1).bind λv15 =>
 ((at? v13.2.1 v14.2.1).bind λv16 =>
 (cond (decide (v14.2.1<(10:Int)))
 ((at? v13.2.2.1 v14.2.1).bind λv17 =>
 ((at? v13.2.2.1 v14.2.1).bind λv18 =>
 (some (inl ((w64 (v14.1+(bv8 v16 v18))),((w64 (v14.2.1+1)),()))))))
 none)))
 none)
 (some (inr (v14.1,()))))) (0,(0,()))).bind λv19 =>
 (some (v13.1,((w64 (v19.1 - v13.1)),())))))
theorem x_225:ax_ (P:=prog) (cxC [] []) (.p .z (.p .z (.p (.p .z (.lp [.v 4 .int,.v 13 .int] [.v 4 .int] [.o (.s 6) .int,.o (.s 7) .int] 0 (.p .z (.p .z (.p (.p .z (.j0 [.v 4 .int] .z .z)) .z))))) (.p (.p .z (.lp [.v 5 .int,.v 40 .int] [.v 5 .int] [] 2 .z)) .z)))) 225 [(.list .int),(.list .int)] [.int,.int]=λx=>ea_ x.1 x.2.1:=by kernel_rfl
noncomputable def c_225:Con prog:=ay_ _ _ 225 [(.list .int),(.list .int)] [.int,.int] _ x_225
noncomputable def lo_ (a0:(List UInt8)):Option (Bool×Unit) :=
 (((cond (a0==[])
 (some ((a0==[]),()))
 (cond (a0==[97,116])
 (some ((a0==[97,116]),()))
 (cond (a0==[115,116,97,116,101,115])
 (some ((a0==[115,116,97,116,101,115]),()))
 (cond (a0==[115,116,97,114,116])
 (some ((a0==[115,116,97,114,116]),()))
 (cond (a0==[103,111,110,101])
 (some ((a0==[103,111,110,101]),()))
 (cond (a0==[105,102])
 (some ((a0==[105,102]),()))
 (cond (a0==[108,111,99,107])
 (some ((a0==[108,111,99,107]),()))
 (cond (a0==[119,105,116,104])
 (some ((a0==[119,105,116,104]),()))
 (cond (a0==[115,101,116,115])
 (some ((a0==[115,101,116,115]),()))
 (cond (a0==[115,112,101,110,100,115])
 (some ((a0==[115,112,101,110,100,115]),()))
 (some ((a0==[98,114,105,110,103,115]),()))))))))))))).bind λv0 =>
 (cond v0.1
 (some (false,()))
 ((ad_ (ρ:=(Unit⊕(Bool×Unit))) (λ(v1:(Int×Unit)) =>
 (cond (decide (v1.1<(a0.length:Int)))
 ((((at? a0 v1.1).bind λv2 =>
 (cond (decide (((UInt8.toNat v2):Int)<97))
 (some (true,()))
 ((at? a0 v1.1).bind λv3 =>
 (some ((decide (122<((UInt8.toNat v3):Int))),())))))).bind λv4 =>
 (cond v4.1
 (some (inr (inr (false,()))))
 (some (inl ((w64 (v1.1+1)),())))))
 (some (inr (inl ()))))) (0,())).bind λv5 =>
 (bl_ v5 (λv6=>(some (true,())))
 (λv7=>(some v7))))))
theorem x_134:ax_ (P:=prog) (cxC [] []) (.p .z (.p (.p .z (.j0 [.v 5 .bool] .z .z)) (.p (.p .z (.ls [.v 19 .int] [] [] 1 (.p .z (.p .z (.p (.p .z (.j0 [.v 31 .bool] .z .z)) .z))))) .z))) 134 [.str] [.bool]=λx=>lo_ x.1:=by kernel_rfl
noncomputable def c_134:Con prog:=ay_ _ _ 134 [.str] [.bool] _ x_134
noncomputable def jn_ (a0:ab_):Option (Bool×Unit) :=
 (cond (a0.1==0)
 (cond (a0.2.1==0)
 (cond (a0.2.2.1==0)
 (cond (a0.2.2.2.1==0)
 (cond (a0.2.2.2.2.1==0)
 (cond ((a0.2.2.2.2.2.1.length:Int)==0)
 (some ((!a0.2.2.2.2.2.2),()))
 (some (false,())))
 (some (false,())))
 (some (false,())))
 (some (false,())))
 (some (false,())))
 (some (false,())))
theorem x_135:ax_ (P:=prog) (cxC [] []) .z 135 [af_] [.bool]=λx=>jn_ x.1:=by kernel_rfl
noncomputable def c_135:Con prog:=ay_ _ _ 135 [af_] [.bool] _ x_135
noncomputable def br_ (a0:ab_):Option (ab_×Unit) :=
 ((push? (α:=Int) [] a0.2.2.2.2.2.1).bind λv0 =>
 (some ((a0.1,(a0.2.1,(a0.2.2.1,(a0.2.2.2.1,(a0.2.2.2.2.1,(v0,a0.2.2.2.2.2.2)))))),())))
theorem x_39:ax_ (P:=prog) (cxC [] [bs2]) .z 39 [af_] [af_]=λx=>br_ x.1:=by kernel_rfl
noncomputable def c_39:Con prog:=ay_ _ _ 39 [af_] [af_] _ x_39
noncomputable def cd_ (a0:Int) (a1:Int) (a2:Int):Option (Bool×Unit) :=
 (cond (decide (a1≤a0))
 (some ((decide (a0≤a2)),()))
 (some (false,())))
theorem x_61:ax_ (P:=prog) (cxC [] []) .z 61 [.int,.int,.int] [.bool]=λx=>cd_ x.1 x.2.1 x.2.2.1:=by kernel_rfl
noncomputable def c_61:Con prog:=ay_ _ _ 61 [.int,.int,.int] [.bool] _ x_61
noncomputable def ur_  : Option (aj_×Unit) :=
 (some (([(2,4),(1,4)],(([[3,1],[1]]:List (List Int)),(([[(2,(0,(1,(4,(0,([],false))))))],[]]:List (List ab_)),[(0,(1,(1,0)))]))),()))
theorem x_49:ax_ (P:=prog) (cxC [] []) .z 49 [] [ak_]=λx=>ur_:=by kernel_rfl
noncomputable def c_49:Con prog:=ay_ _ _ 49 [] [ak_] _ x_49
noncomputable def es_ (a0:aj_) (a1:Int):Option (Bool×Unit) :=
 ((at? a0.2.2.1 a1).bind λv0 =>
 (some (((v0.length:Int)==20),())))
theorem x_96:ax_ (P:=prog) (cxC [] []) .z 96 [ak_,.int] [.bool]=λx=>es_ x.1 x.2.1:=by kernel_rfl
noncomputable def c_96:Con prog:=ay_ _ _ 96 [ak_,.int] [.bool] _ x_96
def an_148:An:=(.p .z (.p (.p .z (.lp [.r 2 .int 3,.v 8 .int] [.r 2 .int 3] [] 0 .z)) .z))
def at_148:FuncId→An:=λk=>cond (Nat.beq k 42) (.p .z (.p .z (.p (.p .z (.lp [.v 26 .int] [] [.g (.s 20) (.list .bool)] 0 .z)) (.j0 [.g (.s 20) (.list .bool)] (.p .z (.rf [3] .z (.p .z (.lp [.v 43 .int] [] [.g (.c (.s 3) 0) (.list .bool)] 4 .z)))) (.p .z (.p (.p .z (.lp [.v 67 .int] [] [.g (.s 20) (.list .bool),.g (.s 9) (.list (.list .int))] 6 (.p .z (.p .z (.p (.p .z (.p .z (.lp [.v 74 .int] [] [.g (.s 20) (.list .bool),.g (.s 9) (.list (.list .int))] 8 (.p .z (.p .z (.j0 [.g (.s 20) (.list .bool),.g (.s 9) (.list (.list .int))] .z .z)))))) .z))))) (.q [(.s 9)] .z .z))))))) (cond (Nat.beq k 144) (.p .z (.p (.p .z (.p (.p (.p .z (.ls [.v 20 .int] [] [] 0 .z)) .z) .z)) (.p (.p .z (.ls [.v 49 .int] [] [.g (.c (.y (.c (.s 4) 0) 3) 0) (.list .bool),.y (.c (.s 4) 0),.o (.s 11) .int] 2 (.p .z (.p .z (.js [.g (.c (.y (.c (.s 4) 0) 3) 0) (.list .bool),.y (.c (.s 4) 0),.o (.s 11) .int] .z .z))))) .z))) (.z))
noncomputable def cs_148:List (Con prog):=[]
noncomputable def cl_148:List (Cpy prog):=[]
noncomputable def cx_148:Cx prog:=cxI at_148 (λk=>false) (cxC cs_148 cl_148) 12
noncomputable def cw_ (a0:dh_):Option (List Int) :=
  (psbX false (a0.1.1.length:Int) a0.1.2.2.2 a0.2 λv337 =>
 ((ad_ (ρ:=((List Int)×Unit)) (λ(v338:((List Int)×(Int×Unit))) =>
 (cond (decide (v338.2.1<(v337.2.1.length:Int)))
 ((at? v337.2.1 v338.2.1).bind λv339 =>
 ((push? (α:=Int) v338.1 [(v339.length:Int)]).bind λv340 =>
 (some (inl (v340,((w64 (v338.2.1+1)),()))))))
 (some (inr (v338.1,()))))) ([],(0,()))).bind λv341 =>
 (some v341.1)))
theorem x_148:br7 cx_148 an_148 148 [(.ref gc_)] 3=λx=>cw_ x.1:=by kernel_rfl
noncomputable def ri_148:RpI prog:=mkRpI _ _ 148 [(.ref gc_)] 3 _ x_148
noncomputable def bw_ (a0:(List Int)) (a1:(List Int)):Option (Bool×Unit) :=
 (cond ((a0.length:Int) != (a1.length:Int))
 (some (false,()))
 ((ad_ (ρ:=(Unit⊕(Bool×Unit))) (λ(v0:(Int×Unit)) =>
 (cond (decide (v0.1<(a0.length:Int)))
 ((at? a0 v0.1).bind λv1 =>
 ((at? a1 v0.1).bind λv2 =>
 (cond (v1 != v2)
 (some (inr (inr (false,()))))
 (some (inl ((w64 (v0.1+1)),()))))))
 (some (inr (inl ()))))) (0,())).bind λv3 =>
 (bl_ v3 (λv4=>(some (true,())))
 (λv5=>(some v5)))))
theorem x_51:ax_ (P:=prog) (cxC [] []) (.p .z (.p .z (.p (.p .z (.ls [.v 5 .int] [] [] 0 (.p .z (.p (.p (.q [] .z .z) .z) .z)))) .z))) 51 [(.list .int),(.list .int)] [.bool]=λx=>bw_ x.1 x.2.1:=by kernel_rfl
noncomputable def c_51:Con prog:=ay_ _ _ 51 [(.list .int),(.list .int)] [.bool] _ x_51
noncomputable def bb_ (a0:Int) (a1:Int) (a2:Int):Option (Bool×Unit) :=
 (cond (decide (a1≤a0))
 (some ((decide (a0≤a2)),()))
 (some (false,())))
theorem x_203:ax_ (P:=prog) (cxC [] []) .z 203 [.int,.int,.int] [.bool]=λx=>bb_ x.1 x.2.1 x.2.2.1:=by kernel_rfl
noncomputable def c_203:Con prog:=ay_ _ _ 203 [.int,.int,.int] [.bool] _ x_203
noncomputable def cj_ (a0:Int) (a1:Int) (a2:Int):Option (Bool×Unit) :=
 (cond (decide (a1≤a0))
 (some ((decide (a0≤a2)),()))
 (some (false,())))
theorem x_158:ax_ (P:=prog) (cxC [] []) .z 158 [.int,.int,.int] [.bool]=λx=>cj_ x.1 x.2.1 x.2.2.1:=by kernel_rfl
noncomputable def at4:Con prog:=ay_ _ _ 158 [.int,.int,.int] [.bool] _ x_158
noncomputable def yl_  : Option ((List (List UInt8))×Unit) :=
 (some (([[97,116],[115,116,97,116,101,115],[115,116,97,114,116],[103,111,110,101],[105,102],[108,111,99,107],[119,105,116,104],[115,101,116,115],[115,112,101,110,100,115],[98,114,105,110,103,115]]:List (List UInt8)),()))
theorem x_229:ax_ (P:=prog) (cxC [] []) .z 229 [] [(.list .str)]=λx=>yl_:=by kernel_rfl
noncomputable def c_229:Con prog:=ay_ _ _ 229 [] [(.list .str)] _ x_229
noncomputable def ez_ (a0:(List (List UInt8))) (a1:Int):Option (Bool×Unit) :=
 ((ad_ (ρ:=(Unit⊕(Bool×Unit))) (λ(v0:(Int×Unit)) =>
 (cond (decide (v0.1<a1))
 ((at? a0 v0.1).bind λv1 =>
 ((at? a0 a1).bind λv2 =>
 (cond (v1==v2)
 (some (inr (inr (true,()))))
 (some (inl ((w64 (v0.1+1)),()))))))
 (some (inr (inl ()))))) (0,())).bind λv3 =>
 (bl_ v3 (λv4=>(some (false,())))
 (λv5=>(some v5))))
theorem x_201:ax_ (P:=prog) (cxC [] []) (.p .z (.p (.p .z (.ls [.v 5 .int] [] [] 0 (.p .z (.p (.p (.q [] .z .z) .z) .z)))) .z)) 201 [(.list .str),.int] [.bool]=λx=>ez_ x.1 x.2.1:=by kernel_rfl
noncomputable def c_201:Con prog:=ay_ _ _ 201 [(.list .str),.int] [.bool] _ x_201
noncomputable def lc_ (a0:(List Int)) (a1:Int):Option (Bool×Unit) :=
 ((ad_ (ρ:=(Unit⊕(Bool×Unit))) (λ(v0:(Int×Unit)) =>
 (cond (decide (v0.1<(a0.length:Int)))
 ((at? a0 v0.1).bind λv1 =>
 (cond (v1==a1)
 (some (inr (inr (true,()))))
 (some (inl ((w64 (v0.1+1)),())))))
 (some (inr (inl ()))))) (0,())).bind λv2 =>
 (bl_ v2 (λv3=>(some (false,())))
 (λv4=>(some v4))))
theorem x_224:ax_ (P:=prog) (cxC [] []) (.p .z (.p (.p .z (.ls [.v 5 .int] [] [] 0 .z)) .z)) 224 [(.list .int),.int] [.bool]=λx=>lc_ x.1 x.2.1:=by kernel_rfl
noncomputable def c_224:Con prog:=ay_ _ _ 224 [(.list .int),.int] [.bool] _ x_224
noncomputable def gg_ (a0:Int) (a1:Int) (a2:Int):Option (Bool×Unit) :=
 (cond (decide (a1≤a0))
 (some ((decide (a0≤a2)),()))
 (some (false,())))
theorem x_155:ax_ (P:=prog) (cxC [] []) .z 155 [.int,.int,.int] [.bool]=λx=>gg_ x.1 x.2.1 x.2.2.1:=by kernel_rfl
noncomputable def c_155:Con prog:=ay_ _ _ 155 [.int,.int,.int] [.bool] _ x_155
noncomputable def dp_ (a0:(List Int)) (a1:Int):Option (Int×Unit) :=
 ((ad_ (ρ:=(Int×Unit)) (λ(v0:(Int×(Int×Unit))) =>
 (cond (decide (v0.2.1<(a0.length:Int)))
 ((((at? a0 v0.2.1).bind λv1 =>
 (cond (v1==a1)
 (some ((w64 (v0.1+1)),()))
 (some (v0.1,()))))).bind λv2 =>
 (some (inl (v2.1,((w64 (v0.2.1+1)),())))))
 (some (inr (v0.1,()))))) (0,(0,()))).bind λv3 =>
 (some (v3.1,())))
theorem x_206:ax_ (P:=prog) (cxC [] []) (.p .z (.p .z (.p (.p .z (.lp [.v 5 .int,.v 6 .int] [.v 5 .int] [] 0 (.p .z (.j0 [.v 5 .int] .z .z)))) .z))) 206 [(.list .int),.int] [.int]=λx=>dp_ x.1 x.2.1:=by kernel_rfl
noncomputable def c_206:Con prog:=ay_ _ _ 206 [(.list .int),.int] [.int] _ x_206
noncomputable def jx_ (a0:ab_):Option (Bool×Unit) :=
 (cond (a0.1==0)
 (cond (a0.2.1==0)
 (cond (a0.2.2.1==0)
 (cond (a0.2.2.2.1==0)
 (cond (a0.2.2.2.2.1==0)
 (cond ((a0.2.2.2.2.2.1.length:Int)==0)
 (some ((!a0.2.2.2.2.2.2),()))
 (some (false,())))
 (some (false,())))
 (some (false,())))
 (some (false,())))
 (some (false,())))
 (some (false,())))
theorem x_204:ax_ (P:=prog) (cxC [] []) .z 204 [af_] [.bool]=λx=>jx_ x.1:=by kernel_rfl
noncomputable def c_204:Con prog:=ay_ _ _ 204 [af_] [.bool] _ x_204
noncomputable def gq_ (a0:ac_) (a1:ai_) (a2:Int):Option ((List Int)×Unit) :=
 ((ad_ (ρ:=((List Int)×Unit)) (λ(v0:((List Int)×(Int×Unit))) =>
 (cond (decide (v0.2.1<(a0.2.2.2.1.length:Int)))
 ((((((at? a1.2 v0.2.1).bind λv1 =>
 (cond v1
 ((at? a0.2.2.2.1 v0.2.1).bind λv2 =>
 (some ((v2.2.2.1==a2),())))
 (some (false,()))))).bind λv3 =>
 (cond v3.1
 ((push? (α:=Int) v0.1 [v0.2.1]).bind λv4 =>
 (some (v4,())))
 (some (v0.1,()))))).bind λv5 =>
 (some (inl (v5.1,((w64 (v0.2.1+1)),())))))
 (some (inr (v0.1,()))))) ([],(0,()))).bind λv6 =>
 (some (v6.1,())))
theorem x_104:ax_ (P:=prog) (cxC [] []) (.p .z (.p .z (.p (.p .z (.lp [.r 7 .int 3,.v 8 .int] [.r 7 .int 3] [] 0 (.p .z (.j0 [.r 7 .int 3] (.j0 [.v 30 .bool] .z .z) .z)))) .z))) 104 [an_,am_,.int] [(.list .int)]=λx=>gq_ x.1 x.2.1 x.2.2.1:=by kernel_rfl
noncomputable def c_104:Con prog:=ay_ _ _ 104 [an_,am_,.int] [(.list .int)] _ x_104
noncomputable def ey_ (a0:(List ab_)):Option ((List ab_)×Unit) :=
 ((ad_ (ρ:=((List ab_)×Unit)) (λ(v0:((List ab_)×(Int×Unit))) =>
 (cond (decide (v0.2.1<(a0.length:Int)))
 ((at? a0 v0.2.1).bind λv1 =>
 ((push? (α:=Int) [] v1.2.2.2.2.2.1).bind λv2 =>
 ((push? (α:=ab_) v0.1 [(v1.1,(v1.2.1,(v1.2.2.1,(v1.2.2.2.1,(v1.2.2.2.2.1,(v2,v1.2.2.2.2.2.2))))))]).bind λv3 =>
 (some (inl (v3,((w64 (v0.2.1+1)),())))))))
 (some (inr (v0.1,()))))) ([],(0,()))).bind λv4 =>
 (some (v4.1,())))
theorem x_105:ax_ (P:=prog) (cxC [] []) (.p .z (.p .z (.p (.p .z (.lp [.r 3 af_ 40,.v 4 .int] [.r 3 af_ 40] [] 0 .z)) .z))) 105 [(.list af_)] [(.list af_)]=λx=>ey_ x.1:=by kernel_rfl
noncomputable def c_105:Con prog:=ay_ _ _ 105 [(.list af_)] [(.list af_)] _ x_105
noncomputable def pz_ (a0:ad3) (a1:(List cl_)):Option (Bool×Unit) :=
 ((((ad_ (ρ:=(Unit⊕(Bool×Unit))) (λ(v0:(Int×Unit)) =>
 (cond (decide (v0.1<(a1.length:Int)))
 ((at? a1 v0.1).bind λv1 =>
 ((at? a0.2.1 v1.1).bind λv2 =>
 (cond ((v2==v1.2.1)==v1.2.2)
 (some (inr (inr ((decide (0≤v0.1)),()))))
 (some (inl ((w64 (v0.1+1)),()))))))
 (some (inr (inl ()))))) (0,())).bind λv3 =>
 (bl_ v3 (λv4=>(some ((decide (0≤(-1))),())))
 (λv5=>(some v5))))).bind λv6 =>
 (some ((!v6.1),())))
end
section
set_option maxRecDepth 100000
set_option maxHeartbeats 0
noncomputable def lp_ (a0:ac_):Option (Bool×Unit) :=
 ((((lq_ a0.1).bind λv0 =>
 (cond v0.1
 (some (true,()))
 (cond (decide (10<(a0.2.1.length:Int)))
 (some (true,()))
 (cond (decide (10<(a0.2.2.1.length:Int)))
 (some (true,()))
 (some ((decide (20<(a0.2.2.2.1.length:Int))),()))))))).bind λv1 =>
 (cond v1.1
 (some (true,()))
 ((ad_ (ρ:=(Unit⊕(Bool×Unit))) (λ(v2:(Int×Unit)) =>
 (cond (decide (v2.1<(a0.2.1.length:Int)))
 ((((at? a0.2.1 v2.1).bind λv3 =>
 (cond (decide (3<v3.1))
 ((at? a0.2.1 v2.1).bind λv4 =>
 (some ((decide (5<v4.2)),())))
 (some (false,()))))).bind λv5 =>
 (cond v5.1
 (some (inr (inr (true,()))))
 (some (inl ((w64 (v2.1+1)),())))))
 (some (inr (inl ()))))) (0,())).bind λv6 =>
 (bl_ v6 (λv7=>((ad_ (ρ:=(Unit⊕(Bool×Unit))) (λ(v9:(Int×Unit)) =>
 (cond (decide (v9.1<(a0.2.2.1.length:Int)))
 ((at? a0.2.2.1 v9.1).bind λv10 =>
 (cond (decide (10<(v10.length:Int)))
 (some (inr (inr (true,()))))
 (some (inl ((w64 (v9.1+1)),())))))
 (some (inr (inl ()))))) (0,())).bind λv11 =>
 (bl_ v11 (λv12=>((ad_ (ρ:=(Unit⊕(Bool×Unit))) (λ(v14:(Int×Unit)) =>
 (cond (decide (v14.1<(a0.2.2.2.1.length:Int)))
 ((at? a0.2.2.2.1 v14.1).bind λv15 =>
 (((cond (decide (100<(v15.1.length:Int)))
 (some (true,()))
 (cond (decide (20<(v15.2.2.2.1.length:Int)))
 (some (true,()))
 (some ((decide (10<(v15.2.2.2.2.2.2.2.2.2.1.length:Int))),()))))).bind λv16 =>
 (cond v16.1
 (some (inr (inr (true,()))))
 (some (inl ((w64 (v14.1+1)),()))))))
 (some (inr (inl ()))))) (0,())).bind λv17 =>
 (bl_ v17 (λv18=>(some (false,())))
 (λv19=>(some v19)))))
 (λv13=>(some v13)))))
 (λv8=>(some v8))))))
theorem x_6:ax_ (P:=prog) (cxC [c_25] []) (.p .z (.p (.j0 [.v 27 .bool] .z .z) (.p (.p .z (.ls [.v 3 .int] [] [] 0 (.p .z (.p (.j0 [.v 50 .bool] .z .z) .z)))) (.p (.p .z (.ls [.v 4 .int] [] [] 2 .z)) (.p (.p .z (.ls [.v 5 .int] [] [] 4 (.p .z (.p (.p .z (.j0 [.v 93 .bool] .z .z)) .z)))) .z))))) 6 [an_] [.bool]=λx=>lp_ x.1:=by kernel_rfl
noncomputable def c_6:Con prog:=ay_ _ _ 6 [an_] [.bool] _ x_6
noncomputable def ce_ (a0:aa_):Option (Int×Unit) :=
 ((((av_ a0.1 1 4).bind λv0 =>
 (cond (!v0.1)
 (some (true,()))
 ((av_ a0.2 2 10).bind λv1 =>
 (some ((!v1.1),())))))).bind λv2 =>
 (cond v2.1
 (some (10,()))
 (some (0,()))))
theorem x_74:ax_ (P:=prog) (cxC [bt2] []) (.p .z (.p (.j0 [.v 12 .bool] .z .z) .z)) 74 [ae_] [.int]=λx=>ce_ x.1:=by kernel_rfl
noncomputable def c_74:Con prog:=ay_ _ _ 74 [ae_] [.int] _ x_74
noncomputable def bg_ (a0:aa_) (a1:Int):Option (Bool×Unit) :=
 ((av_ a1 0 (w64 (a0.2 - 1))).bind λv0 =>
 (some (v0.1,())))
theorem x_175:ax_ (P:=prog) (cxC [bt2] []) .z 175 [ae_,.int] [.bool]=λx=>bg_ x.1 x.2.1:=by kernel_rfl
noncomputable def c_175:Con prog:=ay_ _ _ 175 [ae_,.int] [.bool] _ x_175
noncomputable def cm_ (a0:(List (List UInt8))) (a1:(List UInt8)):Option (Bool×Unit) :=
 ((db_ a0 a1).bind λv0 =>
 (some ((decide (0≤v0.1)),())))
theorem x_213:ax_ (P:=prog) (cxC [c_226] []) .z 213 [(.list .str),.str] [.bool]=λx=>cm_ x.1 x.2.1:=by kernel_rfl
noncomputable def c_213:Con prog:=ay_ _ _ 213 [(.list .str),.str] [.bool] _ x_213
noncomputable def ep_ (a0:ag_) (a1:Int) (a2:Int):Option (Bool×Unit) :=
 ((bf_ a1 0 (w64 ((a0.2.1.length:Int) - 1))).bind λv0 =>
 (cond v0.1
 ((at? a0.2.1 a1).bind λv1 =>
 ((bf_ a2 0 (w64 (v1.2.2.1 - 1))).bind λv2 =>
 (some (v2.1,()))))
 (some (false,()))))
theorem x_130:ax_ (P:=prog) (cxC [bt4] []) .z 130 [au_,.int,.int] [.bool]=λx=>ep_ x.1 x.2.1 x.2.2.1:=by kernel_rfl
noncomputable def bt3:Con prog:=ay_ _ _ 130 [au_,.int,.int] [.bool] _ x_130
noncomputable def ch_ (a0:(List Int)) (a1:Int):Option (Bool×Unit) :=
 ((eg_ a0 a1).bind λv0 =>
 (some ((decide (0≤v0.1)),())))
theorem x_81:ax_ (P:=prog) (cxC [c_140] []) .z 81 [(.list .int),.int] [.bool]=λx=>ch_ x.1 x.2.1:=by kernel_rfl
noncomputable def c_81:Con prog:=ay_ _ _ 81 [(.list .int),.int] [.bool] _ x_81
noncomputable def ap_ (a0:aa_) (a1:Int):Option (Bool×Unit) :=
 ((av_ a1 0 (w64 (a0.1 - 1))).bind λv0 =>
 (some (v0.1,())))
theorem x_174:ax_ (P:=prog) (cxC [bt2] []) .z 174 [ae_,.int] [.bool]=λx=>ap_ x.1 x.2.1:=by kernel_rfl
noncomputable def c_174:Con prog:=ay_ _ _ 174 [ae_,.int] [.bool] _ x_174
noncomputable def gt_ (a0:ab_) (a1:(List Int)):Option (Bool×Unit) :=
 (cond (a0.1==1)
 ((at? a1 a0.2.1).bind λv0 =>
 (some ((v0==a0.2.2.2.1),())))
 (cond (a0.1==2)
 ((sub? a1 a0.2.1 (w64 (a0.2.2.1+1))).bind λv1 =>
 ((ad_ (ρ:=(Int×Unit)) (λ(v2:(Int×(Int×Unit))) =>
 (cond (decide (v2.2.1<(v1.length:Int)))
 ((at? v1 v2.2.1).bind λv3 =>
 (some (inl ((w64 (v2.1+v3)),((w64 (v2.2.1+1)),())))))
 (some (inr (v2.1,()))))) (0,(0,()))).bind λv4 =>
 (some ((v4.1==a0.2.2.2.1),()))))
 (cond (a0.1==3)
 ((at? a1 a0.2.1).bind λv5 =>
 ((at? a1 a0.2.2.1).bind λv6 =>
 (some ((decide (v5<v6)),()))))
 (cond (a0.1==4)
 ((at? a1 a0.2.1).bind λv7 =>
 ((at? a1 a0.2.2.1).bind λv8 =>
 (some ((v7==v8),()))))
 (cond (a0.1==5)
 ((ad_ (ρ:=(Int×Unit)) (λ(v9:(Int×(Int×Unit))) =>
 (cond (decide (v9.2.1<(a1.length:Int)))
 ((((at? a1 v9.2.1).bind λv10 =>
 (cond (v10==a0.2.2.2.1)
 (some ((w64 (v9.1+1)),()))
 (some (v9.1,()))))).bind λv11 =>
 (some (inl (v11.1,((w64 (v9.2.1+1)),())))))
 (some (inr (v9.1,()))))) (0,(0,()))).bind λv12 =>
 (some ((v12.1==a0.2.2.2.2.1),())))
 (cond (a0.1==6)
 ((ea_ a1 a0.2.2.2.2.2.1).bind λv13 =>
 (cond (v13.1==a0.2.2.2.1)
 (some ((v13.2.1==a0.2.2.2.2.1),()))
 (some (false,()))))
 ((at? a1 a0.2.1).bind λv14 =>
 ((md v14 a0.2.2.2.1).bind λv15 =>
 (some ((v15==a0.2.2.2.2.1),()))))))))))
theorem x_210:ax_ (P:=prog) (cxC [c_225] []) (.p .z (.p (.p .z (.p .z (.p (.p (.q [] .z .z) .z) (.p .z (.p (.p .z (.p (.p .z (.lp [.v 5 .int,.v 35 .int] [.v 5 .int] [] 1 .z)) .z)) (.p .z (.p (.p (.q [] .z .z) .z) (.p .z (.p (.p (.q [] .z .z) .z) (.p .z (.p (.p .z (.p (.p .z (.lp [.v 8 .int,.v 77 .int] [.v 8 .int] [] 3 (.p .z (.p .z (.j0 [.v 8 .int] .z .z))))) .z)) .z))))))))))) (.p (.q [] .z .z) .z))) 210 [af_,(.list .int)] [.bool]=λx=>gt_ x.1 x.2.1:=by kernel_rfl
noncomputable def c_210:Con prog:=ay_ _ _ 210 [af_,(.list .int)] [.bool] _ x_210
noncomputable def jy_ (a0:ag_) (a1:(List cl_)):Option (Bool×Unit) :=
 (cond (decide ((a1.length:Int)≤8))
 ((((ad_ (ρ:=(Unit⊕(Bool×Unit))) (λ(v0:(Int×Unit)) =>
 (cond (decide (v0.1<(a1.length:Int)))
 ((at? a1 v0.1).bind λv1 =>
 ((((dd_ v1.1 0 (w64 ((a0.2.1.length:Int) - 1))).bind λv2 =>
 (cond (!v2.1)
 (some (true,()))
 ((at? a0.2.1 v1.1).bind λv3 =>
 ((dd_ v1.2.1 0 (w64 (v3.2.2.1 - 1))).bind λv4 =>
 (some ((!v4.1),()))))))).bind λv5 =>
 (cond v5.1
 (some (inr (inr ((decide (0≤v0.1)),()))))
 (some (inl ((w64 (v0.1+1)),()))))))
 (some (inr (inl ()))))) (0,())).bind λv6 =>
 (bl_ v6 (λv7=>(some ((decide (0≤(-1))),())))
 (λv8=>(some v8))))).bind λv9 =>
 (some ((!v9.1),())))
 (some (false,())))
theorem x_76:ax_ (P:=prog) (cxI (λk=>cond (Nat.beq k 136) (.p .z (.j0 [.v 4 .bool] .z .z)) (cond (Nat.beq k 137) (.p .z (.j0 [.v 3 .bool] (.q [] .z .z) .z)) (cond (Nat.beq k 192) (.p .z (.p (.p .z (.ls [.v 8 .int] [] [] 0 .z)) .z)) (.z)))) (λk=>Nat.beq k 77||false) (cxC [c_77] []) 4) .z 76 [au_,(.list dw_)] [.bool]=λx=>jy_ x.1 x.2.1:=by kernel_rfl
noncomputable def c_76:Con prog:=ay_ _ _ 76 [au_,(.list dw_)] [.bool] _ x_76
noncomputable def km_ (a0:ac_) (a1:Int):Option (Int×Unit) :=
 ((dd_ a1 0 (w64 ((a0.2.1.length:Int) - 1))).bind λv0 =>
 (cond (!v0.1)
 (some (1,()))
 (some (0,()))))
theorem x_90:ax_ (P:=prog) (cxC [c_77] []) .z 90 [an_,.int] [.int]=λx=>km_ x.1 x.2.1:=by kernel_rfl
noncomputable def c_90:Con prog:=ay_ _ _ 90 [an_,.int] [.int] _ x_90
noncomputable def mr_ (a0:aj_) (a1:ck_):Option (Bool×Unit) :=
 ((((cd_ a1.1 0 (w64 ((a0.1.length:Int) - 1))).bind λv0 =>
 (cond (!v0.1)
 (some (true,()))
 ((cd_ a1.2.2.1 0 (w64 ((a0.1.length:Int) - 1))).bind λv1 =>
 (cond (!v1.1)
 (some (true,()))
 (cond (a1.1==a1.2.2.1)
 (some (true,()))
 ((at? a0.1 a1.1).bind λv2 =>
 ((cd_ a1.2.1 0 (w64 (v2.1 - 1))).bind λv3 =>
 (cond (!v3.1)
 (some (true,()))
 ((at? a0.1 a1.2.2.1).bind λv4 =>
 ((cd_ a1.2.2.2 0 (w64 (v4.1 - 1))).bind λv5 =>
 (some ((!v5.1),()))))))))))))).bind λv6 =>
 (cond v6.1
 (some (false,()))
 ((at? a0.2.1 a1.1).bind λv7 =>
 ((at? v7 a1.2.1).bind λv8 =>
 ((at? a0.2.1 a1.2.2.1).bind λv9 =>
 ((at? v9 a1.2.2.2).bind λv10 =>
 (some ((v8==v10),()))))))))
theorem x_68:ax_ (P:=prog) (cxC [c_61] []) (.p .z (.p .z (.p (.j0 [.v 56 .bool] (.q [] .z .z) .z) (.p (.q [] .z .z) .z)))) 68 [ak_,ku_] [.bool]=λx=>mr_ x.1 x.2.1:=by kernel_rfl
noncomputable def c_68:Con prog:=ay_ _ _ 68 [ak_,ku_] [.bool] _ x_68
noncomputable def gh_ (a0:aj_) (a1:hb_):Option (aj_×Unit) :=
 ((push? (α:=aa_) [] a0.1).bind λv0 =>
 ((push? (α:=ck_) [] a0.2.2.2).bind λv1 =>
 ((ad_ (ρ:=(((List (List Int))×((List (List ab_))×Unit))×Unit)) (λ(v2:(Int×(((List (List Int))×((List (List ab_))×Unit))×Unit))) =>
 (cond (decide (v2.1<(a0.1.length:Int)))
 ((at? a0.2.1 v2.1).bind λv3 =>
 ((push? (α:=Int) [] v3).bind λv4 =>
 ((push? (α:=(List Int)) v2.2.1.1 ([v4]:List (List Int))).bind λv5 =>
 ((at? a0.2.2.1 v2.1).bind λv6 =>
 ((ad_ (ρ:=((List ab_)×Unit)) (λ(v7:((List ab_)×(Int×Unit))) =>
 (cond (decide (v7.2.1<(v6.length:Int)))
 ((at? v6 v7.2.1).bind λv8 =>
 ((br_ v8).bind λv9 =>
 ((push? (α:=ab_) v7.1 [v9.1]).bind λv10 =>
 (some (inl (v10,((w64 (v7.2.1+1)),())))))))
 (some (inr (v7.1,()))))) ([],(0,()))).bind λv11 =>
 ((push? (α:=(List ab_)) v2.2.1.2.1 ([v11.1]:List (List ab_))).bind λv12 =>
 (some (inl ((w64 (v2.1+1)),((v5,(v12,())),()))))))))))
 (some (inr ((v2.2.1.1,(v2.2.1.2.1,())),()))))) (0,(([],([],())),()))).bind λv13 =>
 ((at? v13.1.2.1 a1.1).bind λv14 =>
 ((at? v13.1.2.1 a1.1).bind λv15 =>
 ((br_ a1.2).bind λv16 =>
 ((push? (α:=ab_) v15 [v16.1]).bind λv17 =>
 ((at? v13.1.2.1 a1.1).bind λv18 =>
 (cond ((a1.1==a1.1)&&true)
 ((at? v13.1.2.1 a1.1).bind λv19 =>
 (some ((v0,(v13.1.1,((v13.1.2.1.set a1.1.toNat v17),v1))),())))
 none)))))))))
theorem x_97:ax_ (P:=prog) (cxI (λk=>cond (Nat.beq k 149) (.p .z (.p .z (.p (.p .z (.lp [.v 18 .int] [] [.b (.s 3) [.keep,.row (.list .int) 38,.grid ⟨(.list af_),af_,[],90,40⟩,.keep]] 0 (.p .z (.p .z (.p (.p .z (.p .z (.p .z (.p (.p .z (.lp [.r 5 af_ 40,.v 38 .int] [.r 5 af_ 40] [] 2 .z)) .z)))) .z))))) .z))) (.z)) (λk=>Nat.beq k 36||Nat.beq k 37||Nat.beq k 39||Nat.beq k 199||false) (cxC [c_39] [cp_36,bs2,cp_199]) 2) .z 97 [ak_,kv_] [ak_]=λx=>gh_ x.1 x.2.1:=by kernel_rfl
noncomputable def c_97:Con prog:=ay_ _ _ 97 [ak_,kv_] [ak_] _ x_97
def an_99:An:=(.p .z (.p .z (.p (.p .z (.lp [.r 4 .int 3,.v 13 .int] [.r 4 .int 3] [] 0 (.p .z (.p .z (.j0 [.r 4 .int 3] .z .z))))) .z)))
noncomputable def cs_99:List (Con prog):=[]
noncomputable def cl_99:List (Cpy prog):=[]
noncomputable def cx_99:Cx prog:=cxQ [ri_148] (cxC cs_99 cl_99)
noncomputable def ej_ (a0:dh_) (a1:dh_):Option (List Int) :=
 ((cw_ a1).bind λv0 =>
 ((cw_ a0).bind λv1 =>
 ((ad_ (ρ:=((List Int)×Unit)) (λ(v2:((List Int)×(Int×Unit))) =>
 (cond (decide (v2.2.1<(v1.length:Int)))
 ((((at? v1 v2.2.1).bind λv3 =>
 ((at? v1 v2.2.1).bind λv4 =>
 ((at? v0 v2.2.1).bind λv5 =>
 ((at? v0 v2.2.1).bind λv6 =>
 (cond (decide (v6<v4))
 ((push? (α:=Int) v2.1 [v2.2.1]).bind λv7 =>
 (some (v7,())))
 (some (v2.1,())))))))).bind λv8 =>
 (some (inl (v8.1,((w64 (v2.2.1+1)),())))))
 (some (inr (v2.1,()))))) ([],(0,()))).bind λv9 =>
 (some v9.1))))
theorem x_99:br7 cx_99 an_99 99 [(.ref gc_),(.ref gc_)] 3=λx=>ej_ x.1 x.2.1:=by kernel_rfl
noncomputable def ri_99:RpI prog:=mkRpI _ _ 99 [(.ref gc_),(.ref gc_)] 3 _ x_99
noncomputable def fc_ (a0:aa_):Option (Int×Unit) :=
 ((((bb_ a0.1 1 4).bind λv0 =>
 (cond (!v0.1)
 (some (true,()))
 ((bb_ a0.2 2 10).bind λv1 =>
 (some ((!v1.1),())))))).bind λv2 =>
 (cond v2.1
 (some (10,()))
 (some (0,()))))
theorem x_152:ax_ (P:=prog) (cxC [c_203] []) (.p .z (.p (.j0 [.v 12 .bool] .z .z) .z)) 152 [ae_] [.int]=λx=>fc_ x.1:=by kernel_rfl
noncomputable def c_152:Con prog:=ay_ _ _ 152 [ae_] [.int] _ x_152
noncomputable def fq_ (a0:aa_) (a1:(List Int)):Option (Bool×Unit) :=
 (cond ((a1.length:Int) != a0.1)
 (some (false,()))
 ((ad_ (ρ:=(Unit⊕(Bool×Unit))) (λ(v0:(Int×Unit)) =>
 (cond (decide (v0.1<(a1.length:Int)))
 ((at? a1 v0.1).bind λv1 =>
 ((bb_ v1 0 (w64 (a0.2 - 1))).bind λv2 =>
 (cond (!v2.1)
 (some (inr (inr (false,()))))
 (some (inl ((w64 (v0.1+1)),()))))))
 (some (inr (inl ()))))) (0,())).bind λv3 =>
 (bl_ v3 (λv4=>(some (true,())))
 (λv5=>(some v5)))))
theorem x_159:ax_ (P:=prog) (cxC [c_203] []) (.p .z (.p .z (.p (.p .z (.ls [.v 5 .int] [] [] 0 (.p .z (.p (.p (.q [] .z .z) .z) .z)))) .z))) 159 [ae_,(.list .int)] [.bool]=λx=>fq_ x.1 x.2.1:=by kernel_rfl
noncomputable def c_159:Con prog:=ay_ _ _ 159 [ae_,(.list .int)] [.bool] _ x_159
noncomputable def fx_ (a0:ag_) (a1:Int) (a2:Int):Option (Bool×Unit) :=
 ((cj_ a1 0 (w64 ((a0.2.1.length:Int) - 1))).bind λv0 =>
 (cond v0.1
 ((at? a0.2.1 a1).bind λv1 =>
 ((cj_ a2 0 (w64 (v1.2.2.1 - 1))).bind λv2 =>
 (some (v2.1,()))))
 (some (false,()))))
theorem x_156:ax_ (P:=prog) (cxC [at4] []) .z 156 [au_,.int,.int] [.bool]=λx=>fx_ x.1 x.2.1 x.2.2.1:=by kernel_rfl
noncomputable def bt1:Con prog:=ay_ _ _ 156 [au_,.int,.int] [.bool] _ x_156
noncomputable def cb_ (a0:ag_) (a1:Int):Option (Bool×Unit) :=
 ((cj_ a1 0 (w64 ((a0.1.length:Int) - 1))).bind λv0 =>
 (some (v0.1,())))
theorem x_157:ax_ (P:=prog) (cxC [at4] []) .z 157 [au_,.int] [.bool]=λx=>cb_ x.1 x.2.1:=by kernel_rfl
noncomputable def c_157:Con prog:=ay_ _ _ 157 [au_,.int] [.bool] _ x_157
noncomputable def gr_ (a0:(List UInt8)):Option (Bool×Unit) :=
 ((ad_ (ρ:=(Unit⊕(Bool×Unit))) (λ(v0:(Int×Unit)) =>
 (cond (decide (v0.1<(a0.length:Int)))
 ((((at? a0 v0.1).bind λv1 =>
 (cond (decide (((UInt8.toNat v1):Int)<97))
 (some (true,()))
 ((at? a0 v0.1).bind λv2 =>
 (some ((decide (122<((UInt8.toNat v2):Int))),())))))).bind λv3 =>
 (cond v3.1
 (some (inr (inr (false,()))))
 (some (inl ((w64 (v0.1+1)),())))))
 (some (inr (inl ()))))) (0,())).bind λv4 =>
 (bl_ v4 (λv5=>((ad_ (ρ:=(Unit⊕(Bool×Unit))) (λ(v7:(Int×Unit)) =>
 (cond (decide (v7.1<(([[97,116],[115,116,97,116,101,115],[115,116,97,114,116],[103,111,110,101],[105,102],[108,111,99,107],[119,105,116,104],[115,101,116,115],[115,112,101,110,100,115],[98,114,105,110,103,115]]:List (List UInt8)).length:Int)))
 ((at? ([[97,116],[115,116,97,116,101,115],[115,116,97,114,116],[103,111,110,101],[105,102],[108,111,99,107],[119,105,116,104],[115,101,116,115],[115,112,101,110,100,115],[98,114,105,110,103,115]]:List (List UInt8)) v7.1).bind λv8 =>
 (cond (v8==a0)
 (some (inr (inr (false,()))))
 (some (inl ((w64 (v7.1+1)),())))))
 (some (inr (inl ()))))) (0,())).bind λv9 =>
 (bl_ v9 (λv10=>(some ((!(a0==[])),())))
 (λv11=>(some v11)))))
 (λv6=>(some v6))))
theorem x_222:ax_ (P:=prog) (cxC [c_229] []) (.p .z (.p (.p .z (.ls [.v 3 .int] [] [] 0 (.p .z (.p (.j0 [.v 21 .bool] .z .z) .z)))) (.p .z (.p (.p .z (.ls [.v 5 .int] [] [] 2 .z)) .z)))) 222 [.str] [.bool]=λx=>gr_ x.1:=by kernel_rfl
noncomputable def c_222:Con prog:=ay_ _ _ 222 [.str] [.bool] _ x_222
noncomputable def cs_ (a0:ag_) (a1:(List Int)):Option (Bool×Unit) :=
 ((ad_ (ρ:=(Unit⊕(Bool×Unit))) (λ(v0:(Int×Unit)) =>
 (cond (decide (v0.1<(a1.length:Int)))
 ((((at? a1 v0.1).bind λv1 =>
 ((cj_ v1 0 (w64 ((a0.2.2.1.length:Int) - 1))).bind λv2 =>
 (cond (!v2.1)
 (some (true,()))
 (cond (decide (0<v0.1))
 ((at? a1 v0.1).bind λv3 =>
 ((at? a1 (w64 (v0.1 - 1))).bind λv4 =>
 (some ((decide (v3≤v4)),()))))
 (some (false,()))))))).bind λv5 =>
 (cond v5.1
 (some (inr (inr (false,()))))
 (some (inl ((w64 (v0.1+1)),())))))
 (some (inr (inl ()))))) (0,())).bind λv6 =>
 (bl_ v6 (λv7=>(some (true,())))
 (λv8=>(some v8))))
theorem x_223:ax_ (P:=prog) (cxC [at4] []) (.p .z (.p (.p .z (.ls [.v 5 .int] [] [] 0 (.p .z (.p (.j0 [.v 37 .bool] (.q [] .z .z) .z) .z)))) .z)) 223 [au_,(.list .int)] [.bool]=λx=>cs_ x.1 x.2.1:=by kernel_rfl
noncomputable def c_223:Con prog:=ay_ _ _ 223 [au_,(.list .int)] [.bool] _ x_223
noncomputable def da_ (a0:ab_) (a1:ab_):Option (Bool×Unit) :=
 (cond (a0.1==a1.1)
 (cond (a0.2.1==a1.2.1)
 (cond (a0.2.2.1==a1.2.2.1)
 (cond (a0.2.2.2.1==a1.2.2.2.1)
 (cond (a0.2.2.2.2.1==a1.2.2.2.2.1)
 (cond (a0.2.2.2.2.2.2==a1.2.2.2.2.2.2)
 ((bw_ a0.2.2.2.2.2.1 a1.2.2.2.2.2.1).bind λv0 =>
 (some (v0.1,())))
 (some (false,())))
 (some (false,())))
 (some (false,())))
 (some (false,())))
 (some (false,())))
 (some (false,())))
theorem x_56:ax_ (P:=prog) (cxC [c_51] []) .z 56 [af_,af_] [.bool]=λx=>da_ x.1 x.2.1:=by kernel_rfl
noncomputable def c_56:Con prog:=ay_ _ _ 56 [af_,af_] [.bool] _ x_56
noncomputable def ho_ (a0:(List Int)) (a1:(List Int)):Option (Int×Int×Unit) :=
 ((ad_ (ρ:=(Int×Unit)) (λ(v0:(Int×(Int×Unit))) =>
 (cond (decide (v0.2.1<(a0.length:Int)))
 ((((at? a0 v0.2.1).bind λv1 =>
 ((at? a1 v0.2.1).bind λv2 =>
 (cond (v1==v2)
 (some ((w64 (v0.1+1)),()))
 (some (v0.1,())))))).bind λv3 =>
 (some (inl (v3.1,((w64 (v0.2.1+1)),())))))
 (some (inr (v0.1,()))))) (0,(0,()))).bind λv4 =>
 ((ad_ (ρ:=(Int×Unit)) (λ(v5:(Int×(Int×Unit))) =>
 (cond (decide (v5.2.1<10))
 ((dp_ a0 v5.2.1).bind λv6 =>
 ((dp_ a1 v5.2.1).bind λv7 =>
 (some (inl ((w64 (v5.1+(bv8 v6.1 v7.1))),((w64 (v5.2.1+1)),()))))))
 (some (inr (v5.1,()))))) (0,(0,()))).bind λv8 =>
 (some (v4.1,((w64 (v8.1 - v4.1)),())))))
theorem x_207:ax_ (P:=prog) (cxC [c_206] []) (.p .z (.p .z (.p (.p .z (.lp [.v 6 .int,.v 8 .int] [.v 6 .int] [] 0 (.p .z (.j0 [.v 6 .int] (.p (.q [] .z .z) .z) .z)))) (.p (.p .z (.lp [.v 7 .int,.v 9 .int] [.v 7 .int] [] 2 .z)) .z)))) 207 [(.list .int),(.list .int)] [.int,.int]=λx=>ho_ x.1 x.2.1:=by kernel_rfl
noncomputable def c_207:Con prog:=ay_ _ _ 207 [(.list .int),(.list .int)] [.int,.int] _ x_207
noncomputable def jw_ (a0:aj_):Option (aj_×Unit) :=
 ((push? (α:=aa_) [] a0.1).bind λv0 =>
 ((push? (α:=ck_) [] a0.2.2.2).bind λv1 =>
 ((ad_ (ρ:=(((List (List Int))×Unit)×Unit)) (λ(v2:(Int×(((List (List Int))×Unit)×Unit))) =>
 (cond (decide (v2.1<(a0.2.1.length:Int)))
 ((at? a0.2.1 v2.1).bind λv3 =>
 ((push? (α:=Int) [] v3).bind λv4 =>
 ((push? (α:=(List Int)) v2.2.1.1 ([v4]:List (List Int))).bind λv5 =>
 (some (inl ((w64 (v2.1+1)),((v5,()),())))))))
 (some (inr ((v2.2.1.1,()),()))))) (0,(([],()),()))).bind λv6 =>
 ((ad_ (ρ:=(((List (List ab_))×Unit)×Unit)) (λ(v7:(Int×(((List (List ab_))×Unit)×Unit))) =>
 (cond (decide (v7.1<(a0.2.2.1.length:Int)))
 ((at? a0.2.2.1 v7.1).bind λv8 =>
 ((ey_ v8).bind λv9 =>
 ((push? (α:=(List ab_)) v7.2.1.1 ([v9.1]:List (List ab_))).bind λv10 =>
 (some (inl ((w64 (v7.1+1)),((v10,()),())))))))
 (some (inr ((v7.2.1.1,()),()))))) (0,(([],()),()))).bind λv11 =>
 (some ((v0,(v6.1.1,(v11.1.1,v1))),()))))))
theorem x_54:ax_ (P:=prog) (cxC [c_105] []) (.p .z (.p .z (.p (.p .z (.lp [.v 4 .int] [] [.b (.s 3) [.keep,.row (.list .int) 38,.keep,.keep]] 0 .z)) (.p (.p .z (.lp [.v 5 .int] [] [.b (.s 3) [.keep,.keep,.row (.list af_) 90,.keep]] 2 .z)) .z)))) 54 [ak_] [ak_]=λx=>jw_ x.1:=by kernel_rfl
noncomputable def c_54:Con prog:=ay_ _ _ 54 [ak_] [ak_] _ x_54
noncomputable def fd_ (a0:(List (List Int))) (a1:(List (List Int))):Option (Bool×Unit) :=
 (cond ((a0.length:Int) != (a1.length:Int))
 (some (false,()))
 ((ad_ (ρ:=(Unit⊕(Bool×Unit))) (λ(v0:(Int×Unit)) =>
 (cond (decide (v0.1<(a0.length:Int)))
 ((at? a0 v0.1).bind λv1 =>
 ((at? a1 v0.1).bind λv2 =>
 ((bw_ v1 v2).bind λv3 =>
 (cond (!v3.1)
 (some (inr (inr (false,()))))
 (some (inl ((w64 (v0.1+1)),())))))))
 (some (inr (inl ()))))) (0,())).bind λv4 =>
 (bl_ v4 (λv5=>(some (true,())))
 (λv6=>(some v6)))))
theorem x_55:ax_ (P:=prog) (cxC [c_51] []) (.p .z (.p .z (.p (.p .z (.ls [.v 5 .int] [] [] 0 (.p .z (.p (.p (.q [] .z .z) .z) .z)))) .z))) 55 [(.list (.list .int)),(.list (.list .int))] [.bool]=λx=>fd_ x.1 x.2.1:=by kernel_rfl
noncomputable def c_55:Con prog:=ay_ _ _ 55 [(.list (.list .int)),(.list (.list .int))] [.bool] _ x_55
end
section
set_option maxRecDepth 100000
set_option maxHeartbeats 0
noncomputable def bs_ (a0:aa_) (a1:(List Int)):Option (Bool×Unit) :=
 (cond ((a1.length:Int)==a0.1)
 ((((ad_ (ρ:=(Unit⊕(Bool×Unit))) (λ(v0:(Int×Unit)) =>
 (cond (decide (v0.1<(a1.length:Int)))
 ((at? a1 v0.1).bind λv1 =>
 ((bg_ a0 v1).bind λv2 =>
 (cond (!v2.1)
 (some (inr (inr ((decide (0≤v0.1)),()))))
 (some (inl ((w64 (v0.1+1)),()))))))
 (some (inr (inl ()))))) (0,())).bind λv3 =>
 (bl_ v3 (λv4=>(some ((decide (0≤(-1))),())))
 (λv5=>(some v5))))).bind λv6 =>
 (some ((!v6.1),())))
 (some (false,())))
theorem x_171:ax_ (P:=prog) (cxI (λk=>cond (Nat.beq k 150) (.p .z (.p (.p .z (.ls [.v 8 .int] [] [] 0 .z)) .z)) (cond (Nat.beq k 166) (.p .z (.j0 [.v 4 .bool] .z .z)) (.z))) (λk=>Nat.beq k 175||false) (cxC [c_175] []) 4) .z 171 [ae_,(.list .int)] [.bool]=λx=>bs_ x.1 x.2.1:=by kernel_rfl
noncomputable def c_171:Con prog:=ay_ _ _ 171 [ae_,(.list .int)] [.bool] _ x_171
noncomputable def eo_ (a0:(List UInt8)):Option (Bool×Unit) :=
 ((ad_ (ρ:=(Unit⊕(Bool×Unit))) (λ(v0:(Int×Unit)) =>
 (cond (decide (v0.1<(a0.length:Int)))
 ((((at? a0 v0.1).bind λv1 =>
 (cond (decide (((UInt8.toNat v1):Int)<97))
 (some (true,()))
 ((at? a0 v0.1).bind λv2 =>
 (some ((decide (122<((UInt8.toNat v2):Int))),())))))).bind λv3 =>
 (cond v3.1
 (some (inr (inr (false,()))))
 (some (inl ((w64 (v0.1+1)),())))))
 (some (inr (inl ()))))) (0,())).bind λv4 =>
 (bl_ v4 (λv5=>(cond (!(a0==[]))
 ((cm_ ([[97,116],[115,116,97,116,101,115],[115,116,97,114,116],[103,111,110,101],[105,102],[108,111,99,107],[119,105,116,104],[115,101,116,115],[115,112,101,110,100,115],[98,114,105,110,103,115]]:List (List UInt8)) a0).bind λv7 =>
 (some ((!v7.1),())))
 (some (false,()))))
 (λv6=>(some v6))))
theorem x_179:ax_ (P:=prog) (cxC [c_213] []) (.p .z (.p (.p .z (.ls [.v 6 .int] [] [] 0 (.p .z (.p .z (.p (.p .z (.j0 [.v 18 .bool] .z .z)) .z))))) .z)) 179 [.str] [.bool]=λx=>eo_ x.1:=by kernel_rfl
noncomputable def c_179:Con prog:=ay_ _ _ 179 [.str] [.bool] _ x_179
noncomputable def dl_ (a0:ag_) (a1:(List cl_)):Option (Bool×Unit) :=
 (cond (decide ((a1.length:Int)≤8))
 ((((ad_ (ρ:=(Unit⊕(Bool×Unit))) (λ(v0:(Int×Unit)) =>
 (cond (decide (v0.1<(a1.length:Int)))
 ((at? a1 v0.1).bind λv1 =>
 ((ep_ a0 v1.1 v1.2.1).bind λv2 =>
 (cond (!v2.1)
 (some (inr (inr ((decide (0≤v0.1)),()))))
 (some (inl ((w64 (v0.1+1)),()))))))
 (some (inr (inl ()))))) (0,())).bind λv3 =>
 (bl_ v3 (λv4=>(some ((decide (0≤(-1))),())))
 (λv5=>(some v5))))).bind λv6 =>
 (some ((!v6.1),())))
 (some (false,())))
theorem x_128:ax_ (P:=prog) (cxI (λk=>cond (Nat.beq k 136) (.p .z (.j0 [.v 4 .bool] .z .z)) (cond (Nat.beq k 192) (.p .z (.p (.p .z (.ls [.v 8 .int] [] [] 0 .z)) .z)) (.z))) (λk=>Nat.beq k 130||false) (cxC [bt3] []) 4) .z 128 [au_,(.list dw_)] [.bool]=λx=>dl_ x.1 x.2.1:=by kernel_rfl
noncomputable def c_128:Con prog:=ay_ _ _ 128 [au_,(.list dw_)] [.bool] _ x_128
noncomputable def df_ (a0:ab_) (a1:(List Int)):Option (Bool×Unit) :=
 ((gt_ a0 a1).bind λv0 =>
 (some ((v0.1 != a0.2.2.2.2.2.2),())))
theorem x_173:ax_ (P:=prog) (cxC [c_210] []) (.p .z (.p (.q [] .z .z) .z)) 173 [af_,(.list .int)] [.bool]=λx=>df_ x.1 x.2.1:=by kernel_rfl
noncomputable def c_173:Con prog:=ay_ _ _ 173 [af_,(.list .int)] [.bool] _ x_173
noncomputable def fa_ (a0:aa_) (a1:(List Int)):Option (Int×Unit) :=
 ((fc_ a0).bind λv0 =>
 (cond (v0.1 != 0)
 (some (v0.1,()))
 ((fq_ a0 a1).bind λv1 =>
 (cond (!v1.1)
 (some (12,()))
 (some (0,()))))))
theorem x_107:ax_ (P:=prog) (cxC [c_152,c_159] []) .z 107 [ae_,(.list .int)] [.int]=λx=>fa_ x.1 x.2.1:=by kernel_rfl
noncomputable def c_107:Con prog:=ay_ _ _ 107 [ae_,(.list .int)] [.int] _ x_107
noncomputable def cc_ (a0:ag_) (a1:(List cl_)):Option (Bool×Unit) :=
 ((ad_ (ρ:=(Unit⊕(Bool×Unit))) (λ(v0:(Int×Unit)) =>
 (cond (decide (v0.1<(a1.length:Int)))
 ((at? a1 v0.1).bind λv1 =>
 ((at? a1 v0.1).bind λv2 =>
 ((fx_ a0 v1.1 v2.2.1).bind λv3 =>
 (cond (!v3.1)
 (some (inr (inr (false,()))))
 (some (inl ((w64 (v0.1+1)),())))))))
 (some (inr (inl ()))))) (0,())).bind λv4 =>
 (bl_ v4 (λv5=>(some ((decide ((a1.length:Int)≤8)),())))
 (λv6=>(some v6))))
theorem x_154:ax_ (P:=prog) (cxC [bt1] []) (.p .z (.p (.p .z (.ls [.v 5 .int] [] [] 0 (.p .z (.p (.p (.q [] .z .z) .z) .z)))) .z)) 154 [au_,(.list dw_)] [.bool]=λx=>cc_ x.1 x.2.1:=by kernel_rfl
noncomputable def c_154:Con prog:=ay_ _ _ 154 [au_,(.list dw_)] [.bool] _ x_154
noncomputable def dc_ (a0:(List UInt8)):Option (Bool×Unit) :=
 (cond (decide ((a0.length:Int)≤12))
 ((gr_ a0).bind λv0 =>
 (some (v0.1,())))
 (some (false,())))
theorem x_200:ax_ (P:=prog) (cxC [c_222] []) .z 200 [.str] [.bool]=λx=>dc_ x.1:=by kernel_rfl
noncomputable def c_200:Con prog:=ay_ _ _ 200 [.str] [.bool] _ x_200
noncomputable def hn_ (a0:aa_) (a1:ab_):Option (Bool×Unit) :=
 ((bb_ a1.2.1 0 (w64 (a0.1 - 1))).bind λv0 =>
 ((bb_ a1.2.2.1 0 (w64 (a0.1 - 1))).bind λv1 =>
 (((cond (a1.1==1)
 (((cond v0.1
 ((bb_ a1.2.2.2.1 0 (w64 (a0.2 - 1))).bind λv2 =>
 (some (v2.1,())))
 (some (false,())))).bind λv3 =>
 (some (v3.1,((a1.2.1,(0,(a1.2.2.2.1,(0,([],()))))),()))))
 (cond (a1.1==2)
 (((cond v0.1
 (cond v1.1
 (cond (decide (a1.2.1≤a1.2.2.1))
 ((bb_ a1.2.2.2.1 0 100).bind λv4 =>
 (some (v4.1,())))
 (some (false,())))
 (some (false,())))
 (some (false,())))).bind λv5 =>
 (some (v5.1,((a1.2.1,(a1.2.2.1,(a1.2.2.2.1,(0,([],()))))),()))))
 (((cond (a1.1==3)
 (some ((a1.1==3),()))
 (some ((a1.1==4),())))).bind λv6 =>
 (cond v6.1
 (((cond v0.1
 (cond v1.1
 (some ((a1.2.1 != a1.2.2.1),()))
 (some (false,())))
 (some (false,())))).bind λv7 =>
 (some (v7.1,((a1.2.1,(a1.2.2.1,(0,(0,([],()))))),()))))
 (cond (a1.1==5)
 ((((bb_ a1.2.2.2.1 0 (w64 (a0.2 - 1))).bind λv8 =>
 (cond v8.1
 ((bb_ a1.2.2.2.2.1 0 a0.1).bind λv9 =>
 (some (v9.1,())))
 (some (false,()))))).bind λv10 =>
 (some (v10.1,((0,(0,(a1.2.2.2.1,(a1.2.2.2.2.1,([],()))))),()))))
 (cond (a1.1==6)
 ((((fq_ a0 a1.2.2.2.2.2.1).bind λv11 =>
 (cond v11.1
 ((bb_ a1.2.2.2.1 0 a0.1).bind λv12 =>
 (cond v12.1
 ((bb_ a1.2.2.2.2.1 0 a0.1).bind λv13 =>
 (some (v13.1,())))
 (some (false,()))))
 (some (false,()))))).bind λv14 =>
 (some (v14.1,((0,(0,(a1.2.2.2.1,(a1.2.2.2.2.1,(a1.2.2.2.2.2.1,()))))),()))))
 (cond (a1.1==7)
 (((cond v0.1
 ((bb_ a1.2.2.2.1 2 10).bind λv15 =>
 (cond v15.1
 ((bb_ a1.2.2.2.2.1 0 (w64 (a1.2.2.2.1 - 1))).bind λv16 =>
 (some (v16.1,())))
 (some (false,()))))
 (some (false,())))).bind λv17 =>
 (some (v17.1,((a1.2.1,(0,(a1.2.2.2.1,(a1.2.2.2.2.1,([],()))))),()))))
 (some (false,((0,(0,(0,(0,([],()))))),()))))))))))).bind λv18 =>
 (cond v18.1
 ((da_ a1 (a1.1,(v18.2.1.1,(v18.2.1.2.1,(v18.2.1.2.2.1,(v18.2.1.2.2.2.1,(v18.2.1.2.2.2.2.1,a1.2.2.2.2.2.2))))))).bind λv19 =>
 (some (v19.1,())))
 (some (false,()))))))
theorem x_205:ax_ (P:=prog) (cxC [c_56,c_159,c_203] []) (.p .z (.p (.q [] .z .z) (.p .z (.p .z (.j0 [.v 8 .bool,.b (.s 7) [.keep,.val .int,.val .int,.val .int,.val .int,.val (.list .int),.keep]] (.p .z (.p .z (.p (.j0 [.v 8 .bool] .z .z) (.p .z (.p (.j0 [.v 8 .bool] .z .z) (.j0 [.v 72 .bool] .z (.p (.j0 [.v 8 .bool] .z .z) (.p .z (.p (.j0 [.v 8 .bool] .z .z) (.p .z (.p (.j0 [.v 8 .bool] .z .z) (.p .z (.p (.j0 [.v 8 .bool] .z .z) .z))))))))))))) .z))))) 205 [ae_,af_] [.bool]=λx=>hn_ x.1 x.2.1:=by kernel_rfl
noncomputable def c_205:Con prog:=ay_ _ _ 205 [ae_,af_] [.bool] _ x_205
noncomputable def hx_ (a0:ab_) (a1:(List Int)):Option (Bool×Unit) :=
 (((cond (a0.1==1)
 ((at? a1 a0.2.1).bind λv0 =>
 (some ((v0==a0.2.2.2.1),())))
 (cond (a0.1==2)
 ((ad_ (ρ:=(Int×Unit)) (λ(v1:(Int×(Int×Unit))) =>
 (cond (decide (v1.2.1≤a0.2.2.1))
 ((at? a1 v1.2.1).bind λv2 =>
 (some (inl ((w64 (v1.1+v2)),((w64 (v1.2.1+1)),())))))
 (some (inr (v1.1,()))))) (0,(a0.2.1,()))).bind λv3 =>
 (some ((v3.1==a0.2.2.2.1),())))
 (cond (a0.1==3)
 ((at? a1 a0.2.1).bind λv4 =>
 ((at? a1 a0.2.2.1).bind λv5 =>
 (some ((decide (v4<v5)),()))))
 (cond (a0.1==4)
 ((at? a1 a0.2.1).bind λv6 =>
 ((at? a1 a0.2.2.1).bind λv7 =>
 (some ((v6==v7),()))))
 (cond (a0.1==5)
 ((dp_ a1 a0.2.2.2.1).bind λv8 =>
 (some ((v8.1==a0.2.2.2.2.1),())))
 (cond (a0.1==6)
 ((ho_ a1 a0.2.2.2.2.2.1).bind λv9 =>
 (cond (v9.1==a0.2.2.2.1)
 (some ((v9.2.1==a0.2.2.2.2.1),()))
 (some (false,()))))
 (cond (a0.1==7)
 ((at? a1 a0.2.1).bind λv10 =>
 ((md v10 a0.2.2.2.1).bind λv11 =>
 (some ((v11==a0.2.2.2.2.1),()))))
 (some (false,())))))))))).bind λv12 =>
 (some ((v12.1 != a0.2.2.2.2.2.2),())))
theorem x_161:ax_ (P:=prog) (cxC [c_206,c_207] []) (.p .z (.p .z (.j0 [.v 5 .bool] (.p .z (.p .z (.p (.q [] .z .z) (.p .z (.p (.p .z (.p (.p .z (.lp [.v 6 .int,.v 7 .int] [.v 6 .int] [] 1 .z)) .z)) (.p .z (.p (.q [] .z .z) (.p .z (.p (.q [] .z .z) (.p .z (.p (.q [] .z .z) (.p .z (.p .z (.p .z (.p (.q [] .z .z) .z))))))))))))))) .z))) 161 [af_,(.list .int)] [.bool]=λx=>hx_ x.1 x.2.1:=by kernel_rfl
noncomputable def c_161:Con prog:=ay_ _ _ 161 [af_,(.list .int)] [.bool] _ x_161
noncomputable def ei_ (a0:aj_) (a1:aj_):Option (Bool×Unit) :=
 (((cond ((a0.1.length:Int) != (a1.1.length:Int))
 (some (true,()))
 ((fd_ a0.2.1 a1.2.1).bind λv0 =>
 (cond (!v0.1)
 (some (true,()))
 (cond ((a0.2.2.1.length:Int) != (a1.2.2.1.length:Int))
 (some (true,()))
 (some (((a0.2.2.2.length:Int) != (a1.2.2.2.length:Int)),()))))))).bind λv1 =>
 (cond v1.1
 (some (false,()))
 ((ad_ (ρ:=(Unit⊕(Bool×Unit))) (λ(v2:(Int×Unit)) =>
 (cond (decide (v2.1<(a0.1.length:Int)))
 ((at? a0.1 v2.1).bind λv3 =>
 ((at? a1.1 v2.1).bind λv4 =>
 (cond (!((v3.1==v4.1)&&(v3.2==v4.2)))
 (some (inr (inr (false,()))))
 (some (inl ((w64 (v2.1+1)),()))))))
 (some (inr (inl ()))))) (0,())).bind λv5 =>
 (bl_ v5 (λv6=>((ad_ (ρ:=(Unit⊕(Bool×Unit))) (λ(v8:(Int×Unit)) =>
 (cond (decide (v8.1<(a0.2.2.2.length:Int)))
 ((at? a0.2.2.2 v8.1).bind λv9 =>
 ((at? a1.2.2.2 v8.1).bind λv10 =>
 (cond (!((v9.1==v10.1)&&((v9.2.1==v10.2.1)&&((v9.2.2.1==v10.2.2.1)&&(v9.2.2.2==v10.2.2.2)))))
 (some (inr (inr (false,()))))
 (some (inl ((w64 (v8.1+1)),()))))))
 (some (inr (inl ()))))) (0,())).bind λv11 =>
 (bl_ v11 (λv12=>((ad_ (ρ:=(Unit⊕(Bool×Unit))) (λ(v14:(Int×Unit)) =>
 (cond (decide (v14.1<(a0.2.2.1.length:Int)))
 ((at? a0.2.2.1 v14.1).bind λv15 =>
 ((at? a1.2.2.1 v14.1).bind λv16 =>
 (cond ((v15.length:Int) != (v16.length:Int))
 (some (inr (inr (false,()))))
 ((ad_ (ρ:=(Unit⊕((Int×Unit)⊕(Unit⊕(Bool×Unit))))) (λ(v17:(Int×Unit)) =>
 ((at? a0.2.2.1 v14.1).bind λv18 =>
 (cond (decide (v17.1<(v18.length:Int)))
 ((at? a0.2.2.1 v14.1).bind λv19 =>
 ((at? v19 v17.1).bind λv20 =>
 ((at? a1.2.2.1 v14.1).bind λv21 =>
 ((at? v21 v17.1).bind λv22 =>
 ((da_ v20 v22).bind λv23 =>
 (cond (!v23.1)
 (some (inr (inr (inr (inr (false,()))))))
 (some (inl ((w64 (v17.1+1)),())))))))))
 (some (inr (inl ())))))) (0,())).bind λv24 =>
 (bl_ v24 (λv25=>(some (inl ((w64 (v14.1+1)),()))))
 (λv26=>(some v26)))))))
 (some (inr (inl ()))))) (0,())).bind λv27 =>
 (bl_ v27 (λv28=>(some (true,())))
 (λv29=>(some v29)))))
 (λv13=>(some v13)))))
 (λv7=>(some v7))))))
theorem x_19:ax_ (P:=prog) (cxC [c_55,c_56] []) (.p .z (.p (.j0 [.v 41 .bool] .z .z) (.p (.p .z (.ls [.v 5 .int] [] [] 0 (.p .z (.p (.p (.q [] .z .z) .z) .z)))) (.p (.p .z (.ls [.v 6 .int] [] [] 2 (.p .z (.p (.p (.q [] .z .z) .z) .z)))) (.p (.p .z (.ls [.v 7 .int] [] [] 4 (.p .z (.p (.p (.p (.q [] .z .z) .z) (.p .z (.ls [.v 8 .int] [] [] 6 (.p .z (.p (.p (.q [] .z .z) .z) .z))))) .z)))) .z))))) 19 [ak_,ak_] [.bool]=λx=>ei_ x.1 x.2.1:=by kernel_rfl
noncomputable def c_19:Con prog:=ay_ _ _ 19 [ak_,ak_] [.bool] _ x_19
end
section
set_option maxRecDepth 100000
set_option maxHeartbeats 0
noncomputable def dg_ (a0:aa_) (a1:(List (List Int))):Option (Int×Unit) :=
 ((ce_ a0).bind λv0 =>
 (cond (v0.1 != 0)
 (some (v0.1,()))
 ((((ad_ (ρ:=(Unit⊕(Bool×Unit))) (λ(v1:(Int×Unit)) =>
 (cond (decide (v1.1<(a1.length:Int)))
 ((at? a1 v1.1).bind λv2 =>
 ((bs_ a0 v2).bind λv3 =>
 (cond (!v3.1)
 (some (inr (inr ((decide (0≤v1.1)),()))))
 (some (inl ((w64 (v1.1+1)),()))))))
 (some (inr (inl ()))))) (0,())).bind λv4 =>
 (bl_ v4 (λv5=>(some ((decide (0≤(-1))),())))
 (λv6=>(some v6))))).bind λv7 =>
 (cond v7.1
 (some (12,()))
 (some (0,()))))))
theorem x_113:ax_ (P:=prog) (cxI (λk=>cond (Nat.beq k 169) (.p .z (.j0 [.v 4 .bool] .z .z)) (cond (Nat.beq k 208) (.p .z (.p (.p .z (.ls [.v 8 .int] [] [] 0 .z)) .z)) (.z))) (λk=>Nat.beq k 74||Nat.beq k 171||false) (cxC [c_74,c_171] []) 4) .z 113 [ae_,(.list (.list .int))] [.int]=λx=>dg_ x.1 x.2.1:=by kernel_rfl
noncomputable def c_113:Con prog:=ay_ _ _ 113 [ae_,(.list (.list .int))] [.int] _ x_113
noncomputable def oc_ (a0:ag_) (a1:Int) (a2:dz_):Option (Bool×Unit) :=
 ((((sub? a0.2.2.2.2.1 0 a1).bind λv0 =>
 ((((eo_ a2.1).bind λv1 =>
 (cond v1.1
 (cond (decide ((a2.1.length:Int)≤12))
 ((((ad_ (ρ:=(Unit⊕(Int×Unit))) (λ(v2:(Int×Unit)) =>
 (cond (decide (v2.1<(v0.length:Int)))
 ((at? v0 v2.1).bind λv3 =>
 (cond (v3.1==a2.1)
 (some (inr (inr (v2.1,()))))
 (some (inl ((w64 (v2.1+1)),())))))
 (some (inr (inl ()))))) (0,())).bind λv4 =>
 (bl_ v4 (λv5=>(some ((-1),())))
 (λv6=>(some v6))))).bind λv7 =>
 (some ((decide (v7.1<0)),())))
 (some (false,())))
 (some (false,()))))).bind λv8 =>
 (cond (!v8.1)
 (some (true,()))
 ((bf_ a2.2.1 0 (w64 ((a0.1.length:Int) - 1))).bind λv9 =>
 (cond (!v9.1)
 (some (true,()))
 ((bf_ a2.2.2.1 (-1) 7).bind λv10 =>
 (some ((!v10.1),()))))))))).bind λv11 =>
 (cond v11.1
 (some (false,()))
 ((((gf_ a0 a2.2.2.2.1).bind λv12 =>
 (cond (!v12.1)
 (some (true,()))
 ((gf_ a0 a2.2.2.2.2.2.2.1).bind λv13 =>
 (cond (!v13.1)
 (some (true,()))
 ((gf_ a0 a2.2.2.2.2.2.2.2).bind λv14 =>
 (cond (!v14.1)
 (some (true,()))
 (some ((decide (6<(a2.2.2.2.2.2.1.length:Int))),()))))))))).bind λv15 =>
 (cond v15.1
 (some (false,()))
 ((((((ad_ (ρ:=(Unit⊕(Bool×Unit))) (λ(v16:(Int×Unit)) =>
 (cond (decide (v16.1<(a2.2.2.2.2.2.2.1.length:Int)))
 ((at? a2.2.2.2.2.2.2.1 v16.1).bind λv17 =>
 ((ch_ a2.2.2.2.1 v17).bind λv18 =>
 (cond (!v18.1)
 (some (inr (inr ((decide (0≤v16.1)),()))))
 (some (inl ((w64 (v16.1+1)),()))))))
 (some (inr (inl ()))))) (0,())).bind λv19 =>
 (bl_ v19 (λv20=>(some ((decide (0≤(-1))),())))
 (λv21=>(some v21))))).bind λv22 =>
 (cond v22.1
 (some (true,()))
 ((((ad_ (ρ:=(Unit⊕(Bool×Unit))) (λ(v23:(Int×Unit)) =>
 (cond (decide (v23.1<(a2.2.2.2.2.2.2.2.length:Int)))
 ((at? a2.2.2.2.2.2.2.2 v23.1).bind λv24 =>
 ((ch_ a2.2.2.2.1 v24).bind λv25 =>
 (cond v25.1
 (some (inr (inr ((decide (0≤v23.1)),()))))
 (some (inl ((w64 (v23.1+1)),()))))))
 (some (inr (inl ()))))) (0,())).bind λv26 =>
 (bl_ v26 (λv27=>(some ((decide (0≤(-1))),())))
 (λv28=>(some v28))))).bind λv29 =>
 (some (v29.1,())))))).bind λv30 =>
 (cond v30.1
 (some (false,()))
 ((ad_ (ρ:=(Unit⊕(Bool×Unit))) (λ(v31:(Int×Unit)) =>
 (cond (decide (v31.1<(a2.2.2.2.2.2.1.length:Int)))
 ((at? a2.2.2.2.2.2.1 v31.1).bind λv32 =>
 ((sub? a2.2.2.2.2.2.1 0 v31.1).bind λv33 =>
 ((((ad_ (ρ:=(Unit⊕(Bool×Unit))) (λ(v34:(Int×Unit)) =>
 (cond (decide (v34.1<(v33.length:Int)))
 ((at? v33 v34.1).bind λv35 =>
 (cond (v35.1==v32.1)
 (some (inr (inr ((decide (0≤v34.1)),()))))
 (some (inl ((w64 (v34.1+1)),())))))
 (some (inr (inl ()))))) (0,())).bind λv36 =>
 (bl_ v36 (λv37=>(some ((decide (0≤(-1))),())))
 (λv38=>(some v38))))).bind λv39 =>
 ((((ep_ a0 v32.1 v32.2).bind λv40 =>
 (cond (!v40.1)
 (some (true,()))
 (some (v39.1,()))))).bind λv41 =>
 (cond v41.1
 (some (inr (inr (false,()))))
 (some (inl ((w64 (v31.1+1)),()))))))))
 (some (inr (inl ()))))) (0,())).bind λv42 =>
 (bl_ v42 (λv43=>(some (true,())))
 (λv44=>(some v44))))))))))
theorem x_129:ax_ (P:=prog) (cxI (λk=>cond (Nat.beq k 150) (.p .z (.p (.p .z (.ls [.v 8 .int] [] [] 0 .z)) .z)) (cond (Nat.beq k 166) (.p .z (.j0 [.v 4 .bool] .z .z)) (cond (Nat.beq k 184) (.p .z (.j0 [.v 6 .bool] .z .z)) (cond (Nat.beq k 189) (.p .z (.j0 [.v 4 .bool] .z .z)) (cond (Nat.beq k 220) (.p .z (.j0 [.v 6 .int] .z .z)) (cond (Nat.beq k 221) (.p .z (.p (.p .z (.ls [.v 8 .int] [] [] 0 .z)) .z)) (cond (Nat.beq k 227) (.p .z (.p (.p .z (.ls [.v 8 .int] [] [] 0 .z)) .z)) (cond (Nat.beq k 228) (.p .z (.p (.q [] .z .z) .z)) (.z))))))))) (λk=>Nat.beq k 81||Nat.beq k 121||Nat.beq k 130||Nat.beq k 179||Nat.beq k 185||Nat.beq k 186||false) (cxC [c_81,bt4,bt3,c_179,c_185,c_186] []) 12) (.p .z (.p (.j0 [.v 35 .bool] (.q [] .z .z) .z) (.p (.j0 [.v 60 .bool] .z .z) (.p .z (.p .z (.p (.j0 [.v 72 .bool] .z .z) (.p (.p .z (.ls [.v 76 .int] [] [] 0 (.p .z (.p .z (.p (.p .z (.p .z (.j0 [.v 96 .bool] .z .z))) .z))))) .z))))))) 129 [au_,.int,me_] [.bool]=λx=>oc_ x.1 x.2.1 x.2.2.1:=by kernel_rfl
noncomputable def c_129:Con prog:=ay_ _ _ 129 [au_,.int,me_] [.bool] _ x_129
noncomputable def bt_ (a0:aa_) (a1:ab_):Option (Bool×Unit) :=
 (((cond (a1.1==1)
 ((ap_ a0 a1.2.1).bind λv0 =>
 (cond v0.1
 ((bg_ a0 a1.2.2.2.1).bind λv1 =>
 (some (v1.1,((a1.2.1,(0,(a1.2.2.2.1,(0,([],()))))),()))))
 (some (false,((a1.2.1,(0,(a1.2.2.2.1,(0,([],()))))),())))))
 (cond (a1.1==2)
 ((ap_ a0 a1.2.1).bind λv2 =>
 (cond v2.1
 ((ap_ a0 a1.2.2.1).bind λv3 =>
 (cond v3.1
 (cond (decide (a1.2.1≤a1.2.2.1))
 ((av_ a1.2.2.2.1 0 100).bind λv4 =>
 (some (v4.1,((a1.2.1,(a1.2.2.1,(a1.2.2.2.1,(0,([],()))))),()))))
 (some (false,((a1.2.1,(a1.2.2.1,(a1.2.2.2.1,(0,([],()))))),()))))
 (some (false,((a1.2.1,(a1.2.2.1,(a1.2.2.2.1,(0,([],()))))),())))))
 (some (false,((a1.2.1,(a1.2.2.1,(a1.2.2.2.1,(0,([],()))))),())))))
 (((cond (a1.1==3)
 (some ((a1.1==3),()))
 (some ((a1.1==4),())))).bind λv5 =>
 (cond v5.1
 ((ap_ a0 a1.2.1).bind λv6 =>
 (cond v6.1
 ((ap_ a0 a1.2.2.1).bind λv7 =>
 (cond v7.1
 (some ((a1.2.1 != a1.2.2.1),((a1.2.1,(a1.2.2.1,(0,(0,([],()))))),())))
 (some (false,((a1.2.1,(a1.2.2.1,(0,(0,([],()))))),())))))
 (some (false,((a1.2.1,(a1.2.2.1,(0,(0,([],()))))),())))))
 (cond (a1.1==5)
 ((bg_ a0 a1.2.2.2.1).bind λv8 =>
 (cond v8.1
 ((av_ a1.2.2.2.2.1 0 a0.1).bind λv9 =>
 (some (v9.1,((0,(0,(a1.2.2.2.1,(a1.2.2.2.2.1,([],()))))),()))))
 (some (false,((0,(0,(a1.2.2.2.1,(a1.2.2.2.2.1,([],()))))),())))))
 (cond (a1.1==6)
 ((av_ a1.2.2.2.1 0 a0.1).bind λv10 =>
 (cond v10.1
 ((av_ a1.2.2.2.2.1 0 a0.1).bind λv11 =>
 (cond v11.1
 ((bs_ a0 a1.2.2.2.2.2.1).bind λv12 =>
 (some (v12.1,((0,(0,(a1.2.2.2.1,(a1.2.2.2.2.1,(a1.2.2.2.2.2.1,()))))),()))))
 (some (false,((0,(0,(a1.2.2.2.1,(a1.2.2.2.2.1,(a1.2.2.2.2.2.1,()))))),())))))
 (some (false,((0,(0,(a1.2.2.2.1,(a1.2.2.2.2.1,(a1.2.2.2.2.2.1,()))))),())))))
 (cond (a1.1==7)
 ((ap_ a0 a1.2.1).bind λv13 =>
 (cond v13.1
 ((av_ a1.2.2.2.1 2 10).bind λv14 =>
 (cond v14.1
 ((av_ a1.2.2.2.2.1 0 (w64 (a1.2.2.2.1 - 1))).bind λv15 =>
 (some (v15.1,((a1.2.1,(0,(a1.2.2.2.1,(a1.2.2.2.2.1,([],()))))),()))))
 (some (false,((a1.2.1,(0,(a1.2.2.2.1,(a1.2.2.2.2.1,([],()))))),())))))
 (some (false,((a1.2.1,(0,(a1.2.2.2.1,(a1.2.2.2.2.1,([],()))))),())))))
 (some (false,((0,(0,(0,(0,([],()))))),()))))))))))).bind λv16 =>
 (cond v16.1
 (cond (a1.2.1==v16.2.1.1)
 (cond (a1.2.2.1==v16.2.1.2.1)
 (cond (a1.2.2.2.1==v16.2.1.2.2.1)
 (cond (a1.2.2.2.2.1==v16.2.1.2.2.2.1)
 (some (((a1.2.2.2.2.2.1.length:Int)==(v16.2.1.2.2.2.2.1.length:Int)),()))
 (some (false,())))
 (some (false,())))
 (some (false,())))
 (some (false,())))
 (some (false,()))))
theorem x_118:ax_ (P:=prog) (cxC [bt2,c_171,c_174,c_175] []) (.p .z (.p .z (.p .z (.j0 [.v 6 .bool,.b (.s 5) [.keep,.val .int,.val .int,.val .int,.val .int,.val (.list .int),.keep]] (.p .z (.p .z (.p .z (.p .z (.p .z (.j0 [.v 65 .bool] .z .z)))))) .z)))) 118 [ae_,af_] [.bool]=λx=>bt_ x.1 x.2.1:=by kernel_rfl
noncomputable def c_118:Con prog:=ay_ _ _ 118 [ae_,af_] [.bool] _ x_118
noncomputable def cp_ (a0:(List ab_)) (a1:(List Int)):Option (Int×Unit) :=
 ((ad_ (ρ:=(Unit⊕(Int×Unit))) (λ(v0:(Int×Unit)) =>
 (cond (decide (v0.1<(a0.length:Int)))
 ((at? a0 v0.1).bind λv1 =>
 ((df_ v1 a1).bind λv2 =>
 (cond (!v2.1)
 (some (inr (inr (v0.1,()))))
 (some (inl ((w64 (v0.1+1)),()))))))
 (some (inr (inl ()))))) (0,())).bind λv3 =>
 (bl_ v3 (λv4=>(some ((-1),())))
 (λv5=>(some v5))))
theorem x_178:ax_ (P:=prog) (cxI (λk=>cond (Nat.beq k 114) (.p .z (.p (.p .z (.ls [.v 8 .int] [] [] 0 .z)) .z)) (.z)) (λk=>Nat.beq k 173||false) (cxC [c_173] []) 3) .z 178 [(.list af_),(.list .int)] [.int]=λx=>cp_ x.1 x.2.1:=by kernel_rfl
noncomputable def c_178:Con prog:=ay_ _ _ 178 [(.list af_),(.list .int)] [.int] _ x_178
noncomputable def ln_ (a0:ag_) (a1:Int):Option (Bool×Unit) :=
 ((at? a0.2.2.2.2.1 a1).bind λv0 =>
 ((ad_ (ρ:=(Unit⊕(Bool×Unit))) (λ(v1:(Int×Unit)) =>
 (cond (decide (v1.1<a1))
 ((at? a0.2.2.2.2.1 v1.1).bind λv2 =>
 (cond (v2.1==v0.1)
 (some (inr (inr (false,()))))
 (some (inl ((w64 (v1.1+1)),())))))
 (some (inr (inl ()))))) (0,())).bind λv3 =>
 (bl_ v3 (λv4=>((((dc_ v0.1).bind λv6 =>
 (cond (!v6.1)
 (some (true,()))
 ((cb_ a0 v0.2.1).bind λv7 =>
 (cond (!v7.1)
 (some (true,()))
 ((cj_ v0.2.2.1 (-1) 7).bind λv8 =>
 (cond (!v8.1)
 (some (true,()))
 ((cs_ a0 v0.2.2.2.1).bind λv9 =>
 (cond (!v9.1)
 (some (true,()))
 ((cs_ a0 v0.2.2.2.2.2.2.1).bind λv10 =>
 (cond (!v10.1)
 (some (true,()))
 ((cs_ a0 v0.2.2.2.2.2.2.2).bind λv11 =>
 (cond (!v11.1)
 (some (true,()))
 (some ((decide (6<(v0.2.2.2.2.2.1.length:Int))),()))))))))))))))).bind λv12 =>
 (cond v12.1
 (some (false,()))
 ((ad_ (ρ:=(Unit⊕(Bool×Unit))) (λ(v13:(Int×Unit)) =>
 (cond (decide (v13.1<(v0.2.2.2.2.2.2.1.length:Int)))
 ((at? v0.2.2.2.2.2.2.1 v13.1).bind λv14 =>
 ((lc_ v0.2.2.2.1 v14).bind λv15 =>
 (cond (!v15.1)
 (some (inr (inr (false,()))))
 (some (inl ((w64 (v13.1+1)),()))))))
 (some (inr (inl ()))))) (0,())).bind λv16 =>
 (bl_ v16 (λv17=>((ad_ (ρ:=(Unit⊕(Bool×Unit))) (λ(v19:(Int×Unit)) =>
 (cond (decide (v19.1<(v0.2.2.2.2.2.2.2.length:Int)))
 ((at? v0.2.2.2.2.2.2.2 v19.1).bind λv20 =>
 ((lc_ v0.2.2.2.1 v20).bind λv21 =>
 (cond v21.1
 (some (inr (inr (false,()))))
 (some (inl ((w64 (v19.1+1)),()))))))
 (some (inr (inl ()))))) (0,())).bind λv22 =>
 (bl_ v22 (λv23=>((ad_ (ρ:=(Unit⊕(Bool×Unit))) (λ(v25:(Int×Unit)) =>
 (cond (decide (v25.1<(v0.2.2.2.2.2.1.length:Int)))
 ((at? v0.2.2.2.2.2.1 v25.1).bind λv26 =>
 ((at? v0.2.2.2.2.2.1 v25.1).bind λv27 =>
 ((fx_ a0 v26.1 v27.2).bind λv28 =>
 (cond (!v28.1)
 (some (inr (inr (false,()))))
 ((ad_ (ρ:=(Unit⊕((Int×Unit)⊕(Unit⊕(Bool×Unit))))) (λ(v29:(Int×Unit)) =>
 (cond (decide (v29.1<v25.1))
 ((at? v0.2.2.2.2.2.1 v29.1).bind λv30 =>
 ((at? v0.2.2.2.2.2.1 v25.1).bind λv31 =>
 (cond (v30.1==v31.1)
 (some (inr (inr (inr (inr (false,()))))))
 (some (inl ((w64 (v29.1+1)),()))))))
 (some (inr (inl ()))))) (0,())).bind λv32 =>
 (bl_ v32 (λv33=>(some (inl ((w64 (v25.1+1)),()))))
 (λv34=>(some v34))))))))
 (some (inr (inl ()))))) (0,())).bind λv35 =>
 (bl_ v35 (λv36=>(some (true,())))
 (λv37=>(some v37)))))
 (λv24=>(some v24)))))
 (λv18=>(some v18)))))))
 (λv5=>(some v5)))))
theorem x_202:ax_ (P:=prog) (cxC [bt1,c_157,at4,c_200,c_223,c_224] []) (.p .z (.p .z (.p (.p .z (.ls [.v 6 .int] [] [] 0 .z)) (.p (.j0 [.v 73 .bool] .z .z) (.p (.p .z (.ls [.v 7 .int] [] [] 2 .z)) (.p (.p .z (.ls [.v 8 .int] [] [] 4 .z)) (.p (.p .z (.ls [.v 9 .int] [] [] 6 (.p .z (.p (.p .z (.p .z (.ls [.v 10 .int] [] [] 8 .z))) .z)))) .z))))))) 202 [au_,.int] [.bool]=λx=>ln_ x.1 x.2.1:=by kernel_rfl
noncomputable def c_202:Con prog:=ay_ _ _ 202 [au_,.int] [.bool] _ x_202
noncomputable def fb_ (a0:aa_) (a1:ab_):Option (Int×Unit) :=
 ((fc_ a0).bind λv0 =>
 (cond (v0.1 != 0)
 (some (v0.1,()))
 ((hn_ a0 a1).bind λv1 =>
 (cond (!v1.1)
 (some (11,()))
 (some (0,()))))))
theorem x_160:ax_ (P:=prog) (cxC [c_152,c_205] []) .z 160 [ae_,af_] [.int]=λx=>fb_ x.1 x.2.1:=by kernel_rfl
noncomputable def c_160:Con prog:=ay_ _ _ 160 [ae_,af_] [.int] _ x_160
end
end Go.Proofs.YtlbfbdbagohinaaGreatDoor.Rx
namespace Go.Proofs.YtlbfbdbagohinaaGreatDoor.Rx
open Go Pad Rex Sum
section
def wi (a b c:Int):Bool:=decide (b≤a)&&decide (a≤c)
theorem gl_ {a b c:Int}:wi a b c=true↔b≤a∧a≤c:=by simp[wi]
theorem aq2 (a b c:Int):(cond (decide (b≤a)) (some ((decide (a≤c)),())) (some (false,())))=some (wi a b c,()):=by
 unfold wi
 cases decide (b≤a)<;>rfl
theorem dn_ (a b c:Int):bf_ a b c=some (wi a b c,()):=aq2 a b c
theorem lk_ (a b c:Int):dd_ a b c=some (wi a b c,()):=aq2 a b c
theorem gd_ (a b c:Int):cj_ a b c=some (wi a b c,()):=aq2 a b c
theorem qt_ (a b c:Int):gg_ a b c=some (wi a b c,()):=aq2 a b c
theorem beqc {α:Type} [BEq α] [LawfulBEq α] (x y:α):(y==x)=(x==y):=by
 rw[k7_,j6_,j6_]
 exact eq_comm
theorem gk_ {α:Type} [BEq α] [LawfulBEq α] (l:List α) (x:α):l.any (x == ·)=l.contains x:=by
 induction l with
 | nil=>rfl
 | cons y l ih=>simp[List.contains_cons,ih]
theorem bj1 {l:List Int} {x:Int} (hl:Sm l.length):∃ i:Int,eg_ l x=some (i,())∧decide (0≤i)=l.contains x:=by
  unfold eg_
  have h1:=pu_ l (λi y=>cond (x==y) (some (inr ((i:Int),()):Unit⊕(Int×Unit))) none) (λi=>((i:Int),())) (r0:=inl ())
    (body:=λ(v0:(Int×Unit)) =>
     (cond (decide (v0.1<(l.length:Int)))
     ((at? l v0.1).bind λv1 =>
     (cond (x==v1)
     (some (inr (inr (v0.1,()))))
     (some (inl ((w64 (v0.1+1)),())))))
     (some (inr (inl ())))))
    (λi y hy=>by
      have hi:=al_ hy
      simp only[dlt hi,a6_,ah_ hy,a0_,bj_ (show Sm i by omega)]
      cases x==y<;>rfl)
    (by simp only[dnl,a4_])
  rcases xg_ (q:=λy=>x==y) (f:=λi=>(inr ((i:Int),()):Unit⊕(Int×Unit))) l 0 with ⟨h2,h3⟩ | ⟨i,h2,h3⟩
  · refine⟨-1,e2_ (congrArg (λo=>Option.bind o _) h1) ?_,by rw[← gk_,h3];rfl⟩
    rw[h2];rfl
  · refine⟨i,e2_ (congrArg (λo=>Option.bind o _) h1) ?_,by rw[← gk_,h3];exact c1_ (by omega)⟩
    rw[h2];rfl
theorem se_ {l:List Int} {x:Int} (hl:Sm l.length):ch_ l x=some (l.contains x,()):=by
 obtain⟨i,h1,h2⟩:=bj1 (x:=x) hl
 unfold ch_
 rw[h1,a0_,h2]
theorem ad5 {l:List (List UInt8)} {x:List UInt8} (hl:Sm l.length):∃ i:Int,db_ l x=some (i,())∧decide (0≤i)=l.contains x:=by
 unfold db_
 rcases xg_ (q:=λy=>x==y) (f:=λi=>(inr ((i:Int),()):Unit⊕(Int×Unit))) l 0 with ⟨h2,h3⟩ | ⟨i,h2,h3⟩
 ·refine⟨-1,bu_ l (λi y=>cond (x==y) (some (inr ((i:Int),()):Unit⊕(Int×Unit))) none) (λi=>((i:Int),())) (r0:=inl ()) (λi y hy => ?_) ?_ ?_,by rw[← gk_,h3];rfl⟩
  ·have hi:=al_ hy
   simp only[dlt hi,a6_,ah_ hy,a0_,bj_ (show Sm i by omega)]
   cases x==y<;>rfl
  ·simp only[dnl,a4_]
  ·rw[h2];rfl
 ·refine⟨i,bu_ l (λi y=>cond (x==y) (some (inr ((i:Int),()):Unit⊕(Int×Unit))) none) (λi=>((i:Int),())) (r0:=inl ()) (λi y hy => ?_) ?_ ?_,by rw[← gk_,h3];exact c1_ (by omega)⟩
  ·have hi:=al_ hy
   simp only[dlt hi,a6_,ah_ hy,a0_,bj_ (show Sm i by omega)]
   cases x==y<;>rfl
  ·simp only[dnl,a4_]
  ·rw[h2];rfl
theorem vf_ {l:List (List UInt8)} {x:List UInt8} (hl:Sm l.length):cm_ l x=some (l.contains x,()):=by
 obtain⟨i,h1,h2⟩:=ad5 (x:=x) hl
 unfold cm_
 rw[h1,a0_,h2]
theorem al0 {l:List Int} {x:Int} (hl:Sm l.length):lc_ l x=some (l.contains x,()):=by
 unfold lc_
 refine bu_ l (λi y=>cond (x==y) (some (inr (true,()):Unit⊕(Bool×Unit))) none) (λi=>((i:Int),())) (r0:=inl ()) (λi y hy => ?_) ?_ ?_
 ·have hi:=al_ hy
  simp only[dlt hi,a6_,ah_ hy,a0_,bj_ (show Sm i by omega)]
  rw[beqc x y]
  cases x==y<;>rfl
 ·simp only[dnl,a4_]
 ·rw[hi_ (q:=λy=>x==y),gk_]
  cases l.contains x<;>rfl
def vj_ (c:UInt8):Bool:=decide (97≤(c.toNat:Int))&&decide ((c.toNat:Int)≤122)
def okW (t:List UInt8):Bool:=t.all vj_&&(!(t==[])&&!(reserved.contains t))
def okN (t:List UInt8):Bool:=decide ((t.length:Int)≤12)&&okW t
theorem bp7 (c:UInt8):(cond (decide (((UInt8.toNat c):Int)<97)) (some (true,())) (some ((decide (122<((UInt8.toNat c):Int))),())))=some (!(vj_ c),()):=by
 unfold vj_
 by_cases h1:((UInt8.toNat c):Int)<97
 ·rw[c1_ h1,c6_ (by omega:¬ (97:Int)≤(c.toNat:Int))];rfl
 ·rw[c6_ h1,c1_ (by omega:(97:Int)≤(c.toNat:Int))]
  by_cases h2:122<((UInt8.toNat c):Int)
  ·rw[c1_ h2,c6_ (by omega:¬ ((UInt8.toNat c):Int)≤122)];rfl
  ·rw[c6_ h2,c1_ (by omega:((UInt8.toNat c):Int)≤122)];rfl
theorem mo_ {t:List UInt8} (hl:Sm t.length):ad_ (ρ:=(Unit⊕(Bool×Unit))) (λ(v0:(Int×Unit)) =>
 (cond (decide (v0.1<(t.length:Int)))
 ((((at? t v0.1).bind λv1 =>
 (cond (decide (((UInt8.toNat v1):Int)<97))
 (some (true,()))
 ((at? t v0.1).bind λv2 =>
 (some ((decide (122<((UInt8.toNat v2):Int))),())))))).bind λv3 =>
 (cond v3.1
 (some (inr (inr (false,()))))
 (some (inl ((w64 (v0.1+1)),())))))
 (some (inr (inl ()))))) (0,())=some (cond (t.all vj_) (inl ()) (inr (false,()))):=by
  refine e2_ (pu_ t (λi c=>cond (vj_ c) none (some (inr (false,()):Unit⊕(Bool×Unit)))) (λi=>((i:Int),())) (r0:=inl ()) (λi y hy => ?_) ?_) ?_
  · have hi:=al_ hy
    simp only[dlt hi,a6_,ah_ hy,a0_,bj_ (show Sm i by omega),bp7]
    cases vj_ y<;>rfl
  · simp only[dnl,a4_]
  · rw[ns_]
    cases t.all vj_<;>rfl
theorem ax8 {t:List UInt8} (hl:Sm t.length):eo_ t=some (okW t,()):=by
 unfold eo_
 refine e2_ (congrArg (λo=>Option.bind o _) (mo_ hl)) ?_
 unfold okW
 rw[a0_]
 cases t.all vj_ with
 | false=>rfl
 | true =>
  simp only[a6_,b9_]
  cases t==[] with
  | true=>rfl
  | false =>
   simp only[i9_,a6_,b9_]
   rw[vf_ (by decide),a0_]
   rfl
theorem xl_ {t:List UInt8} (hl:Sm t.length):gr_ t=some (okW t,()):=by
 unfold gr_
 refine e2_ (congrArg (λo=>Option.bind o _) (mo_ hl)) ?_
 unfold okW
 rw[a0_]
 cases t.all vj_ with
 | false=>rfl
 | true =>
  simp only[a6_,b9_]
  refine bu_ reserved (λi y=>cond (t==y) (some (inr (false,()):Unit⊕(Bool×Unit))) none) (λi=>((i:Int),())) (r0:=inl ()) (λi y hy => ?_) ?_ ?_
  ·have hi:=al_ hy
   have h10:i<10:=hi
   have hy':=hy
   unfold reserved at hy'
   refine e2_ (congrArg (λc=>cond c _ _) (dlt hi)) ?_
   simp only[a6_,ah_ hy',a0_,bj_ (show Sm i by omega)]
   rw[beqc t y]
   cases t==y<;>rfl
  ·rfl
  ·rw[hi_ (q:=λy=>t==y),gk_]
   cases reserved.contains t with
   | true=>simp
   | false=>simp
theorem az1 {t:List UInt8} (hl:Sm t.length):lo_ t=some (okW t,()):=by
  unfold lo_
  have h0:(((cond (t==[]) (some ((t==[]),())) (cond (t==[97,116]) (some ((t==[97,116]),())) (cond (t==[115,116,97,116,101,115]) (some ((t==[115,116,97,116,101,115]),())) (cond (t==[115,116,97,114,116]) (some ((t==[115,116,97,114,116]),()))
     (cond (t==[103,111,110,101]) (some ((t==[103,111,110,101]),())) (cond (t==[105,102]) (some ((t==[105,102]),())) (cond (t==[108,111,99,107]) (some ((t==[108,111,99,107]),())) (cond (t==[119,105,116,104]) (some ((t==[119,105,116,104]),()))
     (cond (t==[115,101,116,115]) (some ((t==[115,101,116,115]),())) (cond (t==[115,112,101,110,100,115]) (some ((t==[115,112,101,110,100,115]),())) (some ((t==[98,114,105,110,103,115]),()))))))))))))):Option (Bool×Unit))=some ((t==[]||reserved.contains t),()):=by
    unfold reserved
    simp only[List.contains_cons,List.contains_nil,g7_]
    cases t==[] with
    | true=>rfl
    | false =>
    cases t==[97,116] with
    | true=>rfl
    | false =>
    cases t==[115,116,97,116,101,115] with
    | true=>rfl
    | false =>
    cases t==[115,116,97,114,116] with
    | true=>rfl
    | false =>
    cases t==[103,111,110,101] with
    | true=>rfl
    | false =>
    cases t==[105,102] with
    | true=>rfl
    | false =>
    cases t==[108,111,99,107] with
    | true=>rfl
    | false =>
    cases t==[119,105,116,104] with
    | true=>rfl
    | false =>
    cases t==[115,101,116,115] with
    | true=>rfl
    | false =>
    cases t==[115,112,101,110,100,115] with
    | true=>rfl
    | false=>rfl
  refine e2_ (congrArg (λo=>Option.bind o _) h0) ?_
  rw[a0_]
  unfold okW
  cases hz:(t==[]||reserved.contains t) with
  | true =>
    have:(!(t==[])&&!(reserved.contains t))=false:=by
      rw[← Bool.not_or,hz];rfl
    rw[this,h9_]
    rfl
  | false =>
    have:(!(t==[])&&!(reserved.contains t))=true:=by
      rw[← Bool.not_or,hz];rfl
    rw[this,g8_]
    simp only[a4_]
    refine e2_ (congrArg (λo=>Option.bind o _) (mo_ hl)) ?_
    rw[a0_]
    cases t.all vj_<;>rfl
theorem jh_ {t:List UInt8} (hl:Sm t.length):dc_ t=some (okN t,()):=by
 unfold dc_ okN
 rw[xl_ hl]
 cases decide ((t.length:Int)≤12)<;>rfl
end
section
def qk_ (things:List jq_) (th n:Int):Bool:=wi th 0 (w64 ((things.length:Int) - 1))&&match at? things th with
 | some t=>wi n 0 (w64 (t.2.2.1 - 1))
 | none=>false
theorem yv_ {α:Type} {l:List α} {i:Int} (hl:Sm l.length) (h:wi i 0 (w64 ((l.length:Int) - 1))=true):∃ x,at? l i=some x:=by
 rw[wy_ (by omega) (by omega)] at h
 obtain⟨h1,h2⟩:=gl_.1 h
 obtain⟨x,hx⟩:=cz_ (l:=l) (i:=i.toNat) (by omega)
 exact⟨x,by rw[show i=((i.toNat:Nat):Int) by omega];exact ah_ hx⟩
theorem nu_ {r:ag_} (hl:Sm r.2.1.length) (th n:Int):ep_ r th n=some (qk_ r.2.1 th n,()):=by
 unfold ep_ qk_
 rw[dn_,a0_]
 cases h:wi th 0 (w64 ((r.2.1.length:Int) - 1)) with
 | false=>rfl
 | true =>
  obtain⟨x,hx⟩:=yv_ hl h
  simp only[a6_,hx,a0_,dn_,b9_]
theorem pm_ {r:ag_} (hl:Sm r.2.1.length) (th n:Int):fx_ r th n=some (qk_ r.2.1 th n,()):=by
 unfold fx_ qk_
 rw[gd_,a0_]
 cases h:wi th 0 (w64 ((r.2.1.length:Int) - 1)) with
 | false=>rfl
 | true =>
  obtain⟨x,hx⟩:=yv_ hl h
  simp only[a6_,hx,a0_,gd_,b9_]
def cOk (things:List jq_) (c:List cl_):Bool:=decide ((c.length:Int)≤8)&&c.all λl=>qk_ things l.1 l.2.1
theorem ve_ {α:Type} (l:List α) (q:α→Bool):(!(l.any λx=>!(q x)))=l.all q:=by
 induction l with
 | nil=>rfl
 | cons x l ih =>
  rw[List.any_cons,List.all_cons,← ih]
  cases q x<;>rfl
theorem kx_ {r:ag_} (hl:Sm r.2.1.length) (c:List cl_):dl_ r c=some (cOk r.2.1 c,()):=by
 unfold dl_ cOk
 cases h8:decide ((c.length:Int)≤8) with
 | false=>rfl
 | true =>
  have h8:=f1_ h8
  simp only[a6_,b9_]
  refine e2_ (congrArg (λo=>Option.bind o _) (qc_ (show Sm c.length by omega) (λl=>!(qk_ r.2.1 l.1 l.2.1)) (λi y hy => ?_) ?_)) ?_
  ·simp only[dlt (al_ hy),a6_,ah_ hy,a0_,nu_ hl]
   cases qk_ r.2.1 y.1 y.2.1<;>rfl
  ·simp only[dnl,a4_]
  ·rw[a0_]
   exact congrArg (λb=>some (b,())) (ve_ c _)
theorem ge_ {r:ag_} (hl:Sm r.2.1.length) {c:List cl_} (hc:Sm c.length):cc_ r c=some (cOk r.2.1 c,()):=by
 unfold cc_ cOk
 refine bu_ c (λi l=>cond (qk_ r.2.1 l.1 l.2.1) none (some (inr (false,()):Unit⊕(Bool×Unit)))) (λi=>((i:Int),())) (r0:=inl ()) (λi y hy => ?_) ?_ ?_
 ·have hi:=al_ hy
  simp only[dlt hi,a6_,ah_ hy,a0_,bj_ (show Sm i by omega),pm_ hl]
  cases qk_ r.2.1 y.1 y.2.1<;>rfl
 ·simp only[dnl,a4_]
 ·rw[ns_ (q:=λl:cl_=>qk_ r.2.1 l.1 l.2.1)]
  cases c.all λl=>qk_ r.2.1 l.1 l.2.1 with
  | true=>rw[g8_];rfl
  | false=>rw[h9_];rfl
theorem ar8 {r:ag_} (hl:Sm r.2.1.length) (c:List cl_):jy_ r c=some (cOk r.2.1 c,()):=by
 unfold jy_ cOk
 cases h8:decide ((c.length:Int)≤8) with
 | false=>rfl
 | true =>
  have h8:=f1_ h8
  simp only[a6_,b9_]
  refine e2_ (congrArg (λo=>Option.bind o _) (qc_ (show Sm c.length by omega) (λl=>!(qk_ r.2.1 l.1 l.2.1)) (λi y hy => ?_) ?_)) ?_
  ·simp only[dlt (al_ hy),a6_,ah_ hy,a0_,lk_,qk_]
   cases h:wi y.1 0 (w64 ((r.2.1.length:Int) - 1)) with
   | false=>rfl
   | true =>
    obtain⟨x,hx⟩:=yv_ hl h
    simp only[e4_,a4_,hx,a0_,b9_]
    cases wi y.2.1 0 (w64 (x.2.2.1 - 1))<;>rfl
  ·simp only[dnl,a4_]
  ·rw[a0_]
   exact congrArg (λb=>some (b,())) (ve_ c _)
end
section
def prv (l:List Int) (i:Nat):Int:=match i with
 | 0=>-1
 | j+1=>(l[j]?).getD 0
def bx4 (np:Nat) (l:List Int) (i:Nat) (x:Int):Bool:=decide (x≤prv l i)||decide ((np:Int)≤x)
def badQ (np:Nat) (l:List Int) (i:Nat) (x:Int):Bool:=!(wi x 0 ((np:Int) - 1))||(decide (0<i)&&decide (x≤prv l i))
def kr_ (np:Nat) (l:List Int):Bool:=(gn_ (λi x=>cond (bx4 np l i x) (some ()) none) 0 l).isNone
theorem tq_ {α ρ:Type} {q:Nat→α→Bool} {r:ρ}:∀ (l:List α) (i:Nat),gn_ (λi x=>cond (q i x) (some r) none) i l=cond (gn_ (λi x=>cond (q i x) (some ()) none) i l).isNone none (some r)
 | [],_=>rfl
 | x::l,i=>by
  unfold gn_
  cases q i x with
  | true=>rfl
  | false=>exact tq_ l (i+1)
theorem ak6 {α:Type} {q:Nat→α→Bool} (l:List α):(gn_ (λi x=>cond (q i x) (some ()) none) 0 l).isNone=true↔∀ i x,l[i]?=some x→q i x=false:=by
 rw[Option.isNone_iff_eq_none,jf_]
 constructor
 ·intro h i x hx
  have:=h i x hx
  rw[a7_] at this
  cases hq:q i x with
  | false=>rfl
  | true=>rw[hq] at this;cases this
 ·intro h i x hx
  rw[a7_,h i x hx]
  rfl
theorem asc_eq (np:Nat) (l:List Int):(gn_ (λi x=>cond (badQ np l i x) (some ()) none) 0 l).isNone=kr_ np l:=by
 rw[k7_]
 unfold kr_
 rw[ak6,ak6]
 constructor
 ·intro h i x hx
  have h0:=h i x hx
  unfold badQ at h0
  rw[b5_] at h0
  obtain⟨h1,h2⟩:=h0
  have h1:wi x 0 ((np:Int) - 1)=true:=by simpa using h1
  obtain⟨h3,h4⟩:=gl_.1 h1
  unfold bx4
  rw[b5_]
  refine⟨?_,c6_ (by omega)⟩
  cases i with
  | zero=>exact c6_ (by show ¬ x≤-1;omega)
  | succ j =>
   have:decide (0<j+1)=true:=c1_ (by omega)
   rw[this,b9_] at h2
   exact h2
 ·intro h
  have pos:∀ (i:Nat) (x:Int),l[i]?=some x→0≤x∧x<np:=by
   intro i
   induction i with
   | zero =>
    intro x hx
    have h0:=h 0 x hx
    unfold bx4 at h0
    rw[b5_] at h0
    have h1:=c9_ h0.1
    have h2:=c9_ h0.2
    have h1:¬ x≤-1:=h1
    omega
   | succ j ih =>
    intro x hx
    have h0:=h (j+1) x hx
    unfold bx4 at h0
    rw[b5_] at h0
    have h1:=c9_ h0.1
    have h2:=c9_ h0.2
    obtain⟨y,hy⟩:=cz_ (l:=l) (i:=j) (by have:=al_ hx;omega)
    have h3:=ih y hy
    have h1:¬ x≤(l[j]?).getD 0:=h1
    rw[hy] at h1
    have h1:¬ x≤y:=h1
    omega
  intro i x hx
  have h0:=h i x hx
  unfold bx4 at h0
  rw[b5_] at h0
  have hp:=pos i x hx
  unfold badQ
  have:wi x 0 ((np:Int) - 1)=true:=gl_.2 ⟨hp.1,by omega⟩
  rw[this,h0.1,h9_]
  rfl
theorem qs_ {r:ag_} {l:List Int} (hl:Sm l.length):gf_ r l=some (kr_ r.2.2.1.length l,()):=by
 unfold gf_
 refine bu_ l (λi x=>cond (bx4 r.2.2.1.length l i x) (some (inr (false,()):Unit⊕(Bool×Unit))) none) (λi=>(prv l i,((i:Int),()))) (r0:=inl ()) (λi y hy => ?_) ?_ ?_
 ·have hi:=al_ hy
  simp only[dlt hi,a6_,ah_ hy,a0_,bj_ (show Sm i by omega),bx4]
  have hn:prv l (i+1)=y:=by show (l[i]?).getD 0=y;rw[hy];rfl
  cases decide (y≤prv l i) with
  | true=>rfl
  | false =>
   simp only[a4_,h7_,a0_,hn]
   cases decide ((r.2.2.1.length:Int)≤y)<;>rfl
 ·simp only[dnl,a4_]
 ·rw[tq_]
  unfold kr_
  cases (gn_ (λi x=>cond (bx4 r.2.2.1.length l i x) (some ()) none) 0 l).isNone<;>rfl
theorem jg_ {r:ag_} (hp:Sm r.2.2.1.length) {l:List Int} (hl:Sm l.length):cs_ r l=some (kr_ r.2.2.1.length l,()):=by
 unfold cs_
 refine bu_ l (λi x=>cond (badQ r.2.2.1.length l i x) (some (inr (false,()):Unit⊕(Bool×Unit))) none) (λi=>((i:Int),())) (r0:=inl ()) (λi y hy => ?_) ?_ ?_
 ·have hi:=al_ hy
  rw[show w64 ((r.2.2.1.length:Int) - 1)=(r.2.2.1.length:Int) - 1 from wy_ (by omega) (by omega)]
  simp only[dlt hi,a6_,ah_ hy,a0_,bj_ (show Sm i by omega),gd_,badQ]
  cases wi y 0 ((r.2.2.1.length:Int) - 1) with
  | false=>rfl
  | true =>
   simp only[e4_,a4_,h7_]
   cases i with
   | zero=>rfl
   | succ j =>
    obtain⟨z,hz⟩:=cz_ (l:=l) (i:=j) (by omega)
    have e:w64 (((j+1:Nat):Int) - 1)=(j:Int):=by rw[wy_ (by omega) (by omega)];omega
    have hn:prv l (j+1)=z:=by show (l[j]?).getD 0=z;rw[hz];rfl
    rw[show decide (0<((j+1:Nat):Int))=true from c1_ (by omega),e,ah_ hz,hn,show decide (0<j+1)=true from c1_ (by omega)]
    simp only[a6_,a0_,b9_]
    cases decide (y≤z)<;>rfl
 ·simp only[dnl,a4_]
 ·rw[tq_,asc_eq]
  cases kr_ r.2.2.1.length l<;>rfl
end
end Go.Proofs.YtlbfbdbagohinaaGreatDoor.Rx
namespace Go.Proofs.YtlbfbdbagohinaaGreatDoor.Rx
open Go Pad Rex Go.Proofs Go.Proofs.Tryz Sum
section
set_option maxRecDepth 100000
set_option maxHeartbeats 0
noncomputable def bk_ (a0:aa_) (a1:(List Int)):Option (Int×Unit) :=
 ((dg_ a0 ([a1]:List (List Int))).bind λv0 =>
 (some (v0.1,())))
theorem x_62:ax_ (P:=prog) (cxC [c_113] []) .z 62 [ae_,(.list .int)] [.int]=λx=>bk_ x.1 x.2.1:=by kernel_rfl
noncomputable def c_62:Con prog:=ay_ _ _ 62 [ae_,(.list .int)] [.int] _ x_62
noncomputable def hw_ (a0:ag_):Option (Int×Unit) :=
 (((cond (decide (8<(a0.1.length:Int)))
 (some (true,()))
 (cond (decide (12<(a0.2.1.length:Int)))
 (some (true,()))
 (cond (decide (10<(a0.2.2.1.length:Int)))
 (some (true,()))
 (cond (decide (16<(a0.2.2.2.1.length:Int)))
 (some (true,()))
 (cond (decide (24<(a0.2.2.2.2.1.length:Int)))
 (some (true,()))
 (some ((decide (12<(a0.2.2.2.2.2.1.length:Int))),())))))))).bind λv0 =>
 (cond v0.1
 (some (2,()))
 ((ad_ (ρ:=(Unit⊕(Int×Unit))) (λ(v1:(Int×Unit)) =>
 (cond (decide (v1.1<(a0.1.length:Int)))
 ((at? a0.1 v1.1).bind λv2 =>
 ((sub? a0.1 0 v1.1).bind λv3 =>
 ((((eo_ v2).bind λv4 =>
 (cond v4.1
 (cond (decide ((v2.length:Int)≤12))
 ((((ad_ (ρ:=(Unit⊕(Int×Unit))) (λ(v5:(Int×Unit)) =>
 (cond (decide (v5.1<(v3.length:Int)))
 ((at? v3 v5.1).bind λv6 =>
 (cond (v6==v2)
 (some (inr (inr (v5.1,()))))
 (some (inl ((w64 (v5.1+1)),())))))
 (some (inr (inl ()))))) (0,())).bind λv7 =>
 (bl_ v7 (λv8=>(some ((-1),())))
 (λv9=>(some v9))))).bind λv10 =>
 (some ((decide (v10.1<0)),())))
 (some (false,())))
 (some (false,()))))).bind λv11 =>
 (cond (!v11.1)
 (some (inr (inr (22,()))))
 (some (inl ((w64 (v1.1+1)),())))))))
 (some (inr (inl ()))))) (0,())).bind λv12 =>
 (bl_ v12 (λv13=>(cond ((a0.1.length:Int)==0)
 (some (22,()))
 ((ad_ (ρ:=(Unit⊕(Int×Unit))) (λ(v15:(Int×Unit)) =>
 (cond (decide (v15.1<(a0.2.1.length:Int)))
 ((at? a0.2.1 v15.1).bind λv16 =>
 ((((sub? a0.2.1 0 v15.1).bind λv17 =>
 ((((eo_ v16.1).bind λv18 =>
 (cond v18.1
 (cond (decide ((v16.1.length:Int)≤12))
 ((((ad_ (ρ:=(Unit⊕(Int×Unit))) (λ(v19:(Int×Unit)) =>
 (cond (decide (v19.1<(v17.length:Int)))
 ((at? v17 v19.1).bind λv20 =>
 (cond (v20.1==v16.1)
 (some (inr (inr (v19.1,()))))
 (some (inl ((w64 (v19.1+1)),())))))
 (some (inr (inl ()))))) (0,())).bind λv21 =>
 (bl_ v21 (λv22=>(some ((-1),())))
 (λv23=>(some v23))))).bind λv24 =>
 (some ((decide (v24.1<0)),())))
 (some (false,())))
 (some (false,()))))).bind λv25 =>
 (cond (!v25.1)
 (some (true,()))
 ((bf_ v16.2.1 0 (w64 ((a0.1.length:Int) - 1))).bind λv26 =>
 (cond (!v26.1)
 (some (true,()))
 ((bf_ v16.2.2.1 2 6).bind λv27 =>
 (cond (!v27.1)
 (some (true,()))
 ((bf_ v16.2.2.2 0 (w64 (v16.2.2.1 - 1))).bind λv28 =>
 (some ((!v28.1),()))))))))))).bind λv29 =>
 (cond v29.1
 (some (inr (inr (21,()))))
 (some (inl ((w64 (v15.1+1)),()))))))
 (some (inr (inl ()))))) (0,())).bind λv30 =>
 (bl_ v30 (λv31=>((ad_ (ρ:=(Unit⊕(Int×Unit))) (λ(v33:(Int×Unit)) =>
 (cond (decide (v33.1<(a0.2.2.1.length:Int)))
 ((at? a0.2.2.1 v33.1).bind λv34 =>
 ((((sub? a0.2.2.1 0 v33.1).bind λv35 =>
 ((((eo_ v34.1).bind λv36 =>
 (cond v36.1
 (cond (decide ((v34.1.length:Int)≤12))
 ((((ad_ (ρ:=(Unit⊕(Int×Unit))) (λ(v37:(Int×Unit)) =>
 (cond (decide (v37.1<(v35.length:Int)))
 ((at? v35 v37.1).bind λv38 =>
 (cond (v38.1==v34.1)
 (some (inr (inr (v37.1,()))))
 (some (inl ((w64 (v37.1+1)),())))))
 (some (inr (inl ()))))) (0,())).bind λv39 =>
 (bl_ v39 (λv40=>(some ((-1),())))
 (λv41=>(some v41))))).bind λv42 =>
 (some ((decide (v42.1<0)),())))
 (some (false,())))
 (some (false,()))))).bind λv43 =>
 (cond (!v43.1)
 (some (true,()))
 ((bf_ v34.2.1 0 (w64 ((a0.1.length:Int) - 1))).bind λv44 =>
 (cond (!v44.1)
 (some ((v34.2.1 != (-1)),()))
 (some (false,())))))))).bind λv45 =>
 (cond v45.1
 (some (inr (inr (24,()))))
 ((dl_ a0 v34.2.2).bind λv46 =>
 (cond (!v46.1)
 (some (inr (inr (25,()))))
 (some (inl ((w64 (v33.1+1)),()))))))))
 (some (inr (inl ()))))) (0,())).bind λv47 =>
 (bl_ v47 (λv48=>((ad_ (ρ:=(Unit⊕(Int×Unit))) (λ(v50:(Int×Unit)) =>
 (cond (decide (v50.1<(a0.2.2.2.1.length:Int)))
 ((at? a0.2.2.2.1 v50.1).bind λv51 =>
 ((((bf_ v51.1 0 (w64 ((a0.1.length:Int) - 1))).bind λv52 =>
 (cond (!v52.1)
 (some (true,()))
 ((bf_ v51.2.1 0 (w64 ((a0.1.length:Int) - 1))).bind λv53 =>
 (cond (!v53.1)
 (some (true,()))
 (some ((v51.1==v51.2.1),()))))))).bind λv54 =>
 (cond v54.1
 (some (inr (inr (23,()))))
 ((dl_ a0 v51.2.2).bind λv55 =>
 (cond (!v55.1)
 (some (inr (inr (25,()))))
 (some (inl ((w64 (v50.1+1)),()))))))))
 (some (inr (inl ()))))) (0,())).bind λv56 =>
 (bl_ v56 (λv57=>((ad_ (ρ:=(Unit⊕(Int×Unit))) (λ(v59:(Int×Unit)) =>
 (cond (decide (v59.1<(a0.2.2.2.2.1.length:Int)))
 ((at? a0.2.2.2.2.1 v59.1).bind λv60 =>
 ((oc_ a0 v59.1 v60).bind λv61 =>
 (cond (!v61.1)
 (some (inr (inr (26,()))))
 ((dl_ a0 v60.2.2.2.2.1).bind λv62 =>
 (cond (!v62.1)
 (some (inr (inr (25,()))))
 (some (inl ((w64 (v59.1+1)),()))))))))
 (some (inr (inl ()))))) (0,())).bind λv63 =>
 (bl_ v63 (λv64=>((ad_ (ρ:=(Unit⊕(Int×Unit))) (λ(v66:(Int×Unit)) =>
 (cond (decide (v66.1<(a0.2.2.2.2.2.1.length:Int)))
 ((at? a0.2.2.2.2.2.1 v66.1).bind λv67 =>
 ((ep_ a0 v67.2.1 v67.2.2).bind λv68 =>
 (cond (!v68.1)
 (some (inr (inr (27,()))))
 ((dl_ a0 v67.1).bind λv69 =>
 (cond (!v69.1)
 (some (inr (inr (25,()))))
 (some (inl ((w64 (v66.1+1)),()))))))))
 (some (inr (inl ()))))) (0,())).bind λv70 =>
 (bl_ v70 (λv71=>((bf_ a0.2.2.2.2.2.2.1 1 4).bind λv73 =>
 (cond (!v73.1)
 (some (1,()))
 ((dl_ a0 a0.2.2.2.2.2.2.2).bind λv74 =>
 (cond (!v74.1)
 (some (25,()))
 (some (0,())))))))
 (λv72=>(some v72)))))
 (λv65=>(some v65)))))
 (λv58=>(some v58)))))
 (λv49=>(some v49)))))
 (λv32=>(some v32))))))
 (λv14=>(some v14))))))
theorem x_73:ax_ (P:=prog) (cxI (λk=>cond (Nat.beq k 122) (.p .z (.j0 [.v 6 .bool] .z .z)) (cond (Nat.beq k 124) (.p .z (.j0 [.v 6 .bool] .z .z)) (cond (Nat.beq k 126) (.p .z (.j0 [.v 6 .bool] .z .z)) (cond (Nat.beq k 180) (.p .z (.j0 [.v 6 .int] .z .z)) (cond (Nat.beq k 181) (.p .z (.j0 [.v 6 .int] .z .z)) (cond (Nat.beq k 182) (.p .z (.j0 [.v 6 .int] .z .z)) (cond (Nat.beq k 214) (.p .z (.p (.p .z (.ls [.v 8 .int] [] [] 0 .z)) .z)) (cond (Nat.beq k 215) (.p .z (.p (.q [] .z .z) .z)) (cond (Nat.beq k 216) (.p .z (.p (.p .z (.ls [.v 8 .int] [] [] 0 .z)) .z)) (cond (Nat.beq k 217) (.p .z (.p (.q [] .z .z) .z)) (cond (Nat.beq k 218) (.p .z (.p (.p .z (.ls [.v 8 .int] [] [] 0 .z)) .z)) (cond (Nat.beq k 219) (.p .z (.p (.q [] .z .z) .z)) (.z))))))))))))) (λk=>Nat.beq k 121||Nat.beq k 123||Nat.beq k 125||Nat.beq k 127||Nat.beq k 128||Nat.beq k 129||Nat.beq k 130||Nat.beq k 179||false) (cxC [bt4,c_123,c_125,c_127,c_128,c_129,bt3,c_179] []) 12) (.p .z (.p (.j0 [.v 49 .bool] .z .z) (.p .z (.p (.p .z (.ls [.v 54 .int] [] [] 0 .z)) (.p .z (.p (.p .z (.ls [.v 74 .int] [] [] 2 (.p .z (.p .z (.p (.p .z (.j0 [.v 108 .bool] .z .z)) .z))))) (.p (.p .z (.ls [.v 113 .int] [] [] 4 (.p .z (.p .z (.p (.p .z (.p (.j0 [.v 137 .bool] .z .z) .z)) .z))))) (.p (.p .z (.ls [.v 147 .int] [] [] 6 (.p .z (.p .z (.p (.p .z (.p (.j0 [.v 169 .bool] .z .z) .z)) .z))))) (.p (.p .z (.ls [.v 179 .int] [] [] 8 .z)) (.p (.p .z (.ls [.v 198 .int] [] [] 10 .z)) .z)))))))))) 73 [au_] [.int]=λx=>hw_ x.1:=by kernel_rfl
noncomputable def c_73:Con prog:=ay_ _ _ 73 [au_] [.int] _ x_73
noncomputable def ct_ (a0:aa_) (a1:ab_):Option (Int×Unit) :=
 ((ce_ a0).bind λv0 =>
 (cond (v0.1 != 0)
 (some (v0.1,()))
 ((bt_ a0 a1).bind λv1 =>
 (cond (!v1.1)
 (some (11,()))
 (some (0,()))))))
theorem x_172:ax_ (P:=prog) (cxC [c_74,c_118] []) .z 172 [ae_,af_] [.int]=λx=>ct_ x.1 x.2.1:=by kernel_rfl
noncomputable def c_172:Con prog:=ay_ _ _ 172 [ae_,af_] [.int] _ x_172
noncomputable def bv_ (a0:aa_) (a1:(List ab_)):Option (Int×Unit) :=
 ((ce_ a0).bind λv0 =>
 (cond (v0.1 != 0)
 (some (v0.1,()))
 (cond (decide (20<(a1.length:Int)))
 (some (2,()))
 ((((ad_ (ρ:=(Unit⊕(Bool×Unit))) (λ(v1:(Int×Unit)) =>
 (cond (decide (v1.1<(a1.length:Int)))
 ((at? a1 v1.1).bind λv2 =>
 ((bt_ a0 v2).bind λv3 =>
 (cond (!v3.1)
 (some (inr (inr ((decide (0≤v1.1)),()))))
 (some (inl ((w64 (v1.1+1)),()))))))
 (some (inr (inl ()))))) (0,())).bind λv4 =>
 (bl_ v4 (λv5=>(some ((decide (0≤(-1))),())))
 (λv6=>(some v6))))).bind λv7 =>
 (cond v7.1
 (some (11,()))
 (some (0,())))))))
theorem x_69:ax_ (P:=prog) (cxI (λk=>cond (Nat.beq k 63) (.p .z (.j0 [.v 4 .bool] .z .z)) (cond (Nat.beq k 114) (.p .z (.p (.p .z (.ls [.v 8 .int] [] [] 0 .z)) .z)) (.z))) (λk=>Nat.beq k 74||Nat.beq k 118||false) (cxC [c_74,c_118] []) 4) .z 69 [ae_,(.list af_)] [.int]=λx=>bv_ x.1 x.2.1:=by kernel_rfl
noncomputable def c_69:Con prog:=ay_ _ _ 69 [ae_,(.list af_)] [.int] _ x_69
noncomputable def cn_ (a0:aa_) (a1:(List ab_)):Option (Int×Unit) :=
 ((mk? (α:=Int) a0.1 0).bind λv0 =>
 ((ad_ (ρ:=((Unit×(Unit×((List Int)×((Int×Unit)×Unit))))⊕(Int×Unit))) (λ(v1:(Unit×(Unit×((List Int)×((Int×Unit)×Unit))))) =>
 ((cp_ a1 v1.2.2.1).bind λv2 =>
 (cond (decide (v2.1<0))
 ((ad_ (ρ:=(Int×((List Int)×Unit))) (λ(v3:(Int×((List Int)×Unit))) =>
 (((cond (decide (0≤v3.1))
 ((at? v3.2.1 v3.1).bind λv4 =>
 ((at? v3.2.1 v3.1).bind λv5 =>
 (some ((v5==(w64 (a0.2 - 1))),()))))
 (some (false,())))).bind λv6 =>
 (cond v6.1
 ((at? v3.2.1 v3.1).bind λv7 =>
 ((at? v3.2.1 v3.1).bind λv8 =>
 (some (inl ((w64 (v3.1 - 1)),((v3.2.1.set v3.1.toNat 0),()))))))
 (some (inr (v3.1,(v3.2.1,()))))))) ((w64 (a0.1 - 1)),(v1.2.2.1,()))).bind λv9 =>
 (cond (decide (v9.1<0))
 (some (inr (inr ((w64 (v1.2.2.2.1.1+1)),()))))
 ((at? v9.2.1 v9.1).bind λv10 =>
 ((at? v9.2.1 v9.1).bind λv11 =>
 ((at? v9.2.1 v9.1).bind λv12 =>
 ((at? v9.2.1 v9.1).bind λv13 =>
 (some (inl ((),((),((v9.2.1.set v9.1.toNat (w64 (v11+1))),(((w64 (v1.2.2.2.1.1+1)),()),()))))))))))))
 ((ad_ (ρ:=(Int×((List Int)×Unit))) (λ(v14:(Int×((List Int)×Unit))) =>
 (((cond (decide (0≤v14.1))
 ((at? v14.2.1 v14.1).bind λv15 =>
 ((at? v14.2.1 v14.1).bind λv16 =>
 (some ((v16==(w64 (a0.2 - 1))),()))))
 (some (false,())))).bind λv17 =>
 (cond v17.1
 ((at? v14.2.1 v14.1).bind λv18 =>
 ((at? v14.2.1 v14.1).bind λv19 =>
 (some (inl ((w64 (v14.1 - 1)),((v14.2.1.set v14.1.toNat 0),()))))))
 (some (inr (v14.1,(v14.2.1,()))))))) ((w64 (a0.1 - 1)),(v1.2.2.1,()))).bind λv20 =>
 (cond (decide (v20.1<0))
 (some (inr (inr (v1.2.2.2.1.1,()))))
 ((at? v20.2.1 v20.1).bind λv21 =>
 ((at? v20.2.1 v20.1).bind λv22 =>
 ((at? v20.2.1 v20.1).bind λv23 =>
 ((at? v20.2.1 v20.1).bind λv24 =>
 (some (inl ((),((),((v20.2.1.set v20.1.toNat (w64 (v22+1))),((v1.2.2.2.1.1,()),()))))))))))))))) ((),((),(v0,((0,()),()))))).bind λv25 =>
 (bl_ v25 (λv26=>(some (v26.2.2.2.1.1,())))
 (λv27=>(some v27)))))
theorem x_70:ax_ (P:=prog) (cxI (λk=>cond (Nat.beq k 176) (.p .z (.p .z (.rf [2,3] .z .z))) (cond (Nat.beq k 211) (.p .z (.ls [] [] [.y (.c (.y (.s 0) 3) 0),.y (.s 0),.o (.s 3) .int,.b (.y (.c (.y (.s 0) 3) 0) 4) [.val .int]] 0 (.p .z (.p .z (.p (.lp [.v 4 .int] [.v 4 .int] [.o (.s 3) .int] 2 (.p (.j0 [.v 26 .bool] .z .z) .z)) .z))))) (.z))) (λk=>Nat.beq k 178||false) (cxC [c_178] []) 9) (.p .z (.p (.p .z (.rf [4] .z .z)) .z)) 70 [ae_,(.list af_)] [.int]=λx=>cn_ x.1 x.2.1:=by kernel_rfl
noncomputable def c_70:Con prog:=ay_ _ _ 70 [ae_,(.list af_)] [.int] _ x_70
noncomputable def gs_ (a0:ag_):Option (Int×Unit) :=
 (((cond (decide (8<(a0.1.length:Int)))
 (some (true,()))
 (cond (decide (12<(a0.2.1.length:Int)))
 (some (true,()))
 (cond (decide (10<(a0.2.2.1.length:Int)))
 (some (true,()))
 (cond (decide (16<(a0.2.2.2.1.length:Int)))
 (some (true,()))
 (cond (decide (24<(a0.2.2.2.2.1.length:Int)))
 (some (true,()))
 (some ((decide (12<(a0.2.2.2.2.2.1.length:Int))),())))))))).bind λv0 =>
 (cond v0.1
 (some (2,()))
 (cond ((a0.1.length:Int)==0)
 (some (22,()))
 ((ad_ (ρ:=(Unit⊕(Int×Unit))) (λ(v1:(Int×Unit)) =>
 (cond (decide (v1.1<(a0.1.length:Int)))
 ((((at? a0.1 v1.1).bind λv2 =>
 ((dc_ v2).bind λv3 =>
 (cond (!v3.1)
 (some (true,()))
 ((ez_ a0.1 v1.1).bind λv4 =>
 (some (v4.1,()))))))).bind λv5 =>
 (cond v5.1
 (some (inr (inr (22,()))))
 (some (inl ((w64 (v1.1+1)),())))))
 (some (inr (inl ()))))) (0,())).bind λv6 =>
 (bl_ v6 (λv7=>((ad_ (ρ:=(Unit⊕(Int×Unit))) (λ(v9:((List (List UInt8))×(Int×Unit))) =>
 (cond (decide (v9.2.1<(a0.2.1.length:Int)))
 ((at? a0.2.1 v9.2.1).bind λv10 =>
 ((push? (α:=(List UInt8)) v9.1 ([v10.1]:List (List UInt8))).bind λv11 =>
 ((((dc_ v10.1).bind λv12 =>
 (cond (!v12.1)
 (some (true,()))
 ((ez_ v11 v9.2.1).bind λv13 =>
 (cond v13.1
 (some (true,()))
 ((cb_ a0 v10.2.1).bind λv14 =>
 (cond (!v14.1)
 (some (true,()))
 ((cj_ v10.2.2.1 2 6).bind λv15 =>
 (cond (!v15.1)
 (some (true,()))
 ((cj_ v10.2.2.2 0 (w64 (v10.2.2.1 - 1))).bind λv16 =>
 (some ((!v16.1),())))))))))))).bind λv17 =>
 (cond v17.1
 (some (inr (inr (21,()))))
 (some (inl (v11,((w64 (v9.2.1+1)),()))))))))
 (some (inr (inl ()))))) ([],(0,()))).bind λv18 =>
 (bl_ v18 (λv19=>((ad_ (ρ:=(Unit⊕(Int×Unit))) (λ(v21:((List (List UInt8))×(Int×Unit))) =>
 (cond (decide (v21.2.1<(a0.2.2.1.length:Int)))
 ((at? a0.2.2.1 v21.2.1).bind λv22 =>
 ((push? (α:=(List UInt8)) v21.1 ([v22.1]:List (List UInt8))).bind λv23 =>
 ((((dc_ v22.1).bind λv24 =>
 (cond (!v24.1)
 (some (true,()))
 ((ez_ v23 v21.2.1).bind λv25 =>
 (cond v25.1
 (some (true,()))
 (cond (v22.2.1 != (-1))
 ((cb_ a0 v22.2.1).bind λv26 =>
 (some ((!v26.1),())))
 (some (false,())))))))).bind λv27 =>
 (cond v27.1
 (some (inr (inr (24,()))))
 ((cc_ a0 v22.2.2).bind λv28 =>
 (cond (!v28.1)
 (some (inr (inr (25,()))))
 (some (inl (v23,((w64 (v21.2.1+1)),()))))))))))
 (some (inr (inl ()))))) ([],(0,()))).bind λv29 =>
 (bl_ v29 (λv30=>((ad_ (ρ:=(Unit⊕(Int×Unit))) (λ(v32:(Int×Unit)) =>
 (cond (decide (v32.1<(a0.2.2.2.1.length:Int)))
 ((at? a0.2.2.2.1 v32.1).bind λv33 =>
 ((((cb_ a0 v33.1).bind λv34 =>
 (cond (!v34.1)
 (some (true,()))
 ((cb_ a0 v33.2.1).bind λv35 =>
 (cond (!v35.1)
 (some (true,()))
 (some ((v33.1==v33.2.1),()))))))).bind λv36 =>
 (cond v36.1
 (some (inr (inr (23,()))))
 ((cc_ a0 v33.2.2).bind λv37 =>
 (cond (!v37.1)
 (some (inr (inr (25,()))))
 (some (inl ((w64 (v32.1+1)),()))))))))
 (some (inr (inl ()))))) (0,())).bind λv38 =>
 (bl_ v38 (λv39=>((ad_ (ρ:=(Unit⊕(Int×Unit))) (λ(v41:(Int×Unit)) =>
 (cond (decide (v41.1<(a0.2.2.2.2.1.length:Int)))
 ((ln_ a0 v41.1).bind λv42 =>
 (cond (!v42.1)
 (some (inr (inr (26,()))))
 ((at? a0.2.2.2.2.1 v41.1).bind λv43 =>
 ((cc_ a0 v43.2.2.2.2.1).bind λv44 =>
 (cond (!v44.1)
 (some (inr (inr (25,()))))
 (some (inl ((w64 (v41.1+1)),()))))))))
 (some (inr (inl ()))))) (0,())).bind λv45 =>
 (bl_ v45 (λv46=>((ad_ (ρ:=(Unit⊕(Int×Unit))) (λ(v48:(Int×Unit)) =>
 (cond (decide (v48.1<(a0.2.2.2.2.2.1.length:Int)))
 ((at? a0.2.2.2.2.2.1 v48.1).bind λv49 =>
 ((at? a0.2.2.2.2.2.1 v48.1).bind λv50 =>
 ((fx_ a0 v49.2.1 v50.2.2).bind λv51 =>
 (cond (!v51.1)
 (some (inr (inr (27,()))))
 ((at? a0.2.2.2.2.2.1 v48.1).bind λv52 =>
 ((cc_ a0 v52.1).bind λv53 =>
 (cond (!v53.1)
 (some (inr (inr (25,()))))
 (some (inl ((w64 (v48.1+1)),()))))))))))
 (some (inr (inl ()))))) (0,())).bind λv54 =>
 (bl_ v54 (λv55=>((cj_ a0.2.2.2.2.2.2.1 1 4).bind λv57 =>
 (cond (!v57.1)
 (some (1,()))
 ((cc_ a0 a0.2.2.2.2.2.2.2).bind λv58 =>
 (cond (!v58.1)
 (some (25,()))
 (some (0,())))))))
 (λv56=>(some v56)))))
 (λv47=>(some v47)))))
 (λv40=>(some v40)))))
 (λv31=>(some v31)))))
 (λv20=>(some v20)))))
 (λv8=>(some v8)))))))
theorem x_151:ax_ (P:=prog) (cxC [c_154,bt1,c_157,at4,c_200,c_201,c_202] []) (.p .z (.p (.j0 [.v 46 .bool] .z .z) (.p .z (.p (.p .z (.ls [.v 3 .int] [] [] 0 (.p .z (.p (.j0 [.v 70 .bool] .z .z) .z)))) (.p .z (.p (.p .z (.ls [.r 4 .str 9,.v 5 .int] [] [] 2 (.p .z (.p (.p .z (.p .z (.j0 [.v 118 .bool] .z .z))) .z)))) (.p .z (.p (.p .z (.ls [.r 4 .str 9,.v 7 .int] [] [] 4 (.p .z (.p (.p .z (.p .z (.p (.j0 [.v 156 .bool] .z .z) .z))) .z)))) (.p (.p .z (.ls [.v 9 .int] [] [] 6 (.p .z (.p (.p .z (.p (.j0 [.v 192 .bool] .z .z) .z)) .z)))) (.p (.p .z (.ls [.v 11 .int] [] [] 8 (.p .z (.p (.p .z (.p (.q [] .z .z) .z)) .z)))) (.p (.p .z (.ls [.v 12 .int] [] [] 10 (.p .z (.p (.p (.p (.q [] .z .z) .z) (.p (.q [] .z .z) .z)) .z)))) .z))))))))))) 151 [au_] [.int]=λx=>gs_ x.1:=by kernel_rfl
noncomputable def c_151:Con prog:=ay_ _ _ 151 [au_] [.int] _ x_151
noncomputable def iw_ (a0:ac_) (a1:Int):Option (Bool×Unit) :=
 ((at? a0.2.2.2.1 a1).bind λv0 =>
 ((ad_ (ρ:=(Unit⊕(Bool×Unit))) (λ(v1:(Int×Unit)) =>
 (cond (decide (v1.1<a1))
 ((at? a0.2.2.2.1 v1.1).bind λv2 =>
 (cond (v2.1==v0.1)
 (some (inr (inr (false,()))))
 (some (inl ((w64 (v1.1+1)),())))))
 (some (inr (inl ()))))) (0,())).bind λv3 =>
 (bl_ v3 (λv4=>((((dc_ v0.1).bind λv6 =>
 (cond (!v6.1)
 (some (true,()))
 ((gg_ v0.2.1 0 (w64 ((a0.1.1.length:Int) - 1))).bind λv7 =>
 (cond (!v7.1)
 (some (true,()))
 ((gg_ v0.2.2.1 (-1) (w64 ((a0.2.1.length:Int) - 1))).bind λv8 =>
 (some ((!v8.1),())))))))).bind λv9 =>
 (cond v9.1
 (some (false,()))
 (cond (v0.2.2.1==(-1))
 ((jx_ v0.2.2.2.2).bind λv10 =>
 (some (v10.1,())))
 ((at? a0.2.1 v0.2.2.1).bind λv11 =>
 ((fb_ v11 v0.2.2.2.2).bind λv12 =>
 (cond (v12.1==0)
 ((at? a0.2.2.1 v0.2.2.1).bind λv13 =>
 ((hx_ v0.2.2.2.2 v13).bind λv14 =>
 (some (v14.1,()))))
 (some (false,())))))))))
 (λv5=>(some v5)))))
theorem x_153:ax_ (P:=prog) (cxC [c_155,c_160,c_161,c_200,c_204] []) (.p .z (.p .z (.p (.p .z (.ls [.v 6 .int] [] [] 0 .z)) (.p (.j0 [.v 50 .bool] .z .z) .z)))) 153 [an_,.int] [.bool]=λx=>iw_ x.1 x.2.1:=by kernel_rfl
noncomputable def c_153:Con prog:=ay_ _ _ 153 [an_,.int] [.bool] _ x_153
end
end Go.Proofs.YtlbfbdbagohinaaGreatDoor.Rx
namespace Go.Proofs.YtlbfbdbagohinaaGreatDoor.Rx
open Go Pad Rex Sum
section
theorem no_ {α:Type} {l:List α} {i:Nat} (h:i≤l.length):sub? l 0 (i:Int)=some (l.take i):=by
 unfold sub?
 rw[if_pos ⟨Int.le_refl 0,by omega,by omega⟩]
 simp
def twN {α:Type} (nm:α→List UInt8) (l:List α) (i:Nat) (t:List UInt8):Bool:=(l.take i).any λy=>nm y==t
theorem op_ {l:List (List UInt8)} {i:Nat} {x:List UInt8} (hl:Sm l.length) (hx:l[i]?=some x):ez_ l (i:Int)=some (twN id l i x,()):=by
 have hi:=al_ hx
 have hle:(l.take i).length=i:=by rw[c0_];omega
 unfold ez_
 refine bu_ (l.take i) (λ_ y=>cond (id y==x) (some (inr (true,()):Unit⊕(Bool×Unit))) none) (λi=>((i:Int),())) (r0:=inl ()) (λk y hy => ?_) ?_ ?_
 ·have hk:=al_ hy
  have hy':l[k]?=some y:=by
   rw[g1_] at hy
   split at hy
   ·exact hy
   ·cases hy
  simp only[dlt (show k<i by omega),a6_,ah_ hy',ah_ hx,a0_,bj_ (show Sm k by omega),id]
  cases y==x<;>rfl
 ·rw[hle]
  simp only[dnl,a4_]
 ·rw[hi_ (q:=λy=>id y==x)]
  unfold twN
  cases (l.take i).any λy=>id y==x<;>rfl
theorem he_ {r:ag_} (p:Int):cb_ r p=some (wi p 0 (w64 ((r.1.length:Int) - 1)),()):=by
 unfold cb_
 rw[gd_,a0_]
structure SmR (r:ag_):Prop where
 pl:Sm r.1.length
 th:Sm r.2.1.length
 pr:Sm r.2.2.1.length
 wy:Sm r.2.2.2.1.length
 ac:Sm r.2.2.2.2.1.length
 au:Sm r.2.2.2.2.2.1.length
 go:Sm r.2.2.2.2.2.2.2.length
 pln:∀ x ∈ r.1,Sm x.length
 thn:∀ x ∈ r.2.1,Sm x.1.length
 prn:∀ x ∈ r.2.2.1,Sm x.1.length∧Sm x.2.2.length
 wyn:∀ x ∈ r.2.2.2.1,Sm x.2.2.length
 acn:∀ x ∈ r.2.2.2.2.1,Sm x.1.length∧Sm x.2.2.2.1.length∧Sm x.2.2.2.2.1.length∧Sm x.2.2.2.2.2.1.length∧Sm x.2.2.2.2.2.2.1.length∧Sm x.2.2.2.2.2.2.2.length
 aun:∀ x ∈ r.2.2.2.2.2.1,Sm x.1.length
theorem cg_ {α:Type} {l:List α} {i:Nat} {x:α} (h:l[i]?=some x):x ∈ l:=b3_ h
def ry_ (r:ag_) (p:Int):Bool:=wi p 0 (w64 ((r.1.length:Int) - 1))
def frN {α:Type} (nm:α→List UInt8) (l:List α) (i:Nat) (t:List UInt8):Bool:=okN t&&!(twN nm l i t)
def plOk (r:ag_) (i:Nat) (x:List UInt8):Bool:=frN id r.1 i x
def bk7 (r:ag_) (i:Nat) (x:jq_):Bool:=frN (·.1) r.2.1 i x.1&&(ry_ r x.2.1&&(wi x.2.2.1 2 6&&wi x.2.2.2 0 (w64 (x.2.2.1 - 1))))
def bv3 (r:ag_) (i:Nat) (x:rq_):Bool:=frN (·.1) r.2.2.1 i x.1&&(ry_ r x.2.1||x.2.1==(-1))
def bu0 (r:ag_) (x:ad4):Bool:=ry_ r x.1&&(ry_ r x.2.1&&!(x.1==x.2.1))
def ql_ (a:Bool) (e:Int) (b:Bool) (f:Int):Option Int:=cond a (cond b none (some f)) (some e)
def jo_ (a:Bool) (e:Int):Option Int:=cond a none (some e)
def left (o:Option Int):Unit⊕(Int×Unit):=match o with
 | none=>.inl ()
 | some e=>.inr (e,())
theorem am3 (o:Option Int):(o.map λe=>(inr (e,()):Unit⊕(Int×Unit))).getD (inl ())=left o:=by cases o<;>rfl
theorem bi_ {α:Type} (l:List α) (p:Nat→α→Option Int) {body:(Int×Unit)→Option ((Int×Unit)⊕(Unit⊕(Int×Unit)))} {τ:Type} {K:(Unit⊕(Int×Unit))→Option τ} {x:Option τ}
  (h:∀ (i:Nat) y,l[i]?=some y→body ((i:Int),())=some (match p i y with | none=>.inl (((i+1:Nat):Int),()) | some e=>.inr (.inr (e,())))) (e:body ((l.length:Int),())=some (.inr (.inl ()))) (hk:K (left (gn_ p 0 l))=x) :
  (ad_ body (0,())).bind K=x:=by
 refine bu_ l (λi y=>(p i y).map λe=>(inr (e,()):Unit⊕(Int×Unit))) (λi=>((i:Int),())) (r0:=inl ()) (λi y hy => ?_) e ?_
 ·rw[h i y hy]
  cases p i y<;>rfl
 ·rw[xf_,am3]
  exact hk
theorem wv_ {α β:Type} (l:List α) (p:Nat→α→Option Int) (F:Nat→β) {body:(β×(Int×Unit))→Option ((β×(Int×Unit))⊕(Unit⊕(Int×Unit)))} {τ:Type} {K:(Unit⊕(Int×Unit))→Option τ} {x:Option τ} {b0:β} (h0:F 0=b0)
  (h:∀ (i:Nat) y,l[i]?=some y→body (F i,((i:Int),()))=some (match p i y with | none=>.inl (F (i+1),(((i+1:Nat):Int),())) | some e=>.inr (.inr (e,())))) (e:body (F l.length,((l.length:Int),()))=some (.inr (.inl ()))) (hk:K (left (gn_ p 0 l))=x) :
  (ad_ body (b0,(0,()))).bind K=x:=by
 subst h0
 refine bu_ l (λi y=>(p i y).map λe=>(inr (e,()):Unit⊕(Int×Unit))) (λi=>(F i,((i:Int),()))) (r0:=inl ()) (λi y hy => ?_) e ?_
 ·rw[h i y hy]
  cases p i y<;>rfl
 ·rw[xf_,am3]
  exact hk
theorem ed_ {o:Option Int} {K:Unit→Option (Int×Unit)} {k:Int} (h:K ()=some (k,())):bl_ (left o) K (λy=>some y)=some (o.getD k,()):=by
 cases o with
 | none=>exact h
 | some e=>rfl
end
section
def tn_ (r:ag_) (l:List aa_) (i:Nat) (x:aa_):Bool:=qk_ r.2.1 x.1 x.2&&!((l.take i).any λy=>y.1==x.1)
def vo_ (r:ag_) (i:Nat) (a:dz_):Bool :=
 frN (·.1) r.2.2.2.2.1 i a.1&&(ry_ r a.2.1&&(wi a.2.2.1 (-1) 7&&(kr_ r.2.2.1.length a.2.2.2.1&&(kr_ r.2.2.1.length a.2.2.2.2.2.2.1&&(kr_ r.2.2.1.length a.2.2.2.2.2.2.2&&(!(decide (6<(a.2.2.2.2.2.1.length:Int)))
  && ((a.2.2.2.2.2.2.1.all λp=>a.2.2.2.1.contains p)&&(!(a.2.2.2.2.2.2.2.any λp=>a.2.2.2.1.contains p)
   && (gn_ (λi x=>cond (tn_ r a.2.2.2.2.2.1 i x) none (some ())) 0 a.2.2.2.2.2.1).isNone))))))))
theorem qq_ {α ρ:Type} {q:Nat→α→Bool} {r:ρ}:∀ (l:List α) (i:Nat),gn_ (λi x=>cond (q i x) none (some r)) i l=cond (gn_ (λi x=>cond (q i x) none (some ())) i l).isNone none (some r)
 | [],_=>rfl
 | x::l,i=>by
  unfold gn_
  cases q i x with
  | false=>rfl
  | true=>exact qq_ l (i+1)
theorem sy_ {α:Type} {l:List α} (hl:Sm l.length) (nm:α→List UInt8) {t:List UInt8} (ht:Sm t.length) :
  ((eo_ t).bind λv1=>cond v1.1 (cond (decide ((t.length:Int)≤12)) ((((ad_ (ρ:=Unit⊕(Int×Unit)) (λ(v:Int×Unit)=>cond (decide (v.1<(l.length:Int))) ((at? l v.1).bind λy=>cond (nm y==t) (some (inr (inr (v.1,())))) (some (inl (w64 (v.1+1),())))) (some (inr (inl ())))) (0,())).bind λv=>bl_ v (λ_=>some ((-1:Int),())) (λw=>some w))).bind λv=>some (decide (v.1<0),())) (some (false,()))) (some (false,())))
   = some (okN t&&!(l.any λy=>nm y==t),()):=by
 rw[ax8 ht,a0_]
 obtain⟨n,h1,h2,_⟩:=if_lt hl (λy=>nm y==t) (body:=λ(v:Int×Unit)=>cond (decide (v.1<(l.length:Int))) ((at? l v.1).bind λy=>cond (nm y==t) (some (inr (inr (v.1,())))) (some (inl (w64 (v.1+1),())))) (some (inr (inl ())))) (λi y hy=>by
  simp only[dlt (al_ hy),a6_,ah_ hy,a0_]
  cases nm y==t<;>rfl) (by simp only[dnl,a4_])
 rw[h1,a0_,h2]
 unfold okN
 cases okW t with
 | false=>rw[h9_,d4_];rfl
 | true=>cases decide ((t.length:Int)≤12)<;>rfl
theorem tm_ {α:Type} {l:List α} (h:Sm l.length) (i:Nat):Sm (l.take i).length:=by
 rw[c0_]
 exact d6_ (Nat.min_le_right _ _) h
theorem bm9 {r:ag_} (h:SmR r) {i:Nat} {a:dz_} (ha:r.2.2.2.2.1[i]?=some a):oc_ r (i:Int) a=some (vo_ r i a,()):=by
 have hi:=al_ ha
 obtain⟨s1,s2,s3,s4,s5,s6⟩:=h.acn a (cg_ ha)
 unfold oc_
 refine e2_ (congrArg (λo=>Option.bind o _) (?_:_=some (!(frN (·.1) r.2.2.2.2.1 i a.1&&(ry_ r a.2.1&&wi a.2.2.1 (-1) 7)),()))) ?_
 ·rw[no_ (e1_ hi),a0_]
  refine e2_ (congrArg (λo=>Option.bind o _) (sy_ (tm_ h.ac i) (·.1) s1)) ?_
  unfold frN twN ry_
  rw[a0_]
  cases okN a.1&&!((r.2.2.2.2.1.take i).any λy=>y.1==a.1) with
  | false=>rfl
  | true =>
   simp only[dn_,a0_]
   cases wi a.2.1 0 (w64 ((r.1.length:Int) - 1)) with
   | false=>rfl
   | true=>rfl
 ·rw[a0_]
  unfold vo_
  cases frN (·.1) r.2.2.2.2.1 i a.1 with
  | false=>rfl
  | true =>
  cases ry_ r a.2.1 with
  | false=>rfl
  | true =>
  cases wi a.2.2.1 (-1) 7 with
  | false=>rfl
  | true =>
   simp only[e4_,a4_,b9_,qs_ s2,qs_ s5,qs_ s6,a0_]
   cases kr_ r.2.2.1.length a.2.2.2.1 with
   | false=>rfl
   | true =>
   cases kr_ r.2.2.1.length a.2.2.2.2.2.2.1 with
   | false=>rfl
   | true =>
   cases kr_ r.2.2.1.length a.2.2.2.2.2.2.2 with
   | false=>rfl
   | true =>
   cases h6:decide (6<(a.2.2.2.2.2.1.length:Int)) with
   | true=>rfl
   | false =>
   simp only[e4_,i9_,a4_,b9_,a0_]
   refine e2_ (congrArg (λo=>Option.bind o _) (?_:_=some (!((a.2.2.2.2.2.2.1.all λp=>a.2.2.2.1.contains p)&&!(a.2.2.2.2.2.2.2.any λp=>a.2.2.2.1.contains p)),()))) ?_
   ·refine e2_ (congrArg (λo=>Option.bind o _) (qc_ s5 (λp=>!(a.2.2.2.1.contains p)) (λi y hy => ?_) ?_)) ?_
    ·simp only[dlt (al_ hy),a6_,ah_ hy,a0_,se_ s2]
     cases a.2.2.2.1.contains y<;>rfl
    ·simp only[dnl,a4_]
    rw[a0_,← ve_ a.2.2.2.2.2.2.1]
    cases a.2.2.2.2.2.2.1.any λp=>!(a.2.2.2.1.contains p) with
    | true=>rfl
    | false =>
    refine e2_ (congrArg (λo=>Option.bind o _) (qc_ s6 (λp=>a.2.2.2.1.contains p) (λi y hy => ?_) ?_)) ?_
    ·simp only[dlt (al_ hy),a6_,ah_ hy,a0_,se_ s2]
     cases a.2.2.2.1.contains y<;>rfl
    ·simp only[dnl,a4_]
    cases a.2.2.2.2.2.2.2.any λp=>a.2.2.2.1.contains p<;>rfl
   ·rw[a0_]
    cases a.2.2.2.2.2.2.1.all λp=>a.2.2.2.1.contains p with
    | false=>rfl
    | true =>
    cases a.2.2.2.2.2.2.2.any λp=>a.2.2.2.1.contains p with
    | true=>rfl
    | false =>
     simp only[e4_,i9_,a4_,b9_]
     refine bu_ a.2.2.2.2.2.1 (λi x=>cond (tn_ r a.2.2.2.2.2.1 i x) none (some (inr (false,()):Unit⊕(Bool×Unit)))) (λi=>((i:Int),())) (r0:=inl ()) (λk y hy => ?_) ?_ ?_
     ·have hk:=al_ hy
      simp only[dlt hk,a6_,ah_ hy,a0_,bj_ (show Sm k by omega),no_ (e1_ hk)]
      refine e2_ (congrArg (λo=>Option.bind o _) (qc_ (tm_ s4 k) (λz=>z.1==y.1) (λn z hz => ?_) ?_)) ?_
      ·simp only[dlt (al_ hz),a6_,ah_ hz,a0_]
       cases z.1==y.1<;>rfl
      ·simp only[dnl,a4_]
      ·rw[a0_,nu_ h.th]
       unfold tn_
       cases qk_ r.2.1 y.1 y.2 with
       | false=>rfl
       | true =>
        cases (a.2.2.2.2.2.1.take k).any λz=>z.1==y.1<;>rfl
     ·simp only[dnl,a4_]
     ·rw[qq_]
      cases (gn_ (λi x=>cond (tn_ r a.2.2.2.2.2.1 i x) none (some ())) 0 a.2.2.2.2.2.1).isNone<;>rfl
end
section
def ai3 (r:ag_):Bool:=decide (8<(r.1.length:Int))||(decide (12<(r.2.1.length:Int))||(decide (10<(r.2.2.1.length:Int))||(decide (16<(r.2.2.2.1.length:Int))||(decide (24<(r.2.2.2.2.1.length:Int))||decide (12<(r.2.2.2.2.2.1.length:Int))))))
theorem bb4 (r:ag_):(cond (decide (8<(r.1.length:Int)))
 (some (true,()))
 (cond (decide (12<(r.2.1.length:Int)))
 (some (true,()))
 (cond (decide (10<(r.2.2.1.length:Int)))
 (some (true,()))
 (cond (decide (16<(r.2.2.2.1.length:Int)))
 (some (true,()))
 (cond (decide (24<(r.2.2.2.2.1.length:Int)))
 (some (true,()))
 (some ((decide (12<(r.2.2.2.2.2.1.length:Int))),())))))))=some (ai3 r,()):=by
  unfold ai3
  cases decide (8<(r.1.length:Int)) with
  | true=>rfl
  | false =>
  cases decide (12<(r.2.1.length:Int)) with
  | true=>rfl
  | false =>
  cases decide (10<(r.2.2.1.length:Int)) with
  | true=>rfl
  | false =>
  cases decide (16<(r.2.2.2.1.length:Int)) with
  | true=>rfl
  | false =>
  cases decide (24<(r.2.2.2.2.1.length:Int)) with
  | true=>rfl
  | false=>rfl
def ib_ (r:ag_):Int :=
 cond (ai3 r) 2 ((gn_ (λi x=>jo_ (plOk r i x) 22) 0 r.1).getD
  (cond ((r.1.length:Int)==0) 22 ((gn_ (λi x=>jo_ (bk7 r i x) 21) 0 r.2.1).getD
   ((gn_ (λi x=>ql_ (bv3 r i x) 24 (cOk r.2.1 x.2.2) 25) 0 r.2.2.1).getD
    ((gn_ (λ_ x=>ql_ (bu0 r x) 23 (cOk r.2.1 x.2.2) 25) 0 r.2.2.2.1).getD
     ((gn_ (λi x=>ql_ (vo_ r i x) 26 (cOk r.2.1 x.2.2.2.2.1) 25) 0 r.2.2.2.2.1).getD
      ((gn_ (λ_ x=>ql_ (qk_ r.2.1 x.2.1 x.2.2) 27 (cOk r.2.1 x.1) 25) 0 r.2.2.2.2.2.1).getD
       (cond (wi r.2.2.2.2.2.2.1 1 4) (cond (cOk r.2.1 r.2.2.2.2.2.2.2) 0 25) 1))))))))
theorem vv_ {r:ag_} (h:SmR r):hw_ r=some (ib_ r,()):=by
 unfold hw_
 refine e2_ (congrArg (λo=>Option.bind o _) (bb4 r)) ?_
 rw[a0_]
 unfold ib_
 cases ai3 r with
 | true=>rfl
 | false =>
 simp only[a4_]
 refine bi_ r.1 (λi x=>jo_ (plOk r i x) 22) (λi y hy => ?_) ?_ (ed_ ?_)
 ·have hi:=al_ hy
  simp only[dlt hi,a6_,ah_ hy,a0_,bj_ (show Sm i from d6_ (e1_ hi) h.pl),no_ (e1_ hi)]
  refine e2_ (congrArg (λo=>Option.bind o _) (sy_ (tm_ h.pl i) id (h.pln y (cg_ hy)))) ?_
  unfold jo_ plOk frN twN
  rw[a0_]
  cases okN y&&!((r.1.take i).any λz=>id z==y)<;>rfl
 ·simp only[dnl,a4_]
 cases (r.1.length:Int)==0 with
 | true=>rfl
 | false =>
 simp only[a4_]
 refine bi_ r.2.1 (λi x=>jo_ (bk7 r i x) 21) (λi y hy => ?_) ?_ (ed_ ?_)
 ·have hi:=al_ hy
  simp only[dlt hi,a6_,ah_ hy,a0_,bj_ (show Sm i from d6_ (e1_ hi) h.th),no_ (e1_ hi)]
  refine e2_ (congrArg (λo=>Option.bind o _) (e2_ (congrArg (λo=>Option.bind o _) (sy_ (tm_ h.th i) (·.1) (h.thn y (cg_ hy)))) (?_:_=some (!(bk7 r i y),())))) ?_
  ·simp only[dn_,a0_]
   unfold bk7 frN twN ry_
   cases okN y.1&&!((r.2.1.take i).any λz=>z.1==y.1) with
   | false=>rfl
   | true =>
    cases wi y.2.1 0 (w64 ((r.1.length:Int) - 1)) with
    | false=>rfl
    | true =>
     cases wi y.2.2.1 2 6 with
     | false=>rfl
     | true=>rfl
  ·rw[a0_]
   unfold jo_
   cases bk7 r i y<;>rfl
 ·simp only[dnl,a4_]
 refine bi_ r.2.2.1 (λi x=>ql_ (bv3 r i x) 24 (cOk r.2.1 x.2.2) 25) (λi y hy => ?_) ?_ (ed_ ?_)
 ·have hi:=al_ hy
  simp only[dlt hi,a6_,ah_ hy,a0_,bj_ (show Sm i from d6_ (e1_ hi) h.pr),no_ (e1_ hi)]
  refine e2_ (congrArg (λo=>Option.bind o _) (e2_ (congrArg (λo=>Option.bind o _) (sy_ (tm_ h.pr i) (·.1) (h.prn y (cg_ hy)).1)) (?_:_=some (!(bv3 r i y),())))) ?_
  ·simp only[dn_,a0_]
   unfold bv3 frN twN ry_
   cases okN y.1&&!((r.2.2.1.take i).any λz=>z.1==y.1) with
   | false=>rfl
   | true =>
    cases wi y.2.1 0 (w64 ((r.1.length:Int) - 1)) with
    | false=>rfl
    | true=>rfl
  ·rw[a0_,kx_ h.th,a0_]
   unfold ql_
   cases bv3 r i y with
   | false=>rfl
   | true=>cases cOk r.2.1 y.2.2<;>rfl
 ·simp only[dnl,a4_]
 refine bi_ r.2.2.2.1 (λi x=>ql_ (bu0 r x) 23 (cOk r.2.1 x.2.2) 25) (λi y hy => ?_) ?_ (ed_ ?_)
 ·have hi:=al_ hy
  simp only[dlt hi,a6_,ah_ hy,a0_,bj_ (show Sm i from d6_ (e1_ hi) h.wy)]
  refine e2_ (congrArg (λo=>Option.bind o _) (?_:_=some (!(bu0 r y),()))) ?_
  ·simp only[dn_,a0_]
   unfold bu0 ry_
   cases wi y.1 0 (w64 ((r.1.length:Int) - 1)) with
   | false=>rfl
   | true =>
    cases wi y.2.1 0 (w64 ((r.1.length:Int) - 1)) with
    | false=>rfl
    | true=>simp
  ·rw[a0_,kx_ h.th,a0_]
   unfold ql_
   cases bu0 r y with
   | false=>rfl
   | true=>cases cOk r.2.1 y.2.2<;>rfl
 ·simp only[dnl,a4_]
 refine bi_ r.2.2.2.2.1 (λi x=>ql_ (vo_ r i x) 26 (cOk r.2.1 x.2.2.2.2.1) 25) (λi y hy => ?_) ?_ (ed_ ?_)
 ·have hi:=al_ hy
  simp only[dlt hi,a6_,ah_ hy,a0_,bj_ (show Sm i from d6_ (e1_ hi) h.ac),bm9 h hy,kx_ h.th]
  unfold ql_
  cases vo_ r i y with
  | false=>rfl
  | true=>cases cOk r.2.1 y.2.2.2.2.1<;>rfl
 ·simp only[dnl,a4_]
 refine bi_ r.2.2.2.2.2.1 (λi x=>ql_ (qk_ r.2.1 x.2.1 x.2.2) 27 (cOk r.2.1 x.1) 25) (λi y hy => ?_) ?_ (ed_ ?_)
 ·have hi:=al_ hy
  simp only[dlt hi,a6_,ah_ hy,a0_,bj_ (show Sm i from d6_ (e1_ hi) h.au),nu_ h.th,kx_ h.th]
  unfold ql_
  cases qk_ r.2.1 y.2.1 y.2.2 with
  | false=>rfl
  | true=>cases cOk r.2.1 y.1<;>rfl
 ·simp only[dnl,a4_]
 rw[dn_,a0_,kx_ h.th,a0_]
 cases wi r.2.2.2.2.2.2.1 1 4 with
 | false=>rfl
 | true=>cases cOk r.2.1 r.2.2.2.2.2.2.2<;>rfl
end
section
theorem sd_ {α ρ σ τ:Type} (l:List α) (k:Nat) (hk:k≤l.length) (p:Nat→α→Option ρ) (F:Nat→σ) {r0:ρ} {body:σ→Option (σ⊕ρ)} {K:ρ→Option τ} {x:Option τ}
  (h:∀ i x,i<k→l[i]?=some x→body (F i)=some (match p i x with | none=>.inl (F (i+1)) | some r=>.inr r)) (e:body (F k)=some (.inr r0)) (hx:K ((gn_ p 0 (l.take k)).getD r0)=x) :
  (ad_ body (F 0)).bind K=x:=by
 have hle:(l.take k).length=k:=by rw[c0_];omega
 refine bu_ (l.take k) p F (λi x hx => ?_) (by rw[hle];exact e) hx
 rw[g1_] at hx
 split at hx
 ·exact h i x ‹_› hx
 ·cases hx
theorem ay1 {r:ag_} (h:SmR r) {i:Nat} {a:dz_} (ha:r.2.2.2.2.1[i]?=some a):ln_ r (i:Int)=some (vo_ r i a,()):=by
 have hi:=al_ ha
 have hac:=h.ac
 obtain⟨s1,s2,s3,s4,s5,s6⟩:=h.acn a (cg_ ha)
 unfold ln_
 rw[ah_ ha,a0_]
 refine sd_ r.2.2.2.2.1 i (e1_ hi) (λ_ y=>cond (y.1==a.1) (some (inr (false,()):Unit⊕(Bool×Unit))) none) (λi=>((i:Int),())) (r0:=inl ()) (λk y hk hy => ?_) ?_ ?_
 ·simp only[dlt hk,a6_,ah_ hy,a0_,bj_ (show Sm k by omega)]
  cases y.1==a.1<;>rfl
 ·simp only[dnl,a4_]
 rw[hi_ (q:=λy:dz_=>y.1==a.1)]
 unfold vo_ frN twN
 cases (r.2.2.2.2.1.take i).any λy=>y.1==a.1 with
 | true=>rw[e4_,h9_,d4_];rfl
 | false =>
 simp only[a4_,i7_,xb_,i9_,g8_]
 refine e2_ (congrArg (λo=>Option.bind o _) (?_:_=some (!(okN a.1&&(ry_ r a.2.1&&(wi a.2.2.1 (-1) 7&&(kr_ r.2.2.1.length a.2.2.2.1&&(kr_ r.2.2.1.length a.2.2.2.2.2.2.1&&(kr_ r.2.2.1.length a.2.2.2.2.2.2.2&&!(decide (6<(a.2.2.2.2.2.1.length:Int))))))))),()))) ?_
 ·simp only[jh_ s1,he_,gd_,jg_ h.pr s2,jg_ h.pr s5,jg_ h.pr s6,a0_]
  unfold ry_
  cases okN a.1 with
  | false=>rfl
  | true =>
  cases wi a.2.1 0 (w64 ((r.1.length:Int) - 1)) with
  | false=>rfl
  | true =>
  cases wi a.2.2.1 (-1) 7 with
  | false=>rfl
  | true =>
  cases kr_ r.2.2.1.length a.2.2.2.1 with
  | false=>rfl
  | true =>
  cases kr_ r.2.2.1.length a.2.2.2.2.2.2.1 with
  | false=>rfl
  | true =>
  cases kr_ r.2.2.1.length a.2.2.2.2.2.2.2 with
  | false=>rfl
  | true=>simp
 rw[a0_]
 cases okN a.1 with
 | false=>rfl
 | true =>
 cases ry_ r a.2.1 with
 | false=>rfl
 | true =>
 cases wi a.2.2.1 (-1) 7 with
 | false=>rfl
 | true =>
 cases kr_ r.2.2.1.length a.2.2.2.1 with
 | false=>rfl
 | true =>
 cases kr_ r.2.2.1.length a.2.2.2.2.2.2.1 with
 | false=>rfl
 | true =>
 cases kr_ r.2.2.1.length a.2.2.2.2.2.2.2 with
 | false=>rfl
 | true =>
 cases decide (6<(a.2.2.2.2.2.1.length:Int)) with
 | true=>rfl
 | false =>
 simp only[b9_,e4_,i9_,a4_]
 refine bu_ a.2.2.2.2.2.2.1 (λ_ y=>cond (a.2.2.2.1.contains y) none (some (inr (false,()):Unit⊕(Bool×Unit)))) (λi=>((i:Int),())) (r0:=inl ()) (λk y hy => ?_) ?_ ?_
 ·have hk:=al_ hy
  simp only[dlt hk,a6_,ah_ hy,a0_,bj_ (show Sm k by omega),al0 s2]
  cases a.2.2.2.1.contains y<;>rfl
 ·simp only[dnl,a4_]
 rw[ns_ (q:=λy=>a.2.2.2.1.contains y)]
 cases a.2.2.2.2.2.2.1.all λy=>a.2.2.2.1.contains y with
 | false=>rfl
 | true =>
 simp only[a6_,i7_,xb_,b9_]
 refine bu_ a.2.2.2.2.2.2.2 (λ_ y=>cond (a.2.2.2.1.contains y) (some (inr (false,()):Unit⊕(Bool×Unit))) none) (λi=>((i:Int),())) (r0:=inl ()) (λk y hy => ?_) ?_ ?_
 ·have hk:=al_ hy
  simp only[dlt hk,a6_,ah_ hy,a0_,bj_ (show Sm k by omega),al0 s2]
  cases a.2.2.2.1.contains y<;>rfl
 ·simp only[dnl,a4_]
 rw[hi_ (q:=λy=>a.2.2.2.1.contains y)]
 cases a.2.2.2.2.2.2.2.any λy=>a.2.2.2.1.contains y with
 | true=>rfl
 | false =>
 simp only[a4_,i7_,xb_,i9_,b9_]
 refine bu_ a.2.2.2.2.2.1 (λi x=>cond (tn_ r a.2.2.2.2.2.1 i x) none (some (inr (false,()):Unit⊕(Bool×Unit)))) (λi=>((i:Int),())) (r0:=inl ()) (λk y hy => ?_) ?_ ?_
 ·have hk:=al_ hy
  simp only[dlt hk,a6_,ah_ hy,a0_,bj_ (show Sm k by omega),pm_ h.th]
  unfold tn_
  cases qk_ r.2.1 y.1 y.2 with
  | false=>rfl
  | true =>
  simp only[e4_,a4_,b9_]
  refine sd_ a.2.2.2.2.2.1 k (e1_ hk) (λ_ z=>cond (z.1==y.1) (some (inr (inr (inr (false,()))):Unit⊕((Int×Unit)⊕(Unit⊕(Bool×Unit))))) none) (λi=>((i:Int),())) (r0:=inl ()) (λn z hn hz => ?_) ?_ ?_
  ·simp only[dlt hn,a6_,ah_ hz,a0_,bj_ (show Sm n by omega)]
   cases z.1==y.1<;>rfl
  ·simp only[dnl,a4_]
  rw[hi_ (q:=λz:aa_=>z.1==y.1)]
  cases (a.2.2.2.2.2.1.take k).any λz=>z.1==y.1<;>rfl
 ·simp only[dnl,a4_]
 rw[qq_]
 cases (gn_ (λi x=>cond (tn_ r a.2.2.2.2.2.1 i x) none (some ())) 0 a.2.2.2.2.2.1).isNone<;>rfl
theorem zt_ {α:Type} {nm:α→List UInt8} {l:List α} (hl:Sm l.length) {i:Nat} {x:α} (hx:l[i]?=some x):push? (α:=List UInt8) ((l.take i).map nm) [nm x]=some ((l.take (i+1)).map nm):=by
 have hi:=al_ hx
 unfold push?
 rw[if_pos (by
  simp only[e6_,c0_,m5_]
  omega)]
 rw[h0_,hx,m4_]
 rfl
theorem av1 {α:Type} {nm:α→List UInt8} {l:List α} {i:Nat} {t:List UInt8}:twN id ((l.take (i+1)).map nm) i t=twN nm l i t:=by
 unfold twN
 rw[← List.map_take,List.take_take,Nat.min_eq_left (Nat.le_succ i),List.any_map]
 rfl
theorem bv9 {α:Type} {nm:α→List UInt8} {l:List α} {i:Nat} {x:α} (hx:l[i]?=some x):((l.take (i+1)).map nm)[i]?=some (nm x):=by
 rw[d3_,g1_,if_pos (Nat.lt_succ_self i),hx]
 rfl
theorem tv_ {r:ag_} (h:SmR r):gs_ r=some (ib_ r,()):=by
 unfold gs_
 refine e2_ (congrArg (λo=>Option.bind o _) (bb4 r)) ?_
 rw[a0_]
 unfold ib_
 cases ai3 r with
 | true=>rfl
 | false =>
 simp only[a4_]
 cases he:(r.1.length:Int)==0 with
 | true =>
  have:r.1=[]:=by
   have:=j6_.1 he
   exact e9_ (by omega)
  rw[this]
  rfl
 | false =>
 simp only[a4_]
 refine bi_ r.1 (λi x=>jo_ (plOk r i x) 22) (λi y hy => ?_) ?_ (ed_ ?_)
 ·have hi:=al_ hy
  simp only[dlt hi,a6_,ah_ hy,a0_,bj_ (show Sm i from d6_ (e1_ hi) h.pl),jh_ (h.pln y (cg_ hy)),op_ h.pl hy]
  unfold jo_ plOk frN
  cases okN y with
  | false=>rfl
  | true=>cases twN id r.1 i y<;>rfl
 ·simp only[dnl,a4_]
 refine wv_ r.2.1 (λi x=>jo_ (bk7 r i x) 21) (λi=>(r.2.1.take i).map (·.1)) rfl (λi y hy => ?_) ?_ (ed_ ?_)
 ·have hi:=al_ hy
  have hs:Sm ((r.2.1.take (i+1)).map (·.1)).length:=by
   rw[e6_,c0_]
   exact d6_ (Nat.min_le_right _ _) h.th
  simp only[dlt hi,a6_,ah_ hy,a0_,bj_ (show Sm i from d6_ (e1_ hi) h.th),zt_ h.th hy,jh_ (h.thn y (cg_ hy)),op_ hs (bv9 hy),av1,he_,gd_]
  unfold jo_ bk7 frN ry_
  cases okN y.1 with
  | false=>rfl
  | true =>
  cases twN (·.1) r.2.1 i y.1 with
  | true=>rfl
  | false =>
  cases wi y.2.1 0 (w64 ((r.1.length:Int) - 1)) with
  | false=>rfl
  | true =>
  cases wi y.2.2.1 2 6 with
  | false=>rfl
  | true=>cases wi y.2.2.2 0 (w64 (y.2.2.1 - 1))<;>rfl
 ·simp only[dnl,a4_]
 refine wv_ r.2.2.1 (λi x=>ql_ (bv3 r i x) 24 (cOk r.2.1 x.2.2) 25) (λi=>(r.2.2.1.take i).map (·.1)) rfl (λi y hy => ?_) ?_ (ed_ ?_)
 ·have hi:=al_ hy
  obtain⟨s1,s2⟩:=h.prn y (cg_ hy)
  have hs:Sm ((r.2.2.1.take (i+1)).map (·.1)).length:=by
   rw[e6_,c0_]
   exact d6_ (Nat.min_le_right _ _) h.pr
  simp only[dlt hi,a6_,ah_ hy,a0_,bj_ (show Sm i from d6_ (e1_ hi) h.pr),zt_ h.pr hy,jh_ s1,op_ hs (bv9 hy),av1,he_,ge_ h.th s2]
  unfold ql_ bv3 frN ry_
  cases okN y.1 with
  | false=>rfl
  | true =>
  cases twN (·.1) r.2.2.1 i y.1 with
  | true=>rfl
  | false =>
  have e:(y.2.1 != -1) = !(y.2.1==-1):=rfl
  rw[e]
  cases y.2.1==-1 with
  | true =>
   cases wi y.2.1 0 (w64 ((r.1.length:Int) - 1))<;>cases cOk r.2.1 y.2.2<;>rfl
  | false =>
   cases wi y.2.1 0 (w64 ((r.1.length:Int) - 1))<;>cases cOk r.2.1 y.2.2<;>rfl
 ·simp only[dnl,a4_]
 refine bi_ r.2.2.2.1 (λi x=>ql_ (bu0 r x) 23 (cOk r.2.1 x.2.2) 25) (λi y hy => ?_) ?_ (ed_ ?_)
 ·have hi:=al_ hy
  simp only[dlt hi,a6_,ah_ hy,a0_,bj_ (show Sm i from d6_ (e1_ hi) h.wy),he_,ge_ h.th (h.wyn y (cg_ hy))]
  unfold ql_ bu0 ry_
  cases wi y.1 0 (w64 ((r.1.length:Int) - 1)) with
  | false=>rfl
  | true =>
  cases wi y.2.1 0 (w64 ((r.1.length:Int) - 1)) with
  | false=>rfl
  | true=>cases y.1==y.2.1<;>cases cOk r.2.1 y.2.2<;>rfl
 ·simp only[dnl,a4_]
 refine bi_ r.2.2.2.2.1 (λi x=>ql_ (vo_ r i x) 26 (cOk r.2.1 x.2.2.2.2.1) 25) (λi y hy => ?_) ?_ (ed_ ?_)
 ·have hi:=al_ hy
  simp only[dlt hi,a6_,ah_ hy,a0_,bj_ (show Sm i from d6_ (e1_ hi) h.ac),ay1 h hy,ge_ h.th (h.acn y (cg_ hy)).2.2.1]
  unfold ql_
  cases vo_ r i y with
  | false=>rfl
  | true=>cases cOk r.2.1 y.2.2.2.2.1<;>rfl
 ·simp only[dnl,a4_]
 refine bi_ r.2.2.2.2.2.1 (λi x=>ql_ (qk_ r.2.1 x.2.1 x.2.2) 27 (cOk r.2.1 x.1) 25) (λi y hy => ?_) ?_ (ed_ ?_)
 ·have hi:=al_ hy
  simp only[dlt hi,a6_,ah_ hy,a0_,bj_ (show Sm i from d6_ (e1_ hi) h.au),pm_ h.th,ge_ h.th (h.aun y (cg_ hy))]
  unfold ql_
  cases qk_ r.2.1 y.2.1 y.2.2 with
  | false=>rfl
  | true=>cases cOk r.2.1 y.1<;>rfl
 ·simp only[dnl,a4_]
 rw[gd_,a0_,ge_ h.th h.go,a0_]
 cases wi r.2.2.2.2.2.2.1 1 4 with
 | false=>rfl
 | true=>cases cOk r.2.1 r.2.2.2.2.2.2.2<;>rfl
end
section
theorem iv_ {α τ:Type} (l:List α) (hl:Sm l.length) (q:α→Bool) {body:(Int×Unit)→Option ((Int×Unit)⊕(Unit⊕(Bool×Unit)))} {K:(Unit⊕(Bool×Unit))→Option τ} {x:Option τ}
  (h:∀ (i:Nat) y,l[i]?=some y→body ((i:Int),())=some (cond (q y) (.inr (.inr (true,()))) (.inl (w64 ((i:Int)+1),())))) (e:body ((l.length:Int),())=some (.inr (.inl ()))) (hx:K (cond (l.any q) (.inr (true,())) (.inl ()))=x) :
  (ad_ body (0,())).bind K=x:=by
 refine bu_ l (λi y=>cond (q y) (some (inr (true,()):Unit⊕(Bool×Unit))) none) (λi=>((i:Int),())) (r0:=inl ()) (λi y hy => ?_) e ?_
 ·have hi:=al_ hy
  rw[h i y hy,bj_ (show Sm i by omega)]
  cases q y<;>rfl
 ·rw[hi_ (q:=q)]
  cases hq:l.any q<;>rw[hq] at hx<;>exact hx
theorem ha_ {α:Type} {l:List α} {q:α→Bool} (h:l.any q=false):∀ x ∈ l,q x=false:=by
 intro x hx
 cases hq:q x with
 | false=>rfl
 | true=>rw[List.any_eq_true.2 ⟨x,hx,hq⟩] at h;cases h
theorem nlt {n:Nat} {k:Int} (h:decide (k<(n:Int))=false) (hk:k≤1000000000):Sm n:=by
 have:=c9_ h
 omega
def bp6 (r:ag_):Bool:=decide (12<(r.1.length:Int))||(decide (15<(r.2.1.length:Int))||(decide (14<(r.2.2.1.length:Int))||(decide (20<(r.2.2.2.1.length:Int))||(decide (30<(r.2.2.2.2.1.length:Int))||(decide (15<(r.2.2.2.2.2.1.length:Int))||decide (20<(r.2.2.2.2.2.2.2.length:Int)))))))
theorem bp5 (r:ag_):(cond (decide (12<(r.1.length:Int)))
 (some (true,()))
 (cond (decide (15<(r.2.1.length:Int)))
 (some (true,()))
 (cond (decide (14<(r.2.2.1.length:Int)))
 (some (true,()))
 (cond (decide (20<(r.2.2.2.1.length:Int)))
 (some (true,()))
 (cond (decide (30<(r.2.2.2.2.1.length:Int)))
 (some (true,()))
 (cond (decide (15<(r.2.2.2.2.2.1.length:Int)))
 (some (true,()))
 (some ((decide (20<(r.2.2.2.2.2.2.2.length:Int))),()))))))))=some (bp6 r,()):=by
  unfold bp6
  cases decide (12<(r.1.length:Int)) with
  | true=>rfl
  | false =>
  cases decide (15<(r.2.1.length:Int)) with
  | true=>rfl
  | false =>
  cases decide (14<(r.2.2.1.length:Int)) with
  | true=>rfl
  | false =>
  cases decide (20<(r.2.2.2.1.length:Int)) with
  | true=>rfl
  | false =>
  cases decide (30<(r.2.2.2.2.1.length:Int)) with
  | true=>rfl
  | false =>
  cases decide (15<(r.2.2.2.2.2.1.length:Int)) with
  | true=>rfl
  | false=>rfl
theorem bc2 (r:ag_):∃ b,lq_ r=some (b,())∧(b=false→SmR r∧r.2.1.length≤15∧r.2.2.2.2.2.2.2.length≤20∧r.2.2.2.2.1.length≤30):=by
 unfold lq_
 have e0:=bp5 r
 cases hm:bp6 r with
 | true =>
  rw[hm] at e0
  exact⟨true,e2_ (congrArg (λo=>Option.bind o _) e0) rfl,λh=>by cases h⟩
 | false =>
 rw[hm] at e0
 unfold bp6 at hm
 simp only[b5_] at hm
 obtain⟨h1,h2,h3,h4,h5,h6,h7⟩:=hm
 have l1:=nlt h1 (by decide)
 have l2:=nlt h2 (by decide)
 have l3:=nlt h3 (by decide)
 have l4:=nlt h4 (by decide)
 have l5:=nlt h5 (by decide)
 have l6:=nlt h6 (by decide)
 have l7:=nlt h7 (by decide)
 have b2:=c9_ h2
 have b5:=c9_ h5
 have b7:=c9_ h7
 let qa:dz_→Bool:=λy=>decide (100<(y.1.length:Int))||(decide (20<(y.2.2.2.2.1.length:Int))||(decide (20<(y.2.2.2.1.length:Int))||(decide (20<(y.2.2.2.2.2.1.length:Int))||(decide (20<(y.2.2.2.2.2.2.1.length:Int))||decide (20<(y.2.2.2.2.2.2.2.length:Int))))))
 let b1:=r.1.any λx=>decide (100<(x.length:Int))
 let bt:=r.2.1.any λx=>decide (100<(x.1.length:Int))
 let bp:=r.2.2.1.any λx=>decide (100<(x.1.length:Int))||decide (20<(x.2.2.length:Int))
 let bw:=r.2.2.2.1.any λx=>decide (20<(x.2.2.length:Int))
 let ba:=r.2.2.2.2.1.any qa
 let bo:=r.2.2.2.2.2.1.any λx=>decide (20<(x.1.length:Int))
 refine⟨b1||(bt||(bp||(bw||(ba||bo)))),?_,?_⟩
 ·refine e2_ (congrArg (λo=>Option.bind o _) e0) ?_
  rw[a0_]
  simp only[a4_]
  refine iv_ r.1 l1 (λx=>decide (100<(x.length:Int))) (λi y hy => ?_) ?_ ?_
  ·simp only[dlt (al_ hy),a6_,ah_ hy,a0_]
   cases decide (100<(y.length:Int))<;>rfl
  ·simp only[dnl,a4_]
  show bl_ (cond b1 _ _) _ _=_
  cases b1 with
  | true=>rfl
  | false =>
  refine iv_ r.2.1 l2 (λx=>decide (100<(x.1.length:Int))) (λi y hy => ?_) ?_ ?_
  ·simp only[dlt (al_ hy),a6_,ah_ hy,a0_]
   cases decide (100<(y.1.length:Int))<;>rfl
  ·simp only[dnl,a4_]
  show bl_ (cond bt _ _) _ _=_
  cases bt with
  | true=>rfl
  | false =>
  refine iv_ r.2.2.1 l3 (λx=>decide (100<(x.1.length:Int))||decide (20<(x.2.2.length:Int))) (λi y hy => ?_) ?_ ?_
  ·simp only[dlt (al_ hy),a6_,ah_ hy,a0_]
   cases decide (100<(y.1.length:Int)) with
   | true=>rfl
   | false=>cases decide (20<(y.2.2.length:Int))<;>rfl
  ·simp only[dnl,a4_]
  show bl_ (cond bp _ _) _ _=_
  cases bp with
  | true=>rfl
  | false =>
  refine iv_ r.2.2.2.1 l4 (λx=>decide (20<(x.2.2.length:Int))) (λi y hy => ?_) ?_ ?_
  ·simp only[dlt (al_ hy),a6_,ah_ hy,a0_]
   cases decide (20<(y.2.2.length:Int))<;>rfl
  ·simp only[dnl,a4_]
  show bl_ (cond bw _ _) _ _=_
  cases bw with
  | true=>rfl
  | false =>
  refine iv_ r.2.2.2.2.1 l5 qa (λi y hy => ?_) ?_ ?_
  ·simp only[dlt (al_ hy),a6_,ah_ hy,a0_,qa]
   cases decide (100<(y.1.length:Int)) with
   | true=>rfl
   | false =>
   cases decide (20<(y.2.2.2.2.1.length:Int)) with
   | true=>rfl
   | false =>
   cases decide (20<(y.2.2.2.1.length:Int)) with
   | true=>rfl
   | false =>
   cases decide (20<(y.2.2.2.2.2.1.length:Int)) with
   | true=>rfl
   | false =>
   cases decide (20<(y.2.2.2.2.2.2.1.length:Int)) with
   | true=>rfl
   | false=>cases decide (20<(y.2.2.2.2.2.2.2.length:Int))<;>rfl
  ·simp only[dnl,a4_]
  show bl_ (cond ba _ _) _ _=_
  cases ba with
  | true=>rfl
  | false =>
  refine iv_ r.2.2.2.2.2.1 l6 (λx=>decide (20<(x.1.length:Int))) (λi y hy => ?_) ?_ ?_
  ·simp only[dlt (al_ hy),a6_,ah_ hy,a0_]
   cases decide (20<(y.1.length:Int))<;>rfl
  ·simp only[dnl,a4_]
  show bl_ (cond bo _ _) _ _=_
  cases bo<;>rfl
 ·intro hb
  simp only[b5_] at hb
  obtain⟨g1,g2,g3,g4,g5,g6⟩:=hb
  refine⟨⟨l1,l2,l3,l4,l5,l6,l7,λx hx=>nlt (ha_ g1 x hx) (by decide),λx hx=>nlt (ha_ g2 x hx) (by decide),λx hx => ?_,λx hx=>nlt (ha_ g4 x hx) (by decide),λx hx => ?_,λx hx=>nlt (ha_ g6 x hx) (by decide)⟩,by omega,by omega,by omega⟩
  ·have:=ha_ g3 x hx
   simp only[b5_] at this
   exact⟨nlt this.1 (by decide),nlt this.2 (by decide)⟩
  ·have:=ha_ g5 x hx
   simp only[qa,b5_] at this
   obtain⟨a1,a2,a3,a4,a5,a6⟩:=this
   exact⟨nlt a1 (by decide),nlt a3 (by decide),nlt a2 (by decide),nlt a4 (by decide),nlt a5 (by decide),nlt a6 (by decide)⟩
structure SmG (g:ac_):Prop where
 room:SmR g.1
 th:g.1.2.1.length≤15
 go:g.1.2.2.2.2.2.2.2.length≤20
 ac:g.1.2.2.2.2.1.length≤30
 lk:g.2.1.length≤10
 cd:g.2.2.1.length≤10
 nt:g.2.2.2.1.length≤20
 lkn:∀ x ∈ g.2.1,¬ (3<x.1∧5<x.2)
 cdn:∀ x ∈ g.2.2.1,x.length≤10
 ntn:∀ x ∈ g.2.2.2.1,x.1.length≤100∧x.2.2.2.1.length≤20∧x.2.2.2.2.2.2.2.2.2.1.length≤10
theorem bc1 (g:ac_):∃ b,lp_ g=some (b,())∧(b=false→SmG g):=by
 unfold lp_
 obtain⟨b0,e0,h0⟩:=bc2 g.1
 rw[e0]
 simp only[a0_]
 cases b0 with
 | true=>exact⟨true,rfl,λh=>by cases h⟩
 | false =>
 obtain⟨r1,r2,r3,r4⟩:=h0 rfl
 cases h1:decide (10<(g.2.1.length:Int)) with
 | true=>exact⟨true,rfl,λh=>by cases h⟩
 | false =>
 cases h2:decide (10<(g.2.2.1.length:Int)) with
 | true=>exact⟨true,rfl,λh=>by cases h⟩
 | false =>
 cases h3:decide (20<(g.2.2.2.1.length:Int)) with
 | true=>exact⟨true,rfl,λh=>by cases h⟩
 | false =>
 have l1:=nlt h1 (by decide)
 have l2:=nlt h2 (by decide)
 have l3:=nlt h3 (by decide)
 let ql:aa_→Bool:=λy=>decide (3<y.1)&&decide (5<y.2)
 let qn:cu_→Bool:=λy=>decide (100<(y.1.length:Int))||(decide (20<(y.2.2.2.1.length:Int))||decide (10<(y.2.2.2.2.2.2.2.2.2.1.length:Int)))
 let b1:=g.2.1.any ql
 let b2:=g.2.2.1.any λx=>decide (10<(x.length:Int))
 let b3:=g.2.2.2.1.any qn
 refine⟨b1||(b2||b3),?_,?_⟩
 ·simp only[a0_,a4_]
  refine iv_ g.2.1 l1 ql (λi y hy => ?_) ?_ ?_
  ·simp only[dlt (al_ hy),a6_,ah_ hy,a0_,ql]
   cases decide (3<y.1) with
   | false=>rfl
   | true=>cases decide (5<y.2)<;>rfl
  ·simp only[dnl,a4_]
  show bl_ (cond b1 _ _) _ _=_
  cases b1 with
  | true=>rfl
  | false =>
  refine iv_ g.2.2.1 l2 (λx=>decide (10<(x.length:Int))) (λi y hy => ?_) ?_ ?_
  ·simp only[dlt (al_ hy),a6_,ah_ hy,a0_]
   cases decide (10<(y.length:Int))<;>rfl
  ·simp only[dnl,a4_]
  show bl_ (cond b2 _ _) _ _=_
  cases b2 with
  | true=>rfl
  | false =>
  refine iv_ g.2.2.2.1 l3 qn (λi y hy => ?_) ?_ ?_
  ·simp only[dlt (al_ hy),a6_,ah_ hy,a0_,qn]
   cases decide (100<(y.1.length:Int)) with
   | true=>rfl
   | false =>
   cases decide (20<(y.2.2.2.1.length:Int)) with
   | true=>rfl
   | false=>cases decide (10<(y.2.2.2.2.2.2.2.2.2.1.length:Int))<;>rfl
  ·simp only[dnl,a4_]
  show bl_ (cond b3 _ _) _ _=_
  cases b3<;>rfl
 ·intro hb
  simp only[b5_] at hb
  obtain⟨g1,g2,g3⟩:=hb
  have c1:=c9_ h1
  have c2:=c9_ h2
  have c3:=c9_ h3
  refine⟨r1,r2,r3,r4,by omega,by omega,by omega,λx hx => ?_,λx hx => ?_,λx hx => ?_⟩
  ·have:=ha_ g1 x hx
   intro hc
   simp only[ql,c1_ hc.1,c1_ hc.2] at this
   cases this
  ·have:=c9_ (ha_ g2 x hx)
   omega
  ·have:=ha_ g3 x hx
   simp only[qn,b5_] at this
   have d1:=c9_ this.1
   have d2:=c9_ this.2.1
   have d3:=c9_ this.2.2
   omega
end
end Go.Proofs.YtlbfbdbagohinaaGreatDoor.Rx
namespace Go.Proofs.YtlbfbdbagohinaaGreatDoor.Rx
open Go Pad Rex Go.Proofs Go.Proofs.Tryz Sum
section
set_option maxRecDepth 100000
set_option maxHeartbeats 0
noncomputable def dr_ (a0:aa_) (a1:ab_) (a2:(List Int)):Option (Bool×Int×Unit) :=
 ((ct_ a0 a1).bind λv0 =>
 (cond (v0.1 != 0)
 (some (false,(v0.1,())))
 ((bk_ a0 a2).bind λv1 =>
 (cond (v1.1 != 0)
 (some (false,(v1.1,())))
 ((df_ a1 a2).bind λv2 =>
 (some (v2.1,(0,()))))))))
theorem x_115:ax_ (P:=prog) (cxC [c_62,c_172,c_173] []) .z 115 [ae_,af_,(.list .int)] [.bool,.int]=λx=>dr_ x.1 x.2.1 x.2.2.1:=by kernel_rfl
noncomputable def c_115:Con prog:=ay_ _ _ 115 [ae_,af_,(.list .int)] [.bool,.int] _ x_115
noncomputable def ex_ (a0:ag_) (a1:az_):Option (Int×Unit) :=
 ((hw_ a0).bind λv0 =>
 (cond (v0.1 != 0)
 (some (v0.1,()))
 (((cond ((a1.1.length:Int) != (a0.2.1.length:Int))
 (some (true,()))
 (cond ((a1.2.1.length:Int) != (a0.2.2.1.length:Int))
 (some (true,()))
 (some (((a1.2.2.length:Int) != a0.2.2.2.2.2.2.1),()))))).bind λv1 =>
 (cond v1.1
 (some (28,()))
 ((ad_ (ρ:=(Unit⊕(Int×Unit))) (λ(v2:(Int×Unit)) =>
 (cond (decide (v2.1<(a1.1.length:Int)))
 ((at? a1.1 v2.1).bind λv3 =>
 ((ep_ a0 v2.1 v3).bind λv4 =>
 (cond (!v4.1)
 (some (inr (inr (28,()))))
 (some (inl ((w64 (v2.1+1)),()))))))
 (some (inr (inl ()))))) (0,())).bind λv5 =>
 (bl_ v5 (λv6=>((ad_ (ρ:=(Unit⊕(Int×Unit))) (λ(v8:(Int×Unit)) =>
 (cond (decide (v8.1<(a1.2.1.length:Int)))
 ((at? a1.2.1 v8.1).bind λv9 =>
 ((bf_ v9 (w64 ((w64 ((-2) - a0.2.2.2.2.2.2.1))+1)) (w64 ((a0.1.length:Int) - 1))).bind λv10 =>
 (cond (!v10.1)
 (some (inr (inr (28,()))))
 (some (inl ((w64 (v8.1+1)),()))))))
 (some (inr (inl ()))))) (0,())).bind λv11 =>
 (bl_ v11 (λv12=>((ad_ (ρ:=(Unit⊕(Int×Unit))) (λ(v14:(Int×Unit)) =>
 (cond (decide (v14.1<(a1.2.2.length:Int)))
 ((at? a1.2.2 v14.1).bind λv15 =>
 ((bf_ v15 0 (w64 ((a0.1.length:Int) - 1))).bind λv16 =>
 (cond (!v16.1)
 (some (inr (inr (28,()))))
 (some (inl ((w64 (v14.1+1)),()))))))
 (some (inr (inl ()))))) (0,())).bind λv17 =>
 (bl_ v17 (λv18=>(some (0,())))
 (λv19=>(some v19)))))
 (λv13=>(some v13)))))
 (λv7=>(some v7))))))))
theorem x_110:ax_ (P:=prog) (cxC [c_73,bt4,bt3] []) (.p .z (.p .z (.p (.j0 [.v 40 .bool] .z .z) (.p (.p .z (.ls [.v 44 .int] [] [] 0 .z)) (.p (.p .z (.ls [.v 58 .int] [] [] 2 .z)) (.p (.p .z (.ls [.v 77 .int] [] [] 4 .z)) .z)))))) 110 [au_,je_] [.int]=λx=>ex_ x.1 x.2.1:=by kernel_rfl
noncomputable def c_110:Con prog:=ay_ _ _ 110 [au_,je_] [.int] _ x_110
noncomputable def bp_ (a0:aa_) (a1:(List ab_)):Option (Int×Int×Unit) :=
 ((bv_ a0 a1).bind λv0 =>
 (cond (v0.1 != 0)
 (some (0,(v0.1,())))
 ((cn_ a0 a1).bind λv1 =>
 (some (v1.1,(0,()))))))
theorem x_26:ax_ (P:=prog) (cxC [c_69,c_70] []) .z 26 [ae_,(.list af_)] [.int,.int]=λx=>bp_ x.1 x.2.1:=by kernel_rfl
noncomputable def c_26:Con prog:=ay_ _ _ 26 [ae_,(.list af_)] [.int,.int] _ x_26
noncomputable def kc_ (a0:aa_) (a1:(List ab_)) (a2:(List Int)):Option (Int×Bool×Int×Unit) :=
 ((bv_ a0 a1).bind λv0 =>
 (cond (v0.1 != 0)
 (some (0,(false,(v0.1,()))))
 ((bk_ a0 a2).bind λv1 =>
 (cond (v1.1 != 0)
 (some (0,(false,(v1.1,()))))
 ((cp_ a1 a2).bind λv2 =>
 (some (v2.1,((decide (v2.1<0)),(0,())))))))))
theorem x_197:ax_ (P:=prog) (cxC [c_62,c_69,c_178] []) .z 197 [ae_,(.list af_),(.list .int)] [.int,.bool,.int]=λx=>kc_ x.1 x.2.1 x.2.2.1:=by kernel_rfl
noncomputable def c_197:Con prog:=ay_ _ _ 197 [ae_,(.list af_),(.list .int)] [.int,.bool,.int] _ x_197
noncomputable def iy_ (a0:ac_):Option (Int×Unit) :=
 ((gs_ a0.1).bind λv0 =>
 (cond (v0.1 != 0)
 (some (v0.1,()))
 (((cond (decide (8<(a0.2.1.length:Int)))
 (some (true,()))
 (some ((decide (16<(a0.2.2.2.1.length:Int))),())))).bind λv1 =>
 (cond v1.1
 (some (2,()))
 ((ad_ (ρ:=(Unit⊕(Int×Unit))) (λ(v2:(Int×Unit)) =>
 (cond (decide (v2.1<(a0.2.1.length:Int)))
 ((at? a0.2.1 v2.1).bind λv3 =>
 ((fc_ v3).bind λv4 =>
 (cond (v4.1 != 0)
 (some (inr (inr (v4.1,()))))
 (some (inl ((w64 (v2.1+1)),()))))))
 (some (inr (inl ()))))) (0,())).bind λv5 =>
 (bl_ v5 (λv6=>(cond ((a0.2.2.1.length:Int) != (a0.2.1.length:Int))
 (some (12,()))
 ((ad_ (ρ:=(Unit⊕(Int×Unit))) (λ(v8:(Int×Unit)) =>
 (cond (decide (v8.1<(a0.2.2.1.length:Int)))
 ((at? a0.2.1 v8.1).bind λv9 =>
 ((at? a0.2.2.1 v8.1).bind λv10 =>
 ((fa_ v9 v10).bind λv11 =>
 (cond (v11.1 != 0)
 (some (inr (inr (12,()))))
 (some (inl ((w64 (v8.1+1)),())))))))
 (some (inr (inl ()))))) (0,())).bind λv12 =>
 (bl_ v12 (λv13=>((ad_ (ρ:=(Unit⊕(Int×Unit))) (λ(v15:(Int×Unit)) =>
 (cond (decide (v15.1<(a0.1.2.2.2.2.1.length:Int)))
 ((at? a0.1.2.2.2.2.1 v15.1).bind λv16 =>
 (cond (decide ((a0.2.1.length:Int)≤v16.2.2.1))
 (some (inr (inr (26,()))))
 (some (inl ((w64 (v15.1+1)),())))))
 (some (inr (inl ()))))) (0,())).bind λv17 =>
 (bl_ v17 (λv18=>((ad_ (ρ:=(Unit⊕(Int×Unit))) (λ(v20:(Int×Unit)) =>
 (cond (decide (v20.1<(a0.2.2.2.1.length:Int)))
 ((iw_ a0 v20.1).bind λv21 =>
 (cond (!v21.1)
 (some (inr (inr (40,()))))
 ((at? a0.2.2.2.1 v20.1).bind λv22 =>
 ((cc_ a0.1 v22.2.2.2.1).bind λv23 =>
 (cond (!v23.1)
 (some (inr (inr (25,()))))
 (some (inl ((w64 (v20.1+1)),()))))))))
 (some (inr (inl ()))))) (0,())).bind λv24 =>
 (bl_ v24 (λv25=>((gg_ a0.2.2.2.2 1 100).bind λv27 =>
 (cond (!v27.1)
 (some (1,()))
 (some (0,())))))
 (λv26=>(some v26)))))
 (λv19=>(some v19)))))
 (λv14=>(some v14))))))
 (λv7=>(some v7))))))))
theorem x_101:ax_ (P:=prog) (cxC [c_107,c_151,c_152,c_153,c_154,c_155] []) (.p .z (.p .z (.p .z (.p (.j0 [.v 24 .bool] .z .z) (.p (.p .z (.ls [.v 4 .int] [] [] 0 .z)) (.p .z (.p (.p .z (.ls [.v 6 .int] [] [] 2 (.p .z (.p (.p (.q [] .z .z) .z) .z)))) (.p (.p .z (.ls [.v 7 .int] [] [] 4 (.p .z (.p (.p (.q [] .z .z) .z) .z)))) (.p (.p .z (.ls [.v 8 .int] [] [] 6 (.p .z (.p (.p .z (.p (.q [] .z .z) .z)) .z)))) .z))))))))) 101 [an_] [.int]=λx=>iy_ x.1:=by kernel_rfl
noncomputable def c_101:Con prog:=ay_ _ _ 101 [an_] [.int] _ x_101
noncomputable def eh_ (a0:ag_) (a1:az_):Option (Int×Unit) :=
 ((gs_ a0).bind λv0 =>
 (cond (v0.1 != 0)
 (some (v0.1,()))
 (((cond ((a1.1.length:Int) != (a0.2.1.length:Int))
 (some (true,()))
 (cond ((a1.2.1.length:Int) != (a0.2.2.1.length:Int))
 (some (true,()))
 (some (((a1.2.2.length:Int) != a0.2.2.2.2.2.2.1),()))))).bind λv1 =>
 (cond v1.1
 (some (28,()))
 ((ad_ (ρ:=(Unit⊕(Int×Unit))) (λ(v2:(Int×Unit)) =>
 (cond (decide (v2.1<(a1.1.length:Int)))
 ((at? a1.1 v2.1).bind λv3 =>
 ((fx_ a0 v2.1 v3).bind λv4 =>
 (cond (!v4.1)
 (some (inr (inr (28,()))))
 (some (inl ((w64 (v2.1+1)),()))))))
 (some (inr (inl ()))))) (0,())).bind λv5 =>
 (bl_ v5 (λv6=>((ad_ (ρ:=(Unit⊕(Int×Unit))) (λ(v8:(Int×Unit)) =>
 (cond (decide (v8.1<(a1.2.1.length:Int)))
 ((at? a1.2.1 v8.1).bind λv9 =>
 ((((cb_ a0 v9).bind λv10 =>
 (cond (!v10.1)
 (cond (v9 != (-1))
 ((cj_ v9 (w64 ((w64 ((-2) - a0.2.2.2.2.2.2.1))+1)) (-2)).bind λv11 =>
 (some ((!v11.1),())))
 (some (false,())))
 (some (false,()))))).bind λv12 =>
 (cond v12.1
 (some (inr (inr (28,()))))
 (some (inl ((w64 (v8.1+1)),()))))))
 (some (inr (inl ()))))) (0,())).bind λv13 =>
 (bl_ v13 (λv14=>((ad_ (ρ:=(Unit⊕(Int×Unit))) (λ(v16:(Int×Unit)) =>
 (cond (decide (v16.1<(a1.2.2.length:Int)))
 ((at? a1.2.2 v16.1).bind λv17 =>
 ((cb_ a0 v17).bind λv18 =>
 (cond (!v18.1)
 (some (inr (inr (28,()))))
 (some (inl ((w64 (v16.1+1)),()))))))
 (some (inr (inl ()))))) (0,())).bind λv19 =>
 (bl_ v19 (λv20=>(some (0,())))
 (λv21=>(some v21)))))
 (λv15=>(some v15)))))
 (λv7=>(some v7))))))))
theorem x_102:ax_ (P:=prog) (cxC [c_151,bt1,c_157,at4] []) (.p .z (.p .z (.p .z (.p (.j0 [.v 38 .bool] .z .z) (.p (.p .z (.ls [.v 6 .int] [] [] 0 (.p .z (.p (.p (.q [] .z .z) .z) .z)))) (.p (.p .z (.ls [.v 7 .int] [] [] 2 (.p .z (.p (.p .z (.j0 [.v 83 .bool] .z .z)) .z)))) (.p (.p .z (.ls [.v 9 .int] [] [] 4 (.p .z (.p (.p (.q [] .z .z) .z) .z)))) .z))))))) 102 [au_,je_] [.int]=λx=>eh_ x.1 x.2.1:=by kernel_rfl
noncomputable def c_102:Con prog:=ay_ _ _ 102 [au_,je_] [.int] _ x_102
end
end Go.Proofs.YtlbfbdbagohinaaGreatDoor.Rx
namespace Go.Proofs.YtlbfbdbagohinaaGreatDoor.Rx
open Go Pad Rex Sum
section
theorem gm_ {α ρ:Type} {p:Nat→α→Option ρ} {e:ρ} (h:∀ i x,p i x≠some e):∀ (l:List α) (i:Nat),gn_ p i l≠some e
 | [],_=>by simp[gn_]
 | x::l,i=>by
  unfold gn_
  cases hp:p i x with
  | some r =>
   intro he
   cases he
   exact h i x hp
  | none=>exact gm_ h l (i+1)
theorem di_ {o:Option Int} {k:Int} (h:o.getD k=0) (hn:o≠some 0):o=none∧k=0:=by
 cases o with
 | none=>exact⟨rfl,h⟩
 | some e =>
  have:e=0:=h
  subst this
  exact absurd rfl hn
theorem mt_ {a:Bool} {e:Int} (h:e≠0):jo_ a e≠some 0:=by
 unfold jo_
 cases a with
 | true=>simp
 | false=>simpa using h
theorem uu_ {a b:Bool} {e f:Int} (h:e≠0) (k:f≠0):ql_ a e b f≠some 0:=by
 unfold ql_
 cases a with
 | false=>simpa using h
 | true =>
  cases b with
  | true=>simp
  | false=>simpa using k
theorem fr_ {a:Bool} {e:Int} (h:jo_ a e=none):a=true:=by cases a with
 | true=>rfl
 | false=>cases h
theorem ms_ {a b:Bool} {e f:Int} (h:ql_ a e b f=none):a=true∧b=true:=by
 cases a with
 | false=>cases h
 | true=>cases b with
  | true=>exact⟨rfl,rfl⟩
  | false=>cases h
theorem bz_ {α ρ:Type} {p:Nat→α→Option ρ} {l:List α} (h:gn_ p 0 l=none) {i:Nat} {x:α} (hx:l[i]?=some x):p i x=none:=by
 have:=(jf_ l 0).1 h i x hx
 rwa [a7_] at this
structure OkR (r:ag_):Prop where
 many:ai3 r=false
 pl:∀ (i:Nat) x,r.1[i]?=some x→plOk r i x=true
 ne:r.1≠[]
 th:∀ (i:Nat) x,r.2.1[i]?=some x→bk7 r i x=true
 pr:∀ (i:Nat) x,r.2.2.1[i]?=some x→bv3 r i x=true∧cOk r.2.1 x.2.2=true
 wy:∀ (i:Nat) x,r.2.2.2.1[i]?=some x→bu0 r x=true∧cOk r.2.1 x.2.2=true
 ac:∀ (i:Nat) x,r.2.2.2.2.1[i]?=some x→vo_ r i x=true∧cOk r.2.1 x.2.2.2.2.1=true
 au:∀ (i:Nat) x,r.2.2.2.2.2.1[i]?=some x→qk_ r.2.1 x.2.1 x.2.2=true∧cOk r.2.1 x.1=true
 py:wi r.2.2.2.2.2.2.1 1 4=true
 go:cOk r.2.1 r.2.2.2.2.2.2.2=true
theorem ac5 {r:ag_} (h:ib_ r=0):OkR r:=by
 unfold ib_ at h
 cases hm:ai3 r with
 | true=>rw[hm] at h;exact absurd (show (2:Int)=0 from h) (by decide)
 | false =>
 rw[hm] at h
 have h:(gn_ (λi x=>jo_ (plOk r i x) 22) 0 r.1).getD _=0:=h
 obtain⟨h1,h⟩:=di_ h (gm_ (λi x=>mt_ (by decide)) _ _)
 cases he:(r.1.length:Int)==0 with
 | true=>rw[he] at h;exact absurd (show (22:Int)=0 from h) (by decide)
 | false =>
 rw[he] at h
 have h:(gn_ (λi x=>jo_ (bk7 r i x) 21) 0 r.2.1).getD _=0:=h
 obtain⟨h2,h⟩:=di_ h (gm_ (λi x=>mt_ (by decide)) _ _)
 obtain⟨h3,h⟩:=di_ h (gm_ (λi x=>uu_ (by decide) (by decide)) _ _)
 obtain⟨h4,h⟩:=di_ h (gm_ (λi x=>uu_ (by decide) (by decide)) _ _)
 obtain⟨h5,h⟩:=di_ h (gm_ (λi x=>uu_ (by decide) (by decide)) _ _)
 obtain⟨h6,h⟩:=di_ h (gm_ (λi x=>uu_ (by decide) (by decide)) _ _)
 cases h7:wi r.2.2.2.2.2.2.1 1 4 with
 | false=>rw[h7] at h;exact absurd (show (1:Int)=0 from h) (by decide)
 | true =>
 rw[h7] at h
 cases h8:cOk r.2.1 r.2.2.2.2.2.2.2 with
 | false=>rw[h8] at h;exact absurd (show (25:Int)=0 from h) (by decide)
 | true =>
 refine⟨hm,λi x hx=>fr_ (bz_ h1 hx),λe => ?_,λi x hx=>fr_ (bz_ h2 hx),λi x hx=>ms_ (bz_ h3 hx),λi x hx=>ms_ (bz_ h4 hx),λi x hx=>ms_ (bz_ h5 hx),λi x hx=>ms_ (bz_ h6 hx),h7,h8⟩
 rw[e] at he
 cases he
def inR (r:ag_) (p:Int):Bool:=wi p (w64 ((w64 ((-2) - r.2.2.2.2.2.2.1))+1)) (w64 ((r.1.length:Int) - 1))
def vk_ (r:ag_) (s:az_):Bool:=((s.1.length:Int) != (r.2.1.length:Int))||(((s.2.1.length:Int) != (r.2.2.1.length:Int))||((s.2.2.length:Int) != r.2.2.2.2.2.2.1))
def ckS (r:ag_) (s:az_):Int :=
 cond (vk_ r s) 28 ((gn_ (λi n=>jo_ (qk_ r.2.1 (i:Int) n) 28) 0 s.1).getD ((gn_ (λ_ p=>jo_ (inR r p) 28) 0 s.2.1).getD ((gn_ (λ_ p=>jo_ (ry_ r p) 28) 0 s.2.2).getD 0)))
def fz_ (r:ag_) (s:az_):Int:=cond (ib_ r != 0) (ib_ r) (ckS r s)
theorem bb9 (r:ag_) (s:az_):(cond ((s.1.length:Int) != (r.2.1.length:Int))
 (some (true,()))
 (cond ((s.2.1.length:Int) != (r.2.2.1.length:Int))
 (some (true,()))
 (some (((s.2.2.length:Int) != r.2.2.2.2.2.2.1),()))))=some (vk_ r s,()):=by
  unfold vk_
  cases (s.1.length:Int) != (r.2.1.length:Int) with
  | true=>rfl
  | false =>
  cases (s.2.1.length:Int) != (r.2.2.1.length:Int) with
  | true=>rfl
  | false=>rfl
theorem xy_ {r:ag_} {s:az_} (h:vk_ r s=false):s.1.length=r.2.1.length∧s.2.1.length=r.2.2.1.length∧(s.2.2.length:Int)=r.2.2.2.2.2.2.1:=by
 unfold vk_ at h
 simp only[b5_,n0_] at h
 omega
theorem tt_ {r:ag_} (h:SmR r) (s:az_):ex_ r s=some (fz_ r s,()):=by
 unfold ex_ fz_
 rw[vv_ h,a0_]
 cases hr:ib_ r != 0 with
 | true=>rfl
 | false =>
 have ok:=ac5 (by simpa using hr)
 simp only[a4_]
 refine e2_ (congrArg (λo=>Option.bind o _) (bb9 r s)) ?_
 rw[a0_]
 unfold ckS
 cases hl:vk_ r s with
 | true=>rfl
 | false =>
 obtain⟨l1,l2,l3⟩:=xy_ hl
 have hp:=gl_.1 ok.py
 have m1:Sm s.1.length:=by rw[l1];exact h.th
 have m2:Sm s.2.1.length:=by rw[l2];exact h.pr
 have m3:Sm s.2.2.length:=by show s.2.2.length≤1000000000;omega
 simp only[a4_]
 refine bi_ s.1 (λi n=>jo_ (qk_ r.2.1 (i:Int) n) 28) (λi y hy => ?_) ?_ (ed_ ?_)
 ·have hi:=al_ hy
  simp only[dlt hi,a6_,ah_ hy,a0_,bj_ (show Sm i by omega),nu_ h.th]
  unfold jo_
  cases qk_ r.2.1 (i:Int) y<;>rfl
 ·simp only[dnl,a4_]
 refine bi_ s.2.1 (λ_ p=>jo_ (inR r p) 28) (λi y hy => ?_) ?_ (ed_ ?_)
 ·have hi:=al_ hy
  simp only[dlt hi,a6_,ah_ hy,a0_,bj_ (show Sm i by omega),dn_]
  unfold jo_ inR
  cases wi y (w64 ((w64 ((-2) - r.2.2.2.2.2.2.1))+1)) (w64 ((r.1.length:Int) - 1))<;>rfl
 ·simp only[dnl,a4_]
 refine bi_ s.2.2 (λ_ p=>jo_ (ry_ r p) 28) (λi y hy => ?_) ?_ (ed_ ?_)
 ·have hi:=al_ hy
  simp only[dlt hi,a6_,ah_ hy,a0_,bj_ (show Sm i by omega),dn_]
  unfold jo_ ry_
  cases wi y 0 (w64 ((r.1.length:Int) - 1))<;>rfl
 ·simp only[dnl,a4_]
 rfl
theorem inR_eq {r:ag_} (h:SmR r) (hp:wi r.2.2.2.2.2.2.1 1 4=true) (p:Int):inR r p=(ry_ r p||(p==-1||wi p (w64 ((w64 ((-2) - r.2.2.2.2.2.2.1))+1)) (-2))):=by
 have hp:=gl_.1 hp
 have hpl:=h.pl
 have e1:w64 ((r.1.length:Int) - 1)=(r.1.length:Int) - 1:=wy_ (by omega) (by omega)
 have e2:w64 ((-2) - r.2.2.2.2.2.2.1)=(-2) - r.2.2.2.2.2.2.1:=wy_ (by omega) (by omega)
 have e3:w64 (((-2) - r.2.2.2.2.2.2.1)+1)=((-2) - r.2.2.2.2.2.2.1)+1:=wy_ (by omega) (by omega)
 unfold inR ry_
 rw[e1,e2,e3,k7_]
 simp only[c3_,gl_,j6_]
 omega
theorem sg_ {r:ag_} (h:SmR r) (s:az_):eh_ r s=some (fz_ r s,()):=by
 unfold eh_ fz_
 rw[tv_ h,a0_]
 cases hr:ib_ r != 0 with
 | true=>rfl
 | false =>
 have ok:=ac5 (by simpa using hr)
 simp only[a4_]
 refine e2_ (congrArg (λo=>Option.bind o _) (bb9 r s)) ?_
 rw[a0_]
 unfold ckS
 cases hl:vk_ r s with
 | true=>rfl
 | false =>
 obtain⟨l1,l2,l3⟩:=xy_ hl
 have hp:=gl_.1 ok.py
 have m1:Sm s.1.length:=by rw[l1];exact h.th
 have m2:Sm s.2.1.length:=by rw[l2];exact h.pr
 have m3:Sm s.2.2.length:=by show s.2.2.length≤1000000000;omega
 simp only[a4_]
 refine bi_ s.1 (λi n=>jo_ (qk_ r.2.1 (i:Int) n) 28) (λi y hy => ?_) ?_ (ed_ ?_)
 ·have hi:=al_ hy
  simp only[dlt hi,a6_,ah_ hy,a0_,bj_ (show Sm i by omega),pm_ h.th]
  unfold jo_
  cases qk_ r.2.1 (i:Int) y<;>rfl
 ·simp only[dnl,a4_]
 refine bi_ s.2.1 (λ_ p=>jo_ (inR r p) 28) (λi y hy => ?_) ?_ (ed_ ?_)
 ·have hi:=al_ hy
  simp only[dlt hi,a6_,ah_ hy,a0_,bj_ (show Sm i by omega),he_,gd_]
  rw[inR_eq h ok.py]
  unfold jo_ ry_
  have e:(y != -1) = !(y==-1):=rfl
  rw[e]
  cases wi y 0 (w64 ((r.1.length:Int) - 1)) with
  | true=>rfl
  | false =>
  cases y==-1 with
  | true=>rfl
  | false=>cases wi y (w64 ((w64 ((-2) - r.2.2.2.2.2.2.1))+1)) (-2)<;>rfl
 ·simp only[dnl,a4_]
 refine bi_ s.2.2 (λ_ p=>jo_ (ry_ r p) 28) (λi y hy => ?_) ?_ (ed_ ?_)
 ·have hi:=al_ hy
  simp only[dlt hi,a6_,ah_ hy,a0_,bj_ (show Sm i by omega),he_]
  unfold jo_ ry_
  cases wi y 0 (w64 ((r.1.length:Int) - 1))<;>rfl
 ·simp only[dnl,a4_]
 rfl
end
section
def gi (l:List Int) (i:Int):Int:=(at? l i).getD 0
def bd5 (th:List Int) (c:List cl_):Bool:=c.all λl=>!((gi th l.1==l.2.1)==l.2.2)
end
end Go.Proofs.YtlbfbdbagohinaaGreatDoor.Rx
namespace Go.Proofs.YtlbfbdbagohinaaGreatDoor.Rx
open Go Pad Rex Go.Proofs Go.Proofs.Tryz Sum
section
set_option maxRecDepth 100000
set_option maxHeartbeats 0
noncomputable def jz_ (a0:ac_) (a1:Int) (a2:cu_):Option (Bool×Unit) :=
 ((sub? a0.2.2.2.1 0 a1).bind λv0 =>
 ((((ad_ (ρ:=(Unit⊕(Bool×Unit))) (λ(v1:(Int×Unit)) =>
 (cond (decide (v1.1<(v0.length:Int)))
 ((at? v0 v1.1).bind λv2 =>
 (cond (v2.1==a2.1)
 (some (inr (inr ((decide (0≤v1.1)),()))))
 (some (inl ((w64 (v1.1+1)),())))))
 (some (inr (inl ()))))) (0,())).bind λv3 =>
 (bl_ v3 (λv4=>(some ((decide (0≤(-1))),())))
 (λv5=>(some v5))))).bind λv6 =>
 ((((lo_ a2.1).bind λv7 =>
 (cond (!v7.1)
 (some (true,()))
 (cond (decide (12<(a2.1.length:Int)))
 (some (true,()))
 (cond v6.1
 (some (true,()))
 ((dd_ a2.2.1 0 (w64 ((a0.1.1.length:Int) - 1))).bind λv8 =>
 (cond (!v8.1)
 (some (true,()))
 ((dd_ a2.2.2.1 (-1) (w64 ((a0.2.1.length:Int) - 1))).bind λv9 =>
 (some ((!v9.1),())))))))))).bind λv10 =>
 (cond v10.1
 (some (false,()))
 (cond (decide (a2.2.2.1<0))
 ((jn_ a2.2.2.2.2).bind λv11 =>
 (some (v11.1,())))
 ((at? a0.2.1 a2.2.2.1).bind λv12 =>
 ((at? a0.2.2.1 a2.2.2.1).bind λv13 =>
 ((dr_ v12 a2.2.2.2.2 v13).bind λv14 =>
 (cond (v14.2.1==0)
 (some (v14.1,()))
 (some (false,())))))))))))
theorem x_75:ax_ (P:=prog) (cxI (λk=>cond (Nat.beq k 132) (.p .z (.j0 [.v 4 .bool] .z .z)) (cond (Nat.beq k 191) (.p .z (.p (.p .z (.ls [.v 8 .int] [] [] 0 .z)) .z)) (.z))) (λk=>Nat.beq k 77||Nat.beq k 115||Nat.beq k 134||Nat.beq k 135||false) (cxC [c_77,c_115,c_134,c_135] []) 4) (.p .z (.p .z (.p (.j0 [.v 49 .bool] .z .z) (.p .z (.p (.q [] .z .z) .z))))) 75 [an_,.int,qp_] [.bool]=λx=>jz_ x.1 x.2.1 x.2.2.1:=by kernel_rfl
noncomputable def c_75:Con prog:=ay_ _ _ 75 [an_,.int,qp_] [.bool] _ x_75
noncomputable def ia_ (a0:aj_) (a1:Int) (a2:ab_):Option (Bool×Unit) :=
 ((at? a0.1 a1).bind λv0 =>
 ((at? a0.2.1 a1).bind λv1 =>
 ((dr_ v0 a2 v1).bind λv2 =>
 (cond (v2.2.1==0)
 (some (v2.1,()))
 (some (false,()))))))
theorem x_65:ax_ (P:=prog) (cxC [c_115] []) (.p .z (.p (.q [] .z .z) .z)) 65 [ak_,.int,af_] [.bool]=λx=>ia_ x.1 x.2.1 x.2.2.1:=by kernel_rfl
noncomputable def c_65:Con prog:=ay_ _ _ 65 [ak_,.int,af_] [.bool] _ x_65
noncomputable def bx_ (a0:aa_) (a1:(List ab_)):Option ((List (List Int))×Unit) :=
 ((mk? (α:=Int) a0.1 0).bind λv0 =>
 ((rdL (kc_ a0 a1) a0.2 5 0 v0 []).bind λv75 =>
 (some (v75.2.1.1,()))))
theorem x_142:ax_ (P:=prog) (cxI (λk=>cond (Nat.beq k 196) (.p .z (.p (.p .z (.lp [] [] [.o (.s 11) .int,.b (.s 4) [.row (.list .int) 38]] 0 (.p .z (.j0 [.o (.s 11) .int,.b (.s 4) [.row (.list .int) 38]] .z .z)))) .z)) (.z)) (λk=>Nat.beq k 37||Nat.beq k 197||false) (cxC [c_197] [bs2]) 5) (.p .z (.p .z (.p .z (.p .z (.j0 [.o (.s 9) .int,.b (.s 4) [.row (.list .int) 38]] .z .z))))) 142 [ae_,(.list af_)] [(.list (.list .int))]=λx=>bx_ x.1 x.2.1:=by kernel_rfl
noncomputable def c_142:Con prog:=ay_ _ _ 142 [ae_,(.list af_)] [(.list (.list .int))] _ x_142
noncomputable def ci_ (a0:ac_) (a1:ai_):Option (Int×Unit) :=
 ((iy_ a0).bind λv0 =>
 (cond (v0.1 != 0)
 (some (v0.1,()))
 ((eh_ a0.1 a1.1).bind λv1 =>
 (cond (v1.1 != 0)
 (some (v1.1,()))
 (cond ((a1.2.length:Int) != (a0.2.2.2.1.length:Int))
 (some (28,()))
 (some (0,())))))))
theorem x_52:ax_ (P:=prog) (cxC [c_101,c_102] []) .z 52 [an_,am_] [.int]=λx=>ci_ x.1 x.2.1:=by kernel_rfl
noncomputable def c_52:Con prog:=ay_ _ _ 52 [an_,am_] [.int] _ x_52
end
section
set_option maxRecDepth 100000
set_option maxHeartbeats 0
noncomputable def ka_ (a0:ac_):Option (Int×Unit) :=
 ((hw_ a0.1).bind λv0 =>
 (cond (v0.1 != 0)
 (some (v0.1,()))
 (((cond (decide (8<(a0.2.1.length:Int)))
 (some (true,()))
 (some ((decide (16<(a0.2.2.2.1.length:Int))),())))).bind λv1 =>
 (cond v1.1
 (some (2,()))
 ((ad_ (ρ:=(Unit⊕(Int×Unit))) (λ(v2:(Int×Unit)) =>
 (cond (decide (v2.1<(a0.2.1.length:Int)))
 ((at? a0.2.1 v2.1).bind λv3 =>
 ((ce_ v3).bind λv4 =>
 (cond (v4.1 != 0)
 (some (inr (inr (v4.1,()))))
 (some (inl ((w64 (v2.1+1)),()))))))
 (some (inr (inl ()))))) (0,())).bind λv5 =>
 (bl_ v5 (λv6=>(cond ((a0.2.2.1.length:Int) != (a0.2.1.length:Int))
 (some (12,()))
 ((ad_ (ρ:=(Unit⊕(Int×Unit))) (λ(v8:(Int×Unit)) =>
 (cond (decide (v8.1<(a0.2.1.length:Int)))
 ((at? a0.2.1 v8.1).bind λv9 =>
 ((at? a0.2.2.1 v8.1).bind λv10 =>
 ((bk_ v9 v10).bind λv11 =>
 (cond (v11.1 != 0)
 (some (inr (inr (12,()))))
 (some (inl ((w64 (v8.1+1)),())))))))
 (some (inr (inl ()))))) (0,())).bind λv12 =>
 (bl_ v12 (λv13=>((ad_ (ρ:=(Unit⊕(Int×Unit))) (λ(v15:(Int×Unit)) =>
 (cond (decide (v15.1<(a0.1.2.2.2.2.1.length:Int)))
 ((at? a0.1.2.2.2.2.1 v15.1).bind λv16 =>
 (cond (decide ((a0.2.1.length:Int)≤v16.2.2.1))
 (some (inr (inr (26,()))))
 (some (inl ((w64 (v15.1+1)),())))))
 (some (inr (inl ()))))) (0,())).bind λv17 =>
 (bl_ v17 (λv18=>((ad_ (ρ:=(Unit⊕(Int×Unit))) (λ(v20:(Int×Unit)) =>
 (cond (decide (v20.1<(a0.2.2.2.1.length:Int)))
 ((at? a0.2.2.2.1 v20.1).bind λv21 =>
 ((jz_ a0 v20.1 v21).bind λv22 =>
 (cond (!v22.1)
 (some (inr (inr (40,()))))
 ((jy_ a0.1 v21.2.2.2.1).bind λv23 =>
 (cond (!v23.1)
 (some (inr (inr (25,()))))
 (some (inl ((w64 (v20.1+1)),()))))))))
 (some (inr (inl ()))))) (0,())).bind λv24 =>
 (bl_ v24 (λv25=>((dd_ a0.2.2.2.2 1 100).bind λv27 =>
 (cond (!v27.1)
 (some (1,()))
 (some (0,())))))
 (λv26=>(some v26)))))
 (λv19=>(some v19)))))
 (λv14=>(some v14))))))
 (λv7=>(some v7))))))))
theorem x_29:ax_ (P:=prog) (cxC [c_62,c_73,c_74,c_75,c_76,c_77] []) (.p .z (.p .z (.p (.j0 [.v 28 .bool] .z .z) (.p (.p .z (.ls [.v 32 .int] [] [] 0 .z)) (.p .z (.p (.p .z (.ls [.v 52 .int] [] [] 2 .z)) (.p (.p .z (.ls [.v 70 .int] [] [] 4 .z)) (.p (.p .z (.ls [.v 84 .int] [] [] 6 .z)) .z)))))))) 29 [an_] [.int]=λx=>ka_ x.1:=by kernel_rfl
noncomputable def c_29:Con prog:=ay_ _ _ 29 [an_] [.int] _ x_29
noncomputable def de_ (a0:aj_):Option (Int×Unit) :=
 ((((cd_ (a0.1.length:Int) 1 8).bind λv0 =>
 (cond (!v0.1)
 (some (true,()))
 (cond ((a0.2.1.length:Int) != (a0.1.length:Int))
 (some (true,()))
 (cond ((a0.2.2.1.length:Int) != (a0.1.length:Int))
 (some (true,()))
 (some ((decide (10<(a0.2.2.2.length:Int))),()))))))).bind λv1 =>
 (cond v1.1
 (some (70,()))
 ((ad_ (ρ:=(Unit⊕(Int×Unit))) (λ(v2:(Int×Unit)) =>
 (cond (decide (v2.1<(a0.1.length:Int)))
 ((at? a0.1 v2.1).bind λv3 =>
 ((((at? a0.2.1 v2.1).bind λv4 =>
 ((bk_ v3 v4).bind λv5 =>
 (cond (v5.1 != 0)
 (some (true,()))
 ((at? a0.2.2.1 v2.1).bind λv6 =>
 (some ((decide (20<(v6.length:Int))),()))))))).bind λv7 =>
 (cond v7.1
 (some (inr (inr (70,()))))
 ((at? a0.2.2.1 v2.1).bind λv8 =>
 ((((ad_ (ρ:=(Unit⊕(Bool×Unit))) (λ(v9:(Int×Unit)) =>
 (cond (decide (v9.1<(v8.length:Int)))
 ((at? v8 v9.1).bind λv10 =>
 ((ia_ a0 v2.1 v10).bind λv11 =>
 (cond (!v11.1)
 (some (inr (inr ((decide (0≤v9.1)),()))))
 (some (inl ((w64 (v9.1+1)),()))))))
 (some (inr (inl ()))))) (0,())).bind λv12 =>
 (bl_ v12 (λv13=>(some ((decide (0≤(-1))),())))
 (λv14=>(some v14))))).bind λv15 =>
 (cond v15.1
 (some (inr (inr (70,()))))
 (some (inl ((w64 (v2.1+1)),())))))))))
 (some (inr (inl ()))))) (0,())).bind λv16 =>
 (bl_ v16 (λv17=>((((ad_ (ρ:=(Unit⊕(Bool×Unit))) (λ(v19:(Int×Unit)) =>
 (cond (decide (v19.1<(a0.2.2.2.length:Int)))
 ((at? a0.2.2.2 v19.1).bind λv20 =>
 ((mr_ a0 v20).bind λv21 =>
 (cond (!v21.1)
 (some (inr (inr ((decide (0≤v19.1)),()))))
 (some (inl ((w64 (v19.1+1)),()))))))
 (some (inr (inl ()))))) (0,())).bind λv22 =>
 (bl_ v22 (λv23=>(some ((decide (0≤(-1))),())))
 (λv24=>(some v24))))).bind λv25 =>
 (cond v25.1
 (some (70,()))
 (some (0,())))))
 (λv18=>(some v18))))))
theorem x_22:ax_ (P:=prog) (cxI (λk=>cond (Nat.beq k 63) (.p .z (.j0 [.v 4 .bool] .z .z)) (cond (Nat.beq k 66) (.p .z (.j0 [.v 4 .bool] .z .z)) (cond (Nat.beq k 114) (.p .z (.p (.p .z (.ls [.v 8 .int] [] [] 0 .z)) .z)) (cond (Nat.beq k 116) (.p .z (.p (.p .z (.ls [.v 8 .int] [] [] 0 .z)) .z)) (.z))))) (λk=>Nat.beq k 61||Nat.beq k 62||Nat.beq k 65||Nat.beq k 68||false) (cxC [c_61,c_62,c_65,c_68] []) 7) (.p .z (.p .z (.p (.j0 [.v 31 .bool] .z .z) (.p (.p .z (.ls [.v 35 .int] [] [] 0 (.p .z (.p .z (.p (.p .z (.p (.j0 [.v 56 .bool] .z .z) .z)) .z))))) .z)))) 22 [ak_] [.int]=λx=>de_ x.1:=by kernel_rfl
noncomputable def c_22:Con prog:=ay_ _ _ 22 [ak_] [.int] _ x_22
noncomputable def ff_ (a0:aj_) (a1:hb_):Option (Bool×Unit) :=
 ((cd_ a1.1 0 (w64 ((a0.1.length:Int) - 1))).bind λv0 =>
 (cond v0.1
 ((ia_ a0 a1.1 a1.2).bind λv1 =>
 (some (v1.1,())))
 (some (false,()))))
theorem x_95:ax_ (P:=prog) (cxC [c_61,c_65] []) .z 95 [ak_,kv_] [.bool]=λx=>ff_ x.1 x.2.1:=by kernel_rfl
noncomputable def c_95:Con prog:=ay_ _ _ 95 [ak_,kv_] [.bool] _ x_95
noncomputable def hm_ (a0:ac_) (a1:ai_) (a2:Int):Option (Int×Unit) :=
 ((ci_ a0 a1).bind λv0 =>
 (cond (v0.1 != 0)
 (some (v0.1,()))
 ((gg_ a2 0 (w64 ((a0.2.1.length:Int) - 1))).bind λv1 =>
 (cond (!v1.1)
 (some (1,()))
 (some (0,()))))))
theorem x_103:ax_ (P:=prog) (cxC [c_52,c_155] []) .z 103 [an_,am_,.int] [.int]=λx=>hm_ x.1 x.2.1 x.2.2.1:=by kernel_rfl
noncomputable def c_103:Con prog:=ay_ _ _ 103 [an_,am_,.int] [.int] _ x_103
end
section
set_option maxRecDepth 100000
set_option maxHeartbeats 0
noncomputable def er_ (a0:ac_) (a1:ai_):Option (Int×Unit) :=
 ((ka_ a0).bind λv0 =>
 (cond (v0.1 != 0)
 (some (v0.1,()))
 ((ex_ a0.1 a1.1).bind λv1 =>
 (cond (v1.1 != 0)
 (some (v1.1,()))
 (cond ((a1.2.length:Int) != (a0.2.2.2.1.length:Int))
 (some (28,()))
 (some (0,())))))))
theorem x_83:ax_ (P:=prog) (cxC [c_29,c_110] []) .z 83 [an_,am_] [.int]=λx=>er_ x.1 x.2.1:=by kernel_rfl
noncomputable def c_83:Con prog:=ay_ _ _ 83 [an_,am_] [.int] _ x_83
noncomputable def hp_ (a0:aj_):Option (Int×Int×Unit) :=
 ((de_ a0).bind λv0 =>
 (cond (v0.1 != 0)
 (cond (v0.1 != 0)
 (some (0,(v0.1,())))
 none)
 ((ad_ (ρ:=(Unit⊕(Int×(Int×Unit)))) (λ(v1:(Int×(Int×Unit))) =>
 (cond (decide (v1.2.1<(a0.1.length:Int)))
 ((at? a0.1 v1.2.1).bind λv2 =>
 ((at? a0.2.2.1 v1.2.1).bind λv3 =>
 ((bp_ v2 v3).bind λv4 =>
 (cond (v4.2.1 != 0)
 (((cond (v4.2.1 != 0)
 (some (0,(v4.2.1,())))
 none)).bind λv5 =>
 (some (inr (inr v5))))
 (cond (decide (20000<(w64 (v1.1 * v4.1))))
 (some (inr (inr (0,(2,())))))
 (some (inl ((w64 (v1.1 * v4.1)),((w64 (v1.2.1+1)),())))))))))
 (some (inr (inl ()))))) (1,(0,()))).bind λv6 =>
 (bl_ v6 (λv7=>((ad_ (ρ:=(((List (List (List Int)))×Unit)×Unit)) (λ(v9:(Int×(((List (List (List Int)))×Unit)×Unit))) =>
 (cond (decide (v9.1<(a0.1.length:Int)))
 ((at? a0.1 v9.1).bind λv10 =>
 ((at? a0.2.2.1 v9.1).bind λv11 =>
 ((bx_ v10 v11).bind λv12 =>
 ((push? (α:=(List (List Int))) v9.2.1.1 ([v12.1]:List (List (List Int)))).bind λv13 =>
 (some (inl ((w64 (v9.1+1)),((v13,()),()))))))))
 (some (inr ((v9.2.1.1,()),()))))) (0,(([],()),()))).bind λv14 =>
 (((mk? (α:=Int) (a0.1.length:Int) 0).bind λv15 =>
 (wlP true (λn w=>((),(w,((n,()),())))) (λa=>a.2.2.1.1) (λa=>a.2.1) a0.2.2.2 v14.1.1 (λw n=>some (w64 (n+1),())) 3 ((Int×Unit)×Unit) (λn w=>((n,()),())) 0 0 v15)).bind λv116 =>
 (some (v116.1.1,(0,()))))))
 (λv8=>(some v8))))))
theorem x_48:ax_ (P:=prog) (cxI (λk=>cond (Nat.beq k 88) (.p .z (.p .z (.p .z (.p .z (.p (.p .z (.ls [.v 6 .int,.v 24 .int] [] [] 0 .z)) (.p (.p .z (.lp [.v 51 .int] [] [.b (.s 5) [.keep,.keep,.keep,.keep,.row (.list (.list .int)) 33]] 2 .z)) .z)))))) (cond (Nat.beq k 144) (.p .z (.p (.p .z (.p (.p (.p .z (.ls [.v 20 .int] [] [] 0 .z)) .z) .z)) (.p (.p .z (.ls [.v 49 .int] [] [.y (.c (.s 4) 0),.o (.s 11) .int,.b (.y (.c (.s 4) 0) 2) [.val .int]] 2 (.p .z (.p .z (.js [.y (.c (.s 4) 0),.o (.s 11) .int,.b (.y (.c (.s 4) 0) 2) [.val .int]] .z .z))))) .z))) (.z))) (λk=>Nat.beq k 22||Nat.beq k 26||Nat.beq k 142||false) (cxC [c_22,c_26,c_142] []) 5) (.p .z (.p .z (.p .z (.j0 [.b (.s 2) [.val .int]] (.p .z (.rf [2] .z .z)) .z)))) 48 [ak_] [.int,.int]=λx=>hp_ x.1:=by kernel_rfl
noncomputable def c_48:Con prog:=ay_ _ _ 48 [ak_] [.int,.int] _ x_48
noncomputable def hq_ (a0:aj_) (a1:hb_):Option ((List Int)×Int×Unit) :=
 ((de_ a0).bind λv0 =>
 (cond (v0.1 != 0)
 (cond (v0.1 != 0)
 (cond (v0.1 != 0)
 (some ([],(v0.1,())))
 none)
 ((ff_ a0 a1).bind λv1 =>
 (cond (!v1.1)
 (some ([],(70,())))
 ((es_ a0 a1.1).bind λv2 =>
 (cond v2.1
 (some ([],(2,())))
 ((gh_ a0 a1).bind λv3 =>
 ((de_ v3.1).bind λv4 =>
 (cond (v4.1 != 0)
 (cond (v4.1 != 0)
 (some ([],(v4.1,())))
 none)
 ((ad_ (ρ:=(Unit⊕((List Int)×(Int×Unit)))) (λ(v5:(Int×(Int×Unit))) =>
 (cond (decide (v5.2.1<(v3.1.1.length:Int)))
 ((at? v3.1.1 v5.2.1).bind λv6 =>
 ((at? v3.1.2.2.1 v5.2.1).bind λv7 =>
 ((bp_ v6 v7).bind λv8 =>
 (cond (v8.2.1 != 0)
 (((cond (v8.2.1 != 0)
 (some ([],(v8.2.1,())))
 none)).bind λv9 =>
 (some (inr (inr v9))))
 (cond (decide (20000<(w64 (v5.1 * v8.1))))
 (some (inr (inr ([],(2,())))))
 (some (inl ((w64 (v5.1 * v8.1)),((w64 (v5.2.1+1)),())))))))))
 (some (inr (inl ()))))) (1,(0,()))).bind λv10 =>
 (bl_ v10 (λv11=>((ad_ (ρ:=(((List (List (List Int)))×Unit)×Unit)) (λ(v13:(Int×(((List (List (List Int)))×Unit)×Unit))) =>
 (cond (decide (v13.1<(v3.1.1.length:Int)))
 ((at? v3.1.1 v13.1).bind λv14 =>
 ((at? v3.1.2.2.1 v13.1).bind λv15 =>
 ((bx_ v14 v15).bind λv16 =>
 ((push? (α:=(List (List Int))) v13.2.1.1 ([v16.1]:List (List (List Int)))).bind λv17 =>
 (some (inl ((w64 (v13.1+1)),((v17,()),()))))))))
 (some (inr ((v13.2.1.1,()),()))))) (0,(([],()),()))).bind λv18 =>
 none))
 (λv12=>(some v12))))))))))))
 ((ad_ (ρ:=(Unit⊕((List Int)×(Int×Unit)))) (λ(v19:(Int×(Int×Unit))) =>
 (cond (decide (v19.2.1<(a0.1.length:Int)))
 ((at? a0.1 v19.2.1).bind λv20 =>
 ((at? a0.2.2.1 v19.2.1).bind λv21 =>
 ((bp_ v20 v21).bind λv22 =>
 (cond (v22.2.1 != 0)
 (((cond (v22.2.1 != 0)
 (cond (v22.2.1 != 0)
 (some ([],(v22.2.1,())))
 none)
 ((ff_ a0 a1).bind λv23 =>
 (cond (!v23.1)
 (some ([],(70,())))
 ((es_ a0 a1.1).bind λv24 =>
 (cond v24.1
 (some ([],(2,())))
 ((gh_ a0 a1).bind λv25 =>
 ((de_ v25.1).bind λv26 =>
 (cond (v26.1 != 0)
 (cond (v26.1 != 0)
 (some ([],(v26.1,())))
 none)
 ((ad_ (ρ:=(Unit⊕((List Int)×(Int×Unit)))) (λ(v27:(Int×(Int×Unit))) =>
 (cond (decide (v27.2.1<(v25.1.1.length:Int)))
 ((at? v25.1.1 v27.2.1).bind λv28 =>
 ((at? v25.1.2.2.1 v27.2.1).bind λv29 =>
 ((bp_ v28 v29).bind λv30 =>
 (cond (v30.2.1 != 0)
 (((cond (v30.2.1 != 0)
 (some ([],(v30.2.1,())))
 none)).bind λv31 =>
 (some (inr (inr v31))))
 (cond (decide (20000<(w64 (v27.1 * v30.1))))
 (some (inr (inr ([],(2,())))))
 (some (inl ((w64 (v27.1 * v30.1)),((w64 (v27.2.1+1)),())))))))))
 (some (inr (inl ()))))) (1,(0,()))).bind λv32 =>
 (bl_ v32 (λv33=>((ad_ (ρ:=(((List (List (List Int)))×Unit)×Unit)) (λ(v35:(Int×(((List (List (List Int)))×Unit)×Unit))) =>
 (cond (decide (v35.1<(v25.1.1.length:Int)))
 ((at? v25.1.1 v35.1).bind λv36 =>
 ((at? v25.1.2.2.1 v35.1).bind λv37 =>
 ((bx_ v36 v37).bind λv38 =>
 ((push? (α:=(List (List Int))) v35.2.1.1 ([v38.1]:List (List (List Int)))).bind λv39 =>
 (some (inl ((w64 (v35.1+1)),((v39,()),()))))))))
 (some (inr ((v35.2.1.1,()),()))))) (0,(([],()),()))).bind λv40 =>
 none))
 (λv34=>(some v34))))))))))))).bind λv41 =>
 (some (inr (inr v41))))
 (cond (decide (20000<(w64 (v19.1 * v22.1))))
 (some (inr (inr ([],(2,())))))
 (some (inl ((w64 (v19.1 * v22.1)),((w64 (v19.2.1+1)),())))))))))
 (some (inr (inl ()))))) (1,(0,()))).bind λv42 =>
 (bl_ v42 (λv43=>((ad_ (ρ:=(((List (List (List Int)))×Unit)×Unit)) (λ(v45:(Int×(((List (List (List Int)))×Unit)×Unit))) =>
 (cond (decide (v45.1<(a0.1.length:Int)))
 ((at? a0.1 v45.1).bind λv46 =>
 ((at? a0.2.2.1 v45.1).bind λv47 =>
 ((bx_ v46 v47).bind λv48 =>
 ((push? (α:=(List (List Int))) v45.2.1.1 ([v48.1]:List (List (List Int)))).bind λv49 =>
 (some (inl ((w64 (v45.1+1)),((v49,()),()))))))))
 (some (inr ((v45.2.1.1,()),()))))) (0,(([],()),()))).bind λv50 =>
 ((ff_ a0 a1).bind λv51 =>
 (cond (!v51.1)
 (some ([],(70,())))
 ((es_ a0 a1.1).bind λv52 =>
 (cond v52.1
 (some ([],(2,())))
 ((gh_ a0 a1).bind λv53 =>
 ((de_ v53.1).bind λv54 =>
 (cond (v54.1 != 0)
 (cond (v54.1 != 0)
 (some ([],(v54.1,())))
 none)
 ((ad_ (ρ:=(Unit⊕((List Int)×(Int×Unit)))) (λ(v55:(Int×(Int×Unit))) =>
 (cond (decide (v55.2.1<(v53.1.1.length:Int)))
 ((at? v53.1.1 v55.2.1).bind λv56 =>
 ((at? v53.1.2.2.1 v55.2.1).bind λv57 =>
 ((bp_ v56 v57).bind λv58 =>
 (cond (v58.2.1 != 0)
 (((cond (v58.2.1 != 0)
 (some ([],(v58.2.1,())))
 none)).bind λv59 =>
 (some (inr (inr v59))))
 (cond (decide (20000<(w64 (v55.1 * v58.1))))
 (some (inr (inr ([],(2,())))))
 (some (inl ((w64 (v55.1 * v58.1)),((w64 (v55.2.1+1)),())))))))))
 (some (inr (inl ()))))) (1,(0,()))).bind λv60 =>
 (bl_ v60 (λv61=>((ad_ (ρ:=(((List (List (List Int)))×Unit)×Unit)) (λ(v63:(Int×(((List (List (List Int)))×Unit)×Unit))) =>
 (cond (decide (v63.1<(v53.1.1.length:Int)))
 ((at? v53.1.1 v63.1).bind λv64 =>
 ((at? v53.1.2.2.1 v63.1).bind λv65 =>
 ((bx_ v64 v65).bind λv66 =>
 ((push? (α:=(List (List Int))) v63.2.1.1 ([v66.1]:List (List (List Int)))).bind λv67 =>
 (some (inl ((w64 (v63.1+1)),((v67,()),()))))))))
 (some (inr ((v63.2.1.1,()),()))))) (0,(([],()),()))).bind λv68 =>
 ((ej_ (a0,v50.1.1) (v53.1,v68.1.1)).bind λv69 =>
 ((((ad_ (ρ:=(Unit⊕(Int×Unit))) (λ(v70:(Int×Unit)) =>
 (cond (decide (v70.1<(v69.length:Int)))
 ((at? v69 v70.1).bind λv71 =>
 ((at? v69 v70.1).bind λv72 =>
 (cond (v72==a1.1)
 (some (inr (inr (v70.1,()))))
 (some (inl ((w64 (v70.1+1)),()))))))
 (some (inr (inl ()))))) (0,())).bind λv73 =>
 (bl_ v73 (λv74=>(some ((-1),())))
 (λv75=>(some v75))))).bind λv76 =>
 (cond (v76.1==(-1))
 (some (v69,(0,())))
 ((ad_ (ρ:=(Int×((List Int)×Unit))) (λ(v77:(Int×(Int×((List Int)×Unit)))) =>
 (cond (decide (v77.2.1<(v77.2.2.1.length:Int)))
 ((((at? v77.2.2.1 v77.2.1).bind λv78 =>
 ((at? v77.2.2.1 v77.2.1).bind λv79 =>
 (cond (!(v79==a1.1))
 ((at? v77.2.2.1 v77.1).bind λv80 =>
 ((at? v77.2.2.1 v77.1).bind λv81 =>
 (some ((w64 (v77.1+1)),((v77.2.2.1.set v77.1.toNat v79),())))))
 (some (v77.1,(v77.2.2.1,()))))))).bind λv82 =>
 (some (inl (v82.1,((w64 (v77.2.1+1)),(v82.2.1,()))))))
 (some (inr (v77.1,(v77.2.2.1,())))))) (v76.1,((w64 (v76.1+1)),(v69,())))).bind λv83 =>
 ((sub? v83.2.1 v83.1 (v83.2.1.length:Int)).bind λv84 =>
 ((sub? ((List.take v83.1.toNat v83.2.1)++(List.replicate (v83.2.1.length - v83.1.toNat) 0)) 0 v83.1).bind λv85 =>
 (some (v85,(0,())))))))))))
 (λv62=>(some v62)))))))))))))
 (λv44=>(some v44))))))
theorem x_50:ax_ (P:=prog) (cxI (λk=>cond (Nat.beq k 88) (.p .z (.p .z (.p .z (.p .z (.p (.p .z (.ls [.v 6 .int,.v 24 .int] [] [] 0 .z)) (.p (.p .z (.lp [.v 51 .int] [] [.b (.s 5) [.keep,.keep,.keep,.keep,.row (.list (.list .int)) 33]] 2 .z)) .z)))))) (cond (Nat.beq k 98) (.p .z (.j0 [.v 5 .int] .z (.p .z (.p (.p .z (.lp [.v 5 .int,.v 6 .int] [.v 5 .int] [.o (.s 0) .int] 0 (.p .z (.j0 [.v 5 .int,.o (.s 0) .int] .z .z)))) .z)))) (cond (Nat.beq k 150) (.p .z (.p (.p .z (.ls [.v 8 .int] [] [] 0 .z)) .z)) (.z)))) (λk=>Nat.beq k 22||Nat.beq k 26||Nat.beq k 95||Nat.beq k 96||Nat.beq k 97||Nat.beq k 99||Nat.beq k 142||false) (cxQ [ri_99] (cxC [c_22,c_26,c_95,c_96,c_97,c_142] [])) 6) .z 50 [ak_,kv_] [(.list .int),.int]=λx=>hq_ x.1 x.2.1:=by kernel_rfl
noncomputable def c_50:Con prog:=ay_ _ _ 50 [ak_,kv_] [(.list .int),.int] _ x_50
noncomputable def ix_ (a0:ac_) (a1:ai_) (a2:Int):Option ((List Int)×Int×Unit) :=
 ((hm_ a0 a1 a2).bind λv0 =>
 (cond (v0.1 != 0)
 (some ([],(v0.1,())))
 ((gq_ a0 a1 a2).bind λv1 =>
 (some (v1.1,(0,()))))))
theorem x_53:ax_ (P:=prog) (cxC [c_103,c_104] []) .z 53 [an_,am_,.int] [(.list .int),.int]=λx=>ix_ x.1 x.2.1 x.2.2.1:=by kernel_rfl
noncomputable def c_53:Con prog:=ay_ _ _ 53 [an_,am_,.int] [(.list .int),.int] _ x_53
end
section
set_option maxRecDepth 100000
set_option maxHeartbeats 0
noncomputable def hy_ (a0:ac_) (a1:ai_):Option ((List Bool)×Int×Unit) :=
 ((er_ a0 a1).bind λv0 =>
 (cond (v0.1 != 0)
 (cond (v0.1 != 0)
 (some ([],(v0.1,())))
 none)
 ((push? (α:=Bool) [] a1.2).bind λv1 =>
 ((ad_ (ρ:=((List Bool)×((List aa_)×Unit))) (λ(v2:((List Bool)×(Int×((List aa_)×Unit)))) =>
 (cond (decide (v2.2.1<(a0.2.1.length:Int)))
 (((cond (decide (v2.2.1<0))
 ((push? (α:=Bool) v2.1 [true]).bind λv3 =>
 (some (v3,(v2.2.2.1,()))))
 (((cond ((ai2 0 v2.2.2.1 v2.2.1)==0)
 ((ad_ (ρ:=((List Int)×((List ab_)×Unit))) (λ(v4:((List Int)×((List ab_)×(Int×Unit)))) =>
 (cond (decide (v4.2.2.1<(a0.2.2.2.1.length:Int)))
 ((((at? a0.2.2.2.1 v4.2.2.1).bind λv5 =>
 (((cond (v5.2.2.1==v2.2.1)
 ((at? v1 v4.2.2.1).bind λv6 =>
 ((at? v1 v4.2.2.1).bind λv7 =>
 (some (v7,()))))
 (some (false,())))).bind λv8 =>
 (cond v8.1
 ((push? (α:=Int) v4.1 [v4.2.2.1]).bind λv9 =>
 ((push? (α:=ab_) v4.2.1 [v5.2.2.2.2]).bind λv10 =>
 (some (v9,(v10,())))))
 (some (v4.1,(v4.2.1,()))))))).bind λv11 =>
 (some (inl (v11.1,(v11.2.1,((w64 (v4.2.2.1+1)),()))))))
 (some (inr (v4.1,(v4.2.1,())))))) ([],([],(0,())))).bind λv12 =>
 ((at? a0.2.1 v2.2.1).bind λv13 =>
 ((bp_ v13 v12.2.1).bind λv14 =>
 (((cond (v14.2.1==0)
 (some ((decide (v14.1≤a0.2.2.2.2)),()))
 (some (false,())))).bind λv15 =>
 (cond v15.1
 (some ((xv_ (xv_ v2.2.2.1 v2.2.1 2) v2.2.1 1),()))
 (some ((xv_ v2.2.2.1 v2.2.1 2),())))))))
 (some (v2.2.2.1,())))).bind λv16 =>
 ((push? (α:=Bool) v2.1 [((ai2 0 v16.1 v2.2.1)==1)]).bind λv17 =>
 (some (v17,(v16.1,()))))))).bind λv18 =>
 (some (inl (v18.1,((w64 (v2.2.1+1)),(v18.2.1,()))))))
 (some (inr (v2.1,(v2.2.2.1,())))))) ([],(0,([],())))).bind λv19 =>
 (some (v19.1,(0,())))))))
theorem x_35:ax_ (P:=prog) (cxI (λk=>cond (Nat.beq k 84) (.p .z (.p .z (.j0 [.m (.c (.s 0) 16) .int .int] (.p .z (.p (.p .z (.p .z (.j0 [.v 37 .bool] .z .z))) .z)) .z))) (cond (Nat.beq k 86) (.p .z (.p (.p .z (.lp [.r 6 .int 3,.r 7 af_ 40,.v 13 .int] [.r 6 .int 3,.r 7 af_ 40] [] 0 (.p .z (.p .z (.j0 [.r 6 .int 3,.r 7 af_ 40] (.p .z (.j0 [.v 26 .bool] .z .z)) .z))))) .z)) (.z))) (λk=>Nat.beq k 26||Nat.beq k 82||Nat.beq k 83||false) (cxC [c_26,c_83] [cp_82]) 6) (.p .z (.p .z (.p .z (.p (.p .z (.lp [.r 4 .bool 4,.v 20 .int] [.r 4 .bool 4] [.m (.c (.s 6) 16) .int .int] 0 (.p .z (.p .z (.j0 [.r 4 .bool 4,.m (.c (.s 6) 16) .int .int] .z .z))))) .z)))) 35 [an_,am_] [(.list .bool),.int]=λx=>hy_ x.1 x.2.1:=by kernel_rfl
noncomputable def c_35:Con prog:=ay_ _ _ 35 [an_,am_] [(.list .bool),.int] _ x_35
noncomputable def ft_ (a0:ac_) (a1:ai_) (a2:Int):Option (Int×Unit) :=
 ((er_ a0 a1).bind λv0 =>
 (cond (v0.1 != 0)
 (some (v0.1,()))
 ((km_ a0 a2).bind λv1 =>
 (some (v1.1,())))))
theorem x_43:ax_ (P:=prog) (cxC [c_83,c_90] []) .z 43 [an_,am_,.int] [.int]=λx=>ft_ x.1 x.2.1 x.2.2.1:=by kernel_rfl
noncomputable def c_43:Con prog:=ay_ _ _ 43 [an_,am_,.int] [.int] _ x_43
noncomputable def dq_  : Option (Bool×Unit) :=
 ((hp_ ([(2,4),(1,4)],(([[3,1],[1]]:List (List Int)),(([[(2,(0,(1,(4,(0,([],false))))))],[]]:List (List ab_)),[(0,(1,(1,0)))])))).bind λv0 =>
 ((hq_ ([(2,4),(1,4)],(([[3,1],[1]]:List (List Int)),(([[(2,(0,(1,(4,(0,([],false))))))],[]]:List (List ab_)),[(0,(1,(1,0)))]))) (0,(1,(0,(0,(3,(0,([],false)))))))).bind λv1 =>
 (cond (v0.2.1==0)
 (cond (v1.2.1==0)
 (cond (v0.1==3)
 ((bw_ v1.1 [1]).bind λv2 =>
 (some (v2.1,())))
 (some (false,())))
 (some (false,())))
 (some (false,())))))
theorem x_17:ax_ (P:=prog) (cxC [c_48,c_49,c_50,c_51] []) .z 17 [] [.bool]=λx=>dq_:=by kernel_rfl
noncomputable def c_17:Con prog:=ay_ _ _ 17 [] [.bool] _ x_17
noncomputable def jv_ (a0:ac_) (a1:ai_):Option (aj_×Int×Unit) :=
 ((ci_ a0 a1).bind λv0 =>
 (cond (v0.1 != 0)
 (some (([],([],([],[]))),(v0.1,())))
 (cond ((a0.2.1.length:Int)==0)
 (some (([],([],([],[]))),(70,())))
 ((ad_ (ρ:=(((List (List ab_))×Unit)×Unit)) (λ(v1:(Int×(((List (List ab_))×Unit)×Unit))) =>
 (cond (decide (v1.1<(a0.2.1.length:Int)))
 ((ix_ a0 a1 v1.1).bind λv2 =>
 ((ad_ (ρ:=((List ab_)×Unit)) (λ(v3:((List ab_)×(Int×Unit))) =>
 (cond (decide (v3.2.1<(v2.1.length:Int)))
 ((at? v2.1 v3.2.1).bind λv4 =>
 ((at? a0.2.2.2.1 v4).bind λv5 =>
 ((push? (α:=ab_) v3.1 [v5.2.2.2.2]).bind λv6 =>
 (some (inl (v6,((w64 (v3.2.1+1)),())))))))
 (some (inr (v3.1,()))))) ([],(0,()))).bind λv7 =>
 ((push? (α:=(List ab_)) v1.2.1.1 ([v7.1]:List (List ab_))).bind λv8 =>
 (some (inl ((w64 (v1.1+1)),((v8,()),())))))))
 (some (inr ((v1.2.1.1,()),()))))) (0,(([],()),()))).bind λv9 =>
 ((jw_ (a0.2.1,(a0.2.2.1,(v9.1.1,[])))).bind λv10 =>
 (some (v10.1,(0,()))))))))
theorem x_18:ax_ (P:=prog) (cxC [c_52,c_53,c_54] []) (.p .z (.p .z (.p .z (.p .z (.p (.p .z (.lp [.v 8 .int] [] [.b (.s 6) [.keep,.keep,.row (.list af_) 90,.keep]] 0 (.p .z (.p (.p .z (.p .z (.p (.p .z (.lp [.r 11 af_ 40,.v 12 .int] [.r 11 af_ 40] [] 2 .z)) .z))) .z)))) .z))))) 18 [an_,am_] [ak_,.int]=λx=>jv_ x.1 x.2.1:=by kernel_rfl
noncomputable def c_18:Con prog:=ay_ _ _ 18 [an_,am_] [ak_,.int] _ x_18
end
section
set_option maxRecDepth 100000
set_option maxHeartbeats 0
noncomputable def hz_ (a0:ac_) (a1:ai_) (a2:Int):Option ((List Int)×Int×Unit) :=
 ((ft_ a0 a1 a2).bind λv0 =>
 (cond (v0.1 != 0)
 (some ([],(v0.1,())))
 ((ad_ (ρ:=((List Int)×((List ab_)×Unit))) (λ(v1:((List Int)×((List ab_)×(Int×Unit)))) =>
 (cond (decide (v1.2.2.1<(a0.2.2.2.1.length:Int)))
 ((((at? a0.2.2.2.1 v1.2.2.1).bind λv2 =>
 (((cond (v2.2.2.1==a2)
 ((at? a1.2 v1.2.2.1).bind λv3 =>
 (some (v3,())))
 (some (false,())))).bind λv4 =>
 (cond v4.1
 ((push? (α:=Int) v1.1 [v1.2.2.1]).bind λv5 =>
 ((push? (α:=ab_) v1.2.1 [v2.2.2.2.2]).bind λv6 =>
 (some (v5,(v6,())))))
 (some (v1.1,(v1.2.1,()))))))).bind λv7 =>
 (some (inl (v7.1,(v7.2.1,((w64 (v1.2.2.1+1)),()))))))
 (some (inr (v1.1,(v1.2.1,())))))) ([],([],(0,())))).bind λv8 =>
 (some (v8.1,(0,()))))))
theorem x_38:ax_ (P:=prog) (cxI (λk=>cond (Nat.beq k 86) (.p .z (.p (.p .z (.lp [.r 6 .int 3,.r 7 af_ 40,.v 13 .int] [.r 6 .int 3,.r 7 af_ 40] [] 0 (.p .z (.p .z (.j0 [.r 6 .int 3,.r 7 af_ 40] (.p .z (.j0 [.v 26 .bool] .z .z)) .z))))) .z)) (.z)) (λk=>Nat.beq k 43||false) (cxC [c_43] []) 3) .z 38 [an_,am_,.int] [(.list .int),.int]=λx=>hz_ x.1 x.2.1 x.2.2.1:=by kernel_rfl
noncomputable def c_38:Con prog:=ay_ _ _ 38 [an_,am_,.int] [(.list .int),.int] _ x_38
end
section
set_option maxRecDepth 100000
set_option maxHeartbeats 0
noncomputable def kb_ (a0:ac_) (a1:ai_):Option (aj_×Int×Unit) :=
 ((hy_ a0 a1).bind λv0 =>
 (cond (v0.2.1 != 0)
 (some (([],([],([],[]))),(v0.2.1,())))
 (cond ((a0.2.1.length:Int)==0)
 (some (([],([],([],[]))),(70,())))
 ((push? (α:=aa_) [] a0.2.1).bind λv1 =>
 ((mk? (α:=(List ab_)) (a0.2.1.length:Int) []).bind λv2 =>
 ((ad_ (ρ:=(((List (List ab_))×(((List aa_)×((List (List Int))×((List (List ab_))×((List ck_)×Unit))))×(((List (List Int))×Unit)×Unit)))⊕(aj_×(Int×Unit)))) (λ(v3:(Int×((List (List ab_))×(((List aa_)×((List (List Int))×((List (List ab_))×((List ck_)×Unit))))×(((List (List Int))×Unit)×Unit))))) =>
 (cond (decide (v3.1<(a0.2.1.length:Int)))
 ((at? a0.2.2.1 v3.1).bind λv4 =>
 ((push? (α:=Int) [] v4).bind λv5 =>
 ((push? (α:=(List Int)) v3.2.2.2.1.1 ([v5]:List (List Int))).bind λv6 =>
 ((hz_ a0 a1 v3.1).bind λv7 =>
 (cond (v7.2.1 != 0)
 (some (inr (inr (([],([],([],[]))),(v7.2.1,())))))
 ((ad_ (ρ:=((List (List ab_))×Unit)) (λ(v8:(Int×((List (List ab_))×Unit))) =>
 (cond (decide (v8.1<(v7.1.length:Int)))
 ((at? v7.1 v8.1).bind λv9 =>
 ((at? v8.2.1 v3.1).bind λv10 =>
 ((at? v8.2.1 v3.1).bind λv11 =>
 ((at? a0.2.2.2.1 v9).bind λv12 =>
 ((br_ v12.2.2.2.2).bind λv13 =>
 ((push? (α:=ab_) v11 [v13.1]).bind λv14 =>
 ((at? v8.2.1 v3.1).bind λv15 =>
 (cond ((v3.1==v3.1)&&true)
 ((at? v8.2.1 v3.1).bind λv16 =>
 (some (inl ((w64 (v8.1+1)),((v8.2.1.set v3.1.toNat v14),())))))
 none))))))))
 (some (inr (v8.2.1,()))))) (0,(v3.2.1,()))).bind λv17 =>
 (some (inl ((w64 (v3.1+1)),(v17.1,((v3.2.2.1.1,(v3.2.2.1.2.1,(v3.2.2.1.2.2.1,(v3.2.2.1.2.2.2.1,())))),((v6,()),()))))))))))))
 (some (inr (inl (v3.2.1,((v3.2.2.1.1,(v3.2.2.1.2.1,(v3.2.2.1.2.2.1,(v3.2.2.1.2.2.2.1,())))),((v3.2.2.2.1.1,()),())))))))) (0,(v2,(([],([],([],([],())))),(([],()),()))))).bind λv18 =>
 (bl_ v18 (λv19=>(some ((v1,(v19.2.2.1.1,(v19.1,[]))),(0,()))))
 (λv20=>(some v20)))))))))
theorem x_11:ax_ (P:=prog) (cxC [c_35,c_38,c_39] [cp_36,bs2]) (.p .z (.p .z (.p .z (.p .z (.p (.p .z (.ls [.v 40 .int] [] [.g (.s 35) (.list af_),.b (.s 4) [.val (.list ae_),.val (.list (.list .int)),.val (.list (.list af_)),.val (.list ku_)],.b (.s 8) [.keep,.row (.list .int) 38,.keep,.keep]] 0 (.p .z (.p .z (.p (.p .z (.p .z (.p .z (.p .z (.p .z (.lp [.v 67 .int] [] [.g (.s 35) (.list af_)] 2 .z)))))) .z))))) .z))))) 11 [an_,am_] [ak_,.int]=λx=>kb_ x.1 x.2.1:=by kernel_rfl
noncomputable def c_11:Con prog:=ay_ _ _ 11 [an_,am_] [ak_,.int] _ x_11
end
section
set_option maxRecDepth 100000
set_option maxHeartbeats 0
noncomputable def fe_ (a0:ac_) (a1:ai_):Option (Bool×Unit) :=
 ((lp_ a0).bind λv0 =>
 (cond v0.1
 ((dq_).bind λv1 =>
 (some (v1.1,())))
 ((kb_ a0 a1).bind λv2 =>
 ((jv_ a0 a1).bind λv3 =>
 (cond (v2.2.1==v3.2.1)
 ((ei_ v2.1 v3.1).bind λv4 =>
 (cond v4.1
 ((dq_).bind λv5 =>
 (some (v5.1,())))
 (some (false,()))))
 (some (false,())))))))
theorem x_4:ax_ (P:=prog) (cxC [c_6,c_11,c_17,c_18,c_19] []) .z 4 [an_,am_] [.bool]=λx=>fe_ x.1 x.2.1:=by kernel_rfl
noncomputable def c_4:Con prog:=ay_ _ _ 4 [an_,am_] [.bool] _ x_4
end
end Go.Proofs.YtlbfbdbagohinaaGreatDoor.Rx
section

end
namespace Go.Proofs.YtlbfbdbagohinaaGreatDoor.Rx
open Go Pad Rex Sum
section
theorem jt_ {α:Type} {l:List α} (h:Sm l.length):push? [] l=some l:=by
 rw[al2 (by simp only[k6_];omega)]
 rfl
theorem ew_ {α:Type} {l:List α} {x:α} (h:Sm l.length):push? l [x]=some (l++[x]):=al2 (by simp only[d1_,k6_];omega)
end
section
set_option maxRecDepth 10000
structure VS (r:ag_) (s:az_):Prop where
 l1:s.1.length=r.2.1.length
 l2:s.2.1.length=r.2.2.1.length
 l3:(s.2.2.length:Int)=r.2.2.2.2.2.2.1
 th:∀ (i:Nat) n,s.1[i]?=some n→qk_ r.2.1 (i:Int) n=true
 pr:∀ (i:Nat) p,s.2.1[i]?=some p→inR r p=true
 py:∀ (i:Nat) p,s.2.2[i]?=some p→ry_ r p=true
theorem bs4 {r:ag_} {s:az_} (h:VS r s):ckS r s=0:=by
 unfold ckS
 have hl:vk_ r s=false:=by
  unfold vk_
  have:=h.l1
  have:=h.l2
  have:=h.l3
  simp only[b5_,n0_]
  omega
 rw[hl,a4_]
 rw[(jf_ s.1 0).2 (λj x hx=>by rw[a7_,h.th j x hx];rfl),i7_]
 rw[(jf_ s.2.1 0).2 (λj x hx=>by rw[h.pr j x hx];rfl),i7_]
 rw[(jf_ s.2.2 0).2 (λj x hx=>by rw[h.py j x hx];rfl),i7_]
end
end Go.Proofs.YtlbfbdbagohinaaGreatDoor.Rx
namespace Go.Proofs.YtlbfbdbagohinaaGreatDoor.Rx
open Go Pad Rex Go.Proofs Go.Proofs.Tryz Sum
section
set_option maxRecDepth 100000
noncomputable def autB (a0:ag_) (th pr py:List Int):(Int×Unit)→Option ((Int×Unit)⊕(Unit⊕(Int×Unit))) :=
 (λ(v14:(Int×Unit)) =>
 (cond (decide (v14.1<(a0.2.2.2.2.2.1.length:Int)))
 ((at? a0.2.2.2.2.2.1 v14.1).bind λv15 =>
 ((((at? th v15.2.1).bind λv16 =>
 ((at? th v15.2.1).bind λv17 =>
 (cond (v17 != v15.2.2)
 ((pz_ (a0,(th,(pr,py))) v15.1).bind λv18 =>
 (some (v18.1,())))
 (some (false,())))))).bind λv19 =>
 (cond v19.1
 (some (inr (inr (v14.1,()))))
 (some (inl ((w64 (v14.1+1)),()))))))
 (some (inr (inl ())))))
noncomputable def setB (a0:ag_) (v11 v12:List Int):(Int×((List Int)×Unit))→Option ((Int×((List Int)×Unit))⊕(((List Int)×Unit)⊕(Bool×((List Int)×Unit)))) :=
 (λ(v13:(Int×((List Int)×Unit))) =>
 (cond (decide (v13.1<101))
 ((((ad_ (ρ:=(Unit⊕(Int×Unit))) (autB a0 v13.2.1 v11 v12) (0,())).bind λv20 =>
 (bl_ v20 (λv21=>(some ((-1),())))
 (λv22=>(some v22))))).bind λv23 =>
 (cond (decide (v23.1<0))
 (some (inr (inr ((!true),(v13.2.1,())))))
 ((at? a0.2.2.2.2.2.1 v23.1).bind λv24 =>
 ((at? a0.2.2.2.2.2.1 v23.1).bind λv25 =>
 ((at? v13.2.1 v24.2.1).bind λv26 =>
 ((at? v13.2.1 v24.2.1).bind λv27 =>
 (some (inl ((w64 (v13.1+1)),((v13.2.1.set v24.2.1.toNat v25.2.2),()))))))))))
 (some (inr (inl (v13.2.1,()))))))
end
end Go.Proofs.YtlbfbdbagohinaaGreatDoor.Rx
namespace Go.Proofs.YtlbfbdbagohinaaGreatDoor.Rx
open Go Pad Rex Sum
section
set_option maxRecDepth 10000

end
end Go.Proofs.YtlbfbdbagohinaaGreatDoor.Rx
namespace Go.Proofs.YtlbfbdbagohinaaGreatDoor.Rx
open Go Pad Rex Go.Proofs Go.Proofs.Tryz Sum
section
set_option maxRecDepth 100000

end
end Go.Proofs.YtlbfbdbagohinaaGreatDoor.Rx
namespace Go.Proofs.YtlbfbdbagohinaaGreatDoor.Rx
open Go Pad Rex Sum
section
set_option maxRecDepth 10000
theorem sb_ {r:ag_} {s:az_} (h0:ib_ r=0) (hv:VS r s):fz_ r s=0:=by
 unfold fz_
 rw[h0]
 exact bs4 hv
end
section
theorem ke_ (a b c:Int):av_ a b c=some (wi a b c,()):=aq2 a b c
theorem mh_ (a b c:Int):bb_ a b c=some (wi a b c,()):=aq2 a b c
def okL (l:aa_):Bool:=wi l.1 1 4&&wi l.2 2 10
structure Lk (l:aa_):Prop where
 w1:1≤l.1
 w2:l.1≤4
 s1:2≤l.2
 s2:l.2≤10
theorem os_ {l:aa_}:okL l=true↔Lk l:=by
 unfold okL
 rw[a1_,gl_,gl_]
 exact⟨λh=>⟨h.1.1,h.1.2,h.2.1,h.2.2⟩,λh=>⟨⟨h.w1,h.w2⟩,h.s1,h.s2⟩⟩
theorem mi_ (l:aa_):fc_ l=some (if okL l then 0 else 10,()):=by
 unfold fc_ okL
 simp only[mh_,a0_]
 cases wi l.1 1 4<;>cases wi l.2 2 10<;>rfl
theorem kf_ (l:aa_):ce_ l=some (if okL l then 0 else 10,()):=by
 unfold ce_ okL
 simp only[ke_,a0_]
 cases wi l.1 1 4<;>cases wi l.2 2 10<;>rfl
def cy_ (l:aa_) (c:List Int):Bool:=decide ((c.length:Int)=l.1)&&c.all λn=>wi n 0 (l.2 - 1)
theorem Lk.ws {l:aa_} (h:Lk l):w64 (l.2 - 1)=l.2 - 1:=by have:=h.s1;have:=h.s2;exact pk_ (by omega) (by omega)
theorem Lk.ww {l:aa_} (h:Lk l):w64 (l.1 - 1)=l.1 - 1:=by have:=h.w1;have:=h.w2;exact pk_ (by omega) (by omega)
theorem ld_ {l:aa_} (h:Lk l) (n:Int):bg_ l n=some (wi n 0 (l.2 - 1),()):=by
 unfold bg_
 rw[ke_,h.ws]
 rfl
theorem sl_ {l:aa_} (h:Lk l) (n:Int):ap_ l n=some (wi n 0 (l.1 - 1),()):=by
 unfold ap_
 rw[ke_,h.ww]
 rfl
theorem all_any {α:Type} (l:List α) (q:α→Bool):(!(l.any λx=>!(q x)))=l.all q:=ve_ l q
theorem rv_ {l:aa_} (h:Lk l) (c:List Int):fq_ l c=some (cy_ l c,()):=by
 have w2:=h.w2
 unfold fq_ cy_
 by_cases he:(c.length:Int)=l.1
 ·have hb:((c.length:Int) != l.1)=false:=by simp[he]
  rw[hb,c1_ he,b9_,a4_]
  refine bu_ c (λ_ y=>cond (wi y 0 (l.2 - 1)) none (some (inr (false,()):Unit⊕(Bool×Unit)))) (λi=>((i:Int),())) (r0:=inl ()) (λi y hy => ?_) ?_ ?_
  ·have hi:=al_ hy
   simp only[dlt hi,a6_,ah_ hy,a0_,mh_,h.ws,bj_ (show Sm i by unfold Sm;omega)]
   cases wi y 0 (l.2 - 1)<;>rfl
  ·simp only[dnl,a4_]
  ·rw[ns_ (q:=λy=>wi y 0 (l.2 - 1))]
   cases c.all λy=>wi y 0 (l.2 - 1)<;>rfl
 ·have hb:((c.length:Int) != l.1)=true:=by simp[he]
  rw[hb,c6_ he]
  rfl
theorem mw_ {l:aa_} (h:Lk l) (c:List Int):bs_ l c=some (cy_ l c,()):=by
 have w2:=h.w2
 unfold bs_ cy_
 by_cases he:(c.length:Int)=l.1
 ·have hb:((c.length:Int)==l.1)=true:=by simp[he]
  rw[hb,c1_ he,b9_,a6_,qc_ (l:=c) (by unfold Sm;omega) (λn=>!(wi n 0 (l.2 - 1))) (λi y hy=>by
   simp only[dlt (al_ hy),a6_,ah_ hy,a0_,ld_ h]
   cases wi y 0 (l.2 - 1)<;>rfl) (by simp only[dnl,a4_]),a0_,all_any]
 ·have hb:((c.length:Int)==l.1)=false:=by simp[he]
  rw[hb,c6_ he]
  rfl
theorem sh_ (l:aa_) (c:List Int):fa_ l c=some (if okL l then (if cy_ l c then 0 else 12) else 10,()):=by
 unfold fa_
 rw[mi_,a0_]
 cases h:okL l with
 | true =>
  rw[if_pos rfl,rv_ (os_.1 h)]
  cases cy_ l c<;>rfl
 | false=>rfl
theorem lv_ (l:aa_) (c:List Int):bk_ l c=some (if okL l then (if cy_ l c then 0 else 12) else 10,()):=by
 unfold bk_ dg_
 rw[kf_,a0_]
 cases h:okL l with
 | true =>
  have hl:=os_.1 h
  have:=qc_ (l:=[c]) (by unfold Sm;simp) (λc=>!(cy_ l c)) (body:=λ(v1:(Int×Unit)) =>
   (cond (decide (v1.1<(([c]:List (List Int)).length:Int)))
   ((at? [c] v1.1).bind λv2 =>
   ((bs_ l v2).bind λv3 =>
   (cond (!v3.1)
   (some (inr (inr ((decide (0≤v1.1)),()))))
   (some (inl ((w64 (v1.1+1)),()))))))
   (some (inr (inl ()))))) (λi y hy=>by
   simp only[dlt (al_ hy),a6_,ah_ hy,a0_,mw_ hl]
   cases cy_ l y<;>rfl) (by simp only[dnl,a4_])
  rw[this]
  simp only[List.any_cons,List.any_nil,g7_]
  cases cy_ l c<;>rfl
 | false=>rfl
theorem ax1 {α:Type} [BEq α] [LawfulBEq α] [DecidableEq α] {a b:List α} (ha:Sm a.length) (he:a.length=b.length) {body:(Int×Unit)→Option ((Int×Unit)⊕(Unit⊕(Bool×Unit)))} {K:(Unit⊕(Bool×Unit))→Option (Bool×Unit)}
  (h:∀ (i:Nat) x y,a[i]?=some x→b[i]?=some y→body ((i:Int),())=some (cond (x != y) (.inr (.inr (false,()))) (.inl (w64 ((i:Int)+1),())))) (e:body ((a.length:Int),())=some (.inr (.inl ()))) (k1:K (.inl ())=some (true,())) (k2:K (.inr (false,()))=some (false,())) :
  (ad_ body (0,())).bind K=some (decide (a=b),()):=by
 refine bu_ (a.zip b) (λ_ p=>cond (p.1==p.2) none (some (inr (false,()):Unit⊕(Bool×Unit)))) (λi=>((i:Int),())) (r0:=inl ()) (λi p hp => ?_) ?_ ?_
 ·obtain⟨h1,h2⟩:=e3_.1 hp
  rw[h i p.1 p.2 h1 h2,bj_ (show Sm i by have:=al_ h1;unfold Sm at *; omega)]
  cases hq:p.1==p.2<;>simp[bne,hq]
 ·rw[j3_,← he,Nat.min_self]
  exact e
 ·rw[ns_ (q:=λp:α×α=>p.1==p.2)]
  have hk:((a.zip b).all λp=>p.1==p.2)=decide (a=b):=by
   refine k7_.2 ?_
   rw[f0_,decide_eq_true_iff]
   constructor
   ·intro hz
    refine f7_ λi => ?_
    by_cases hi:i<a.length
    ·obtain⟨x,hx⟩:=cz_ hi
     obtain⟨y,hy⟩:=cz_ (l:=b) (i:=i) (by omega)
     have:=hz (x,y) (b3_ (e3_.2 ⟨hx,hy⟩))
     rw[hx,hy,show x=y from eq_of_beq this]
    ·rw[c7_ (by omega),c7_ (by omega)]
   ·rintro rfl p hp
    obtain⟨i,hi⟩:=g6_ hp
    obtain⟨h1,h2⟩:=e3_.1 hi
    rw[h1] at h2
    exact j6_.2 (a8_ h2)
  rw[hk]
  cases decide (a=b)
  ·exact k2
  ·exact k1
theorem kj_ {a b:List Int} (ha:Sm a.length):bw_ a b=some (decide (a=b),()):=by
 unfold bw_
 by_cases he:a.length=b.length
 ·have hb:((a.length:Int) != (b.length:Int))=false:=by simp[he]
  rw[hb,a4_]
  refine ax1 ha he (λi x y hx hy => ?_) ?_ rfl rfl
  ·simp only[dlt (al_ hx),a6_,ah_ hx,ah_ hy,a0_]
   cases x != y<;>rfl
  ·simp only[dnl,a4_]
 ·have hb:((a.length:Int) != (b.length:Int))=true:=by simp;omega
  rw[hb,c6_ (λe=>he (by rw[e]))]
  rfl
def dx_ (l:aa_) (c:ab_):Bool :=
 if c.1=1 then wi c.2.1 0 (l.1 - 1)&&(wi c.2.2.2.1 0 (l.2 - 1)&&(c.2.2.1==0&&(c.2.2.2.2.1==0&&decide (c.2.2.2.2.2.1=[]))))
 else if c.1=2 then wi c.2.1 0 (l.1 - 1)&&(wi c.2.2.1 0 (l.1 - 1)&&(decide (c.2.1≤c.2.2.1)&&(wi c.2.2.2.1 0 100&&(c.2.2.2.2.1==0&&decide (c.2.2.2.2.2.1=[])))))
 else if c.1=3∨c.1=4 then wi c.2.1 0 (l.1 - 1)&&(wi c.2.2.1 0 (l.1 - 1)&&(c.2.1 != c.2.2.1&&(c.2.2.2.1==0&&(c.2.2.2.2.1==0&&decide (c.2.2.2.2.2.1=[])))))
 else if c.1=5 then wi c.2.2.2.1 0 (l.2 - 1)&&(wi c.2.2.2.2.1 0 l.1&&(c.2.1==0&&(c.2.2.1==0&&decide (c.2.2.2.2.2.1=[]))))
 else if c.1=6 then cy_ l c.2.2.2.2.2.1&&(wi c.2.2.2.1 0 l.1&&(wi c.2.2.2.2.1 0 l.1&&(c.2.1==0&&c.2.2.1==0)))
 else if c.1=7 then wi c.2.1 0 (l.1 - 1)&&(wi c.2.2.2.1 2 10&&(wi c.2.2.2.2.1 0 (c.2.2.2.1 - 1)&&(c.2.2.1==0&&decide (c.2.2.2.2.2.1=[]))))
 else false
theorem len0 (l:List Int):((l.length:Int)==((([]:List Int)).length:Int))=decide (l=[]):=by cases l<;>simp<;>omega
theorem zl_ {l:aa_} (h:Lk l) {c:ab_} (hs:Sm c.2.2.2.2.2.1.length):hn_ l c=some (dx_ l c,()):=by
 unfold hn_ dx_ da_
 simp only[mh_,rv_ h,kj_ hs,a0_,h.ww,h.ws,b8_,a6_]
 by_cases h1:c.1=1
 ·simp only[h1]
  cases wi c.2.1 0 (l.1 - 1)<;>cases wi c.2.2.2.1 0 (l.2 - 1)<;>simp only[a6_,a4_,a0_,b8_,b9_,d4_,Int.reduceBEq,i1_,f6_,Int.reduceEq,k9_,k8_,k5_]<;>cases c.2.2.1==0<;>cases c.2.2.2.2.1==0<;>rfl
 by_cases h2:c.1=2
 ·simp only[h2]
  cases wi c.2.1 0 (l.1 - 1)<;>cases wi c.2.2.1 0 (l.1 - 1)<;>cases decide (c.2.1≤c.2.2.1)<;>cases wi c.2.2.2.1 0 100<;>simp only[a6_,a4_,a0_,b8_,b9_,d4_,Int.reduceBEq,i1_,f6_,Int.reduceEq,k9_,k8_,k5_]<;>cases c.2.2.2.2.1==0<;>rfl
 by_cases h3:c.1=3
 ·simp only[h3]
  cases wi c.2.1 0 (l.1 - 1)<;>cases wi c.2.2.1 0 (l.1 - 1)<;>cases c.2.1 != c.2.2.1<;>simp only[a6_,a4_,a0_,b8_,b9_,d4_,Int.reduceBEq,i1_,f6_,Int.reduceEq,k9_,k8_,k5_]<;>cases c.2.2.2.1==0<;>cases c.2.2.2.2.1==0<;>rfl
 by_cases h4:c.1=4
 ·simp only[h4]
  cases wi c.2.1 0 (l.1 - 1)<;>cases wi c.2.2.1 0 (l.1 - 1)<;>cases c.2.1 != c.2.2.1<;>simp only[a6_,a4_,a0_,b8_,b9_,d4_,Int.reduceBEq,i1_,f6_,Int.reduceEq,k9_,k8_,k5_]<;>cases c.2.2.2.1==0<;>cases c.2.2.2.2.1==0<;>rfl
 by_cases h5:c.1=5
 ·simp only[h5]
  cases wi c.2.2.2.1 0 (l.2 - 1)<;>cases wi c.2.2.2.2.1 0 l.1<;>simp only[a6_,a4_,a0_,b8_,b9_,d4_,Int.reduceBEq,i1_,f6_,Int.reduceEq,k9_,k8_,k5_]<;>cases c.2.1==0<;>cases c.2.2.1==0<;>rfl
 by_cases h6:c.1=6
 ·simp only[h6]
  cases cy_ l c.2.2.2.2.2.1<;>cases wi c.2.2.2.1 0 l.1<;>cases wi c.2.2.2.2.1 0 l.1<;>simp only[a6_,a4_,a0_,b8_,b9_,d4_,Int.reduceBEq,i1_,f6_,Int.reduceEq,k9_,k8_,k5_]<;>cases c.2.1==0<;>cases c.2.2.1==0<;>simp
 by_cases h7:c.1=7
 ·simp only[h7]
  cases wi c.2.1 0 (l.1 - 1)
  ·rfl
  cases hn:wi c.2.2.2.1 2 10
  ·rfl
  have:=gl_.1 hn
  rw[pk_ (n:=c.2.2.2.1 - 1) (by omega) (by omega)]
  cases wi c.2.2.2.2.1 0 (c.2.2.2.1 - 1)<;>simp only[a6_,a4_,a0_,b8_,b9_,d4_,Int.reduceBEq,i1_,f6_,Int.reduceEq,k9_,k8_,k5_]<;>cases c.2.2.1==0<;>rfl
 have b1:(c.1==1)=false:=by simp[h1]
 have b2:(c.1==2)=false:=by simp[h2]
 have b3:(c.1==3)=false:=by simp[h3]
 have b4:(c.1==4)=false:=by simp[h4]
 have b5:(c.1==5)=false:=by simp[h5]
 have b6:(c.1==6)=false:=by simp[h6]
 have b7:(c.1==7)=false:=by simp[h7]
 simp only[b1,b2,b3,b4,b5,b6,b7,h1,h2,h3,h4,h5,h6,h7,a4_,a0_,f6_,k5_]
theorem mx_ {l:aa_} (h:Lk l) (c:ab_):bt_ l c=some (dx_ l c,()):=by
 unfold bt_ dx_
 simp only[ke_,sl_ h,ld_ h,mw_ h,a0_]
 by_cases h1:c.1=1
 ·simp only[h1]
  cases wi c.2.1 0 (l.1 - 1)<;>cases wi c.2.2.2.1 0 (l.2 - 1)<;>simp only[a6_,a4_,a0_,b8_,b9_,d4_,Int.reduceBEq,i1_,f6_,Int.reduceEq,k9_,k8_,k5_,len0]<;>cases c.2.2.1==0<;>cases c.2.2.2.2.1==0<;>rfl
 by_cases h2:c.1=2
 ·simp only[h2]
  cases wi c.2.1 0 (l.1 - 1)<;>cases wi c.2.2.1 0 (l.1 - 1)<;>cases decide (c.2.1≤c.2.2.1)<;>cases wi c.2.2.2.1 0 100<;>simp only[a6_,a4_,a0_,b8_,b9_,d4_,Int.reduceBEq,i1_,f6_,Int.reduceEq,k9_,k8_,k5_,len0]<;>cases c.2.2.2.2.1==0<;>rfl
 by_cases h3:c.1=3
 ·simp only[h3]
  cases wi c.2.1 0 (l.1 - 1)<;>cases wi c.2.2.1 0 (l.1 - 1)<;>cases c.2.1 != c.2.2.1<;>simp only[a6_,a4_,a0_,b8_,b9_,d4_,Int.reduceBEq,i1_,f6_,Int.reduceEq,k9_,k8_,k5_,len0]<;>cases c.2.2.2.1==0<;>cases c.2.2.2.2.1==0<;>rfl
 by_cases h4:c.1=4
 ·simp only[h4]
  cases wi c.2.1 0 (l.1 - 1)<;>cases wi c.2.2.1 0 (l.1 - 1)<;>cases c.2.1 != c.2.2.1<;>simp only[a6_,a4_,a0_,b8_,b9_,d4_,Int.reduceBEq,i1_,f6_,Int.reduceEq,k9_,k8_,k5_,len0]<;>cases c.2.2.2.1==0<;>cases c.2.2.2.2.1==0<;>rfl
 by_cases h5:c.1=5
 ·simp only[h5]
  cases wi c.2.2.2.1 0 (l.2 - 1)<;>cases wi c.2.2.2.2.1 0 l.1<;>simp only[a6_,a4_,a0_,b8_,b9_,d4_,Int.reduceBEq,i1_,f6_,Int.reduceEq,k9_,k8_,k5_,len0]<;>cases c.2.1==0<;>cases c.2.2.1==0<;>rfl
 by_cases h6:c.1=6
 ·simp only[h6]
  cases cy_ l c.2.2.2.2.2.1<;>cases wi c.2.2.2.1 0 l.1<;>cases wi c.2.2.2.2.1 0 l.1<;>simp only[a6_,a4_,a0_,b8_,b9_,d4_,Int.reduceBEq,i1_,f6_,Int.reduceEq,k9_,k8_,k5_,len0]<;>cases c.2.1==0<;>cases c.2.2.1==0<;>rfl
 by_cases h7:c.1=7
 ·simp only[h7]
  cases wi c.2.1 0 (l.1 - 1)
  ·rfl
  cases hn:wi c.2.2.2.1 2 10
  ·rfl
  have:=gl_.1 hn
  rw[pk_ (n:=c.2.2.2.1 - 1) (by omega) (by omega)]
  cases wi c.2.2.2.2.1 0 (c.2.2.2.1 - 1)<;>simp only[a6_,a4_,a0_,b8_,b9_,d4_,Int.reduceBEq,i1_,f6_,Int.reduceEq,k9_,k8_,k5_,len0]<;>cases c.2.2.1==0<;>rfl
 have b1:(c.1==1)=false:=by simp[h1]
 have b2:(c.1==2)=false:=by simp[h2]
 have b3:(c.1==3)=false:=by simp[h3]
 have b4:(c.1==4)=false:=by simp[h4]
 have b5:(c.1==5)=false:=by simp[h5]
 have b6:(c.1==6)=false:=by simp[h6]
 have b7:(c.1==7)=false:=by simp[h7]
 simp only[b1,b2,b3,b4,b5,b6,b7,h1,h2,h3,h4,h5,h6,h7,a4_,a0_,f6_,k5_]
theorem si_ {l:aa_} (hl:Lk l) {c:ab_} (hs:Sm c.2.2.2.2.2.1.length):fb_ l c=some (cond (dx_ l c) 0 11,()):=by
 unfold fb_
 rw[mi_,os_.2 hl,if_pos rfl,a0_,zl_ hl hs]
 cases dx_ l c<;>rfl
theorem sm_ {l:aa_} (hl:Lk l) (c:ab_):ct_ l c=some (cond (dx_ l c) 0 11,()):=by
 unfold ct_
 rw[kf_,os_.2 hl,if_pos rfl,a0_,mx_ hl]
 cases dx_ l c<;>rfl
end
section
theorem wl_ {α τ σ ρ:Type} (l:List α) (f:τ→α→τ) (F:Nat→τ→σ) (R:τ→ρ) (t0:τ) {body:σ→Option (σ⊕ρ)}
  (h:∀ i x t,l[i]?=some x→body (F i t)=some (.inl (F (i+1) (f t x)))) (e:∀ t,body (F l.length t)=some (.inr (R t))):ad_ body (F 0 t0)=some (R (l.foldl f t0)):=by
 obtain⟨t,h1,h2⟩:=aa6 l (λ_=>f) F R t0 (λi t=>t=(l.take i).foldl f t0) rfl (λi x t hx ht=>⟨h i x t hx,by
  rw[ht,h0_,hx,List.foldl_append]
  rfl⟩) (λt _=>e t)
 rw[h2,h1,f5_]
theorem lf_ {α τ σ ρ υ:Type} (l:List α) (f:τ→α→τ) (F:Nat→τ→σ) (R:τ→ρ) (t0:τ) {body:σ→Option (σ⊕ρ)} {K:ρ→Option υ} {x:Option υ}
  (h:∀ i x t,l[i]?=some x→body (F i t)=some (.inl (F (i+1) (f t x)))) (e:∀ t,body (F l.length t)=some (.inr (R t))) (hk:K (R (l.foldl f t0))=x):(ad_ body (F 0 t0)).bind K=x:=by
 rw[wl_ l f F R t0 h e,a0_,hk]
theorem zd_ {α β:Type}:∀ (l:List α) (m:List β) (i:Nat),(l.zip m).take i=(l.take i).zip (m.take i)
 | [],m,i=>by simp
 | x::l,[],i=>by cases i<;>simp
 | x::l,y::m,0=>rfl
 | x::l,y::m,i+1=>by simp[zd_ l m i]
theorem jb_ {l:aa_} {c:List Int}:cy_ l c=true↔(c.length:Int)=l.1∧∀ n ∈ c,0≤n∧n≤l.2 - 1:=by
 unfold cy_
 rw[a1_,decide_eq_true_iff,f0_]
 exact⟨λh=>⟨h.1,λn hn=>gl_.1 (h.2 n hn)⟩,λh=>⟨h.1,λn hn=>gl_.2 (h.2 n hn)⟩⟩
def wq_ (l:List Int) (k:Int):Int:=l.foldl (λs x=>cond (x==k) (w64 (s+1)) s) 0
def bj7 (code guess:List Int):Int:=(code.zip guess).foldl (λs p=>cond (p.1==p.2) (w64 (s+1)) s) 0
def comW (code guess:List Int):Int:=(List.range 10).foldl (λs (k:Nat)=>w64 (s+bv8 (wq_ code k) (wq_ guess k))) 0
theorem ac2 {l:List Int} {j:Nat} {x k:Int} (h:l[j]?=some x):wq_ (l.take (j+1)) k=cond (x==k) (w64 (wq_ (l.take j) k+1)) (wq_ (l.take j) k):=by
 unfold wq_
 rw[h0_,h,List.foldl_append]
 rfl
theorem oq_ {l:List Int} {k:Int} (hl:Sm l.length):dp_ l k=some (wq_ l k,()):=by
 unfold dp_ wq_
 refine lf_ l (λs x=>cond (x==k) (w64 (s+1)) s) (λi s=>(s,((i:Int),()))) (λs=>(s,())) 0 (λi x s hx=>by
  have hi:=al_ hx
  simp only[dlt hi,a6_,ah_ hx,a0_,bj_ (show Sm i by unfold Sm at *; omega)]
  cases x==k<;>rfl) (λs=>by simp only[dnl,a4_]) rfl
theorem zm_ {l:aa_} (hl:Lk l) {code guess:List Int} (hc:cy_ l code=true) (hg:cy_ l guess=true):ho_ code guess=some (bj7 code guess,(w64 (comW code guess - bj7 code guess),())):=by
 obtain⟨c1,_⟩:=jb_.1 hc
 obtain⟨g1,_⟩:=jb_.1 hg
 have w2:=hl.w2
 have sc:Sm code.length:=by unfold Sm;omega
 have sg:Sm guess.length:=by unfold Sm;omega
 have hz:(code.zip guess).length=code.length:=by rw[j3_];omega
 unfold ho_
 refine lf_ (code.zip guess) (λs p=>cond (p.1==p.2) (w64 (s+1)) s) (λi s=>(s,((i:Int),()))) (λs=>(s,())) 0 (λi p s hp=>by
  obtain⟨h1,h2⟩:=e3_.1 hp
  simp only[dlt (al_ h1),a6_,ah_ h1,ah_ h2,a0_,bj_ (show Sm i by have:=al_ h1;unfold Sm at *; omega)]
  cases p.1==p.2<;>rfl) (λs=>by rw[hz];simp only[dnl,a4_]) ?_
 refine lf_ (List.range 10) (λs (k:Nat)=>w64 (s+bv8 (wq_ code k) (wq_ guess k))) (λi s=>(s,((i:Int),()))) (λs=>(s,())) 0 (λi k s hk=>by
  have hi:=al_ hk
  rw[l1_] at hi
  rw[i5_ hi] at hk
  obtain rfl:=a8_ hk
  simp only[show decide ((i:Int)<10)=true from c1_ (by omega),a6_,oq_ sc,oq_ sg,a0_,bj_ (show Sm i by unfold Sm;omega)]) (λs=>by
  rw[l1_]
  rfl) rfl
theorem ab9 {l:aa_} (hl:Lk l) {code guess:List Int} (hc:cy_ l code=true) (hg:cy_ l guess=true):ea_ code guess=some (bj7 code guess,(w64 (comW code guess - bj7 code guess),())):=by
  obtain⟨c1,c2⟩:=jb_.1 hc
  obtain⟨g1,g2⟩:=jb_.1 hg
  have w2:=hl.w2
  have s2:=hl.s2
  have hz:(code.zip guess).length=code.length:=by rw[j3_];omega
  have tk:∀ i,(code.zip guess).take i=(code.take i).zip (guess.take i):=λi=>zd_ _ _ i
  let I:Nat→(Int×(List Int×List Int))→Prop:=λi t=>t.1=bj7 (code.take i) (guess.take i)∧t.2.1.length=10∧t.2.2.length=10∧∀ k:Nat,k<10→t.2.1[k]?=some (wq_ (code.take i) k)∧t.2.2[k]?=some (wq_ (guess.take i) k)
  have h1:=aa6 (code.zip guess) (λ_ (t:Int×(List Int×List Int)) p=>(cond (p.1==p.2) (w64 (t.1+1)) t.1,(t.2.1.set p.1.toNat (w64 ((t.2.1[p.1.toNat]?).getD 0+1)),t.2.2.set p.2.toNat (w64 ((t.2.2[p.2.toNat]?).getD 0+1)))))
    (λi t=>(t.1,((i:Int),(t.2.1,(t.2.2,()))))) (λt=>(t.1,(t.2.1,(t.2.2,())))) (0,([0,0,0,0,0,0,0,0,0,0],[0,0,0,0,0,0,0,0,0,0])) I
    (body:=λ(v0:(Int×(Int×((List Int)×((List Int)×Unit))))) =>
 (cond (decide (v0.2.1<(code.length:Int)))
 ((at? code v0.2.1).bind λv1 =>
 ((((at? guess v0.2.1).bind λv2 =>
 (cond (v1==v2)
 (some ((w64 (v0.1+1)),()))
 (some (v0.1,()))))).bind λv3 =>
 (cond (decide (v1<(10:Int)))
 ((at? v0.2.2.1 v1).bind λv4 =>
 ((at? v0.2.2.1 v1).bind λv5 =>
 (cond (decide (v1<(10:Int)))
 ((at? v0.2.2.1 v1).bind λv6 =>
 ((at? v0.2.2.1 v1).bind λv7 =>
 ((at? guess v0.2.1).bind λv8 =>
 (cond (decide (v8<(10:Int)))
 ((at? v0.2.2.2.1 v8).bind λv9 =>
 ((at? v0.2.2.2.1 v8).bind λv10 =>
 (cond (decide (v8<(10:Int)))
 ((at? v0.2.2.2.1 v8).bind λv11 =>
 ((at? v0.2.2.2.1 v8).bind λv12 =>
 (some (inl (v3.1,((w64 (v0.2.1+1)),((v0.2.2.1.set v1.toNat (w64 (v5+1))),((v0.2.2.2.1.set v8.toNat (w64 (v10+1))),()))))))))
 none)))
 none))))
 none)))
 none)))
 (some (inr (v0.1,(v0.2.2.1,(v0.2.2.2.1,())))))))
    ⟨rfl,rfl,rfl,λk hk=>⟨by
      match k,hk with
      | 0,_ | 1,_ | 2,_ | 3,_ | 4,_ | 5,_ | 6,_ | 7,_ | 8,_ | 9,_=>rfl,by
      match k,hk with
      | 0,_ | 1,_ | 2,_ | 3,_ | 4,_ | 5,_ | 6,_ | 7,_ | 8,_ | 9,_=>rfl⟩⟩ (λi p t hp ht=>by
      obtain⟨x,y⟩:=p
      obtain⟨hx,hy⟩:=e3_.1 hp
      obtain⟨t1,t2,t3,t4⟩:=ht
      have hx':=c2 x (b3_ hx)
      have hy':=g2 y (b3_ hy)
      have ax:at? t.2.1 x=some (wq_ (code.take i) x):=by
        have:=(t4 x.toNat (by omega)).1
        rw[show ((x.toNat:Nat):Int)=x by omega] at this
        unfold at?
        rw[if_pos hx'.1]
        exact this
      have ay:at? t.2.2 y=some (wq_ (guess.take i) y):=by
        have:=(t4 y.toNat (by omega)).2
        rw[show ((y.toNat:Nat):Int)=y by omega] at this
        unfold at?
        rw[if_pos hy'.1]
        exact this
      have gx:t.2.1[x.toNat]?=some (wq_ (code.take i) x):=by
        have:=(t4 x.toNat (by omega)).1
        rwa [show ((x.toNat:Nat):Int)=x by omega] at this
      have gy:t.2.2[y.toNat]?=some (wq_ (guess.take i) y):=by
        have:=(t4 y.toNat (by omega)).2
        rwa [show ((y.toNat:Nat):Int)=y by omega] at this
      refine⟨?_,?_,?_,?_,λk hk => ?_⟩
      · simp only[dlt (al_ hx),a6_,ah_ hx,ah_ hy,a0_,ax,ay,show decide (x<10)=true from c1_ (by omega),show decide (y<10)=true from c1_ (by omega),bj_ (show Sm i by have:=al_ hx;unfold Sm;omega),gx,gy,g3_]
        cases x==y<;>rfl
      · show cond (x==y) (w64 (t.1+1)) t.1=bj7 (code.take (i+1)) (guess.take (i+1))
        unfold bj7
        rw[← tk,h0_,hp,List.foldl_append,tk,t1]
        rfl
      · simp[t2]
      · simp[t3]
      · obtain⟨q1,q2⟩:=t4 k hk
        constructor
        · show (t.2.1.set x.toNat (w64 ((t.2.1[x.toNat]?).getD 0+1)))[k]?=_
          rw[ac2 hx,gx,g3_,h1_]
          by_cases e:x.toNat=k
          · have e2:x=(k:Int):=by omega
            rw[if_pos e,if_pos (by omega),e2,b8_,a6_]
          · have e2:(x==(k:Int))=false:=by simp;omega
            rw[if_neg e,q1,e2,a4_]
        · show (t.2.2.set y.toNat (w64 ((t.2.2[y.toNat]?).getD 0+1)))[k]?=_
          rw[ac2 hy,gy,g3_,h1_]
          by_cases e:y.toNat=k
          · have e2:y=(k:Int):=by omega
            rw[if_pos e,if_pos (by omega),e2,b8_,a6_]
          · have e2:(y==(k:Int))=false:=by simp;omega
            rw[if_neg e,q2,e2,a4_]) (λt _=>by rw[hz];simp only[dnl,a4_])
  obtain⟨t,⟨t1,t2,t3,t4⟩,h2⟩:=h1
  rw[hz] at t1 t4
  rw[f5_,show guess.take code.length=guess by rw[d8_ (by omega)]] at t1
  unfold ea_
  refine (congrArg (λo=>Option.bind o _) h2).trans ?_
  rw[a0_]
  refine lf_ (List.range 10) (λs (k:Nat)=>w64 (s+bv8 (wq_ code k) (wq_ guess k))) (λi s=>(s,((i:Int),()))) (λs=>(s,())) 0 (λi k s hk=>by
    have hi:=al_ hk
    rw[l1_] at hi
    rw[i5_ hi] at hk
    obtain rfl:=a8_ hk
    obtain⟨q1,q2⟩:=t4 i hi
    rw[f5_] at q1
    rw[show guess.take code.length=guess by rw[d8_ (by omega)]] at q2
    simp only[show decide ((i:Int)<10)=true from c1_ (by omega),a6_,ah_ q1,ah_ q2,a0_,bj_ (show Sm i by unfold Sm;omega)]) (λs=>by
    rw[l1_]
    rfl) ?_
  rw[t1]
  rfl
end
section
def tz_ (code:List Int) (a b:Int):List Int:=(code.take (b+1).toNat).drop a.toNat
def sumW (l:List Int):Int:=l.foldl (λs x=>w64 (s+x)) 0
def gt0 (code:List Int) (i:Int):Int:=(at? code i).getD 0
def plV (c:ab_) (code:List Int):Bool :=
 cond (c.1==1) (gt0 code c.2.1==c.2.2.2.1) <|
 cond (c.1==2) (sumW (tz_ code c.2.1 c.2.2.1)==c.2.2.2.1) <|
 cond (c.1==3) (decide (gt0 code c.2.1<gt0 code c.2.2.1)) <|
 cond (c.1==4) (gt0 code c.2.1==gt0 code c.2.2.1) <|
 cond (c.1==5) (wq_ code c.2.2.2.1==c.2.2.2.2.1) <|
 cond (c.1==6) (cond (bj7 code c.2.2.2.2.2.1==c.2.2.2.1) (w64 (comW code c.2.2.2.2.2.1 - bj7 code c.2.2.2.2.2.1)==c.2.2.2.2.1) false) <|
 cond (c.1==7) ((gt0 code c.2.1).tmod c.2.2.2.1==c.2.2.2.2.1) false
def tr (c:ab_) (code:List Int):Bool:=plV c code != c.2.2.2.2.2.2
theorem gt0_at {code:List Int} {i x:Int} (h:at? code i=some x):gt0 code i=x:=by unfold gt0;rw[h];rfl
theorem ra_ {l:aa_} (hl:Lk l) {c:ab_} {code:List Int} (hc:dx_ l c=true) (hk:cy_ l code=true):hx_ c code=some (tr c code,())∧df_ c code=some (tr c code,()):=by
 obtain⟨c1,c2⟩:=jb_.1 hk
 have w1:=hl.w1;have w2:=hl.w2;have s1:=hl.s1;have s2:=hl.s2
 have sc:Sm code.length:=by unfold Sm;omega
 unfold dx_ at hc
 have hat:∀ i,wi i 0 (l.1 - 1)=true→at? code i=some (gt0 code i):=by
  intro i hi
  obtain⟨a,b⟩:=gl_.1 hi
  obtain⟨x,h1⟩:=cz_ (l:=code) (i:=i.toNat) (by omega)
  have h2:at? code i=some x:=by unfold at?; rw[if_pos a];exact h1
  rw[h2,gt0_at h2]
 unfold hx_ df_ gt_ tr plV
 by_cases h1:c.1=1
 ·simp only[h1,i1_,a1_] at hc
  have hx:=hat _ hc.1
  simp only[h1,hx,b8_,a6_,a0_,and_self]
 have b1:(c.1==1)=false:=by simp[h1]
 simp only[b1,a4_]
 by_cases h2:c.1=2
 ·simp only[h2,i1_,a1_,show ¬ ((2:Int)=1) by omega,f6_] at hc
  obtain⟨hA,hB,hAB,_⟩:=hc
  obtain⟨a1,a2⟩:=gl_.1 hA
  obtain⟨d1,d2⟩:=gl_.1 hB
  have hab:c.2.1≤c.2.2.1:=by simpa using hAB
  have hsub:sub? code c.2.1 (w64 (c.2.2.1+1))=some (tz_ code c.2.1 c.2.2.1):=by
   rw[pk_ (by omega) (by omega)]
   unfold sub? tz_
   rw[if_pos ⟨a1,by omega,by omega⟩]
  have hsl:(tz_ code c.2.1 c.2.2.1).length=(c.2.2.1 - c.2.1+1).toNat:=by
   unfold tz_
   rw[g5_,c0_]
   omega
  have hsg:∀ (j:Nat) x,(tz_ code c.2.1 c.2.2.1)[j]?=some x→at? code (c.2.1+(j:Int))=some x:=by
   intro j x hj
   have hlt:=al_ hj
   unfold tz_ at hj
   rw[List.getElem?_drop,g1_,if_pos (by omega)] at hj
   unfold at?
   rw[if_pos (by omega),show (c.2.1+(j:Int)).toNat=c.2.1.toNat+j by omega]
   exact hj
  simp only[h2,b8_,a6_,hsub,a0_]
  constructor
  ·have:=wl_ (tz_ code c.2.1 c.2.2.1) (λs x=>w64 (s+x)) (λi s=>(s,(c.2.1+(i:Int),()))) (λs=>(s,())) 0 (body:=λ(v1:(Int×(Int×Unit))) =>
    (cond (decide (v1.2.1≤c.2.2.1))
    ((at? code v1.2.1).bind λv2 =>
    (some (inl ((w64 (v1.1+v2)),((w64 (v1.2.1+1)),())))))
    (some (inr (v1.1,()))))) (λi x s hx=>by
    have hi:=al_ hx
    simp only[show decide (c.2.1+(i:Int)≤c.2.2.1)=true from c1_ (by omega),a6_,hsg i x hx,a0_,pk_ (n:=c.2.1+(i:Int)+1) (by omega) (by omega)]
    rw[show c.2.1+(i:Int)+1=c.2.1+((i+1:Nat):Int) by omega]) (λs=>by
    simp only[show decide (c.2.1+((tz_ code c.2.1 c.2.2.1).length:Int)≤c.2.2.1)=false from c6_ (by omega),a4_])
   simp only[Int.natCast_zero,Int.add_zero] at this
   rw[this]
   rfl
  ·refine congrArg (λo=>Option.bind o _) (?_:_=some (sumW (tz_ code c.2.1 c.2.2.1)==c.2.2.2.1,())) |>.trans rfl
   refine lf_ (tz_ code c.2.1 c.2.2.1) (λs x=>w64 (s+x)) (λi s=>(s,((i:Int),()))) (λs=>(s,())) 0 (λi x s hx=>by
    have hi:=al_ hx
    simp only[dlt hi,a6_,ah_ hx,a0_,bj_ (show Sm i by unfold Sm;omega)]) (λs=>by simp only[dnl,a4_]) rfl
 have b2:(c.1==2)=false:=by simp[h2]
 simp only[b2,a4_]
 by_cases h3:c.1=3
 ·simp only[h3,i1_,a1_,show ¬ ((3:Int)=1) by omega,show ¬ ((3:Int)=2) by omega,f6_,k8_] at hc
  simp only[h3,hat _ hc.1,hat _ hc.2.1,b8_,a6_,a0_,and_self]
 have b3:(c.1==3)=false:=by simp[h3]
 simp only[b3,a4_]
 by_cases h4:c.1=4
 ·simp only[h4,i1_,a1_,show ¬ ((4:Int)=1) by omega,show ¬ ((4:Int)=2) by omega,f6_,k9_] at hc
  simp only[h4,hat _ hc.1,hat _ hc.2.1,b8_,a6_,a0_,and_self]
 have b4:(c.1==4)=false:=by simp[h4]
 simp only[b4,a4_]
 by_cases h5:c.1=5
 ·have hs:=oq_ (k:=c.2.2.2.1) sc
  simp only[h5,b8_,a6_,hs,a0_,true_and]
  have:=hs
  unfold dp_ at this
  obtain⟨y,h6,h7⟩:=bnd this
  rw[h6]
  have e:y.1=wq_ code c.2.2.2.1:=congrArg Prod.fst (a8_ h7)
  rw[a0_,a0_,e]
 have b5:(c.1==5)=false:=by simp[h5]
 simp only[b5,a4_]
 by_cases h6:c.1=6
 ·simp only[h6,i1_,a1_,show ¬ ((6:Int)=1) by omega,show ¬ ((6:Int)=2) by omega,show ¬ ((6:Int)=3∨(6:Int)=4) by omega,show ¬ ((6:Int)=5) by omega,f6_] at hc
  simp only[h6,b8_,a6_,zm_ hl hk hc.1,ab9 hl hk hc.1,a0_]
  cases bj7 code c.2.2.2.2.2.1==c.2.2.2.1<;>exact⟨rfl,rfl⟩
 have b6:(c.1==6)=false:=by simp[h6]
 simp only[b6,a4_]
 by_cases h7:c.1=7
 ·simp only[h7,i1_,a1_,show ¬ ((7:Int)=1) by omega,show ¬ ((7:Int)=2) by omega,show ¬ ((7:Int)=3∨(7:Int)=4) by omega,show ¬ ((7:Int)=5) by omega,show ¬ ((7:Int)=6) by omega,f6_] at hc
  obtain⟨n1,n2⟩:=gl_.1 hc.2.1
  have hm:md (gt0 code c.2.1) c.2.2.2.1=some ((gt0 code c.2.1).tmod c.2.2.2.1):=md_pos (by omega)
  simp only[h7,hat _ hc.1,hm,b8_,a6_,a0_,and_self]
 ·simp[h1,h2,h3,h4,h5,h6,h7] at hc
end
section
def kg_ (S:Nat):Nat→List (List Int)
 | 0=>[[]]
 | W+1=>(List.range S).flatMap λ(x:Nat)=>(kg_ S W).map λc=>(x:Int)::c
theorem an6 {α β:Type} {f:α→List β} {m:Nat}:∀ (l:List α),(∀ x ∈ l,(f x).length=m)→(l.flatMap f).length=l.length * m
 | [],_=>by simp
 | x::l,h=>by
  rw[l7_,c4_,h x (by simp),an6 l (λy hy=>h y (by simp[hy])),d1_,g4_]
  omega
theorem an7 {α β:Type} {f:α→List β} {m:Nat}:∀ (l:List α) (q r:Nat) (x:α),(∀ x ∈ l,(f x).length=m)→r<m→l[q]?=some x→(l.flatMap f)[q * m+r]?=(f x)[r]?
 | [],q,r,x,h,hr,hq=>by simp at hq
 | y::l,0,r,x,h,hr,hq=>by
  have e:y=x:=by simpa using hq
  subst e
  rw[l7_,Nat.zero_mul,a7_,b0_ (by rw[h y (by simp)];exact hr)]
 | y::l,q+1,r,x,h,hr,hq=>by
  have hq':l[q]?=some x:=by simpa using hq
  have hl:=h y (by simp)
  rw[l7_,b6_ (by rw[hl,g4_];omega),hl,show (q+1) * m+r - m=q * m+r by rw[g4_];omega]
  exact an7 l q r x (λz hz=>h z (by simp[hz])) hr hq'
theorem ri_ (S:Nat):∀ W,(kg_ S W).length=S ^ W
 | 0=>rfl
 | W+1=>by
  unfold kg_
  rw[an6 (m:=S ^ W) _ (λx _=>by rw[e6_,ri_ S W]),l1_,k2_,h5_]
theorem rh_ (S:Nat):∀ W c,c ∈ kg_ S W↔c.length=W∧∀ n ∈ c,0≤n∧n<(S:Int)
 | 0,c=>by
  unfold kg_
  rw[List.mem_singleton]
  constructor
  ·rintro rfl;exact⟨rfl,by simp⟩
  ·rintro⟨h,_⟩;exact List.length_eq_zero_iff.1 h
 | W+1,c=>by
  unfold kg_
  rw[List.mem_flatMap]
  constructor
  ·rintro⟨x,hx,hc⟩
   obtain⟨d,hd,rfl⟩:=d0_.1 hc
   obtain⟨h1,h2⟩:=(rh_ S W d).1 hd
   have:=m9_.1 hx
   refine⟨by rw[d1_,h1],λn hn => ?_⟩
   rcases c5_.1 hn with rfl | hn
   ·omega
   ·exact h2 n hn
  ·rintro⟨h1,h2⟩
   cases c with
   | nil=>simp at h1
   | cons x c =>
    obtain⟨a,b⟩:=h2 x (by simp)
    refine⟨x.toNat,m9_.2 (by omega),d0_.2 ⟨c,(rh_ S W c).2 ⟨by simpa using h1,λn hn=>h2 n (by simp[hn])⟩,?_⟩⟩
    rw[show ((x.toNat:Nat):Int)=x by omega]
def dig (S:Nat):Nat→Nat→List Int
 | 0,_=>[]
 | W+1,i=>dig S W (i / S)++[((i % S:Nat):Int)]
theorem bg1 (S:Nat):∀ W i,(dig S W i).length=W
 | 0,_=>rfl
 | W+1,i=>by unfold dig;rw[c4_,bg1 S W];rfl
theorem ao5 {S:Nat} (hS:0<S):∀ (W q r:Nat),q<S→r<S ^ W→dig S (W+1) (q * S ^ W+r)=(q:Int)::dig S W r
 | 0,q,r,hq,hr=>by
  have:r=0:=by simpa using hr
  subst this
  simp[dig,k1_ hq]
 | W+1,q,r,hq,hr=>by
  have e1:(q * S ^ (W+1)+r) / S=q * S ^ W+r / S:=by
   rw[k2_,← Nat.mul_assoc,h5_ (q * S ^ W) S,Nat.mul_add_div hS]
  have e2:(q * S ^ (W+1)+r) % S=r % S:=by
   rw[k2_,← Nat.mul_assoc,h5_ (q * S ^ W) S,Nat.mul_add_mod]
  have hr':r / S<S ^ W:=Nat.div_lt_of_lt_mul (by rw[h5_,← k2_];exact hr)
  rw[dig,e1,e2,ao5 hS W q (r / S) hq hr']
  rfl
theorem rj_ {S:Nat} (hS:0<S):∀ (W i:Nat),i<S ^ W→(kg_ S W)[i]?=some (dig S W i)
 | 0,i,h=>by
  have:i=0:=by simpa using h
  subst this;rfl
 | W+1,i,h=>by
  have hP:0<S ^ W:=Nat.pow_pos hS
  have hr:i % S ^ W<S ^ W:=Nat.mod_lt _ hP
  have hq:i / S ^ W<S:=Nat.div_lt_of_lt_mul (by rw[← k2_];exact h)
  have he:i=i / S ^ W * S ^ W+i % S ^ W:=by rw[h5_];exact (Nat.div_add_mod i (S ^ W)).symm
  rw[he,ao5 hS W _ _ hq hr]
  unfold kg_
  rw[an7 (m:=S ^ W) _ _ _ (i / S ^ W) (λx _=>by rw[e6_,ri_]) hr (by rw[i5_ hq]),d3_,rj_ hS W _ hr]
  rfl
def rdg (l:aa_) (cl:List ab_):List (List Int):=(kg_ l.2.toNat l.1.toNat).filter λc=>cl.all (tr · c)
theorem bs3 {l:aa_} (hl:Lk l) {c:List Int}:c ∈ kg_ l.2.toNat l.1.toNat↔cy_ l c=true:=by
 have:=hl.w1;have:=hl.s1
 rw[rh_,jb_]
 constructor
 ·rintro⟨a,b⟩;exact⟨by omega,λn hn=>by have:=b n hn;omega⟩
 ·rintro⟨a,b⟩;exact⟨by omega,λn hn=>by have:=b n hn;omega⟩
theorem pow_bd {l:aa_} (hl:Lk l):l.2.toNat ^ l.1.toNat≤10000:=by
 have:=hl.w1;have:=hl.w2;have:=hl.s1;have:=hl.s2
 have h1:l.2.toNat ^ l.1.toNat≤10 ^ l.1.toNat:=Nat.pow_le_pow_left (by omega) _
 have h2:10 ^ l.1.toNat≤10 ^ 4:=Nat.pow_le_pow_right (by omega) (by omega)
 omega
theorem any_all (cl:List ab_) (code:List Int):(!(cl.any λc=>!(tr c code)))=cl.all (tr · code):=ve_ cl λc=>tr c code
theorem aj2 {l:aa_} (hl:Lk l) {cl:List ab_} (hn:cl.length≤20) {code:List Int} (hc:∀ c ∈ cl,dx_ l c=true) (hk:cy_ l code=true):∃ r,cp_ cl code=some (r,())∧decide (r<0)=cl.all (tr · code):=by
 obtain⟨n,h1,h2,_⟩:=if_lt (l:=cl) (by unfold Sm;omega) (λc=>!(tr c code)) (body:=λ(v0:(Int×Unit)) =>
  (cond (decide (v0.1<(cl.length:Int)))
  ((at? cl v0.1).bind λv1 =>
  ((df_ v1 code).bind λv2 =>
  (cond (!v2.1)
  (some (inr (inr (v0.1,()))))
  (some (inl ((w64 (v0.1+1)),()))))))
  (some (inr (inl ()))))) (λi c hi=>by
  simp only[dlt (al_ hi),a6_,ah_ hi,a0_,(ra_ hl (hc c (b3_ hi)) hk).2]
  cases tr c code<;>rfl) (by simp only[dnl,a4_])
 exact⟨n,h1,by rw[h2,any_all]⟩
end
section
theorem au2 {σ ρ:Type} {body:σ→Option (σ⊕ρ)} (F:Nat→σ) {n:Nat} {r:ρ} (h:∀ j,j<n→body (F j)=some (.inl (F (j+1)))) (e:body (F n)=some (.inr r)):ad_ body (F 0)=some r:=by
 have:=qm_ (body:=body) (λj s=>s=F j) (λx=>x=r) n 0 (F 0) rfl (λj s _ hj q=>by subst q;exact .inl ⟨_,h j (by omega),rfl⟩) (λs q=>by subst q;rw[a7_];exact⟨_,e,rfl⟩)
 obtain⟨x,h1,rfl⟩:=this
 exact h1
theorem bm2 {p:List Int} {x y:Int} {t:List Int}:(p++x::t).set p.length y=p++y::t:=by
 rw[m3_ _ _ (c2_ _),h4_]
 rfl
theorem bq7 {p:List Int} {x:Int} {t:List Int}:at? (p++x::t) ((p.length:Nat):Int)=some x:=by
 rw[at?_nat,b6_ (c2_ _),h4_]
 rfl
def odoB (l:aa_):(Int×(List Int×Unit))→Option ((Int×(List Int×Unit))⊕(Int×(List Int×Unit))):=(λ(v3:(Int×((List Int)×Unit))) =>
 (((cond (decide (0≤v3.1))
 ((at? v3.2.1 v3.1).bind λv4 =>
 ((at? v3.2.1 v3.1).bind λv5 =>
 (some ((v5==(w64 (l.2 - 1))),()))))
 (some (false,())))).bind λv6 =>
 (cond v6.1
 ((at? v3.2.1 v3.1).bind λv7 =>
 ((at? v3.2.1 v3.1).bind λv8 =>
 (some (inl ((w64 (v3.1 - 1)),((v3.2.1.set v3.1.toNat 0),()))))))
 (some (inr (v3.1,(v3.2.1,())))))))
theorem odo {l:aa_} (hl:Lk l) {S:Nat} (hS:l.2=(S:Int)):∀ (W j k:Nat),W≤4→∃ (i:Int) (c:List Int),
  ad_ (odoB l) ((W:Int) - 1,(dig S W j++List.replicate k 0,()))=some (i,(c,())) ∧
  (j+1=S ^ W→i<0)∧(j+1<S ^ W→0≤i∧∃ x,at? c i=some x∧c.set i.toNat (w64 (x+1))=dig S W (j+1)++List.replicate k 0):=by
 have s1:=hl.s1;have s2:=hl.s2
 intro W
 induction W with
 | zero =>
  intro j k _
  refine⟨_,_,ni_ (r:=((0:Int) - 1,(dig S 0 j++List.replicate k 0,()))) rfl,λ_=>by omega,λh => ?_⟩
  simp at h
 | succ W ih =>
  intro j k hW
  have hd:dig S (W+1) j++List.replicate k 0=dig S W (j / S)++((j % S:Nat):Int)::List.replicate k 0:=by rw[dig,b1_];rfl
  have hlen:=bg1 S W (j / S)
  have hg:at? (dig S W (j / S)++((j % S:Nat):Int)::List.replicate k 0) ((W:Nat):Int)=some ((j % S:Nat):Int):=by
   have:=bq7 (p:=dig S W (j / S)) (x:=((j % S:Nat):Int)) (t:=List.replicate k 0)
   rwa [hlen] at this
  have hse:∀ y:Int,(dig S W (j / S)++((j % S:Nat):Int)::List.replicate k 0).set W y=dig S W (j / S)++y::List.replicate k 0:=λy=>by
   have:=bm2 (p:=dig S W (j / S)) (x:=((j % S:Nat):Int)) (y:=y) (t:=List.replicate k 0)
   rwa [hlen] at this
  have hmod:j % S<S:=Nat.mod_lt _ (by omega)
  have hdm:=Nat.div_add_mod j S
  have hpos:decide (0≤(W:Int))=true:=c1_ (by omega)
  rw[hd,show ((W+1:Nat):Int) - 1=(W:Int) by omega]
  by_cases h9:j % S=S - 1
  ·obtain⟨i,c,e1,e2,e3⟩:=ih (j / S) (k+1) (by omega)
   have hj1:j+1=S * (j / S+1):=by rw[Nat.mul_add,Nat.mul_one];omega
   have hb:(((j % S:Nat):Int)==w64 (l.2 - 1))=true:=by rw[hl.ws,hS];simp;omega
   refine⟨i,c,?_,λh=>e2 ?_,λh => ?_⟩
   ·rw[← e1]
    refine vp_ ?_
    unfold odoB
    simp only[hpos,a6_,hg,a0_,hb,e7_,hse,pk_ (n:=(W:Int) - 1) (by omega) (by omega)]
    rfl
   ·rw[k2_,h5_] at h
    rw[hj1] at h
    exact Nat.eq_of_mul_eq_mul_left (by omega) h
   ·have:j / S+1<S ^ W:=by
     rw[k2_,h5_,hj1] at h
     exact Nat.lt_of_mul_lt_mul_left h
    obtain⟨f1,x,f2,f3⟩:=e3 this
    refine⟨f1,x,f2,?_⟩
    rw[f3,dig,hj1,Nat.mul_div_cancel_left _ (by omega),Nat.mul_mod_right,b1_]
    rfl
  ·have hb:(((j % S:Nat):Int)==w64 (l.2 - 1))=false:=by rw[hl.ws,hS];simp;omega
   refine⟨_,_,ni_ (r:=((W:Int),(dig S W (j / S)++((j % S:Nat):Int)::List.replicate k 0,()))) (by
    unfold odoB
    simp only[hpos,a6_,hg,a0_,hb,a4_]),λh => ?_,λh=>⟨by omega,_,hg,?_⟩⟩
   ·exfalso
    have:(j+1) % S=0:=by rw[h,k2_];exact Nat.mul_mod_left _ _
    have h2:(j+1) % S=j % S+1:=by rw[Nat.add_mod,k1_ (show 1<S by omega),k1_ (by omega)]
    omega
   ·simp only[e7_]
    rw[hse,pk_ (by omega) (by omega),dig,b1_]
    have h2:(j+1) % S=j % S+1:=by rw[Nat.add_mod,k1_ (show 1<S by omega),k1_ (by omega)]
    have h3:(j+1) / S=j / S:=by
     refine Nat.div_eq_of_lt_le ?_ ?_
     ·rw[h5_];omega
     ·rw[h5_,Nat.mul_add];omega
    rw[h2,h3]
    simp
theorem ao4 (S:Nat):∀ W,List.replicate W (0:Int)=dig S W 0
 | 0=>rfl
 | W+1=>by rw[dig,Nat.zero_div,Nat.zero_mod,← ao4 S W,List.replicate_succ'];rfl
noncomputable def ba3 (l:aa_) (n:Int) (c:List Int):Option ((Unit×(Unit×((List Int)×((Int×Unit)×Unit))))⊕((Unit×(Unit×((List Int)×((Int×Unit)×Unit))))⊕(Int×Unit))) :=
 ((ad_ (odoB l) ((w64 (l.1 - 1)),(c,()))).bind λv9 =>
 (cond (decide (v9.1<0))
 (some (inr (inr (n,()))))
 ((at? v9.2.1 v9.1).bind λv10 =>
 ((at? v9.2.1 v9.1).bind λv11 =>
 ((at? v9.2.1 v9.1).bind λv12 =>
 ((at? v9.2.1 v9.1).bind λv13 =>
 (some (inl ((),((),((v9.2.1.set v9.1.toNat (w64 (v11+1))),((n,()),()))))))))))))
noncomputable def cntX (a0:aa_) (a1:List ab_):Option (Int×Unit) :=
 ((mk? (α:=Int) a0.1 0).bind λv0 =>
 ((ad_ (ρ:=((Unit×(Unit×((List Int)×((Int×Unit)×Unit))))⊕(Int×Unit))) (λ(v1:(Unit×(Unit×((List Int)×((Int×Unit)×Unit))))) =>
 ((cp_ a1 v1.2.2.1).bind λv2 =>
 (cond (decide (v2.1<0)) (ba3 a0 (w64 (v1.2.2.2.1.1+1)) v1.2.2.1) (ba3 a0 v1.2.2.2.1.1 v1.2.2.1)))) ((),((),(v0,((0,()),()))))).bind λv25 =>
 (bl_ v25 (λv26=>(some (v26.2.2.2.1.1,())))
 (λv27=>(some v27)))))
theorem cntX_eq:cn_=cntX:=by kernel_rfl
theorem as3 {l:aa_} (hl:Lk l) {cl:List ab_} (hn:cl.length≤20) (hc:∀ c ∈ cl,dx_ l c=true):cn_ l cl=some (((rdg l cl).length:Int),()):=by
  have w1:=hl.w1;have w2:=hl.w2;have s1:=hl.s1;have s2:=hl.s2
  obtain⟨W,hW⟩:∃ W:Nat,l.1=(W:Int):=⟨l.1.toNat,by omega⟩
  obtain⟨S,hS⟩:∃ S:Nat,l.2=(S:Int):=⟨l.2.toNat,by omega⟩
  have hpow:S ^ W≤10000:=by have:=pow_bd hl;rwa [hW,hS,e7_,e7_] at this
  have hSp:0<S:=by omega
  have hN:0<S ^ W:=Nat.pow_pos hSp
  have hlen:=ri_ S W
  have hok:∀ j,j<S ^ W→cy_ l (dig S W j)=true:=λj hj=>(bs3 hl).1 (by rw[hW,hS,e7_,e7_];exact b3_ (rj_ hSp W j hj))
  let cn:Nat→Nat:=λj=>(((kg_ S W).take j).filter λc=>cl.all (tr · c)).length
  have hcn:∀ j,j<S ^ W→cn j≤j∧cn (j+1)=cond (cl.all (tr · (dig S W j))) (cn j+1) (cn j):=by
    intro j hj
    constructor
    · have hb:=List.length_filter_le (λc=>cl.all (tr · c)) ((kg_ S W).take j)
      rw[c0_] at hb
      exact d6_ hb (Nat.min_le_left _ _)
    · show (((kg_ S W).take (j+1)).filter _).length=_
      rw[h0_,rj_ hSp W j hj,List.filter_append,c4_]
      cases hp:cl.all (tr · (dig S W j))<;>simp[hp,cn]
  have step:∀ j,j<S ^ W→∀ m:Int,(j+1<S ^ W→ba3 l m (dig S W j)=some (inl ((),((),(dig S W (j+1),((m,()),()))))))∧(j+1=S ^ W→ba3 l m (dig S W j)=some (inr (inr (m,())))):=by
    intro j hj m
    obtain⟨i,c,o1,o2,o3⟩:=odo hl hS W j 0 (by omega)
    simp only[List.replicate_zero,d7_] at o1 o3
    rw[← hW,← hl.ww] at o1
    constructor
    · intro h
      obtain⟨p1,x,p2,p3⟩:=o3 h
      unfold ba3
      rw[o1,a0_]
      simp only[show decide (i<0)=false from c6_ (by omega),a4_,p2,a0_,p3]
    · intro h
      unfold ba3
      rw[o1,a0_]
      simp only[show decide (i<0)=true from c1_ (o2 h),a6_]
  have body:∀ j,j<S ^ W→(((cp_ cl (dig S W j)).bind λv2=>(cond (decide (v2.1<0)) (ba3 l (w64 ((cn j:Int)+1)) (dig S W j)) (ba3 l (cn j) (dig S W j)))))=ba3 l ((cn (j+1):Nat):Int) (dig S W j):=by
    intro j hj
    obtain⟨r,r1,r2⟩:=aj2 hl hn hc (hok j hj)
    obtain⟨q1,q2⟩:=hcn j hj
    rw[r1,a0_,r2,q2]
    cases cl.all (tr · (dig S W j)) with
    | false=>rfl
    | true=>rw[a6_,a6_,bj_ (show Sm (cn j) by unfold Sm;omega)]
  rw[cntX_eq]
  unfold cntX
  rw[bv7 (by omega) (by omega),a0_,show l.1.toNat=W by omega,ao4 S W]
  have hw:=au2 (n:=S ^ W - 1) (F:=λj=>((),((),(dig S W j,(((cn j:Int),()),()))))) (r:=inr ((cn (S ^ W):Int),())) (body:=λ(v1:(Unit×(Unit×((List Int)×((Int×Unit)×Unit))))) =>
 ((cp_ cl v1.2.2.1).bind λv2 =>
 (cond (decide (v2.1<0)) (ba3 l (w64 (v1.2.2.2.1.1+1)) v1.2.2.1) (ba3 l v1.2.2.2.1.1 v1.2.2.1)))) (λj hj=>(body j (by omega)).trans ((step j (by omega) _).1 (by omega))) ((body (S ^ W - 1) (by omega)).trans (by
    rw[show S ^ W - 1+1=S ^ W by omega]
    exact (step (S ^ W - 1) (by omega) _).2 (by omega)))
  refine (congrArg (λo=>Option.bind o _) (show ad_ _ _=_ from hw)).trans ?_
  have e:cn (S ^ W)=(rdg l cl).length:=by
    show (((kg_ S W).take (S ^ W)).filter _).length=_
    rw[← hlen,f5_]
    unfold rdg
    rw[hW,hS,e7_,e7_]
  rw[a0_,← e]
  rfl
theorem rg_ {l:aa_} (hl:Lk l) {cl:List ab_} (hn:cl.length≤20) (hc:∀ c ∈ cl,dx_ l c=true):bv_ l cl=some (0,()):=by
  unfold bv_
  rw[kf_,os_.2 hl,if_pos rfl,a0_]
  have:=qc_ (l:=cl) (by unfold Sm;omega) (λc=>!(dx_ l c)) (body:=λ(v1:(Int×Unit)) =>
 (cond (decide (v1.1<(cl.length:Int)))
 ((at? cl v1.1).bind λv2 =>
 ((bt_ l v2).bind λv3 =>
 (cond (!v3.1)
 (some (inr (inr ((decide (0≤v1.1)),()))))
 (some (inl ((w64 (v1.1+1)),()))))))
 (some (inr (inl ()))))) (λi y hy=>by
    simp only[dlt (al_ hy),a6_,ah_ hy,a0_,mx_ hl]
    cases dx_ l y<;>rfl) (by simp only[dnl,a4_])
  have ha:(cl.any λc=>!(dx_ l c))=false:=by
    rw[List.any_eq_false]
    intro c h
    simp[hc c h]
  rw[ha] at this
  simp only[show decide ((20:Int)<(cl.length:Int))=false from c6_ (by omega),g9_,a4_,this,a0_]
theorem ac1 {l:aa_} (hl:Lk l) {cl:List ab_} (hn:cl.length≤20) (hc:∀ c ∈ cl,dx_ l c=true):bp_ l cl=some (((rdg l cl).length:Int),(0,())):=by
 unfold bp_
 rw[rg_ hl hn hc,a0_]
 simp only[g9_,a4_,as3 hl hn hc,a0_]
theorem ac0 {l:aa_} (hl:Lk l) (c:ab_) {k:List Int} (hk:cy_ l k=true):dr_ l c k=some (cond (dx_ l c) (tr c k) false,(cond (dx_ l c) 0 11,())):=by
 unfold dr_
 rw[sm_ hl,a0_]
 cases hc:dx_ l c with
 | false=>rfl
 | true =>
  simp only[a6_,g9_,a4_]
  rw[lv_,os_.2 hl,if_pos rfl,hk,if_pos rfl,a0_]
  simp only[g9_,a4_,(ra_ hl hc hk).2,a0_]
theorem ag9 {l:aa_} (hl:Lk l) {c:ab_} {k:List Int} (hc:dx_ l c=true) (hk:cy_ l k=true):hx_ c k=some (tr c k,()):=(ra_ hl hc hk).1
end
section
theorem zero_eq:jn_=jx_:=rfl
def clOk (l:aa_) (c:ab_) (k:List Int):Bool:=dx_ l c&&tr c k
end
section
set_option maxRecDepth 10000
def bk3 (c:ab_):Bool:=c.1==0&&(c.2.1==0&&(c.2.2.1==0&&(c.2.2.2.1==0&&(c.2.2.2.2.1==0&&(((c.2.2.2.2.2.1.length:Int)==0)&&!c.2.2.2.2.2.2)))))
theorem zu_ (c:ab_):jn_ c=some (bk3 c,()):=by
 unfold jn_ bk3
 cases c.1==0 with
 | false=>rfl
 | true =>
 cases c.2.1==0 with
 | false=>rfl
 | true =>
 cases c.2.2.1==0 with
 | false=>rfl
 | true =>
 cases c.2.2.2.1==0 with
 | false=>rfl
 | true =>
 cases c.2.2.2.2.1==0 with
 | false=>rfl
 | true=>cases (c.2.2.2.2.2.1.length:Int)==0<;>rfl
theorem ar6 (c:ab_):jx_ c=some (bk3 c,()):=by rw[← zero_eq];exact zu_ c
def twNt (g:ac_) (i:Nat) (n:cu_):Bool:=(g.2.2.2.1.take i).any λy=>y.1==n.1
def cdOk (g:ac_) (i:Nat) (l:aa_):Bool:=match g.2.2.1[i]? with
 | some k=>cy_ l k
 | none=>false
noncomputable def ba4 (g:ac_) (i:Nat) (n:cu_):Bool:=okN n.1&&(!(twNt g i n)&&(wi n.2.1 0 (w64 ((g.1.1.length:Int) - 1))&&(wi n.2.2.1 (-1) (w64 ((g.2.1.length:Int) - 1))&&(cond (decide (n.2.2.1<0)) (bk3 n.2.2.2.2) (match at? g.2.1 n.2.2.1,at? g.2.2.1 n.2.2.1 with
 | some l,some k=>clOk l n.2.2.2.2 k
 | _,_=>false)))))
def LkAll (g:ac_):Prop:=∀ (i:Nat) l,g.2.1[i]?=some l→Lk l∧∃ k,g.2.2.1[i]?=some k∧cy_ l k=true
theorem LkAll.at {g:ac_} (hg:SmG g) (h:LkAll g) {i:Int} (h0:¬ i<0) (hw:wi i (-1) (w64 ((g.2.1.length:Int) - 1))=true):∃ l k,at? g.2.1 i=some l∧at? g.2.2.1 i=some k∧Lk l∧cy_ l k=true:=by
 have hlk:=hg.lk
 rw[wy_ (by omega) (by omega)] at hw
 have hw:=gl_.1 hw
 obtain⟨l,hl⟩:=cz_ (l:=g.2.1) (i:=i.toNat) (by omega)
 obtain⟨h1,k,hk,h2⟩:=h _ l hl
 have hi:i=((i.toNat:Nat):Int):=by omega
 exact⟨l,k,by rw[hi];exact ah_ hl,by rw[hi];exact ah_ hk,h1,h2⟩
theorem ar9 {g:ac_} (hg:SmG g) (hL:LkAll g) {i:Nat} {n:cu_} (hn:g.2.2.2.1[i]?=some n):jz_ g (i:Int) n=some (ba4 g i n,()):=by
 have hi:=al_ hn
 have hs:=hg.nt
 have hnm:=(hg.ntn n (cg_ hn)).1
 have ht:Sm (g.2.2.2.1.take i).length:=by rw[c0_];show _≤1000000000;omega
 unfold jz_
 rw[no_ (e1_ hi),a0_]
 refine e2_ (congrArg (λo=>Option.bind o _) (qc_ ht (λy=>y.1==n.1) (λk y hy => ?_) ?_)) ?_
 ·simp only[dlt (al_ hy),a6_,ah_ hy,a0_]
  cases y.1==n.1<;>rfl
 ·simp only[dnl,a4_]
 rw[a0_]
 simp only[az1 (show Sm n.1.length by show _≤1000000000;omega),lk_,a0_]
 unfold ba4 okN twNt
 cases okW n.1 with
 | false=>simp only[h9_,d4_];rfl
 | true =>
 by_cases h12:(n.1.length:Int)≤12
 ·rw[c1_ h12,c6_ (by omega:¬ 12<(n.1.length:Int))]
  cases (g.2.2.2.1.take i).any λy=>y.1==n.1 with
  | true=>rfl
  | false =>
  cases wi n.2.1 0 (w64 ((g.1.1.length:Int) - 1)) with
  | false=>rfl
  | true =>
  cases hw:wi n.2.2.1 (-1) (w64 ((g.2.1.length:Int) - 1)) with
  | false=>rfl
  | true =>
  cases hz:decide (n.2.2.1<0) with
  | true=>simp only[zu_];rfl
  | false =>
  obtain⟨l,k,e1,e2,h1,h2⟩:=hL.at hg (c9_ hz) hw
  simp only[e1,e2,e4_,i9_,a4_,a0_,ac0 h1 _ h2,b9_]
  unfold clOk
  cases dx_ l n.2.2.2.2<;>rfl
 ·rw[c6_ h12,c1_ (by omega:12<(n.1.length:Int))]
  rfl
theorem ag6 {g:ac_} (hg:SmG g) (hL:LkAll g) {i:Nat} {n:cu_} (hn:g.2.2.2.1[i]?=some n):iw_ g (i:Int)=some (ba4 g i n,()):=by
 have hi:=al_ hn
 have hs:=hg.nt
 have hnm:=(hg.ntn n (cg_ hn)).1
 have hgs:Sm n.2.2.2.2.2.2.2.2.2.1.length:=d6_ (hg.ntn n (cg_ hn)).2.2 (by decide)
 have hle:(g.2.2.2.1.take i).length=i:=by rw[c0_];omega
 unfold iw_
 rw[ah_ hn,a0_]
 refine bu_ (g.2.2.2.1.take i) (λ_ y=>cond (y.1==n.1) (some (inr (false,()):Unit⊕(Bool×Unit))) none) (λi=>((i:Int),())) (r0:=inl ()) (λk y hy => ?_) ?_ ?_
 ·have hk:=al_ hy
  have hy':g.2.2.2.1[k]?=some y:=by
   rw[g1_] at hy
   split at hy
   ·exact hy
   ·cases hy
  simp only[dlt (show k<i by omega),a6_,ah_ hy',a0_,bj_ (show Sm k by show _≤1000000000;omega)]
  cases y.1==n.1<;>rfl
 ·rw[hle]
  simp only[dnl,a4_]
 rw[hi_ (q:=λy:cu_=>y.1==n.1)]
 unfold ba4 twNt
 cases (g.2.2.2.1.take i).any λy=>y.1==n.1 with
 | true=>simp only[e4_,d4_,h9_];rfl
 | false =>
 simp only[a4_,i7_]
 unfold bl_
 simp only[jh_ (show Sm n.1.length by show _≤1000000000;omega),qt_,a0_]
 cases okN n.1 with
 | false=>rfl
 | true =>
 cases wi n.2.1 0 (w64 ((g.1.1.length:Int) - 1)) with
 | false=>rfl
 | true =>
 cases hw:wi n.2.2.1 (-1) (w64 ((g.2.1.length:Int) - 1)) with
 | false=>rfl
 | true =>
 cases hz:decide (n.2.2.1<0) with
 | true =>
  have hz:=f1_ hz
  have:=gl_.1 hw
  rw[show (n.2.2.1==-1)=true by rw[j6_];omega]
  simp only[ar6]
  rfl
 | false =>
  have hz:=c9_ hz
  obtain⟨l,k,e1,e2,h1,h2⟩:=hL.at hg hz hw
  rw[show (n.2.2.1==-1)=false by rw[beq_eq_false_iff_ne];omega]
  simp only[e1,e2,e4_,i9_,a4_,a0_,si_ h1 hgs,b9_]
  unfold clOk
  cases hc:dx_ l n.2.2.2.2 with
  | false=>rfl
  | true =>
   simp only[a6_,show ((0:Int)==0)=true from rfl,ag9 h1 hc h2]
   rfl
noncomputable def fk_ (g:ac_):Int :=
  cond (ib_ g.1 != 0) (ib_ g.1) (cond (decide (8<(g.2.1.length:Int))||decide (16<(g.2.2.2.1.length:Int))) 2
   ((gn_ (λ_ l=>jo_ (okL l) 10) 0 g.2.1).getD
    (cond ((g.2.2.1.length:Int) != (g.2.1.length:Int)) 12
     ((gn_ (λi l=>jo_ (cdOk g i l) 12) 0 g.2.1).getD
      ((gn_ (λ_ (a:dz_)=>jo_ (!(decide ((g.2.1.length:Int)≤a.2.2.1))) 26) 0 g.1.2.2.2.2.1).getD
       ((gn_ (λi n=>ql_ (ba4 g i n) 40 (cOk g.1.2.1 n.2.2.2.1) 25) 0 g.2.2.2.1).getD
        (cond (wi g.2.2.2.2 1 100) 0 1)))))))
theorem kh_ {o:Option Int} {K:Unit→Option (Int×Unit)} {k:Int} (h:o=none→K ()=some (k,())):bl_ (left o) K (λy=>some y)=some (o.getD k,()):=by
 cases o with
 | none=>exact h rfl
 | some e=>rfl
theorem bb7 {g:ac_} (h1:gn_ (λ_ l=>jo_ (okL l) 10) 0 g.2.1=none) (h2:gn_ (λi l=>jo_ (cdOk g i l) 12) 0 g.2.1=none):LkAll g:=by
 intro i l hl
 refine⟨os_.1 (fr_ (bz_ h1 hl)),?_⟩
 have:=fr_ (bz_ h2 hl)
 unfold cdOk at this
 cases hk:g.2.2.1[i]? with
 | none=>rw[hk] at this;cases this
 | some k=>rw[hk] at this;exact⟨k,rfl,this⟩
theorem mn_of (g:ac_):(cond (decide (8<(g.2.1.length:Int))) (some (true,())) (some ((decide (16<(g.2.2.2.1.length:Int))),())))=some (decide (8<(g.2.1.length:Int))||decide (16<(g.2.2.2.1.length:Int)),()):=by
 cases decide (8<(g.2.1.length:Int))<;>rfl
theorem as0 {g:ac_} (hg:SmG g):ka_ g=some (fk_ g,()):=by
 have hlk:=hg.lk
 have hac:=hg.ac
 have hnt:=hg.nt
 unfold ka_ fk_
 rw[vv_ hg.room,a0_]
 cases hr:ib_ g.1 != 0 with
 | true=>rfl
 | false =>
 simp only[a4_]
 refine e2_ (congrArg (λo=>Option.bind o _) (mn_of g)) ?_
 rw[a0_]
 cases hm:(decide (8<(g.2.1.length:Int))||decide (16<(g.2.2.2.1.length:Int))) with
 | true=>rfl
 | false =>
 simp only[a4_]
 refine bi_ g.2.1 (λ_ l=>jo_ (okL l) 10) (λi y hy => ?_) ?_ (kh_ λhA => ?_)
 ·have hi:=al_ hy
  simp only[dlt hi,a6_,ah_ hy,a0_,bj_ (show Sm i by show _≤1000000000;omega),kf_]
  unfold jo_
  cases okL y<;>rfl
 ·simp only[dnl,a4_]
 cases hcl:((g.2.2.1.length:Int) != (g.2.1.length:Int)) with
 | true=>rfl
 | false =>
 have hcl:(g.2.2.1.length:Int)=(g.2.1.length:Int):=by simpa using hcl
 simp only[a4_]
 refine bi_ g.2.1 (λi l=>jo_ (cdOk g i l) 12) (λi y hy => ?_) ?_ (kh_ λhB => ?_)
 ·have hi:=al_ hy
  obtain⟨k,hk⟩:=cz_ (l:=g.2.2.1) (i:=i) (by omega)
  have hy1:=fr_ (bz_ hA hy)
  simp only[dlt hi,a6_,ah_ hy,ah_ hk,a0_,bj_ (show Sm i by show _≤1000000000;omega),lv_,hy1]
  unfold jo_ cdOk
  rw[hk]
  simp only
  cases cy_ y k<;>rfl
 ·simp only[dnl,a4_]
 refine bi_ g.1.2.2.2.2.1 (λ_ (a:dz_)=>jo_ (!(decide ((g.2.1.length:Int)≤a.2.2.1))) 26) (λi y hy => ?_) ?_ (kh_ λhC => ?_)
 ·have hi:=al_ hy
  simp only[dlt hi,a6_,ah_ hy,a0_,bj_ (show Sm i by show _≤1000000000;omega)]
  unfold jo_
  cases decide ((g.2.1.length:Int)≤y.2.2.1)<;>rfl
 ·simp only[dnl,a4_]
 have hL:=bb7 hA hB
 refine bi_ g.2.2.2.1 (λi n=>ql_ (ba4 g i n) 40 (cOk g.1.2.1 n.2.2.2.1) 25) (λi y hy => ?_) ?_ (kh_ λhD => ?_)
 ·have hi:=al_ hy
  simp only[dlt hi,a6_,ah_ hy,a0_,bj_ (show Sm i by show _≤1000000000;omega),ar9 hg hL hy,ar8 hg.room.th]
  unfold ql_
  cases ba4 g i y with
  | false=>rfl
  | true=>cases cOk g.1.2.1 y.2.2.2.1<;>rfl
 ·simp only[dnl,a4_]
 rw[lk_,a0_]
 cases wi g.2.2.2.2 1 100<;>rfl
theorem ag8 {g:ac_} (hg:SmG g):iy_ g=some (fk_ g,()):=by
 have hlk:=hg.lk
 have hac:=hg.ac
 have hnt:=hg.nt
 unfold iy_ fk_
 rw[tv_ hg.room,a0_]
 cases hr:ib_ g.1 != 0 with
 | true=>rfl
 | false =>
 simp only[a4_]
 refine e2_ (congrArg (λo=>Option.bind o _) (mn_of g)) ?_
 rw[a0_]
 cases hm:(decide (8<(g.2.1.length:Int))||decide (16<(g.2.2.2.1.length:Int))) with
 | true=>rfl
 | false =>
 simp only[a4_]
 refine bi_ g.2.1 (λ_ l=>jo_ (okL l) 10) (λi y hy => ?_) ?_ (kh_ λhA => ?_)
 ·have hi:=al_ hy
  simp only[dlt hi,a6_,ah_ hy,a0_,bj_ (show Sm i by show _≤1000000000;omega),mi_]
  unfold jo_
  cases okL y<;>rfl
 ·simp only[dnl,a4_]
 cases hcl:((g.2.2.1.length:Int) != (g.2.1.length:Int)) with
 | true=>rfl
 | false =>
 have hcl:(g.2.2.1.length:Int)=(g.2.1.length:Int):=by simpa using hcl
 simp only[a4_]
 refine bi_ g.2.1 (λi l=>jo_ (cdOk g i l) 12) (λi y hy => ?_) ?_ (kh_ λhB => ?_)
 ·have hi:=al_ hy
  obtain⟨k,hk⟩:=cz_ (l:=g.2.2.1) (i:=i) (by omega)
  have hy1:=fr_ (bz_ hA hy)
  simp only[dlt (show i<g.2.2.1.length by omega),a6_,ah_ hy,ah_ hk,a0_,bj_ (show Sm i by show _≤1000000000;omega),sh_,hy1]
  unfold jo_ cdOk
  rw[hk]
  simp only
  cases cy_ y k<;>rfl
 ·rw[← hcl]
  simp only[dnl,a4_]
 refine bi_ g.1.2.2.2.2.1 (λ_ (a:dz_)=>jo_ (!(decide ((g.2.1.length:Int)≤a.2.2.1))) 26) (λi y hy => ?_) ?_ (kh_ λhC => ?_)
 ·have hi:=al_ hy
  simp only[dlt hi,a6_,ah_ hy,a0_,bj_ (show Sm i by show _≤1000000000;omega)]
  unfold jo_
  cases decide ((g.2.1.length:Int)≤y.2.2.1)<;>rfl
 ·simp only[dnl,a4_]
 have hL:=bb7 hA hB
 refine bi_ g.2.2.2.1 (λi n=>ql_ (ba4 g i n) 40 (cOk g.1.2.1 n.2.2.2.1) 25) (λi y hy => ?_) ?_ (kh_ λhD => ?_)
 ·have hi:=al_ hy
  have hw:=(hg.ntn y (cg_ hy)).2.1
  simp only[dlt hi,a6_,ah_ hy,a0_,bj_ (show Sm i by show _≤1000000000;omega),ag6 hg hL hy,ge_ hg.room.th (show Sm y.2.2.2.1.length by show _≤1000000000;omega)]
  unfold ql_
  cases ba4 g i y with
  | false=>rfl
  | true=>cases cOk g.1.2.1 y.2.2.2.1<;>rfl
 ·simp only[dnl,a4_]
 rw[qt_,a0_]
 cases wi g.2.2.2.2 1 100<;>rfl
structure OkG (g:ac_):Prop where
 room:ib_ g.1=0
 n8:g.2.1.length≤8
 n16:g.2.2.2.1.length≤16
 lk:LkAll g
 cd:g.2.2.1.length=g.2.1.length
 ac:∀ (i:Nat) (a:dz_),g.1.2.2.2.2.1[i]?=some a→a.2.2.1<(g.2.1.length:Int)
 nt:∀ (i:Nat) n,g.2.2.2.1[i]?=some n→ba4 g i n=true∧cOk g.1.2.1 n.2.2.2.1=true
 tr:wi g.2.2.2.2 1 100=true
theorem le_ {g:ac_} (h:fk_ g=0):OkG g:=by
 unfold fk_ at h
 cases hr:ib_ g.1 != 0 with
 | true =>
  rw[hr] at h
  rw[bne_iff_ne] at hr
  exact absurd h hr
 | false =>
 rw[hr,a4_] at h
 cases hm:(decide (8<(g.2.1.length:Int))||decide (16<(g.2.2.2.1.length:Int))) with
 | true=>rw[hm] at h;exact absurd (show (2:Int)=0 from h) (by decide)
 | false =>
 rw[hm,a4_] at h
 rw[b5_] at hm
 have m1:=c9_ hm.1
 have m2:=c9_ hm.2
 obtain⟨hA,h⟩:=di_ h (gm_ (λi x=>mt_ (by decide)) _ _)
 cases hcl:((g.2.2.1.length:Int) != (g.2.1.length:Int)) with
 | true=>rw[hcl] at h;exact absurd (show (12:Int)=0 from h) (by decide)
 | false =>
 rw[hcl,a4_] at h
 have hcl:(g.2.2.1.length:Int)=(g.2.1.length:Int):=by simpa using hcl
 obtain⟨hB,h⟩:=di_ h (gm_ (λi x=>mt_ (by decide)) _ _)
 obtain⟨hC,h⟩:=di_ h (gm_ (λi x=>mt_ (by decide)) _ _)
 obtain⟨hD,h⟩:=di_ h (gm_ (λi x=>uu_ (by decide) (by decide)) _ _)
 refine⟨by simpa using hr,by omega,by omega,bb7 hA hB,by omega,λi a ha => ?_,λi n hn=>ms_ (bz_ hD hn),?_⟩
 ·have:=fr_ (bz_ hC ha)
  simpa using this
 ·cases hw:wi g.2.2.2.2 1 100 with
  | true=>rfl
  | false=>rw[hw] at h;exact absurd (show (1:Int)=0 from h) (by decide)
end
section
set_option maxRecDepth 10000
theorem jd_ {σ ρ:Type} {body:σ→Option (σ⊕ρ)} {s t:σ} {r:ρ} (h:body s=some (.inl t)) (e:ad_ body t=some r):ad_ body s=some r:=by
 obtain⟨k,hk⟩:=gb_.1 e
 exact nh_ (k:=k+1) (by rw[ai7 h];exact hk)
theorem nj_ {σ ρ:Type} {body:σ→Option (σ⊕ρ)} {s:σ} {r:ρ} (h:body s=some (.inr r)):ad_ body s=some r:=nh_ (k:=1) (ta_ h)
def handN (pr:List Int) (h:Int):Nat:=pr.countP (· == h)
abbrev hdl (m:fi_):Int:=w64 ((-2) - m.1)
def lgl (r:ag_) (s:az_) (m:fi_):Bool :=
  wi m.1 0 (w64 ((s.2.2.length:Int) - 1)) &&
  cond (m.2.1==1) ((at? r.2.2.2.1 m.2.2).elim false λw=>(w.1==gi s.2.2 m.1||w.2.1==gi s.2.2 m.1)&&bd5 s.1 w.2.2)
  (cond (m.2.1==2) ((at? r.2.2.1 m.2.2).elim false λx=>gi s.2.1 m.2.2==gi s.2.2 m.1&&(bd5 s.1 x.2.2&&decide ((handN s.2.1 (hdl m):Int)<3)))
  (cond (m.2.1==3) ((at? s.2.1 m.2.2).elim false λp=>p==hdl m)
  (cond (m.2.1==4) ((at? r.2.2.2.2.1 m.2.2).elim false λa=>a.2.1==gi s.2.2 m.1&&((a.2.2.2.1.all λp=>gi s.2.1 p==hdl m)&&(bd5 s.1 a.2.2.2.2.1&&((a.2.2.2.2.2.2.2.all λp=>gi s.2.1 p==-1)&&decide ((handN s.2.1 (hdl m):Int) - (a.2.2.2.2.2.2.1.length:Int)+(a.2.2.2.2.2.2.2.length:Int)≤3)))))
   false)))
def mvP (r:ag_) (s:az_) (m:fi_):az_ :=
  cond (m.2.1==1) ((at? r.2.2.2.1 m.2.2).elim s λw=>(s.1,(s.2.1,s.2.2.set m.1.toNat (w.1+w.2.1 - gi s.2.2 m.1))))
  (cond (m.2.1==2) (s.1,(s.2.1.set m.2.2.toNat (hdl m),s.2.2))
  (cond (m.2.1==3) (s.1,(s.2.1.set m.2.2.toNat (gi s.2.2 m.1),s.2.2))
  (cond (m.2.1==4) ((at? r.2.2.2.2.1 m.2.2).elim s λa=>(a.2.2.2.2.2.1.foldl (λt x=>t.set x.1.toNat x.2) s.1,(a.2.2.2.2.2.2.2.foldl (λt p=>t.set p.toNat (hdl m)) (a.2.2.2.2.2.2.1.foldl (λt p=>t.set p.toNat (-1)) s.2.1),s.2.2)))
   s)))
end
end Go.Proofs.YtlbfbdbagohinaaGreatDoor.Rx
namespace Go.Proofs.YtlbfbdbagohinaaGreatDoor.Rx
open Go Pad Rex Go.Proofs Go.Proofs.Tryz Sum
section
set_option maxRecDepth 100000
def fstA (r:ag_) (th:List Int):Option (List cl_×aa_):=r.2.2.2.2.2.1.find? λy=>(gi th y.2.1 != y.2.2)&&bd5 th y.1
def stl (r:ag_):Nat→List Int→Option (List Int)
 | 0,_=>none
 | n+1,th=>match fstA r th with
  | none=>some th
  | some y=>stl r n (th.set y.2.1.toNat y.2.2)
def stepR (r:ag_) (s:az_) (m:fi_):Option az_:=(stl r 101 (mvP r s m).1).map λth=>(th,(mvP r s m).2)
end
section
set_option maxRecDepth 100000
def rdB (s:az_) (n:cu_) (b:Bool):Bool:=b||(bd5 s.1 n.2.2.2.1&&s.2.2.contains n.2.1)
def rdN (g:ac_) (s:az_) (d:List Bool):List Bool:=List.zipWith (rdB s) g.2.2.2.1 d
def ac3 (g:ac_) (d:List Bool) (lock:Int):List ab_:=(g.2.2.2.1.zip d).filterMap λx=>cond (x.1.2.2.1==lock&&x.2) (some x.1.2.2.2.2) none
theorem ao6 {g:ac_} {d:List Bool} {lock:Int} {c:ab_} (h:c ∈ ac3 g d lock):∃ (i:Nat) (n:cu_),g.2.2.2.1[i]?=some n∧n.2.2.1=lock∧n.2.2.2.2=c:=by
 unfold ac3 at h
 obtain⟨x,hx,he⟩:=List.mem_filterMap.1 h
 obtain⟨i,hi⟩:=g6_ (List.of_mem_zip hx).1
 cases hq:(x.1.2.2.1==lock&&x.2) with
 | false=>rw[hq] at he;cases he
 | true =>
  rw[hq] at he
  rw[a1_,j6_] at hq
  exact⟨i,x.1,hi,hq.1,a8_ he⟩
theorem ao7 {g:ac_} (hg:SmG g) (d:List Bool) (lock:Int):(ac3 g d lock).length≤20:=by
 unfold ac3
 refine d6_ (l6_ ..) ?_
 rw[j3_]
 have:=hg.nt
 omega
theorem nt_clue {g:ac_} (ok:OkG g) {i:Nat} {n:cu_} (hn:g.2.2.2.1[i]?=some n) {l:aa_} (h0:0≤n.2.2.1) (hl:at? g.2.1 n.2.2.1=some l):dx_ l n.2.2.2.2=true:=by
 have h:=(ok.nt i n hn).1
 unfold ba4 at h
 simp only[a1_] at h
 have h5:=h.2.2.2.2
 rw[c6_ (by omega),hl] at h5
 simp only[a4_] at h5
 cases hk:at? g.2.2.1 n.2.2.1 with
 | none=>rw[hk] at h5;cases h5
 | some k =>
  rw[hk] at h5
  have h5:clOk l n.2.2.2.2 k=true:=h5
  unfold clOk at h5
  rw[a1_] at h5
  exact h5.1
noncomputable def rdC (g:ac_) (d:List Bool) (lock:Int) (l:aa_):Int:=((rdg l ((ac3 g d lock))).length:Int)
theorem bg3 {g:ac_} (hg:SmG g) (ok:OkG g) (d:List Bool) {lock:Int} (h0:0≤lock) {l:aa_} (hl:at? g.2.1 lock=some l):bp_ l (ac3 g d lock)=some (rdC g d lock l,(0,())):=by
 obtain⟨_,_,l1⟩:=fu_ hl
 refine ac1 (ok.lk _ l l1).1 (ao7 hg d lock) λc hc => ?_
 obtain⟨i,n,hn,rfl,rfl⟩:=ao6 hc
 exact nt_clue ok hn h0 hl
noncomputable def opn (g:ac_) (d:List Bool) (lock:Int):Bool:=cond (decide (lock<0)) true ((at? g.2.1 lock).elim false λl=>decide (rdC g d lock l≤g.2.2.2.2))
noncomputable def abB (a0:ac_) (v1:List Bool) (lock:Int):(List Int×(List ab_×(Int×Unit)))→Option ((List Int×(List ab_×(Int×Unit)))⊕(List Int×(List ab_×Unit))) :=
 (λ(v4:((List Int)×((List ab_)×(Int×Unit)))) =>
 (cond (decide (v4.2.2.1<(a0.2.2.2.1.length:Int)))
 ((((at? a0.2.2.2.1 v4.2.2.1).bind λv5 =>
 (((cond (v5.2.2.1==lock)
 ((at? v1 v4.2.2.1).bind λv6 =>
 ((at? v1 v4.2.2.1).bind λv7 =>
 (some (v7,()))))
 (some (false,())))).bind λv8 =>
 (cond v8.1
 ((push? (α:=Int) v4.1 [v4.2.2.1]).bind λv9 =>
 ((push? (α:=ab_) v4.2.1 [v5.2.2.2.2]).bind λv10 =>
 (some (v9,(v10,())))))
 (some (v4.1,(v4.2.1,()))))))).bind λv11 =>
 (some (inl (v11.1,(v11.2.1,((w64 (v4.2.2.1+1)),()))))))
 (some (inr (v4.1,(v4.2.1,()))))))
theorem ab_loop {g:ac_} (hg:SmG g) {d:List Bool} (hd:d.length=g.2.2.2.1.length) (lock:Int):∃ q,ad_ (abB g d lock) ([],([],(0,())))=some (q,(ac3 g d lock,())):=by
 have hn:=hg.nt
 suffices hk:∃ r,ad_ (abB g d lock) ([],([],(0,())))=some r∧∃ q,r=(q,(ac3 g d lock,())) by
  obtain⟨z,ez,q,rfl⟩:=hk
  exact⟨q,ez⟩
 refine qm_ (λ(i:Nat) (z:List Int×(List ab_×(Int×Unit)))=>∃ q,z=(q,(((g.2.2.2.1.zip d).take i).filterMap (λx=>cond (x.1.2.2.1==lock&&x.2) (some x.1.2.2.2.2) none),((i:Int),())))∧q.length≤i) (λw=>∃ q,w=(q,(ac3 g d lock,()))) g.2.2.2.1.length 0 ([],([],(0,()))) ⟨[],rfl,c2_ _⟩ (λj z h1 h2 hz=>.inl ?_) (λz hz => ?_)
 ·obtain⟨q,rfl,hq⟩:=hz
  obtain⟨x,hx⟩:=cz_ (l:=g.2.2.2.1) (i:=j) (by omega)
  obtain⟨y,hy⟩:=cz_ (l:=d) (i:=j) (by omega)
  have hzip:(g.2.2.2.1.zip d)[j]?=some (x,y):=by rw[e3_];exact⟨hx,hy⟩
  have hlen:(((g.2.2.2.1.zip d).take j).filterMap (λx=>cond (x.1.2.2.1==lock&&x.2) (some x.1.2.2.2.2) none)).length≤j:=by
   refine d6_ (l6_ ..) ?_
   rw[c0_];omega
  have hstep:((g.2.2.2.1.zip d).take (j+1)).filterMap (λx=>cond (x.1.2.2.1==lock&&x.2) (some x.1.2.2.2.2) none)=((g.2.2.2.1.zip d).take j).filterMap (λx=>cond (x.1.2.2.1==lock&&x.2) (some x.1.2.2.2.2) none)++cond (x.2.2.1==lock&&y) [x.2.2.2.2] []:=by
   rw[h0_,hzip,h6_]
   cases hc:(x.2.2.1==lock&&y) with
   | false=>simp[hc]
   | true=>simp[hc]
  unfold abB
  simp only[dlt (al_ hx),a6_,ah_ hx,ah_ hy,a0_,bj_ (show Sm j by omega)]
  cases h1:x.2.2.1==lock with
  | false =>
   refine⟨_,rfl,q,?_,by omega⟩
   rw[hstep,h1,d4_,a4_,d7_]
  | true =>
  cases y with
  | false =>
   refine⟨_,rfl,q,?_,by omega⟩
   rw[hstep,h9_,a4_,d7_]
  | true =>
   simp only[a6_,a0_,ew_ (show Sm q.length by show _≤1000000000;omega),ew_ (show Sm _ from d6_ hlen (by omega))]
   refine⟨_,rfl,q++[(j:Int)],?_,by rw[c4_,m5_];omega⟩
   rw[hstep,h1,g8_,a6_]
 ·obtain⟨q,rfl,hq⟩:=hz
  rw[a7_]
  unfold abB
  simp only[dnl,a4_]
  refine⟨_,rfl,q,?_⟩
  unfold ac3
  rw[d8_ (by rw[j3_];omega)]
end
section
set_option maxRecDepth 100000
noncomputable def okM (g:ac_) (d:List Bool) (m:fi_):Bool:=cond (m.2.1==4) ((at? g.1.2.2.2.2.1 m.2.2).elim true λa=>opn g d a.2.2.1) true
noncomputable def stepP (g:ac_) (p:ai_) (m:fi_):Option ai_ :=
 cond (okM g p.2 m&&lgl g.1 p.1 m) ((stepR g.1 p.1 m).map λs=>(s,rdN g s p.2)) none
theorem vy_ {g:ac_} (hg:SmG g) (p:ai_):er_ g p=some (cond (fk_ g != 0) (fk_ g) (cond (fz_ g.1 p.1 != 0) (fz_ g.1 p.1) (cond ((p.2.length:Int) != (g.2.2.2.1.length:Int)) 28 0)),()):=by
 unfold er_
 rw[as0 hg,a0_]
 cases fk_ g != 0 with
 | true=>rfl
 | false =>
 simp only[a4_]
 rw[tt_ hg.room,a0_]
 cases fz_ g.1 p.1 != 0 with
 | true=>rfl
 | false =>
 simp only[a4_]
 cases (p.2.length:Int) != (g.2.2.2.1.length:Int)<;>rfl
structure VP (g:ac_) (p:ai_):Prop where
 st:VS g.1 p.1
 rd:p.2.length=g.2.2.2.1.length
theorem ah4 {g:ac_} (hg:SmG g) (h0:fk_ g=0) {p:ai_} (hv:VP g p):er_ g p=some (0,()):=by
 rw[vy_ hg,h0,sb_ (le_ h0).room hv.st,hv.rd,show ((g.2.2.2.1.length:Int) != (g.2.2.2.1.length:Int))=false by simp]
 rfl
end
end Go.Proofs.YtlbfbdbagohinaaGreatDoor.Rx
namespace Go.Proofs.YtlbfbdbagohinaaGreatDoor.Rx
open Go Pad Rex Sum
section
set_option maxRecDepth 10000

end
section
set_option maxRecDepth 10000

end
section
set_option maxRecDepth 10000
theorem run_cnt {σ ρ:Type} (n:Nat) (S:Nat→σ) {body:σ→Option (σ⊕ρ)} {r:ρ} (h:∀ i,i<n→body (S i)=some (.inl (S (i+1)))) (e:body (S n)=some (.inr r)):ad_ body (S 0)=some r:=by
 have gen:∀ (k i:Nat),i+k=n→ad_ body (S i)=some r:=by
  intro k
  induction k with
  | zero =>
   intro i hi
   obtain rfl:i=n:=by omega
   exact nj_ e
  | succ k ih =>
   intro i hi
   exact jd_ (h i (by omega)) (ih (i+1) (by omega))
 exact gen n 0 (by omega)
theorem qi_ {σ ρ υ:Type} (n:Nat) (S:Nat→σ) {body:σ→Option (σ⊕ρ)} {r:ρ} {s0:σ} {K:ρ→Option υ} {x:Option υ} (h0:S 0=s0) (h:∀ i,i<n→body (S i)=some (.inl (S (i+1)))) (e:body (S n)=some (.inr r)) (hk:K r=x):(ad_ body s0).bind K=x:=by
 rw[← h0,run_cnt n S h e,a0_,hk]
section
variable (q:fi_→Bool)
end
end
section
set_option maxRecDepth 10000

end
section
set_option maxRecDepth 10000
theorem lu_ {σ ρ υ:Type} (n:Nat) (Inv:Nat→σ→Prop) {body:σ→Option (σ⊕ρ)} {z0:σ} {K:ρ→Option υ} {x:Option υ} (h0:Inv 0 z0)
  (hs:∀ j z,j<n→Inv j z→∃ z',body z=some (.inl z')∧Inv (j+1) z') (he:∀ z,Inv n z→∃ r,body z=some (.inr r)∧K r=x):(ad_ body z0).bind K=x:=by
 have gen:∀ (k i:Nat) (z:σ),i+k=n→Inv i z→∃ r,ad_ body z=some r∧K r=x:=by
  intro k
  induction k with
  | zero =>
   intro i z hi hz
   obtain rfl:i=n:=by omega
   obtain⟨r,e,hr⟩:=he z hz
   exact⟨r,nj_ e,hr⟩
  | succ k ih =>
   intro i z hi hz
   obtain⟨z',e,hz'⟩:=hs i z (by omega) hz
   obtain⟨r,er,hr⟩:=ih (i+1) z' (by omega) hz'
   exact⟨r,jd_ e er,hr⟩
 obtain⟨r,e,hr⟩:=gen n 0 z0 (by omega) h0
 rw[e,a0_]
 exact hr
def yp_ (g:ac_) (q:List Nat):List ab_:=q.filterMap λe=>(g.2.2.2.1[e]?).map (·.2.2.2.2)
theorem ag7 {g:ac_} (hg:SmG g) {p:ai_} (hd:p.2.length=g.2.2.2.1.length) (lock:Int) :
    ∃ q:List Nat,gq_ g p lock=some (q.map (λe:Nat=>(e:Int)),())∧q.length≤20∧(∀ e ∈ q,e<g.2.2.2.1.length)∧yp_ g q=ac3 g p.2 lock:=by
  have hn:=hg.nt
  suffices hk:∃ r,gq_ g p lock=some r∧∃ q:List Nat,r=(q.map (λe:Nat=>(e:Int)),())∧q.length≤20∧(∀ e ∈ q,e<g.2.2.2.1.length)∧yp_ g q=ac3 g p.2 lock by
    obtain⟨r,e,q,rfl,h⟩:=hk
    exact⟨q,e,h⟩
  unfold gq_
  have key:∀ (k i:Nat) (q:List Nat),i+k=g.2.2.2.1.length→q.length≤i→(∀ e ∈ q,e<g.2.2.2.1.length)→yp_ g q=((g.2.2.2.1.zip p.2).take i).filterMap (λx=>cond (x.1.2.2.1==lock&&x.2) (some x.1.2.2.2.2) none) →
      ∃ q':List Nat,ad_ (ρ:=((List Int)×Unit)) (λ(v0:((List Int)×(Int×Unit))) =>
 (cond (decide (v0.2.1<(g.2.2.2.1.length:Int)))
 ((((((at? p.2 v0.2.1).bind λv1 =>
 (cond v1
 ((at? g.2.2.2.1 v0.2.1).bind λv2 =>
 (some ((v2.2.2.1==lock),())))
 (some (false,()))))).bind λv3 =>
 (cond v3.1
 ((push? (α:=Int) v0.1 [v0.2.1]).bind λv4 =>
 (some (v4,())))
 (some (v0.1,()))))).bind λv5 =>
 (some (inl (v5.1,((w64 (v0.2.1+1)),())))))
 (some (inr (v0.1,()))))) (q.map (λe:Nat=>(e:Int)),((i:Int),()))=some (q'.map (λe:Nat=>(e:Int)),())∧q'.length≤20∧(∀ e ∈ q',e<g.2.2.2.1.length)∧yp_ g q'=ac3 g p.2 lock:=by
    intro k
    induction k with
    | zero =>
      intro i q hi hq hb hc
      obtain rfl:i=g.2.2.2.1.length:=by omega
      refine⟨q,nj_ (by simp only[dnl,a4_]),by omega,hb,?_⟩
      rw[hc,d8_ (by rw[j3_];omega)]
      rfl
    | succ k ih =>
      intro i q hi hq hb hc
      obtain⟨x,hx⟩:=cz_ (l:=g.2.2.2.1) (i:=i) (by omega)
      obtain⟨y,hy⟩:=cz_ (l:=p.2) (i:=i) (by omega)
      have hzip:(g.2.2.2.1.zip p.2)[i]?=some (x,y):=by rw[e3_];exact⟨hx,hy⟩
      have hstep:((g.2.2.2.1.zip p.2).take (i+1)).filterMap (λx=>cond (x.1.2.2.1==lock&&x.2) (some x.1.2.2.2.2) none)=((g.2.2.2.1.zip p.2).take i).filterMap (λx=>cond (x.1.2.2.1==lock&&x.2) (some x.1.2.2.2.2) none)++cond (x.2.2.1==lock&&y) [x.2.2.2.2] []:=by
        rw[h0_,hzip,h6_]
        cases hc:(x.2.2.1==lock&&y) with
        | false=>simp[hc]
        | true=>simp[hc]
      cases hcc:(x.2.2.1==lock&&y) with
      | false =>
        obtain⟨q',e,r1⟩:=ih (i+1) q (by omega) (by omega) hb (by rw[hstep,hcc,a4_,d7_];exact hc)
        refine⟨q',jd_ ?_ e,r1⟩
        simp only[dlt (al_ hx),a6_,ah_ hx,ah_ hy,a0_,bj_ (show Sm i by show i≤1000000000;omega)]
        cases y with
        | false=>rfl
        | true =>
          rw[g8_] at hcc
          simp only[a6_,hcc,a0_,a4_]
      | true =>
        have hcc2:=hcc
        rw[a1_] at hcc2
        obtain⟨h1,rfl⟩:=hcc2
        obtain⟨q',e,r1⟩:=ih (i+1) (q++[i]) (by omega) (by rw[c4_,m5_];omega) (λe he=>by
          rcases d5_.1 he with he | he
          · exact hb e he
          · rw[List.mem_singleton] at he
            omega) (by
          rw[hstep,hcc,a6_,← hc]
          unfold yp_
          rw[h6_]
          simp[hx])
        refine⟨q',jd_ ?_ e,r1⟩
        simp only[dlt (al_ hx),a6_,ah_ hx,ah_ hy,a0_,bj_ (show Sm i by show i≤1000000000;omega),h1,ew_ (show Sm (q.map (λe:Nat=>(e:Int))).length by rw[e6_];show _≤1000000000;omega),m4_,e8_,List.map_nil]
  obtain⟨q',e,r1⟩:=key g.2.2.2.1.length 0 [] (by omega) (l8_ _) (λe he=>by cases he) rfl
  refine⟨_,?_,q',rfl,r1⟩
  refine e2_ (congrArg (λo=>Option.bind o _) e) rfl
end
section
set_option maxRecDepth 10000

end
section
set_option maxRecDepth 10000
theorem VS_of {r:ag_} {s:az_} (hk:ckS r s=0):VS r s:=by
 unfold ckS at hk
 cases hl:vk_ r s with
 | true=>rw[hl] at hk;exact absurd (show (28:Int)=0 from hk) (by decide)
 | false =>
 rw[hl,a4_] at hk
 obtain⟨l1,l2,l3⟩:=xy_ hl
 obtain⟨h1,hk⟩:=di_ hk (gm_ (λi x=>mt_ (by decide)) _ _)
 obtain⟨h2,hk⟩:=di_ hk (gm_ (λi x=>mt_ (by decide)) _ _)
 obtain⟨h3,_⟩:=di_ hk (gm_ (λi x=>mt_ (by decide)) _ _)
 exact⟨l1,l2,l3,λi n hn=>fr_ (bz_ h1 hn),λi n hn=>fr_ (bz_ h2 hn),λi n hn=>fr_ (bz_ h3 hn)⟩
noncomputable def pck (g:ac_) (p:ai_):Int:=cond (fz_ g.1 p.1 != 0) (fz_ g.1 p.1) (cond ((p.2.length:Int) != (g.2.2.2.1.length:Int)) 28 0)
theorem pck_VP {g:ac_} (h0:fk_ g=0) {p:ai_} (h:pck g p=0):VP g p:=by
 have ok:=le_ h0
 unfold pck at h
 cases hs:fz_ g.1 p.1 != 0 with
 | true =>
  rw[hs] at h
  rw[bne_iff_ne] at hs
  exact absurd h hs
 | false =>
 rw[hs,a4_] at h
 cases hl:(p.2.length:Int) != (g.2.2.2.1.length:Int) with
 | true=>rw[hl] at h;exact absurd (show (28:Int)=0 from h) (by decide)
 | false =>
 have hs:fz_ g.1 p.1=0:=by simpa using hs
 unfold fz_ at hs
 rw[ok.room] at hs
 rw[n0_] at hl
 exact⟨VS_of hs,by omega⟩
end
section
set_option maxRecDepth 10000
theorem ht_ {α:Type} {l:List α} {k:Nat} {x:α} (h:l[k]?=some x):l.take (k+1)=l.take k++[x]:=by
 rw[h0_,h];rfl
theorem ap5 {σ ρ υ:Type} (n:Nat) (Inv:Nat→σ→Prop) {body:σ→Option (σ⊕ρ)} {z0:σ} {K:ρ→Option υ} {Q:υ→Prop} (h0:Inv 0 z0)
  (hs:∀ j z,j<n→Inv j z→∃ z',body z=some (.inl z')∧Inv (j+1) z') (he:∀ z,Inv n z→∃ r,body z=some (.inr r)∧∃ y,K r=some y∧Q y):∃ y,(ad_ body z0).bind K=some y∧Q y:=by
 have gen:∀ (k i:Nat) (z:σ),i+k=n→Inv i z→∃ r,ad_ body z=some r∧∃ y,K r=some y∧Q y:=by
  intro k
  induction k with
  | zero =>
   intro i z hi hz
   obtain rfl:i=n:=by omega
   obtain⟨r,e,hr⟩:=he z hz
   exact⟨r,nj_ e,hr⟩
  | succ k ih =>
   intro i z hi hz
   obtain⟨z',e,hz'⟩:=hs i z (by omega) hz
   obtain⟨r,er,hr⟩:=ih (i+1) z' (by omega) hz'
   exact⟨r,jd_ e er,hr⟩
 obtain⟨r,e,y,h1,h2⟩:=gen n 0 z0 (by omega) h0
 exact⟨y,by rw[e,a0_];exact h1,h2⟩
theorem sm {n:Nat} (h:n≤30000):Sm n:=d6_ h (by decide)
noncomputable def pk (g:ac_) (p:ai_):Int:=cond (fk_ g != 0) (fk_ g) (pck g p)
theorem ah3 {g:ac_} (hg:SmG g) (p:ai_):er_ g p=some (pk g p,()):=vy_ hg p
theorem pk_ok {g:ac_} {p:ai_} (h:(pk g p != 0)=false):fk_ g=0∧VP g p:=by
 have h:pk g p=0:=by simpa using h
 unfold pk at h
 cases hc:fk_ g != 0 with
 | true=>rw[hc,a6_] at h;simp[h] at hc
 | false =>
  rw[hc,a4_] at h
  have h0:fk_ g=0:=by simpa using hc
  exact⟨h0,pck_VP h0 h⟩
theorem VP_pk {g:ac_} (h0:fk_ g=0) {p:ai_} (hv:VP g p):pk g p=0:=by
 unfold pk pck
 rw[h0,sb_ (le_ h0).room hv.st,hv.rd]
 simp
theorem oj_ {g:ac_} (hg:SmG g) (p:ai_):ci_ g p=some (pk g p,()):=by
 unfold ci_ pk pck
 rw[ag8 hg,a0_]
 cases fk_ g != 0 with
 | true=>rfl
 | false =>
 simp only[a4_]
 rw[sg_ hg.room,a0_]
 cases fz_ g.1 p.1 != 0 with
 | true=>rfl
 | false=>cases (p.2.length:Int) != (g.2.2.2.1.length:Int)<;>rfl
theorem ah5 {g:ac_} (hg:SmG g) (p:ai_):∃ l,hy_ g p=some (l,(pk g p,())):=by
 suffices h:∃ y,hy_ g p=some y∧∃ l,y=(l,(pk g p,())) by
  obtain⟨y,h,l,rfl⟩:=h
  exact⟨l,h⟩
 unfold hy_
 rw[ah3 hg,a0_]
 cases hk:pk g p != 0 with
 | true=>exact⟨_,rfl,_,rfl⟩
 | false =>
 obtain⟨h0,hv⟩:=pk_ok hk
 have hz:pk g p=0:=by simpa using hk
 have ok:=le_ h0
 have hn:=hg.nt
 have hrd:=hv.rd
 have hlk:=hg.lk
 simp only[a4_]
 rw[jt_ (sm (by omega)),a0_,hz]
 refine ap5 g.2.1.length (λi (z:(List Bool)×(Int×((List aa_)×Unit)))=>∃ l mm,z=(l,((i:Int),(mm,())))∧l.length=i) ⟨[],[],rfl,rfl⟩ (λi z hi hz => ?_) (λz hz => ?_)
 ·obtain⟨l,mm,rfl,hl⟩:=hz
  obtain⟨x,hx⟩:=cz_ hi
  simp only[dlt hi,a6_,c6_ (show ¬ (i:Int)<0 by omega),a4_]
  have fin:∀ mm':List aa_,∃ z',((((some ((mm',()):List aa_×Unit)).bind λv16=>((push? (α:=Bool) l [((ai2 0 v16.1 (i:Int))==1)]).bind λv17=>(some (v17,(v16.1,()))))).bind λv18=>(some (inl (v18.1,((w64 ((i:Int)+1)),(v18.2.1,()))))):Option (((List Bool)×(Int×((List aa_)×Unit)))⊕((List Bool)×((List aa_)×Unit))))=some (.inl z')∧∃ l mm,z'=(l,(((i+1:Nat):Int),(mm,())))∧l.length=i+1):=λmm'=>by
   simp only[a0_,ew_ (show Sm l.length from sm (by omega)),bj_ (show Sm i from sm (by omega))]
   exact⟨_,rfl,_,_,rfl,by simp[hl]⟩
  cases hm:ai2 0 mm (i:Int)==0 with
  | false =>
   simp only[a4_]
   exact fin mm
  | true =>
   simp only[a6_]
   obtain⟨q,hq⟩:=ab_loop hg hv.rd (i:Int)
   have hq':=hq
   unfold abB at hq'
   rw[hq']
   simp only[a0_,ah_ hx]
   rw[bg3 hg ok p.2 (by omega) (ah_ hx),a0_]
   simp only[b8_,a6_,a0_]
   cases decide (rdC g p.2 (i:Int) x≤g.2.2.2.2) with
   | true=>simp only[a6_];exact fin _
   | false=>simp only[a4_];exact fin _
 ·obtain⟨l,mm,rfl,hl⟩:=hz
  exact⟨_,by simp only[dnl,a4_];rfl,_,rfl,_,rfl⟩
end
section
set_option maxRecDepth 10000
theorem wi_in {n i:Nat} (hn:n≤30000) (hi:i<n):wi (i:Int) 0 (w64 ((n:Int) - 1))=true:=by
 unfold wi
 rw[wy_ (by omega) (by omega),c1_ (show (0:Int)≤(i:Int) by omega),c1_ (show (i:Int)≤(n:Int) - 1 by omega)]
 rfl
theorem ty_ {g:ac_} (hg:SmG g) (h0:fk_ g=0) {p:ai_} (hv:VP g p) {q:Nat} (hq:q<g.2.1.length):ft_ g p (q:Int)=some (0,()):=by
 have hlk:=hg.lk
 unfold ft_
 rw[ah4 hg h0 hv,a0_]
 simp only[show ((0:Int) != 0)=false from rfl,a4_]
 unfold km_
 rw[lk_,a0_,wi_in (by omega) hq]
 rfl
theorem xk_ {g:ac_} (hg:SmG g) (h0:fk_ g=0) {p:ai_} (hv:VP g p) {q:Nat} (hq:q<g.2.1.length):hm_ g p (q:Int)=some (0,()):=by
 have hlk:=hg.lk
 unfold hm_
 rw[oj_ hg,a0_,VP_pk h0 hv]
 simp only[show ((0:Int) != 0)=false from rfl,a4_]
 rw[qt_,a0_,wi_in (by omega) hq]
 rfl
abbrev cluF (lock:Int) (x:cu_×Bool):Option ab_:=cond (x.1.2.2.1==lock&&x.2) (some x.1.2.2.2.2) none
structure Nts (g:ac_) (d:List Bool) (lock:Int) (q:List Nat):Prop where
 n:q.length≤20
 b:∀ e ∈ q,e<g.2.2.2.1.length
 c:yp_ g q=ac3 g d lock
theorem ah6 {g:ac_} (hg:SmG g) (h0:fk_ g=0) {p:ai_} (hv:VP g p) {k:Nat} (hk:k<g.2.1.length):∃ q:List Nat,hz_ g p (k:Int)=some (q.map (λe:Nat=>(e:Int)),(0,()))∧Nts g p.2 (k:Int) q:=by
 have hn:=hg.nt
 have hrd:=hv.rd
 suffices h:∃ y,hz_ g p (k:Int)=some y∧∃ q:List Nat,y=(q.map (λe:Nat=>(e:Int)),(0,()))∧Nts g p.2 (k:Int) q by
  obtain⟨y,h,q,rfl,h2⟩:=h
  exact⟨q,h,h2⟩
 unfold hz_
 rw[ty_ hg h0 hv hk,a0_]
 simp only[show ((0:Int) != 0)=false from rfl,a4_]
 refine ap5 g.2.2.2.1.length (λi (z:(List Int)×((List ab_)×(Int×Unit)))=>∃ (q:List Nat) (c:List ab_),z=(q.map (λe:Nat=>(e:Int)),(c,((i:Int),())))∧q.length≤i∧c.length≤i∧(∀ e ∈ q,e<g.2.2.2.1.length)∧yp_ g q=((g.2.2.2.1.zip p.2).take i).filterMap (cluF (k:Int)))
  ⟨[],[],rfl,c2_ _,c2_ _,(λe he=>by cases he),rfl⟩ (λi z hi hz => ?_) (λz hz => ?_)
 ·obtain⟨q,c,rfl,hq,hc,hb,he⟩:=hz
  obtain⟨x,hx⟩:=cz_ hi
  obtain⟨y,hy⟩:=cz_ (l:=p.2) (i:=i) (by omega)
  have hzip:(g.2.2.2.1.zip p.2)[i]?=some (x,y):=by rw[e3_];exact⟨hx,hy⟩
  have hstep:((g.2.2.2.1.zip p.2).take (i+1)).filterMap (cluF (k:Int))=((g.2.2.2.1.zip p.2).take i).filterMap (cluF (k:Int))++cond (x.2.2.1==(k:Int)&&y) [x.2.2.2.2] []:=by
   rw[ht_ hzip,h6_]
   cases hc:(x.2.2.1==(k:Int)&&y) with
   | false=>simp[cluF,hc]
   | true=>simp[cluF,hc]
  have hm:(q.map (λe:Nat=>(e:Int))).length≤i:=by rw[e6_];exact hq
  simp only[dlt hi,a6_,ah_ hx,ah_ hy,a0_,bj_ (show Sm i from sm (by omega))]
  cases hcc:(x.2.2.1==(k:Int)&&y) with
  | false =>
   refine⟨(q.map (λe:Nat=>(e:Int)),(c,(((i+1:Nat):Int),()))),?_,q,c,rfl,by omega,by omega,hb,by rw[hstep,hcc,a4_,d7_];exact he⟩
   cases h1:x.2.2.1==(k:Int) with
   | false=>simp only[a4_,a0_]
   | true =>
    rw[h1,b9_] at hcc
    subst hcc
    simp only[a6_,a4_,a0_]
  | true =>
   have hcc2:=hcc
   rw[a1_] at hcc2
   obtain⟨h1,rfl⟩:=hcc2
   refine⟨((q++[i]).map (λe:Nat=>(e:Int)),(c++[x.2.2.2.2],(((i+1:Nat):Int),()))),?_,q++[i],_,rfl,by simp;omega,by simp;omega,λe he => ?_,?_⟩
   ·simp only[h1,a6_,a0_,ew_ (show Sm (q.map (λe:Nat=>(e:Int))).length from sm (by omega)),ew_ (show Sm c.length from sm (by omega)),m4_,e8_,List.map_nil]
   ·rcases d5_.1 he with h | h
    ·exact hb e h
    ·rw[List.mem_singleton.1 h];exact hi
   ·rw[hstep,hcc,a6_,← he]
    unfold yp_
    rw[h6_]
    simp[hx]
 ·obtain⟨q,c,rfl,hq,hc,hb,he⟩:=hz
  refine⟨_,by simp only[dnl,a4_];rfl,_,rfl,q,rfl,⟨by omega,hb,?_⟩⟩
  rw[he,d8_ (by rw[j3_];omega)]
  rfl
theorem ac4 {g:ac_} {q:List Nat} {j e:Nat} {n:cu_} (h:q[j]?=some e) (hn:g.2.2.2.1[e]?=some n):yp_ g (q.take (j+1))=yp_ g (q.take j)++[n.2.2.2.2]:=by
 unfold yp_
 rw[ht_ h,h6_]
 simp[hn]
theorem ao8 (g:ac_) (q:List Nat):(yp_ g q).length≤q.length:=l6_ ..
noncomputable def knw (g:ac_) (d:List Bool):List (List ab_):=(List.range g.2.1.length).map λi=>ac3 g d ((i:Nat):Int)
theorem ui_ (g:ac_) (d:List Bool):(knw g d).length=g.2.1.length:=by simp[knw]
theorem bc5 {g:ac_} {d:List Bool} {i:Nat} (hi:i<g.2.1.length):(knw g d)[i]?=some (ac3 g d (i:Int)):=by
 unfold knw
 rw[d3_,i5_ hi]
 rfl
abbrev eR:aj_:=([],([],([],[])))
noncomputable def frm (g:ac_) (p:ai_):aj_×(Int×Unit) :=
 cond (pk g p != 0) (eR,(pk g p,())) (cond ((g.2.1.length:Int)==0) (eR,(70,())) ((g.2.1,(g.2.2.1,(knw g p.2,[]))),(0,())))
theorem at1 {c:ab_} (h:c.2.2.2.2.2.1.length≤30000):br_ c=some (c,()):=by
 unfold br_
 rw[jt_ (sm h)]
 rfl
theorem bk8 {g:ac_} {i:Nat} {k:List Int} (hk:g.2.2.1[i]?=some k):g.2.2.1.take (i+1)=g.2.2.1.take i++[k]:=ht_ hk
theorem as6 {g:ac_} (hg:SmG g) (p:ai_):kb_ g p=some (frm g p):=by
 unfold kb_ frm
 obtain⟨lo,ho⟩:=ah5 hg p
 rw[ho,a0_]
 simp only
 cases hk:pk g p != 0 with
 | true=>rfl
 | false =>
 obtain⟨h0,hv⟩:=pk_ok hk
 have ok:=le_ h0
 have hlk:=hg.lk
 have hnt:=hg.nt
 simp only[a4_]
 cases hl0:(g.2.1.length:Int)==0 with
 | true=>rfl
 | false =>
 simp only[a4_]
 rw[jt_ (sm (by omega)),a0_,bv7 (by omega) (by omega),a0_,e7_]
 have hcd:=ok.cd
 refine lu_ g.2.1.length (λi z=>z=((i:Int),((knw g p.2).take i++List.replicate (g.2.1.length - i) [],(([],([],([],([],())))),((g.2.2.1.take i,()),()))))) (by simp) (λi z hi hz => ?_) (λz hz => ?_)
 ·subst hz
  obtain⟨k,hkc⟩:=cz_ (l:=g.2.2.1) (i:=i) (by omega)
  have hk10:=hg.cdn k (cg_ hkc)
  obtain⟨q,hq,hN⟩:=ah6 hg h0 hv hi
  have ht:(g.2.2.1.take i).length≤30000:=by rw[c0_];omega
  simp only[dlt hi,a6_,ah_ hkc,a0_,jt_ (show Sm k.length from sm (by omega)),ew_ (show Sm (g.2.2.1.take i).length from sm ht)]
  rw[hq,a0_]
  simp only[g9_,a4_]
  have hkl:((knw g p.2).take i).length=i:=by rw[c0_,ui_];omega
  obtain⟨m,hm⟩:∃ m,g.2.1.length - i=m+1:=⟨g.2.1.length - i - 1,by omega⟩
  refine⟨_,?_,rfl⟩
  refine lu_ q.length (λj z=>z=((j:Int),(((knw g p.2).take i++yp_ g (q.take j)::List.replicate m []),()))) (by rw[hm,h2_,List.take_zero];rfl) (λj z hj hz => ?_) (λz hz => ?_)
  ·subst hz
   obtain⟨e,he⟩:=cz_ hj
   obtain⟨n,hn⟩:=cz_ (hN.b e (cg_ he))
   have hqm:(q.map (λe:Nat=>(e:Int)))[j]?=some (e:Int):=by rw[d3_,he];rfl
   have hn10:=(hg.ntn n (cg_ hn)).2.2
   have hat:((knw g p.2).take i++yp_ g (q.take j)::List.replicate m [])[i]?=some (yp_ g (q.take j)):=by
    rw[b6_ (by omega),hkl,h4_];rfl
   have hci:(yp_ g (q.take j)).length≤30000:=by
    have:=ao8 g (q.take j)
    have:=hN.n
    rw[c0_] at *
    omega
   refine⟨_,?_,rfl⟩
   simp only[e6_,dlt hj,a6_,ah_ hqm,a0_,ah_ hat,ah_ hn,at1 (show n.2.2.2.2.2.2.2.2.2.1.length≤30000 by omega),ew_ (sm hci),b8_,g8_,bj_ (show Sm j from sm (by have:=hN.n;omega)),e7_,ac4 he hn]
   have hset:∀ (y:List ab_),((knw g p.2).take i++yp_ g (q.take j)::List.replicate m []).set i y=(knw g p.2).take i++y::List.replicate m []:=λy=>by
    rw[m3_ _ _ (by omega),hkl,h4_];rfl
   rw[hset]
  ·subst hz
   refine⟨_,by simp only[e6_,dnl,a4_];rfl,?_⟩
   simp only[bj_ (show Sm i from sm (by omega)),f5_]
   rw[hN.c,ht_ (bc5 hi),bk8 hkc,show g.2.1.length - (i+1)=m by omega,b1_]
   rfl
 ·subst hz
  refine⟨_,by simp only[dnl,a4_];rfl,?_⟩
  simp only[bl_,h4_,List.replicate_zero,d7_]
  rw[d8_ (show g.2.2.1.length≤_ by omega),d8_ (show (knw g p.2).length≤_ by rw[ui_];exact c2_ _)]
end
section
set_option maxRecDepth 10000
theorem zk_ {g:ac_} (hg:SmG g) (h0:fk_ g=0) {p:ai_} (hv:VP g p) {k:Nat} (hk:k<g.2.1.length):∃ q:List Nat,ix_ g p (k:Int)=some (q.map (λe:Nat=>(e:Int)),(0,()))∧Nts g p.2 (k:Int) q:=by
 obtain⟨q,e,h1,h2,h3⟩:=ag7 hg hv.rd (k:Int)
 refine⟨q,?_,h1,h2,h3⟩
 unfold ix_
 rw[xk_ hg h0 hv hk,a0_]
 simp only[show ((0:Int) != 0)=false from rfl,a4_,e,a0_]
theorem bg4 {l:List ab_} (hl:l.length≤30000) (hc:∀ c ∈ l,c.2.2.2.2.2.1.length≤30000):ey_ l=some (l,()):=by
 unfold ey_
 refine lu_ l.length (λi z=>z=(l.take i,((i:Int),()))) (by simp) (λi z hi hz => ?_) (λz hz => ?_)
 ·subst hz
  obtain⟨c,hcl⟩:=cz_ hi
  refine⟨_,?_,rfl⟩
  simp only[dlt hi,a6_,ah_ hcl,a0_,jt_ (sm (hc c (cg_ hcl))),ew_ (show Sm (l.take i).length from sm (by rw[c0_];omega)),bj_ (show Sm i from sm (by omega)),ht_ hcl]
 ·subst hz
  exact⟨_,by simp only[dnl,a4_];rfl,by simp only[f5_]⟩
structure SmRi (r:aj_):Prop where
 l:r.1.length≤30000
 t:r.2.2.2.length≤30000
 c:r.2.1.length≤30000
 k:r.2.2.1.length≤30000
 cn:∀ x ∈ r.2.1,x.length≤30000
 kn:∀ x ∈ r.2.2.1,x.length≤30000∧∀ c ∈ x,c.2.2.2.2.2.1.length≤30000
theorem ar5 {r:aj_} (h:SmRi r):jw_ r=some (r,()):=by
 have hl:=h.l;have ht:=h.t;have hc:=h.c;have hk:=h.k
 unfold jw_
 rw[jt_ (sm h.l),a0_,jt_ (sm h.t),a0_]
 refine lu_ r.2.1.length (λi z=>z=((i:Int),((r.2.1.take i,()),()))) (by simp) (λi z hi hz => ?_) (λz hz => ?_)
 ·subst hz
  obtain⟨c,hcl⟩:=cz_ hi
  refine⟨_,?_,rfl⟩
  simp only[dlt hi,a6_,ah_ hcl,a0_,jt_ (sm (h.cn c (cg_ hcl))),ew_ (show Sm (r.2.1.take i).length from sm (by rw[c0_];omega)),bj_ (show Sm i from sm (by omega)),ht_ hcl]
 ·subst hz
  refine⟨_,by simp only[dnl,a4_];rfl,?_⟩
  refine lu_ r.2.2.1.length (λi z=>z=((i:Int),((r.2.2.1.take i,()),()))) (by simp) (λi z hi hz => ?_) (λz hz => ?_)
  ·subst hz
   obtain⟨c,hcl⟩:=cz_ hi
   obtain⟨c1,c2⟩:=h.kn c (cg_ hcl)
   refine⟨_,?_,rfl⟩
   simp only[dlt hi,a6_,ah_ hcl,a0_,bg4 c1 c2,ew_ (show Sm (r.2.2.1.take i).length from sm (by rw[c0_];omega)),bj_ (show Sm i from sm (by omega)),ht_ hcl]
  ·subst hz
   refine⟨_,by simp only[dnl,a4_];rfl,?_⟩
   simp only[f5_]
theorem bq1 {g:ac_} (hg:SmG g) {d:List Bool} {i:Nat} {c:ab_} (h:c ∈ ac3 g d (i:Int)):c.2.2.2.2.2.1.length≤10:=by
 obtain⟨i,n,hn,_,rfl⟩:=ao6 h
 exact (hg.ntn n (cg_ hn)).2.2
theorem knw_sm {g:ac_} (hg:SmG g) {d:List Bool} {x:List ab_} (h:x ∈ knw g d):x.length≤30000∧∀ c ∈ x,c.2.2.2.2.2.1.length≤30000:=by
 obtain⟨i,hi,rfl⟩:=d0_.1 h
 exact⟨by have:=ao7 hg d (i:Int);omega,λc hc=>by have:=bq1 hg hc;omega⟩
theorem bw7 {g:ac_} (hg:SmG g) (d:List Bool):SmRi (g.2.1,(g.2.2.1,(knw g d,[]))):=by
 have hlk:=hg.lk
 have hcd:=hg.cd
 exact⟨show g.2.1.length≤30000 by omega,l8_ _,show g.2.2.1.length≤30000 by omega,by show (knw g d).length≤30000;rw[ui_];omega,λx hx=>by have:=hg.cdn x hx;omega,λx hx=>knw_sm hg hx⟩
theorem ar4 {g:ac_} (hg:SmG g) (p:ai_):jv_ g p=some (frm g p):=by
 unfold jv_ frm
 rw[oj_ hg,a0_]
 simp only
 cases hk:pk g p != 0 with
 | true=>rfl
 | false =>
 obtain⟨h0,hv⟩:=pk_ok hk
 have ok:=le_ h0
 have hlk:=hg.lk
 simp only[a4_]
 cases hl0:(g.2.1.length:Int)==0 with
 | true=>rfl
 | false =>
 simp only[a4_]
 refine lu_ g.2.1.length (λi z=>z=((i:Int),(((knw g p.2).take i,()),()))) (by simp) (λi z hi hz => ?_) (λz hz => ?_)
 ·subst hz
  obtain⟨q,hq,hN⟩:=zk_ hg h0 hv hi
  simp only[dlt hi,a6_]
  rw[hq,a0_]
  refine⟨_,?_,rfl⟩
  refine lu_ q.length (λj z=>z=(yp_ g (q.take j),((j:Int),()))) (by rw[List.take_zero];rfl) (λj z hj hz => ?_) (λz hz => ?_)
  ·subst hz
   obtain⟨e,he⟩:=cz_ hj
   obtain⟨n,hn⟩:=cz_ (hN.b e (cg_ he))
   have hqm:(q.map (λe:Nat=>(e:Int)))[j]?=some (e:Int):=by rw[d3_,he];rfl
   have hci:(yp_ g (q.take j)).length≤30000:=by
    have:=ao8 g (q.take j)
    have:=hN.n
    rw[c0_] at *
    omega
   refine⟨_,?_,rfl⟩
   simp only[e6_,dlt hj,a6_,ah_ hqm,a0_,ah_ hn,ew_ (sm hci),bj_ (show Sm j from sm (by have:=hN.n;omega)),ac4 he hn]
  ·subst hz
   refine⟨_,by simp only[e6_,dnl,a4_];rfl,?_⟩
   simp only[f5_,ew_ (show Sm ((knw g p.2).take i).length from sm (by rw[c0_,ui_];omega)),a0_,bj_ (show Sm i from sm (by omega))]
   rw[hN.c,ht_ (bc5 hi)]
 ·subst hz
  refine⟨_,by simp only[dnl,a4_];rfl,?_⟩
  rw[d8_ (show (knw g p.2).length≤_ by rw[ui_];exact c2_ _)]
  simp only[ar5 (bw7 hg p.2),a0_]
theorem aq9 {c:ab_} (h:c.2.2.2.2.2.1.length≤30000):da_ c c=some (true,()):=by
 unfold da_
 simp only[b8_,a6_,kj_ (sm h),decide_true,a0_]
theorem aq8 {l:List (List Int)} (h:l.length≤30000) (hn:∀ x ∈ l,x.length≤30000):fd_ l l=some (true,()):=by
 unfold fd_
 simp only[g9_,a4_]
 refine qi_ l.length (λi=>((i:Int),())) rfl (λi hi => ?_) (by simp only[dnl,a4_];rfl) rfl
 obtain⟨x,hx⟩:=cz_ hi
 simp only[dlt hi,a6_,ah_ hx,a0_,kj_ (sm (hn x (cg_ hx))),decide_true,e4_,a4_,bj_ (show Sm i from sm (by omega))]
theorem af4 {r:aj_} (h:SmRi r):ei_ r r=some (true,()):=by
 have hl:=h.l;have ht:=h.t;have hc:=h.c;have hk:=h.k
 unfold ei_
 simp only[g9_,a4_,aq8 h.c h.cn,a0_,e4_]
 refine qi_ r.1.length (λi=>((i:Int),())) rfl (λi hi => ?_) (by simp only[dnl,a4_];rfl) ?_
 ·obtain⟨x,hx⟩:=cz_ hi
  simp only[dlt hi,a6_,ah_ hx,a0_,b8_,Bool.and_self,e4_,a4_,bj_ (show Sm i from sm (by omega))]
 simp only[bl_]
 refine qi_ r.2.2.2.length (λi=>((i:Int),())) rfl (λi hi => ?_) (by simp only[dnl,a4_];rfl) ?_
 ·obtain⟨x,hx⟩:=cz_ hi
  simp only[dlt hi,a6_,ah_ hx,a0_,b8_,Bool.and_self,e4_,a4_,bj_ (show Sm i from sm (by omega))]
 simp only[bl_]
 refine qi_ r.2.2.1.length (λi=>((i:Int),())) rfl (λi hi => ?_) (by simp only[dnl,a4_];rfl) rfl
 obtain⟨x,hx⟩:=cz_ hi
 obtain⟨x1,x2⟩:=h.kn x (cg_ hx)
 simp only[dlt hi,a6_,ah_ hx,a0_,g9_,a4_]
 refine qi_ (r:=inl ()) x.length (λi=>((i:Int),())) rfl (λj hj => ?_) (by simp only[dnl,a4_]) ?_
 ·obtain⟨c,hcj⟩:=cz_ hj
  simp only[dlt hj,a6_,ah_ hcj,a0_,aq9 (x2 c (cg_ hcj)),e4_,a4_,bj_ (show Sm j from sm (by omega))]
 ·simp only[bl_,bj_ (show Sm i from sm (by omega))]
theorem ad6 (hw:dq_=some (true,())) (g:ac_) (p:ai_):fe_ g p=some (true,()):=by
 obtain⟨b,e,hb⟩:=bc1 g
 unfold fe_
 rw[e,a0_]
 cases b with
 | true=>simp only[a6_,hw,a0_]
 | false =>
 have hg:=hb rfl
 simp only[a4_]
 rw[as6 hg,a0_,ar4 hg,a0_]
 simp only[b8_,a6_]
 have hs:SmRi (frm g p).1:=by
  unfold frm
  have he:SmRi eR:=⟨l8_ _,l8_ _,l8_ _,l8_ _,λx hx=>by (cases hx),λx hx=>by (cases hx)⟩
  cases pk g p != 0 with
  | true=>exact he
  | false=>cases (g.2.1.length:Int)==0 with
   | true=>exact he
   | false=>exact bw7 hg p.2
 rw[af4 hs,a0_]
 simp only[a6_,hw,a0_]
end
end Go.Proofs.YtlbfbdbagohinaaGreatDoor.Rx
namespace Go.Proofs.YtlbfbdbagohinaaGreatDoor.Pad
open Go
section
def Le {α:Type} (x y:Option α):Prop:=∀ r,x=some r→y=some r
namespace Le
theorem refl {α:Type} (x:Option α):Le x x:=λ_ h=>h
theorem bind {α β:Type} {x y:Option α} {f g:α→Option β} (h:Le x y) (k:∀ a,Le (f a) (g a)):Le (x.bind f) (y.bind g):=by
 intro r hr
 cases x with
 | none=>cases hr
 | some a=>rw[h a rfl];exact k a r hr
theorem while_ {σ ρ:Type} {f g:σ→Option (σ⊕ρ)} (h:∀ s,Le (f s) (g s)) (k:Nat) (s:σ):Le (el_ f k s) (ad_ g s):=by
 intro r hr
 refine gb_.2 ⟨k,?_⟩
 induction k generalizing s with
 | zero=>simp[el_] at hr
 | succ k ih =>
  unfold el_ at hr ⊢
  cases hf:f s with
  | none=>rw[hf] at hr;cases hr
  | some o =>
   rw[hf] at hr;rw[h s o hf]
   cases o with
   | inl s'=>exact ih s' hr
   | inr r'=>exact hr
end Le
end
end Go.Proofs.YtlbfbdbagohinaaGreatDoor.Pad
