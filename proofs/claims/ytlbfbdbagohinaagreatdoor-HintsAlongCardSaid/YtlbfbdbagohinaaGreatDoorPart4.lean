/- A part of the proof: what the functions of the program compute, shown over the model. -/
import Derived.KernelRfl
import Derived.Test.YtlbfbdbagohinaaGreatDoorPart1
import Derived.Test.YtlbfbdbagohinaaGreatDoorPart3
set_option linter.unusedSectionVars false
set_option linter.unusedVariables false
set_option linter.unusedSimpArgs false
namespace Go.Proofs.YtlbfbdbagohinaaGreatDoor.Pad
open Go
section
theorem AllP.v {l:List Nat} {sps:List Sp} {f:Fr} {vals:Nat→Value} {S':PH} (h:AllP l (λj=>∀ t,sps[j]?=some t→(∀ d,t.dst=some d→f d=vals j)∧t.fact (t.deps.map vals) S')) (i:Nat) {a d:Nat} {t:Sp} {x:Value}
  (e:(l[i]?,sps[a]?,t.dst,t.fact (t.deps.map vals) S')=(some a,some t,some d,vals a=x)):f d=x :=
 h.u i (j1_ e).1 (j1_ (j1_ e).2).1 (j1_ (j1_ e).2).2
section
variable {P:Program} {n:Nat} {ro:Option Nat} {ops:Array Oper} {sps:List Sp} {tks:List Tok} {f0:Fr} {S:PH} {i:Nat} {s:Sp}
end
section
variable {P:Program} {n:Nat} {ro:Option Nat} {f:Fr} {w:World} {K:Fr→World→Prop} {d k:Nat} {ty:TypeId} {pos:String} {af:Array Edge} {gd:Option (Nat×Bool)} {x y:Operand} {v:Value} {T:TypeId} {S:PH}
end
end
end Go.Proofs.YtlbfbdbagohinaaGreatDoor.Pad
namespace Go.Proofs.YtlbfbdbagohinaaGreatDoor.Rx
open Go Pad Rex Go.Proofs Go.Proofs.Tryz Sum
section
set_option maxRecDepth 100000
def atD {α R:Type} (b:Bool) (l:List α) (i:Int) (K:α→Option R):Option R:=cond b ((at? l i).bind λ_=>(at? l i).bind K) ((at? l i).bind K)
noncomputable def wlE {β Y:Type} (b:Bool) (ts:List bq_) (al:List (List (List Int))) (y:List Int→β→Option (β×Unit)) (ret:β→List Int→Y) (f:β) (w:List Int):Option Y :=
 ((ae_ (ρ:=(Unit⊕Y)) (λ(v8:(Int×Unit)) =>
 (cond (decide (v8.1<(ts.length:Int)))
 ((at? ts v8.1).bind λv9 =>
 (atD b al v9.1 λv10 =>
 ((at? w v9.1).bind λv11 =>
 ((at? w v9.1).bind λv12 =>
 ((at? v10 v12).bind λv13 =>
 ((at? v13 v9.2.1).bind λv14 =>
 (atD b al v9.2.2.1 λv15 =>
 ((at? w v9.2.2.1).bind λv16 =>
 ((at? w v9.2.2.1).bind λv17 =>
 ((at? v15 v17).bind λv18 =>
 ((at? v18 v9.2.2.2).bind λv19 =>
 (cond (v14 != v19)
 (some (inr (inr (ret f w))))
 (some (inl ((w64 (v8.1+1)),())))))))))))))))
 (some (inr (inl ()))))) (0,())).bind λv20 =>
 (cc_ v20 (λv21=>((y w f).bind λv30=>(some (ret v30.1 w)))) (λv22=>(some v22))))
noncomputable def wlP {β A:Type} (b:Bool) (pk:β→List Int→A) (u1:A→β) (u2:A→List Int) (ts:List bq_) (al:List (List (List Int))) (y:List Int→β→Option (β×Unit)):Nat→(Y:Type)→(β→List Int→Y)→Int→β→List Int→Option Y
 | 0,Y,ret,i,f,w =>
  (cond (i==(w.length:Int))
  ((ae_ (ρ:=(Unit⊕Y)) (λ(v8:(Int×Unit)) =>
  (cond (decide (v8.1<(ts.length:Int)))
  ((at? ts v8.1).bind λv9=>none)
  (some (inr (inl ()))))) (0,())).bind λv20 =>
  (cc_ v20 (λv21=>none) (λv22=>(some v22))))
  (atD b al i λv31 =>
  ((ae_ (ρ:=(A⊕Y)) (λ(v32:(Int×A)) =>
  (cond (decide (v32.1<(v31.length:Int)))
  ((((at? (u2 v32.2) i).bind λv33 =>
  ((at? (u2 v32.2) i).bind λv34=>(none:Option (A⊕((Int×A)⊕(A⊕Y)))))).bind λv308 =>
  (cc_ v308 (λv309=>(some (inl ((w64 (v32.1+1)),pk (u1 v309) (u2 v309)))))
  (λv310=>(some v310)))))
  (some (inr (inl (pk (u1 v32.2) (u2 v32.2))))))) (0,pk f w)).bind λv317 =>
  (cc_ v317 (λv318=>(some (ret (u1 v318) (u2 v318)))) (λv319=>(some v319))))))
 | n+1,Y,ret,i,f,w =>
  (cond (i==(w.length:Int))
  (wlE b ts al y ret f w)
  (atD b al i λv31 =>
  ((ae_ (ρ:=(A⊕Y)) (λ(v32:(Int×A)) =>
  (cond (decide (v32.1<(v31.length:Int)))
  ((((at? (u2 v32.2) i).bind λv33 =>
  ((at? (u2 v32.2) i).bind λv34=>(wlP b pk u1 u2 ts al y n (A⊕((Int×A)⊕(A⊕Y))) (λf w=>inl (pk f w)) (w64 (i+1)) (u1 v32.2) ((u2 v32.2).set i.toNat v32.1)))).bind λv308 =>
  (cc_ v308 (λv309=>(some (inl ((w64 (v32.1+1)),pk (u1 v309) (u2 v309)))))
  (λv310=>(some v310)))))
  (some (inr (inl (pk (u1 v32.2) (u2 v32.2))))))) (0,pk f w)).bind λv317 =>
  (cc_ v317 (λv318=>(some (ret (u1 v318) (u2 v318)))) (λv319=>(some v319))))))
noncomputable def cd3 (w:List Int) (f:List (List Bool)):Option (List (List Bool)×Unit) :=
 (ae_ (ρ:=((List (List Bool))×Unit)) (λ(v23:(Int×((List (List Bool))×Unit))) =>
 (cond (decide (v23.1<(w.length:Int)))
 ((at? w v23.1).bind λv24 =>
 ((at? w v23.1).bind λv25 =>
 ((at? v23.2.1 v23.1).bind λv26 =>
 ((at? v23.2.1 v23.1).bind λv27 =>
 ((at? v27 v25).bind λv28 =>
 ((at? v27 v25).bind λv29 =>
 (some (inl ((w64 (v23.1+1)),((v23.2.1.set v23.1.toNat (v27.set v25.toNat true)),()))))))))))
 (some (inr (v23.2.1,()))))) (0,(f,())))
noncomputable def psbX {R:Type} (b:Bool) (m:Int) (ts:List bq_) (al:List (List (List Int))) (K:List (List Bool)×(List (List (List Int))×Unit)→Option R):Option R :=
 ((mk? (α:=(List Bool)) m []).bind λv0 =>
 ((ae_ (ρ:=((List (List Bool))×Unit)) (λ(v1:(Int×((List (List Bool))×Unit))) =>
 (cond (decide (v1.1<(al.length:Int)))
 (atD b al v1.1 λv2 =>
 ((mk? (α:=Bool) (v2.length:Int) false).bind λv3 =>
 ((at? v1.2.1 v1.1).bind λv4 =>
 ((at? v1.2.1 v1.1).bind λv5 =>
 (some (inl ((w64 (v1.1+1)),((v1.2.1.set v1.1.toNat v3),()))))))))
 (some (inr (v1.2.1,()))))) (0,(v0,()))).bind λv6 =>
 (((mk? (α:=Int) m 0).bind λv7 =>
 (wlP b (λf w=>(f,((),(w,())))) (λa=>a.1) (λa=>a.2.2.1) ts al cd3 9 (List (List Bool)×Unit) (λf w=>(f,())) 0 v6.1 v7)).bind λv320 =>
 ((mk? (α:=(List (List Int))) m []).bind λv321 =>
 ((ae_ (ρ:=((List (List Bool))×((List (List (List Int)))×Unit))) (λ(v322:(Int×((List (List Bool))×((List (List (List Int)))×Unit)))) =>
 (cond (decide (v322.1<(al.length:Int)))
 (atD b al v322.1 λv323 =>
 ((ae_ (ρ:=((List (List Bool))×((List (List (List Int)))×Unit))) (λ(v324:(Int×((List (List Bool))×((List (List (List Int)))×Unit)))) =>
 (cond (decide (v324.1<(v323.length:Int)))
 ((((at? v323 v324.1).bind λv325 =>
 ((at? v324.2.1 v322.1).bind λv326 =>
 ((at? v324.2.1 v322.1).bind λv327 =>
 ((at? v327 v324.1).bind λv328 =>
 ((at? v327 v324.1).bind λv329 =>
 (cond v329
 ((at? v324.2.2.1 v322.1).bind λv330 =>
 ((at? v324.2.2.1 v322.1).bind λv331 =>
 ((push? (α:=(List Int)) v331 ([v325]:List (List Int))).bind λv332 =>
 ((at? v324.2.2.1 v322.1).bind λv333 =>
 (cond ((v322.1==v322.1)&&true)
 ((at? v324.2.2.1 v322.1).bind λv334 =>
 (some ((v324.2.1.set v322.1.toNat v327),((v324.2.2.1.set v322.1.toNat v332),()))))
 none)))))
 (some ((v324.2.1.set v322.1.toNat v327),(v324.2.2.1,())))))))))).bind λv335 =>
 (some (inl ((w64 (v324.1+1)),(v335.1,(v335.2.1,()))))))
 (some (inr (v324.2.1,(v324.2.2.1,())))))) (0,(v322.2.1,(v322.2.2.1,())))).bind λv336 =>
 (some (inl ((w64 (v322.1+1)),(v336.1,(v336.2.1,())))))))
 (some (inr (v322.2.1,(v322.2.2.1,())))))) (0,(v320.1,(v321,())))).bind K)))))
noncomputable def rdL (ft:List Int→Option (Int×(Bool×(Int×Unit)))) (S:Int):Nat→Int→List Int→List (List Int)→Option ((List Int)×(((List (List Int))×Unit)×Unit))
 | 0,_,_,_=>none
 | n+1,i,c,o =>
  (cond (i==(c.length:Int))
  ((ft c).bind λv8 =>
  (cond v8.2.1
  ((push? (α:=Int) [] c).bind λv9 =>
  ((push? (α:=(List Int)) o ([v9]:List (List Int))).bind λv10 =>
  (some (c,((v10,()),())))))
  (some (c,((o,()),())))))
  ((at? c i).bind λv3 =>
  ((at? c i).bind λv4 =>
  ((ae_ (ρ:=((List Int)×(((List (List Int))×Unit)×Unit))) (λ(v5:((List Int)×(((List (List Int))×Unit)×Unit))) =>
  ((at? v5.1 i).bind λv6 =>
  ((at? v5.1 i).bind λv7 =>
  (cond (decide (v7<S))
  ((rdL ft S n (w64 (i+1)) v5.1 v5.2.1.1).bind λv67 =>
  ((at? v67.1 i).bind λv68 =>
  ((at? v67.1 i).bind λv69 =>
  ((at? v67.1 i).bind λv70 =>
  ((at? v67.1 i).bind λv71 =>
  (some (inl ((v67.1.set i.toNat (w64 (v69+1))),((v67.2.1.1,()),())))))))))
  (some (inr (v5.1,((v5.2.1.1,()),())))))))) ((c.set i.toNat 0),((o,()),()))).bind λv72 =>
  ((at? v72.1 i).bind λv73 =>
  ((at? v72.1 i).bind λv74 =>
  (some ((v72.1.set i.toNat 0),((v72.2.1.1,()),())))))))))
end
section
set_option maxRecDepth 100000
set_option maxHeartbeats 0
theorem cz_36:kw_ prog 86 af_=some (show aa_ from (0,0)):=by kernel_rfl
theorem ce_36:Rex.elemOf prog 32=some 86:=by kernel_rfl
noncomputable def cp_36:Cpy prog:=⟨36,af_,86,λhc hI h=>tm_ func36 rfl rfl rfl ce_36 cz_36 rfl hc hI h⟩
theorem cz_37:kw_ prog 3 .int=some (show Int from 0):=by kernel_rfl
theorem ce_37:Rex.elemOf prog 38=some 3:=by kernel_rfl
noncomputable def wa_:Cpy prog:=⟨37,.int,3,λhc hI h=>tm_ func37 rfl rfl rfl ce_37 cz_37 rfl hc hI h⟩
theorem cz_82:kw_ prog 4 .bool=some (show Bool from false):=by kernel_rfl
theorem ce_82:Rex.elemOf prog 48=some 4:=by kernel_rfl
noncomputable def by4:Cpy prog:=⟨82,.bool,4,λhc hI h=>tm_ func82 rfl rfl rfl ce_82 cz_82 rfl hc hI h⟩
theorem cz_199:kw_ prog 131 jr_=some (show bq_ from (0,(0,(0,0)))):=by kernel_rfl
theorem ce_199:Rex.elemOf prog 58=some 131:=by kernel_rfl
noncomputable def cp_199:Cpy prog:=⟨199,jr_,131,λhc hI h=>tm_ func199 rfl rfl rfl ce_199 cz_199 rfl hc hI h⟩
end
section
set_option maxRecDepth 100000
set_option maxHeartbeats 0
noncomputable def lx_ (a0:ad_):Option (Bool×Unit) :=
 (((cond (decide (12<(a0.1.length:Int)))
 (some (true,()))
 (cond (decide (15<(a0.2.1.length:Int)))
 (some (true,()))
 (cond (decide (14<(a0.2.2.1.length:Int)))
 (some (true,()))
 (cond (decide (20<(a0.2.2.2.1.length:Int)))
 (some (true,()))
 (cond (decide (30<(a0.2.2.2.2.1.length:Int)))
 (some (true,()))
 (cond (decide (15<(a0.2.2.2.2.2.1.length:Int)))
 (some (true,()))
 (some ((decide (20<(a0.2.2.2.2.2.2.2.length:Int))),()))))))))).bind λv0 =>
 (cond v0.1
 (some (true,()))
 ((ae_ (ρ:=(Unit⊕(Bool×Unit))) (λ(v1:(Int×Unit)) =>
 (cond (decide (v1.1<(a0.1.length:Int)))
 ((at? a0.1 v1.1).bind λv2 =>
 (cond (decide (100<(v2.length:Int)))
 (some (inr (inr (true,()))))
 (some (inl ((w64 (v1.1+1)),())))))
 (some (inr (inl ()))))) (0,())).bind λv3 =>
 (cc_ v3 (λv4=>((ae_ (ρ:=(Unit⊕(Bool×Unit))) (λ(v6:(Int×Unit)) =>
 (cond (decide (v6.1<(a0.2.1.length:Int)))
 ((at? a0.2.1 v6.1).bind λv7 =>
 (cond (decide (100<(v7.1.length:Int)))
 (some (inr (inr (true,()))))
 (some (inl ((w64 (v6.1+1)),())))))
 (some (inr (inl ()))))) (0,())).bind λv8 =>
 (cc_ v8 (λv9=>((ae_ (ρ:=(Unit⊕(Bool×Unit))) (λ(v11:(Int×Unit)) =>
 (cond (decide (v11.1<(a0.2.2.1.length:Int)))
 ((((at? a0.2.2.1 v11.1).bind λv12 =>
 (cond (decide (100<(v12.1.length:Int)))
 (some (true,()))
 ((at? a0.2.2.1 v11.1).bind λv13 =>
 (some ((decide (20<(v13.2.2.length:Int))),())))))).bind λv14 =>
 (cond v14.1
 (some (inr (inr (true,()))))
 (some (inl ((w64 (v11.1+1)),())))))
 (some (inr (inl ()))))) (0,())).bind λv15 =>
 (cc_ v15 (λv16=>((ae_ (ρ:=(Unit⊕(Bool×Unit))) (λ(v18:(Int×Unit)) =>
 (cond (decide (v18.1<(a0.2.2.2.1.length:Int)))
 ((at? a0.2.2.2.1 v18.1).bind λv19 =>
 (cond (decide (20<(v19.2.2.length:Int)))
 (some (inr (inr (true,()))))
 (some (inl ((w64 (v18.1+1)),())))))
 (some (inr (inl ()))))) (0,())).bind λv20 =>
 (cc_ v20 (λv21=>((ae_ (ρ:=(Unit⊕(Bool×Unit))) (λ(v23:(Int×Unit)) =>
 (cond (decide (v23.1<(a0.2.2.2.2.1.length:Int)))
 ((at? a0.2.2.2.2.1 v23.1).bind λv24 =>
 (((cond (decide (100<(v24.1.length:Int)))
 (some (true,()))
 (cond (decide (20<(v24.2.2.2.2.1.length:Int)))
 (some (true,()))
 (cond (decide (20<(v24.2.2.2.1.length:Int)))
 (some (true,()))
 (cond (decide (20<(v24.2.2.2.2.2.1.length:Int)))
 (some (true,()))
 (cond (decide (20<(v24.2.2.2.2.2.2.1.length:Int)))
 (some (true,()))
 (some ((decide (20<(v24.2.2.2.2.2.2.2.length:Int))),())))))))).bind λv25 =>
 (cond v25.1
 (some (inr (inr (true,()))))
 (some (inl ((w64 (v23.1+1)),()))))))
 (some (inr (inl ()))))) (0,())).bind λv26 =>
 (cc_ v26 (λv27=>((ae_ (ρ:=(Unit⊕(Bool×Unit))) (λ(v29:(Int×Unit)) =>
 (cond (decide (v29.1<(a0.2.2.2.2.2.1.length:Int)))
 ((at? a0.2.2.2.2.2.1 v29.1).bind λv30 =>
 (cond (decide (20<(v30.1.length:Int)))
 (some (inr (inr (true,()))))
 (some (inl ((w64 (v29.1+1)),())))))
 (some (inr (inl ()))))) (0,())).bind λv31 =>
 (cc_ v31 (λv32=>(some (false,())))
 (λv33=>(some v33)))))
 (λv28=>(some v28)))))
 (λv22=>(some v22)))))
 (λv17=>(some v17)))))
 (λv10=>(some v10)))))
 (λv5=>(some v5))))))
theorem x_25:ba_ (P:=prog) (cxC [] []) (.p .z (.p (.j0 [.v 49 .bool] .z .z) (.p (.p .z (.ls [.v 3 .int] [] [] 0 .z)) (.p (.p .z (.ls [.v 4 .int] [] [] 2 .z)) (.p (.p .z (.ls [.v 5 .int] [] [] 4 (.p .z (.p (.j0 [.v 103 .bool] .z .z) .z)))) (.p (.p .z (.ls [.v 6 .int] [] [] 6 .z)) (.p (.p .z (.ls [.v 7 .int] [] [] 8 (.p .z (.p (.p .z (.j0 [.v 164 .bool] .z .z)) .z)))) (.p (.p .z (.ls [.v 9 .int] [] [] 10 .z)) .z)))))))) 25 [bb_] [.bool]=λx=>lx_ x.1:=by kernel_rfl
noncomputable def c_25:Con prog:=bd_ _ _ 25 [bb_] [.bool] _ x_25
noncomputable def ax_ (a0:Int) (a1:Int) (a2:Int):Option (Bool×Unit) :=
 (cond (decide (a1≤a0))
 (some ((decide (a0≤a2)),()))
 (some (false,())))
theorem x_131:ba_ (P:=prog) (cxC [] []) .z 131 [.int,.int,.int] [.bool]=λx=>ax_ x.1 x.2.1 x.2.2.1:=by kernel_rfl
noncomputable def bz4:Con prog:=bd_ _ _ 131 [.int,.int,.int] [.bool] _ x_131
noncomputable def au_ (a0:Int) (a1:Int) (a2:Int):Option (Bool×Unit) :=
 (cond (decide (a1≤a0))
 (some ((decide (a0≤a2)),()))
 (some (false,())))
theorem x_121:ba_ (P:=prog) (cxC [] []) .z 121 [.int,.int,.int] [.bool]=λx=>au_ x.1 x.2.1 x.2.2.1:=by kernel_rfl
noncomputable def bl7:Con prog:=bd_ _ _ 121 [.int,.int,.int] [.bool] _ x_121
noncomputable def dk_ (a0:(List (List UInt8))) (a1:(List UInt8)):Option (Int×Unit) :=
 ((ae_ (ρ:=(Unit⊕(Int×Unit))) (λ(v0:(Int×Unit)) =>
 (cond (decide (v0.1<(a0.length:Int)))
 ((at? a0 v0.1).bind λv1 =>
 (cond (a1==v1)
 (some (inr (inr (v0.1,()))))
 (some (inl ((w64 (v0.1+1)),())))))
 (some (inr (inl ()))))) (0,())).bind λv2 =>
 (cc_ v2 (λv3=>(some ((-1),())))
 (λv4=>(some v4))))
theorem x_226:ba_ (P:=prog) (cxC [] []) (.p .z (.p (.p .z (.ls [.v 8 .int] [] [] 0 .z)) .z)) 226 [(.list .str),.str] [.int]=λx=>dk_ x.1 x.2.1:=by kernel_rfl
noncomputable def c_226:Con prog:=bd_ _ _ 226 [(.list .str),.str] [.int] _ x_226
noncomputable def so_ (a0:(List UInt8)):Option ((List UInt8)×Unit) :=
 (some (a0,()))
theorem x_123:ba_ (P:=prog) (cxC [] []) .z 123 [.str] [.str]=λx=>so_ x.1:=by kernel_rfl
noncomputable def c_123:Con prog:=bd_ _ _ 123 [.str] [.str] _ x_123
noncomputable def sn_ (a0:hr_):Option ((List UInt8)×Unit) :=
 (some (a0.1,()))
theorem x_125:ba_ (P:=prog) (cxC [] []) .z 125 [pb_] [.str]=λx=>sn_ x.1:=by kernel_rfl
noncomputable def c_125:Con prog:=bd_ _ _ 125 [pb_] [.str] _ x_125
noncomputable def uz_ (a0:rt_):Option ((List UInt8)×Unit) :=
 (some (a0.1,()))
theorem x_127:ba_ (P:=prog) (cxC [] []) .z 127 [qv_] [.str]=λx=>uz_ x.1:=by kernel_rfl
noncomputable def c_127:Con prog:=bd_ _ _ 127 [qv_] [.str] _ x_127
noncomputable def vz_ (a0:fh_):Option ((List UInt8)×Unit) :=
 (some (a0.1,()))
theorem x_185:ba_ (P:=prog) (cxC [] []) .z 185 [mm_] [.str]=λx=>vz_ x.1:=by kernel_rfl
noncomputable def c_185:Con prog:=bd_ _ _ 185 [mm_] [.str] _ x_185
noncomputable def gl_ (a0:ad_) (a1:(List Int)):Option (Bool×Unit) :=
 ((ae_ (ρ:=(Unit⊕(Bool×Unit))) (λ(v0:(Int×(Int×Unit))) =>
 (cond (decide (v0.2.1<(a1.length:Int)))
 ((at? a1 v0.2.1).bind λv1 =>
 (((cond (decide (v1≤v0.1))
 (some (true,()))
 (some ((decide ((a0.2.2.1.length:Int)≤v1)),())))).bind λv2 =>
 (cond v2.1
 (some (inr (inr (false,()))))
 (some (inl (v1,((w64 (v0.2.1+1)),())))))))
 (some (inr (inl ()))))) ((-1),(0,()))).bind λv3 =>
 (cc_ v3 (λv4=>(some (true,())))
 (λv5=>(some v5))))
theorem x_186:ba_ (P:=prog) (cxC [] []) (.p .z (.p .z (.p (.p .z (.ls [.v 5 .int,.v 10 .int] [] [] 0 (.p .z (.p .z (.p (.p .z (.p (.j0 [.v 23 .bool] .z .z) .z)) .z))))) .z))) 186 [bb_,(.list .int)] [.bool]=λx=>gl_ x.1 x.2.1:=by kernel_rfl
noncomputable def c_186:Con prog:=bd_ _ _ 186 [bb_,(.list .int)] [.bool] _ x_186
noncomputable def ep_ (a0:(List Int)) (a1:Int):Option (Int×Unit) :=
 ((ae_ (ρ:=(Unit⊕(Int×Unit))) (λ(v0:(Int×Unit)) =>
 (cond (decide (v0.1<(a0.length:Int)))
 ((at? a0 v0.1).bind λv1 =>
 (cond (a1==v1)
 (some (inr (inr (v0.1,()))))
 (some (inl ((w64 (v0.1+1)),())))))
 (some (inr (inl ()))))) (0,())).bind λv2 =>
 (cc_ v2 (λv3=>(some ((-1),())))
 (λv4=>(some v4))))
theorem x_140:ba_ (P:=prog) (cxC [] []) (.p .z (.p (.p .z (.ls [.v 8 .int] [] [] 0 .z)) .z)) 140 [(.list .int),.int] [.int]=λx=>ep_ x.1 x.2.1:=by kernel_rfl
noncomputable def c_140:Con prog:=bd_ _ _ 140 [(.list .int),.int] [.int] _ x_140
noncomputable def bp_ (a0:Int) (a1:Int) (a2:Int):Option (Bool×Unit) :=
 (cond (decide (a1≤a0))
 (some ((decide (a0≤a2)),()))
 (some (false,())))
theorem x_77:ba_ (P:=prog) (cxC [] []) .z 77 [.int,.int,.int] [.bool]=λx=>bp_ x.1 x.2.1 x.2.2.1:=by kernel_rfl
noncomputable def c_77:Con prog:=bd_ _ _ 77 [.int,.int,.int] [.bool] _ x_77
noncomputable def ek_ (a0:(List Int)) (a1:(List Int)):Option (Int×Int×Unit) :=
 ((ae_ (ρ:=(Int×((List Int)×((List Int)×Unit)))) (λ(v0:(Int×(Int×((List Int)×((List Int)×Unit))))) =>
 (cond (decide (v0.2.1<(a0.length:Int)))
 ((at? a0 v0.2.1).bind λv1 =>
 ((((at? a1 v0.2.1).bind λv2 =>
 (cond (v1==v2)
 (some ((w64 (v0.1+1)),()))
 (some (v0.1,()))))).bind λv3 =>
 (cond (decide (v1<(10:Int)))
 ((at? v0.2.2.1 v1).bind λv4 =>
 ((at? v0.2.2.1 v1).bind λv5 =>
 (cond (decide (v1<(10:Int)))
 ((at? v0.2.2.1 v1).bind λv6 =>
 ((at? v0.2.2.1 v1).bind λv7 =>
 ((at? a1 v0.2.1).bind λv8 =>
 (cond (decide (v8<(10:Int)))
 ((at? v0.2.2.2.1 v8).bind λv9 =>
 ((at? v0.2.2.2.1 v8).bind λv10 =>
 (cond (decide (v8<(10:Int)))
 ((at? v0.2.2.2.1 v8).bind λv11 =>
 ((at? v0.2.2.2.1 v8).bind λv12 =>
 (some (inl (v3.1,((w64 (v0.2.1+1)),((v0.2.2.1.set v1.toNat (w64 (v5+1))),((v0.2.2.2.1.set v8.toNat (w64 (v10+1))),()))))))))
 none)))
 none))))
 none)))
 none)))
 (some (inr (v0.1,(v0.2.2.1,(v0.2.2.2.1,()))))))) (0,(0,([0,0,0,0,0,0,0,0,0,0],([0,0,0,0,0,0,0,0,0,0],()))))).bind λv13 =>
 ((ae_ (ρ:=(Int×Unit)) (λ(v14:(Int×(Int×Unit))) =>
 (cond (decide (v14.2.1<10))
 (cond (decide (v14.2.1<(10:Int)))
 ((at? v13.2.1 v14.2.1).bind λv15 =>
 ((at? v13.2.1 v14.2.1).bind λv16 =>
 (cond (decide (v14.2.1<(10:Int)))
 ((at? v13.2.2.1 v14.2.1).bind λv17 =>
 ((at? v13.2.2.1 v14.2.1).bind λv18 =>
 (some (inl ((w64 (v14.1+(aw6 v16 v18))),((w64 (v14.2.1+1)),()))))))
 none)))
 none)
 (some (inr (v14.1,()))))) (0,(0,()))).bind λv19 =>
 (some (v13.1,((w64 (v19.1 - v13.1)),())))))
theorem x_225:ba_ (P:=prog) (cxC [] []) (.p .z (.p .z (.p (.p .z (.lp [.v 4 .int,.v 13 .int] [.v 4 .int] [.o (.s 6) .int,.o (.s 7) .int] 0 (.p .z (.p .z (.p (.p .z (.j0 [.v 4 .int] .z .z)) .z))))) (.p (.p .z (.lp [.v 5 .int,.v 40 .int] [.v 5 .int] [] 2 .z)) .z)))) 225 [(.list .int),(.list .int)] [.int,.int]=λx=>ek_ x.1 x.2.1:=by kernel_rfl
noncomputable def c_225:Con prog:=bd_ _ _ 225 [(.list .int),(.list .int)] [.int,.int] _ x_225
noncomputable def lu_ (a0:(List UInt8)):Option (Bool×Unit) :=
 (((cond (a0==[])
 (some ((a0==[]),()))
 (cond (a0==[97,116])
 (some ((a0==[97,116]),()))
 (cond (a0==[115,116,97,116,101,115])
 (some ((a0==[115,116,97,116,101,115]),()))
 (cond (a0==[115,116,97,114,116])
 (some ((a0==[115,116,97,114,116]),()))
 (cond (a0==[103,111,110,101])
 (some ((a0==[103,111,110,101]),()))
 (cond (a0==[105,102])
 (some ((a0==[105,102]),()))
 (cond (a0==[108,111,99,107])
 (some ((a0==[108,111,99,107]),()))
 (cond (a0==[119,105,116,104])
 (some ((a0==[119,105,116,104]),()))
 (cond (a0==[115,101,116,115])
 (some ((a0==[115,101,116,115]),()))
 (cond (a0==[115,112,101,110,100,115])
 (some ((a0==[115,112,101,110,100,115]),()))
 (some ((a0==[98,114,105,110,103,115]),()))))))))))))).bind λv0 =>
 (cond v0.1
 (some (false,()))
 ((ae_ (ρ:=(Unit⊕(Bool×Unit))) (λ(v1:(Int×Unit)) =>
 (cond (decide (v1.1<(a0.length:Int)))
 ((((at? a0 v1.1).bind λv2 =>
 (cond (decide (((UInt8.toNat v2):Int)<97))
 (some (true,()))
 ((at? a0 v1.1).bind λv3 =>
 (some ((decide (122<((UInt8.toNat v3):Int))),())))))).bind λv4 =>
 (cond v4.1
 (some (inr (inr (false,()))))
 (some (inl ((w64 (v1.1+1)),())))))
 (some (inr (inl ()))))) (0,())).bind λv5 =>
 (cc_ v5 (λv6=>(some (true,())))
 (λv7=>(some v7))))))
theorem x_134:ba_ (P:=prog) (cxC [] []) (.p .z (.p (.p .z (.j0 [.v 5 .bool] .z .z)) (.p (.p .z (.ls [.v 19 .int] [] [] 1 (.p .z (.p .z (.p (.p .z (.j0 [.v 31 .bool] .z .z)) .z))))) .z))) 134 [.str] [.bool]=λx=>lu_ x.1:=by kernel_rfl
noncomputable def c_134:Con prog:=bd_ _ _ 134 [.str] [.bool] _ x_134
noncomputable def lt_ (a0:ab_):Option (Bool×Unit) :=
 (cond (a0.1==0)
 (cond (a0.2.1==0)
 (cond (a0.2.2.1==0)
 (cond (a0.2.2.2.1==0)
 (cond (a0.2.2.2.2.1==0)
 (cond ((a0.2.2.2.2.2.1.length:Int)==0)
 (some ((!a0.2.2.2.2.2.2),()))
 (some (false,())))
 (some (false,())))
 (some (false,())))
 (some (false,())))
 (some (false,())))
 (some (false,())))
theorem x_135:ba_ (P:=prog) (cxC [] []) .z 135 [ah_] [.bool]=λx=>lt_ x.1:=by kernel_rfl
noncomputable def c_135:Con prog:=bd_ _ _ 135 [ah_] [.bool] _ x_135
noncomputable def ce_ (a0:ab_):Option (ab_×Unit) :=
 ((push? (α:=Int) [] a0.2.2.2.2.2.1).bind λv0 =>
 (some ((a0.1,(a0.2.1,(a0.2.2.1,(a0.2.2.2.1,(a0.2.2.2.2.1,(v0,a0.2.2.2.2.2.2)))))),())))
theorem x_39:ba_ (P:=prog) (cxC [] [wa_]) .z 39 [ah_] [ah_]=λx=>ce_ x.1:=by kernel_rfl
noncomputable def c_39:Con prog:=bd_ _ _ 39 [ah_] [ah_] _ x_39
noncomputable def bo_ (a0:Int) (a1:Int) (a2:Int):Option (Bool×Unit) :=
 (cond (decide (a1≤a0))
 (some ((decide (a0≤a2)),()))
 (some (false,())))
theorem x_61:ba_ (P:=prog) (cxC [] []) .z 61 [.int,.int,.int] [.bool]=λx=>bo_ x.1 x.2.1 x.2.2.1:=by kernel_rfl
noncomputable def c_61:Con prog:=bd_ _ _ 61 [.int,.int,.int] [.bool] _ x_61
noncomputable def va_  : Option (al_×Unit) :=
 (some (([(2,4),(1,4)],(([[3,1],[1]]:List (List Int)),(([[(2,(0,(1,(4,(0,([],false))))))],[]]:List (List ab_)),[(0,(1,(1,0)))]))),()))
theorem x_49:ba_ (P:=prog) (cxC [] []) .z 49 [] [am_]=λx=>va_:=by kernel_rfl
noncomputable def c_49:Con prog:=bd_ _ _ 49 [] [am_] _ x_49
noncomputable def fd_ (a0:al_) (a1:Int):Option (Bool×Unit) :=
 ((at? a0.2.2.1 a1).bind λv0 =>
 (some (((v0.length:Int)==20),())))
theorem x_96:ba_ (P:=prog) (cxC [] []) .z 96 [am_,.int] [.bool]=λx=>fd_ x.1 x.2.1:=by kernel_rfl
noncomputable def c_96:Con prog:=bd_ _ _ 96 [am_,.int] [.bool] _ x_96
def an_148:An:=(.p .z (.p (.p .z (.lp [.r 2 .int 3,.v 8 .int] [.r 2 .int 3] [] 0 .z)) .z))
def at_148:FuncId→An:=λk=>cond (Nat.beq k 42) (.p .z (.p .z (.p (.p .z (.lp [.v 26 .int] [] [.g (.s 20) (.list .bool)] 0 .z)) (.j0 [.g (.s 20) (.list .bool)] (.p .z (.rf [3] .z (.p .z (.lp [.v 43 .int] [] [.g (.c (.s 3) 0) (.list .bool)] 4 .z)))) (.p .z (.p (.p .z (.lp [.v 67 .int] [] [.g (.s 20) (.list .bool),.g (.s 9) (.list (.list .int))] 6 (.p .z (.p .z (.p (.p .z (.p .z (.lp [.v 74 .int] [] [.g (.s 20) (.list .bool),.g (.s 9) (.list (.list .int))] 8 (.p .z (.p .z (.j0 [.g (.s 20) (.list .bool),.g (.s 9) (.list (.list .int))] .z .z)))))) .z))))) (.q [(.s 9)] .z .z))))))) (cond (Nat.beq k 144) (.p .z (.p (.p .z (.p (.p (.p .z (.ls [.v 20 .int] [] [] 0 .z)) .z) .z)) (.p (.p .z (.ls [.v 49 .int] [] [.g (.c (.y (.c (.s 4) 0) 3) 0) (.list .bool),.y (.c (.s 4) 0),.o (.s 11) .int] 2 (.p .z (.p .z (.js [.g (.c (.y (.c (.s 4) 0) 3) 0) (.list .bool),.y (.c (.s 4) 0),.o (.s 11) .int] .z .z))))) .z))) (.z))
noncomputable def cs_148:List (Con prog):=[]
noncomputable def cl_148:List (Cpy prog):=[]
noncomputable def cx_148:Cx prog:=cxI at_148 (λk=>false) (cxC cs_148 cl_148) 12
noncomputable def df_ (a0:dq_):Option (List Int) :=
  (psbX false (a0.1.1.length:Int) a0.1.2.2.2 a0.2 λv337 =>
 ((ae_ (ρ:=((List Int)×Unit)) (λ(v338:((List Int)×(Int×Unit))) =>
 (cond (decide (v338.2.1<(v337.2.1.length:Int)))
 ((at? v337.2.1 v338.2.1).bind λv339 =>
 ((push? (α:=Int) v338.1 [(v339.length:Int)]).bind λv340 =>
 (some (inl (v340,((w64 (v338.2.1+1)),()))))))
 (some (inr (v338.1,()))))) ([],(0,()))).bind λv341 =>
 (some v341.1)))
theorem x_148:bx8 cx_148 an_148 148 [(.ref gj_)] 3=λx=>df_ x.1:=by kernel_rfl
noncomputable def ri_148:RpI prog:=mkRpI _ _ 148 [(.ref gj_)] 3 _ x_148
noncomputable def cj_ (a0:(List Int)) (a1:(List Int)):Option (Bool×Unit) :=
 (cond ((a0.length:Int) != (a1.length:Int))
 (some (false,()))
 ((ae_ (ρ:=(Unit⊕(Bool×Unit))) (λ(v0:(Int×Unit)) =>
 (cond (decide (v0.1<(a0.length:Int)))
 ((at? a0 v0.1).bind λv1 =>
 ((at? a1 v0.1).bind λv2 =>
 (cond (v1 != v2)
 (some (inr (inr (false,()))))
 (some (inl ((w64 (v0.1+1)),()))))))
 (some (inr (inl ()))))) (0,())).bind λv3 =>
 (cc_ v3 (λv4=>(some (true,())))
 (λv5=>(some v5)))))
theorem x_51:ba_ (P:=prog) (cxC [] []) (.p .z (.p .z (.p (.p .z (.ls [.v 5 .int] [] [] 0 (.p .z (.p (.p (.q [] .z .z) .z) .z)))) .z))) 51 [(.list .int),(.list .int)] [.bool]=λx=>cj_ x.1 x.2.1:=by kernel_rfl
noncomputable def c_51:Con prog:=bd_ _ _ 51 [(.list .int),(.list .int)] [.bool] _ x_51
noncomputable def bg_ (a0:Int) (a1:Int) (a2:Int):Option (Bool×Unit) :=
 (cond (decide (a1≤a0))
 (some ((decide (a0≤a2)),()))
 (some (false,())))
theorem x_203:ba_ (P:=prog) (cxC [] []) .z 203 [.int,.int,.int] [.bool]=λx=>bg_ x.1 x.2.1 x.2.2.1:=by kernel_rfl
noncomputable def c_203:Con prog:=bd_ _ _ 203 [.int,.int,.int] [.bool] _ x_203
noncomputable def eb_ (a0:(List Int)) (a1:Int):Option (Int×Unit) :=
 ((ae_ (ρ:=(Int×Unit)) (λ(v0:(Int×(Int×Unit))) =>
 (cond (decide (v0.2.1<(a0.length:Int)))
 ((((at? a0 v0.2.1).bind λv1 =>
 (cond (v1==a1)
 (some ((w64 (v0.1+1)),()))
 (some (v0.1,()))))).bind λv2 =>
 (some (inl (v2.1,((w64 (v0.2.1+1)),())))))
 (some (inr (v0.1,()))))) (0,(0,()))).bind λv3 =>
 (some (v3.1,())))
theorem x_206:ba_ (P:=prog) (cxC [] []) (.p .z (.p .z (.p (.p .z (.lp [.v 5 .int,.v 6 .int] [.v 5 .int] [] 0 (.p .z (.j0 [.v 5 .int] .z .z)))) .z))) 206 [(.list .int),.int] [.int]=λx=>eb_ x.1 x.2.1:=by kernel_rfl
noncomputable def c_206:Con prog:=bd_ _ _ 206 [(.list .int),.int] [.int] _ x_206
noncomputable def av_ (a0:gr_) (a1:(List bx_)):Option (Bool×Unit) :=
 ((((ae_ (ρ:=(Unit⊕(Bool×Unit))) (λ(v0:(Int×Unit)) =>
 (cond (decide (v0.1<(a1.length:Int)))
 ((at? a1 v0.1).bind λv1 =>
 ((at? a0.2.1 v1.1).bind λv2 =>
 (cond ((v2==v1.2.1)==v1.2.2)
 (some (inr (inr ((decide (0≤v0.1)),()))))
 (some (inl ((w64 (v0.1+1)),()))))))
 (some (inr (inl ()))))) (0,())).bind λv3 =>
 (cc_ v3 (λv4=>(some ((decide (0≤(-1))),())))
 (λv5=>(some v5))))).bind λv6 =>
 (some ((!v6.1),())))
theorem x_139:ba_ (P:=prog) (cxI (λk=>cond (Nat.beq k 136) (.p .z (.j0 [.v 4 .bool] .z .z)) (cond (Nat.beq k 192) (.p .z (.p (.p .z (.ls [.v 8 .int] [] [] 0 .z)) .z)) (cond (Nat.beq k 195) (.p .z (.p (.q [] .z .z) .z)) (.z)))) (λk=>false) (cxC [] []) 4) .z 139 [(.ref gi_),(.list dj_)] [.bool]=λx=>av_ x.1 x.2.1:=by kernel_rfl
noncomputable def bz3:Con prog:=bd_ _ _ 139 [(.ref gi_),(.list dj_)] [.bool] _ x_139
noncomputable def db_ (a0:gr_) (a1:Int):Option (Int×Unit) :=
 ((ae_ (ρ:=(Int×Unit)) (λ(v0:(Int×(Int×Unit))) =>
 (cond (decide (v0.2.1<(a0.2.2.1.length:Int)))
 ((((at? a0.2.2.1 v0.2.1).bind λv1 =>
 (cond (v1==(w64 ((-2) - a1)))
 (some ((w64 (v0.1+1)),()))
 (some (v0.1,()))))).bind λv2 =>
 (some (inl (v2.1,((w64 (v0.2.1+1)),())))))
 (some (inr (v0.1,()))))) (0,(0,()))).bind λv3 =>
 (some (v3.1,())))
theorem x_168:ba_ (P:=prog) (cxC [] []) (.p .z (.p (.p .z (.lp [.v 4 .int,.v 13 .int] [.v 4 .int] [] 0 (.p .z (.p .z (.j0 [.v 4 .int] .z .z))))) .z)) 168 [(.ref gi_),.int] [.int]=λx=>db_ x.1 x.2.1:=by kernel_rfl
noncomputable def c_168:Con prog:=bd_ _ _ 168 [(.ref gi_),.int] [.int] _ x_168
noncomputable def ds_ (a0:Int) (a1:Int) (a2:Int):Option (Bool×Unit) :=
 (cond (decide (a1≤a0))
 (some ((decide (a0≤a2)),()))
 (some (false,())))
theorem x_106:ba_ (P:=prog) (cxC [] []) .z 106 [.int,.int,.int] [.bool]=λx=>ds_ x.1 x.2.1 x.2.2.1:=by kernel_rfl
noncomputable def c_106:Con prog:=bd_ _ _ 106 [.int,.int,.int] [.bool] _ x_106
end
section
set_option maxRecDepth 100000
set_option maxHeartbeats 0
noncomputable def lw_ (a0:ac_):Option (Bool×Unit) :=
 ((((lx_ a0.1).bind λv0 =>
 (cond v0.1
 (some (true,()))
 (cond (decide (10<(a0.2.1.length:Int)))
 (some (true,()))
 (cond (decide (10<(a0.2.2.1.length:Int)))
 (some (true,()))
 (some ((decide (20<(a0.2.2.2.1.length:Int))),()))))))).bind λv1 =>
 (cond v1.1
 (some (true,()))
 ((ae_ (ρ:=(Unit⊕(Bool×Unit))) (λ(v2:(Int×Unit)) =>
 (cond (decide (v2.1<(a0.2.1.length:Int)))
 ((((at? a0.2.1 v2.1).bind λv3 =>
 (cond (decide (3<v3.1))
 ((at? a0.2.1 v2.1).bind λv4 =>
 (some ((decide (5<v4.2)),())))
 (some (false,()))))).bind λv5 =>
 (cond v5.1
 (some (inr (inr (true,()))))
 (some (inl ((w64 (v2.1+1)),())))))
 (some (inr (inl ()))))) (0,())).bind λv6 =>
 (cc_ v6 (λv7=>((ae_ (ρ:=(Unit⊕(Bool×Unit))) (λ(v9:(Int×Unit)) =>
 (cond (decide (v9.1<(a0.2.2.1.length:Int)))
 ((at? a0.2.2.1 v9.1).bind λv10 =>
 (cond (decide (10<(v10.length:Int)))
 (some (inr (inr (true,()))))
 (some (inl ((w64 (v9.1+1)),())))))
 (some (inr (inl ()))))) (0,())).bind λv11 =>
 (cc_ v11 (λv12=>((ae_ (ρ:=(Unit⊕(Bool×Unit))) (λ(v14:(Int×Unit)) =>
 (cond (decide (v14.1<(a0.2.2.2.1.length:Int)))
 ((at? a0.2.2.2.1 v14.1).bind λv15 =>
 (((cond (decide (100<(v15.1.length:Int)))
 (some (true,()))
 (cond (decide (20<(v15.2.2.2.1.length:Int)))
 (some (true,()))
 (some ((decide (10<(v15.2.2.2.2.2.2.2.2.2.1.length:Int))),()))))).bind λv16 =>
 (cond v16.1
 (some (inr (inr (true,()))))
 (some (inl ((w64 (v14.1+1)),()))))))
 (some (inr (inl ()))))) (0,())).bind λv17 =>
 (cc_ v17 (λv18=>(some (false,())))
 (λv19=>(some v19)))))
 (λv13=>(some v13)))))
 (λv8=>(some v8))))))
theorem x_6:ba_ (P:=prog) (cxC [c_25] []) (.p .z (.p (.j0 [.v 27 .bool] .z .z) (.p (.p .z (.ls [.v 3 .int] [] [] 0 (.p .z (.p (.j0 [.v 50 .bool] .z .z) .z)))) (.p (.p .z (.ls [.v 4 .int] [] [] 2 .z)) (.p (.p .z (.ls [.v 5 .int] [] [] 4 (.p .z (.p (.p .z (.j0 [.v 93 .bool] .z .z)) .z)))) .z))))) 6 [bc_] [.bool]=λx=>lw_ x.1:=by kernel_rfl
noncomputable def c_6:Con prog:=bd_ _ _ 6 [bc_] [.bool] _ x_6
noncomputable def cq_ (a0:aa_):Option (Int×Unit) :=
 ((((ax_ a0.1 1 4).bind λv0 =>
 (cond (!v0.1)
 (some (true,()))
 ((ax_ a0.2 2 10).bind λv1 =>
 (some ((!v1.1),())))))).bind λv2 =>
 (cond v2.1
 (some (10,()))
 (some (0,()))))
theorem x_74:ba_ (P:=prog) (cxC [bz4] []) (.p .z (.p (.j0 [.v 12 .bool] .z .z) .z)) 74 [af_] [.int]=λx=>cq_ x.1:=by kernel_rfl
noncomputable def c_74:Con prog:=bd_ _ _ 74 [af_] [.int] _ x_74
noncomputable def bm_ (a0:aa_) (a1:Int):Option (Bool×Unit) :=
 ((ax_ a1 0 (w64 (a0.2 - 1))).bind λv0 =>
 (some (v0.1,())))
theorem x_175:ba_ (P:=prog) (cxC [bz4] []) .z 175 [af_,.int] [.bool]=λx=>bm_ x.1 x.2.1:=by kernel_rfl
noncomputable def c_175:Con prog:=bd_ _ _ 175 [af_,.int] [.bool] _ x_175
noncomputable def cu_ (a0:(List (List UInt8))) (a1:(List UInt8)):Option (Bool×Unit) :=
 ((dk_ a0 a1).bind λv0 =>
 (some ((decide (0≤v0.1)),())))
theorem x_213:ba_ (P:=prog) (cxC [c_226] []) .z 213 [(.list .str),.str] [.bool]=λx=>cu_ x.1 x.2.1:=by kernel_rfl
noncomputable def c_213:Con prog:=bd_ _ _ 213 [(.list .str),.str] [.bool] _ x_213
noncomputable def ey_ (a0:ad_) (a1:Int) (a2:Int):Option (Bool×Unit) :=
 ((au_ a1 0 (w64 ((a0.2.1.length:Int) - 1))).bind λv0 =>
 (cond v0.1
 ((at? a0.2.1 a1).bind λv1 =>
 ((au_ a2 0 (w64 (v1.2.2.1 - 1))).bind λv2 =>
 (some (v2.1,()))))
 (some (false,()))))
theorem x_130:ba_ (P:=prog) (cxC [bl7] []) .z 130 [bb_,.int,.int] [.bool]=λx=>ey_ x.1 x.2.1 x.2.2.1:=by kernel_rfl
noncomputable def bz5:Con prog:=bd_ _ _ 130 [bb_,.int,.int] [.bool] _ x_130
noncomputable def be_ (a0:(List Int)) (a1:Int):Option (Bool×Unit) :=
 ((ep_ a0 a1).bind λv0 =>
 (some ((decide (0≤v0.1)),())))
theorem x_81:ba_ (P:=prog) (cxC [c_140] []) .z 81 [(.list .int),.int] [.bool]=λx=>be_ x.1 x.2.1:=by kernel_rfl
noncomputable def c_81:Con prog:=bd_ _ _ 81 [(.list .int),.int] [.bool] _ x_81
noncomputable def ap_ (a0:aa_) (a1:Int):Option (Bool×Unit) :=
 ((ax_ a1 0 (w64 (a0.1 - 1))).bind λv0 =>
 (some (v0.1,())))
theorem x_174:ba_ (P:=prog) (cxC [bz4] []) .z 174 [af_,.int] [.bool]=λx=>ap_ x.1 x.2.1:=by kernel_rfl
noncomputable def c_174:Con prog:=bd_ _ _ 174 [af_,.int] [.bool] _ x_174
noncomputable def gz_ (a0:ab_) (a1:(List Int)):Option (Bool×Unit) :=
 (cond (a0.1==1)
 ((at? a1 a0.2.1).bind λv0 =>
 (some ((v0==a0.2.2.2.1),())))
 (cond (a0.1==2)
 ((sub? a1 a0.2.1 (w64 (a0.2.2.1+1))).bind λv1 =>
 ((ae_ (ρ:=(Int×Unit)) (λ(v2:(Int×(Int×Unit))) =>
 (cond (decide (v2.2.1<(v1.length:Int)))
 ((at? v1 v2.2.1).bind λv3 =>
 (some (inl ((w64 (v2.1+v3)),((w64 (v2.2.1+1)),())))))
 (some (inr (v2.1,()))))) (0,(0,()))).bind λv4 =>
 (some ((v4.1==a0.2.2.2.1),()))))
 (cond (a0.1==3)
 ((at? a1 a0.2.1).bind λv5 =>
 ((at? a1 a0.2.2.1).bind λv6 =>
 (some ((decide (v5<v6)),()))))
 (cond (a0.1==4)
 ((at? a1 a0.2.1).bind λv7 =>
 ((at? a1 a0.2.2.1).bind λv8 =>
 (some ((v7==v8),()))))
 (cond (a0.1==5)
 ((ae_ (ρ:=(Int×Unit)) (λ(v9:(Int×(Int×Unit))) =>
 (cond (decide (v9.2.1<(a1.length:Int)))
 ((((at? a1 v9.2.1).bind λv10 =>
 (cond (v10==a0.2.2.2.1)
 (some ((w64 (v9.1+1)),()))
 (some (v9.1,()))))).bind λv11 =>
 (some (inl (v11.1,((w64 (v9.2.1+1)),())))))
 (some (inr (v9.1,()))))) (0,(0,()))).bind λv12 =>
 (some ((v12.1==a0.2.2.2.2.1),())))
 (cond (a0.1==6)
 ((ek_ a1 a0.2.2.2.2.2.1).bind λv13 =>
 (cond (v13.1==a0.2.2.2.1)
 (some ((v13.2.1==a0.2.2.2.2.1),()))
 (some (false,()))))
 ((at? a1 a0.2.1).bind λv14 =>
 ((md v14 a0.2.2.2.1).bind λv15 =>
 (some ((v15==a0.2.2.2.2.1),()))))))))))
theorem x_210:ba_ (P:=prog) (cxC [c_225] []) (.p .z (.p (.p .z (.p .z (.p (.p (.q [] .z .z) .z) (.p .z (.p (.p .z (.p (.p .z (.lp [.v 5 .int,.v 35 .int] [.v 5 .int] [] 1 .z)) .z)) (.p .z (.p (.p (.q [] .z .z) .z) (.p .z (.p (.p (.q [] .z .z) .z) (.p .z (.p (.p .z (.p (.p .z (.lp [.v 8 .int,.v 77 .int] [.v 8 .int] [] 3 (.p .z (.p .z (.j0 [.v 8 .int] .z .z))))) .z)) .z))))))))))) (.p (.q [] .z .z) .z))) 210 [ah_,(.list .int)] [.bool]=λx=>gz_ x.1 x.2.1:=by kernel_rfl
noncomputable def c_210:Con prog:=bd_ _ _ 210 [ah_,(.list .int)] [.bool] _ x_210
noncomputable def kd_ (a0:ad_) (a1:(List bx_)):Option (Bool×Unit) :=
 (cond (decide ((a1.length:Int)≤8))
 ((((ae_ (ρ:=(Unit⊕(Bool×Unit))) (λ(v0:(Int×Unit)) =>
 (cond (decide (v0.1<(a1.length:Int)))
 ((at? a1 v0.1).bind λv1 =>
 ((((bp_ v1.1 0 (w64 ((a0.2.1.length:Int) - 1))).bind λv2 =>
 (cond (!v2.1)
 (some (true,()))
 ((at? a0.2.1 v1.1).bind λv3 =>
 ((bp_ v1.2.1 0 (w64 (v3.2.2.1 - 1))).bind λv4 =>
 (some ((!v4.1),()))))))).bind λv5 =>
 (cond v5.1
 (some (inr (inr ((decide (0≤v0.1)),()))))
 (some (inl ((w64 (v0.1+1)),()))))))
 (some (inr (inl ()))))) (0,())).bind λv6 =>
 (cc_ v6 (λv7=>(some ((decide (0≤(-1))),())))
 (λv8=>(some v8))))).bind λv9 =>
 (some ((!v9.1),())))
 (some (false,())))
theorem x_76:ba_ (P:=prog) (cxI (λk=>cond (Nat.beq k 136) (.p .z (.j0 [.v 4 .bool] .z .z)) (cond (Nat.beq k 137) (.p .z (.j0 [.v 3 .bool] (.q [] .z .z) .z)) (cond (Nat.beq k 192) (.p .z (.p (.p .z (.ls [.v 8 .int] [] [] 0 .z)) .z)) (.z)))) (λk=>Nat.beq k 77||false) (cxC [c_77] []) 4) .z 76 [bb_,(.list dj_)] [.bool]=λx=>kd_ x.1 x.2.1:=by kernel_rfl
noncomputable def c_76:Con prog:=bd_ _ _ 76 [bb_,(.list dj_)] [.bool] _ x_76
noncomputable def kr_ (a0:ac_) (a1:Int):Option (Int×Unit) :=
 ((bp_ a1 0 (w64 ((a0.2.1.length:Int) - 1))).bind λv0 =>
 (cond (!v0.1)
 (some (1,()))
 (some (0,()))))
theorem x_90:ba_ (P:=prog) (cxC [c_77] []) .z 90 [bc_,.int] [.int]=λx=>kr_ x.1 x.2.1:=by kernel_rfl
noncomputable def c_90:Con prog:=bd_ _ _ 90 [bc_,.int] [.int] _ x_90
noncomputable def kg_ (a0:al_) (a1:bq_):Option (Bool×Unit) :=
 ((((bo_ a1.1 0 (w64 ((a0.1.length:Int) - 1))).bind λv0 =>
 (cond (!v0.1)
 (some (true,()))
 ((bo_ a1.2.2.1 0 (w64 ((a0.1.length:Int) - 1))).bind λv1 =>
 (cond (!v1.1)
 (some (true,()))
 (cond (a1.1==a1.2.2.1)
 (some (true,()))
 ((at? a0.1 a1.1).bind λv2 =>
 ((bo_ a1.2.1 0 (w64 (v2.1 - 1))).bind λv3 =>
 (cond (!v3.1)
 (some (true,()))
 ((at? a0.1 a1.2.2.1).bind λv4 =>
 ((bo_ a1.2.2.2 0 (w64 (v4.1 - 1))).bind λv5 =>
 (some ((!v5.1),()))))))))))))).bind λv6 =>
 (cond v6.1
 (some (false,()))
 ((at? a0.2.1 a1.1).bind λv7 =>
 ((at? v7 a1.2.1).bind λv8 =>
 ((at? a0.2.1 a1.2.2.1).bind λv9 =>
 ((at? v9 a1.2.2.2).bind λv10 =>
 (some ((v8==v10),()))))))))
theorem x_68:ba_ (P:=prog) (cxC [c_61] []) (.p .z (.p .z (.p (.j0 [.v 56 .bool] (.q [] .z .z) .z) (.p (.q [] .z .z) .z)))) 68 [am_,jr_] [.bool]=λx=>kg_ x.1 x.2.1:=by kernel_rfl
noncomputable def c_68:Con prog:=bd_ _ _ 68 [am_,jr_] [.bool] _ x_68
noncomputable def go_ (a0:al_) (a1:hj_):Option (al_×Unit) :=
 ((push? (α:=aa_) [] a0.1).bind λv0 =>
 ((push? (α:=bq_) [] a0.2.2.2).bind λv1 =>
 ((ae_ (ρ:=(((List (List Int))×((List (List ab_))×Unit))×Unit)) (λ(v2:(Int×(((List (List Int))×((List (List ab_))×Unit))×Unit))) =>
 (cond (decide (v2.1<(a0.1.length:Int)))
 ((at? a0.2.1 v2.1).bind λv3 =>
 ((push? (α:=Int) [] v3).bind λv4 =>
 ((push? (α:=(List Int)) v2.2.1.1 ([v4]:List (List Int))).bind λv5 =>
 ((at? a0.2.2.1 v2.1).bind λv6 =>
 ((ae_ (ρ:=((List ab_)×Unit)) (λ(v7:((List ab_)×(Int×Unit))) =>
 (cond (decide (v7.2.1<(v6.length:Int)))
 ((at? v6 v7.2.1).bind λv8 =>
 ((ce_ v8).bind λv9 =>
 ((push? (α:=ab_) v7.1 [v9.1]).bind λv10 =>
 (some (inl (v10,((w64 (v7.2.1+1)),())))))))
 (some (inr (v7.1,()))))) ([],(0,()))).bind λv11 =>
 ((push? (α:=(List ab_)) v2.2.1.2.1 ([v11.1]:List (List ab_))).bind λv12 =>
 (some (inl ((w64 (v2.1+1)),((v5,(v12,())),()))))))))))
 (some (inr ((v2.2.1.1,(v2.2.1.2.1,())),()))))) (0,(([],([],())),()))).bind λv13 =>
 ((at? v13.1.2.1 a1.1).bind λv14 =>
 ((at? v13.1.2.1 a1.1).bind λv15 =>
 ((ce_ a1.2).bind λv16 =>
 ((push? (α:=ab_) v15 [v16.1]).bind λv17 =>
 ((at? v13.1.2.1 a1.1).bind λv18 =>
 (cond ((a1.1==a1.1)&&true)
 ((at? v13.1.2.1 a1.1).bind λv19 =>
 (some ((v0,(v13.1.1,((v13.1.2.1.set a1.1.toNat v17),v1))),())))
 none)))))))))
theorem x_97:ba_ (P:=prog) (cxI (λk=>cond (Nat.beq k 149) (.p .z (.p .z (.p (.p .z (.lp [.v 18 .int] [] [.b (.s 3) [.keep,.row (.list .int) 38,.grid ⟨(.list ah_),ah_,[],90,40⟩,.keep]] 0 (.p .z (.p .z (.p (.p .z (.p .z (.p .z (.p (.p .z (.lp [.r 5 ah_ 40,.v 38 .int] [.r 5 ah_ 40] [] 2 .z)) .z)))) .z))))) .z))) (.z)) (λk=>Nat.beq k 36||Nat.beq k 37||Nat.beq k 39||Nat.beq k 199||false) (cxC [c_39] [cp_36,wa_,cp_199]) 2) .z 97 [am_,la_] [am_]=λx=>go_ x.1 x.2.1:=by kernel_rfl
noncomputable def c_97:Con prog:=bd_ _ _ 97 [am_,la_] [am_] _ x_97
def an_99:An:=(.p .z (.p .z (.p (.p .z (.lp [.r 4 .int 3,.v 13 .int] [.r 4 .int 3] [] 0 (.p .z (.p .z (.j0 [.r 4 .int 3] .z .z))))) .z)))
noncomputable def cs_99:List (Con prog):=[]
noncomputable def cl_99:List (Cpy prog):=[]
noncomputable def cx_99:Cx prog:=cxQ [ri_148] (cxC cs_99 cl_99)
noncomputable def es_ (a0:dq_) (a1:dq_):Option (List Int) :=
 ((df_ a1).bind λv0 =>
 ((df_ a0).bind λv1 =>
 ((ae_ (ρ:=((List Int)×Unit)) (λ(v2:((List Int)×(Int×Unit))) =>
 (cond (decide (v2.2.1<(v1.length:Int)))
 ((((at? v1 v2.2.1).bind λv3 =>
 ((at? v1 v2.2.1).bind λv4 =>
 ((at? v0 v2.2.1).bind λv5 =>
 ((at? v0 v2.2.1).bind λv6 =>
 (cond (decide (v6<v4))
 ((push? (α:=Int) v2.1 [v2.2.1]).bind λv7 =>
 (some (v7,())))
 (some (v2.1,())))))))).bind λv8 =>
 (some (inl (v8.1,((w64 (v2.2.1+1)),())))))
 (some (inr (v2.1,()))))) ([],(0,()))).bind λv9 =>
 (some v9.1))))
theorem x_99:bx8 cx_99 an_99 99 [(.ref gj_),(.ref gj_)] 3=λx=>es_ x.1 x.2.1:=by kernel_rfl
noncomputable def ri_99:RpI prog:=mkRpI _ _ 99 [(.ref gj_),(.ref gj_)] 3 _ x_99
noncomputable def gx_ (a0:aa_):Option (Int×Unit) :=
 ((((bg_ a0.1 1 4).bind λv0 =>
 (cond (!v0.1)
 (some (true,()))
 ((bg_ a0.2 2 10).bind λv1 =>
 (some ((!v1.1),())))))).bind λv2 =>
 (cond v2.1
 (some (10,()))
 (some (0,()))))
theorem x_152:ba_ (P:=prog) (cxC [c_203] []) (.p .z (.p (.j0 [.v 12 .bool] .z .z) .z)) 152 [af_] [.int]=λx=>gx_ x.1:=by kernel_rfl
noncomputable def c_152:Con prog:=bd_ _ _ 152 [af_] [.int] _ x_152
noncomputable def fw_ (a0:aa_) (a1:(List Int)):Option (Bool×Unit) :=
 (cond ((a1.length:Int) != a0.1)
 (some (false,()))
 ((ae_ (ρ:=(Unit⊕(Bool×Unit))) (λ(v0:(Int×Unit)) =>
 (cond (decide (v0.1<(a1.length:Int)))
 ((at? a1 v0.1).bind λv1 =>
 ((bg_ v1 0 (w64 (a0.2 - 1))).bind λv2 =>
 (cond (!v2.1)
 (some (inr (inr (false,()))))
 (some (inl ((w64 (v0.1+1)),()))))))
 (some (inr (inl ()))))) (0,())).bind λv3 =>
 (cc_ v3 (λv4=>(some (true,())))
 (λv5=>(some v5)))))
theorem x_159:ba_ (P:=prog) (cxC [c_203] []) (.p .z (.p .z (.p (.p .z (.ls [.v 5 .int] [] [] 0 (.p .z (.p (.p (.q [] .z .z) .z) .z)))) .z))) 159 [af_,(.list .int)] [.bool]=λx=>fw_ x.1 x.2.1:=by kernel_rfl
noncomputable def c_159:Con prog:=bd_ _ _ 159 [af_,(.list .int)] [.bool] _ x_159
noncomputable def ir_ (a0:ab_) (a1:ab_):Option (Bool×Unit) :=
 (cond (a0.1==a1.1)
 (cond (a0.2.1==a1.2.1)
 (cond (a0.2.2.1==a1.2.2.1)
 (cond (a0.2.2.2.1==a1.2.2.2.1)
 (cond (a0.2.2.2.2.1==a1.2.2.2.2.1)
 (cond (a0.2.2.2.2.2.2==a1.2.2.2.2.2.2)
 ((cj_ a0.2.2.2.2.2.1 a1.2.2.2.2.2.1).bind λv0 =>
 (some (v0.1,())))
 (some (false,())))
 (some (false,())))
 (some (false,())))
 (some (false,())))
 (some (false,())))
 (some (false,())))
theorem x_56:ba_ (P:=prog) (cxC [c_51] []) .z 56 [ah_,ah_] [.bool]=λx=>ir_ x.1 x.2.1:=by kernel_rfl
noncomputable def c_56:Con prog:=bd_ _ _ 56 [ah_,ah_] [.bool] _ x_56
noncomputable def hx_ (a0:(List Int)) (a1:(List Int)):Option (Int×Int×Unit) :=
 ((ae_ (ρ:=(Int×Unit)) (λ(v0:(Int×(Int×Unit))) =>
 (cond (decide (v0.2.1<(a0.length:Int)))
 ((((at? a0 v0.2.1).bind λv1 =>
 ((at? a1 v0.2.1).bind λv2 =>
 (cond (v1==v2)
 (some ((w64 (v0.1+1)),()))
 (some (v0.1,())))))).bind λv3 =>
 (some (inl (v3.1,((w64 (v0.2.1+1)),())))))
 (some (inr (v0.1,()))))) (0,(0,()))).bind λv4 =>
 ((ae_ (ρ:=(Int×Unit)) (λ(v5:(Int×(Int×Unit))) =>
 (cond (decide (v5.2.1<10))
 ((eb_ a0 v5.2.1).bind λv6 =>
 ((eb_ a1 v5.2.1).bind λv7 =>
 (some (inl ((w64 (v5.1+(aw6 v6.1 v7.1))),((w64 (v5.2.1+1)),()))))))
 (some (inr (v5.1,()))))) (0,(0,()))).bind λv8 =>
 (some (v4.1,((w64 (v8.1 - v4.1)),())))))
theorem x_207:ba_ (P:=prog) (cxC [c_206] []) (.p .z (.p .z (.p (.p .z (.lp [.v 6 .int,.v 8 .int] [.v 6 .int] [] 0 (.p .z (.j0 [.v 6 .int] (.p (.q [] .z .z) .z) .z)))) (.p (.p .z (.lp [.v 7 .int,.v 9 .int] [.v 7 .int] [] 2 .z)) .z)))) 207 [(.list .int),(.list .int)] [.int,.int]=λx=>hx_ x.1 x.2.1:=by kernel_rfl
noncomputable def c_207:Con prog:=bd_ _ _ 207 [(.list .int),(.list .int)] [.int,.int] _ x_207
noncomputable def cv_ (a0:gr_) (a1:aj_):Option (Bool×Unit) :=
 ((au_ a1.1 0 (w64 ((a0.2.2.2.length:Int) - 1))).bind λv0 =>
 (cond (!v0.1)
 (some (false,()))
 ((at? a0.2.2.2 a1.1).bind λv1 =>
 (cond (a1.2.1==1)
 ((au_ a1.2.2 0 (w64 ((a0.1.2.2.2.1.length:Int) - 1))).bind λv2 =>
 (cond (!v2.1)
 (some (false,()))
 ((at? a0.1.2.2.2.1 a1.2.2).bind λv3 =>
 (cond (v3.1==v1)
 ((av_ a0 v3.2.2).bind λv4 =>
 (some (v4.1,())))
 (cond (v3.2.1==v1)
 ((av_ a0 v3.2.2).bind λv5 =>
 (some (v5.1,())))
 (some (false,())))))))
 (cond (a1.2.1==2)
 ((au_ a1.2.2 0 (w64 ((a0.2.2.1.length:Int) - 1))).bind λv6 =>
 (cond v6.1
 ((at? a0.2.2.1 a1.2.2).bind λv7 =>
 (cond (v7==v1)
 ((at? a0.1.2.2.1 a1.2.2).bind λv8 =>
 ((av_ a0 v8.2.2).bind λv9 =>
 (cond v9.1
 ((db_ a0 a1.1).bind λv10 =>
 (some ((decide (v10.1<3)),())))
 (some (false,())))))
 (some (false,()))))
 (some (false,()))))
 (cond (a1.2.1==3)
 ((au_ a1.2.2 0 (w64 ((a0.2.2.1.length:Int) - 1))).bind λv11 =>
 (cond v11.1
 ((at? a0.2.2.1 a1.2.2).bind λv12 =>
 (some ((v12==(w64 ((-2) - a1.1))),())))
 (some (false,()))))
 (cond (a1.2.1==4)
 ((au_ a1.2.2 0 (w64 ((a0.1.2.2.2.2.1.length:Int) - 1))).bind λv13 =>
 (cond (!v13.1)
 (some (false,()))
 ((at? a0.1.2.2.2.2.1 a1.2.2).bind λv14 =>
 (cond (v14.2.1==v1)
 ((((ae_ (ρ:=(Unit⊕(Bool×Unit))) (λ(v15:(Int×Unit)) =>
 (cond (decide (v15.1<(v14.2.2.2.1.length:Int)))
 ((at? v14.2.2.2.1 v15.1).bind λv16 =>
 ((at? a0.2.2.1 v16).bind λv17 =>
 (cond (!(v17==(w64 ((-2) - a1.1))))
 (some (inr (inr ((decide (0≤v15.1)),()))))
 (some (inl ((w64 (v15.1+1)),()))))))
 (some (inr (inl ()))))) (0,())).bind λv18 =>
 (cc_ v18 (λv19=>(some ((decide (0≤(-1))),())))
 (λv20=>(some v20))))).bind λv21 =>
 (cond (!v21.1)
 ((av_ a0 v14.2.2.2.2.1).bind λv22 =>
 (cond v22.1
 ((((ae_ (ρ:=(Unit⊕(Bool×Unit))) (λ(v23:(Int×Unit)) =>
 (cond (decide (v23.1<(v14.2.2.2.2.2.2.2.length:Int)))
 ((at? v14.2.2.2.2.2.2.2 v23.1).bind λv24 =>
 ((at? a0.2.2.1 v24).bind λv25 =>
 (cond (!(v25==(-1)))
 (some (inr (inr ((decide (0≤v23.1)),()))))
 (some (inl ((w64 (v23.1+1)),()))))))
 (some (inr (inl ()))))) (0,())).bind λv26 =>
 (cc_ v26 (λv27=>(some ((decide (0≤(-1))),())))
 (λv28=>(some v28))))).bind λv29 =>
 (cond (!v29.1)
 ((db_ a0 a1.1).bind λv30 =>
 (some ((decide ((w64 ((w64 (v30.1 - (v14.2.2.2.2.2.2.1.length:Int)))+(v14.2.2.2.2.2.2.2.length:Int)))≤3)),())))
 (some (false,()))))
 (some (false,()))))
 (some (false,()))))
 (some (false,()))))))
 (some (false,())))))))))
theorem x_112:ba_ (P:=prog) (cxI (λk=>cond (Nat.beq k 150) (.p .z (.p (.p .z (.ls [.v 8 .int] [] [] 0 .z)) .z)) (cond (Nat.beq k 164) (.p .z (.p (.q [] .z .z) .z)) (cond (Nat.beq k 166) (.p .z (.j0 [.v 4 .bool] .z .z)) (.z)))) (λk=>Nat.beq k 121||Nat.beq k 139||Nat.beq k 168||false) (cxC [bl7,bz3,c_168] []) 7) (.p .z (.p (.p (.q [] .z .z) .z) (.p (.q [] .z .z) (.p .z (.p .z (.p .z (.p (.p .z (.p .z (.p (.p (.p (.q [] .z .z) .z) .z) (.p .z (.p (.p (.q [] .z .z) .z) (.p .z (.p (.p (.q [] .z .z) .z) (.p .z (.p (.p (.p (.q [] .z .z) .z) .z) .z))))))))) .z))))))) 112 [(.ref gi_),bt_] [.bool]=λx=>cv_ x.1 x.2.1:=by kernel_rfl
noncomputable def c_112:Con prog:=bd_ _ _ 112 [(.ref gi_),bt_] [.bool] _ x_112
noncomputable def jj_ (a0:(List (List Int))) (a1:(List Int)):Option (Bool×Unit) :=
 ((ae_ (ρ:=(Unit⊕(Bool×Unit))) (λ(v0:(Int×Unit)) =>
 (cond (decide (v0.1<(a0.length:Int)))
 ((at? a0 v0.1).bind λv1 =>
 ((cj_ v1 a1).bind λv2 =>
 (cond v2.1
 (some (inr (inr (true,()))))
 (some (inl ((w64 (v0.1+1)),()))))))
 (some (inr (inl ()))))) (0,())).bind λv3 =>
 (cc_ v3 (λv4=>(some (false,())))
 (λv5=>(some v5))))
theorem x_24:ba_ (P:=prog) (cxC [c_51] []) (.p .z (.p (.p .z (.ls [.v 5 .int] [] [] 0 .z)) .z)) 24 [(.list (.list .int)),(.list .int)] [.bool]=λx=>jj_ x.1 x.2.1:=by kernel_rfl
noncomputable def c_24:Con prog:=bd_ _ _ 24 [(.list (.list .int)),(.list .int)] [.bool] _ x_24
end
section
set_option maxRecDepth 100000
set_option maxHeartbeats 0
noncomputable def cf_ (a0:aa_) (a1:(List Int)):Option (Bool×Unit) :=
 (cond ((a1.length:Int)==a0.1)
 ((((ae_ (ρ:=(Unit⊕(Bool×Unit))) (λ(v0:(Int×Unit)) =>
 (cond (decide (v0.1<(a1.length:Int)))
 ((at? a1 v0.1).bind λv1 =>
 ((bm_ a0 v1).bind λv2 =>
 (cond (!v2.1)
 (some (inr (inr ((decide (0≤v0.1)),()))))
 (some (inl ((w64 (v0.1+1)),()))))))
 (some (inr (inl ()))))) (0,())).bind λv3 =>
 (cc_ v3 (λv4=>(some ((decide (0≤(-1))),())))
 (λv5=>(some v5))))).bind λv6 =>
 (some ((!v6.1),())))
 (some (false,())))
theorem x_171:ba_ (P:=prog) (cxI (λk=>cond (Nat.beq k 150) (.p .z (.p (.p .z (.ls [.v 8 .int] [] [] 0 .z)) .z)) (cond (Nat.beq k 166) (.p .z (.j0 [.v 4 .bool] .z .z)) (.z))) (λk=>Nat.beq k 175||false) (cxC [c_175] []) 4) .z 171 [af_,(.list .int)] [.bool]=λx=>cf_ x.1 x.2.1:=by kernel_rfl
noncomputable def c_171:Con prog:=bd_ _ _ 171 [af_,(.list .int)] [.bool] _ x_171
noncomputable def ex_ (a0:(List UInt8)):Option (Bool×Unit) :=
 ((ae_ (ρ:=(Unit⊕(Bool×Unit))) (λ(v0:(Int×Unit)) =>
 (cond (decide (v0.1<(a0.length:Int)))
 ((((at? a0 v0.1).bind λv1 =>
 (cond (decide (((UInt8.toNat v1):Int)<97))
 (some (true,()))
 ((at? a0 v0.1).bind λv2 =>
 (some ((decide (122<((UInt8.toNat v2):Int))),())))))).bind λv3 =>
 (cond v3.1
 (some (inr (inr (false,()))))
 (some (inl ((w64 (v0.1+1)),())))))
 (some (inr (inl ()))))) (0,())).bind λv4 =>
 (cc_ v4 (λv5=>(cond (!(a0==[]))
 ((cu_ ([[97,116],[115,116,97,116,101,115],[115,116,97,114,116],[103,111,110,101],[105,102],[108,111,99,107],[119,105,116,104],[115,101,116,115],[115,112,101,110,100,115],[98,114,105,110,103,115]]:List (List UInt8)) a0).bind λv7 =>
 (some ((!v7.1),())))
 (some (false,()))))
 (λv6=>(some v6))))
theorem x_179:ba_ (P:=prog) (cxC [c_213] []) (.p .z (.p (.p .z (.ls [.v 6 .int] [] [] 0 (.p .z (.p .z (.p (.p .z (.j0 [.v 18 .bool] .z .z)) .z))))) .z)) 179 [.str] [.bool]=λx=>ex_ x.1:=by kernel_rfl
noncomputable def c_179:Con prog:=bd_ _ _ 179 [.str] [.bool] _ x_179
noncomputable def dl_ (a0:ad_) (a1:(List bx_)):Option (Bool×Unit) :=
 (cond (decide ((a1.length:Int)≤8))
 ((((ae_ (ρ:=(Unit⊕(Bool×Unit))) (λ(v0:(Int×Unit)) =>
 (cond (decide (v0.1<(a1.length:Int)))
 ((at? a1 v0.1).bind λv1 =>
 ((ey_ a0 v1.1 v1.2.1).bind λv2 =>
 (cond (!v2.1)
 (some (inr (inr ((decide (0≤v0.1)),()))))
 (some (inl ((w64 (v0.1+1)),()))))))
 (some (inr (inl ()))))) (0,())).bind λv3 =>
 (cc_ v3 (λv4=>(some ((decide (0≤(-1))),())))
 (λv5=>(some v5))))).bind λv6 =>
 (some ((!v6.1),())))
 (some (false,())))
theorem x_128:ba_ (P:=prog) (cxI (λk=>cond (Nat.beq k 136) (.p .z (.j0 [.v 4 .bool] .z .z)) (cond (Nat.beq k 192) (.p .z (.p (.p .z (.ls [.v 8 .int] [] [] 0 .z)) .z)) (.z))) (λk=>Nat.beq k 130||false) (cxC [bz5] []) 4) .z 128 [bb_,(.list dj_)] [.bool]=λx=>dl_ x.1 x.2.1:=by kernel_rfl
noncomputable def c_128:Con prog:=bd_ _ _ 128 [bb_,(.list dj_)] [.bool] _ x_128
noncomputable def dm_ (a0:ab_) (a1:(List Int)):Option (Bool×Unit) :=
 ((gz_ a0 a1).bind λv0 =>
 (some ((v0.1 != a0.2.2.2.2.2.2),())))
theorem x_173:ba_ (P:=prog) (cxC [c_210] []) (.p .z (.p (.q [] .z .z) .z)) 173 [ah_,(.list .int)] [.bool]=λx=>dm_ x.1 x.2.1:=by kernel_rfl
noncomputable def c_173:Con prog:=bd_ _ _ 173 [ah_,(.list .int)] [.bool] _ x_173
noncomputable def fk_ (a0:aa_) (a1:(List Int)):Option (Int×Unit) :=
 ((gx_ a0).bind λv0 =>
 (cond (v0.1 != 0)
 (some (v0.1,()))
 ((fw_ a0 a1).bind λv1 =>
 (cond (!v1.1)
 (some (12,()))
 (some (0,()))))))
theorem x_107:ba_ (P:=prog) (cxC [c_152,c_159] []) .z 107 [af_,(.list .int)] [.int]=λx=>fk_ x.1 x.2.1:=by kernel_rfl
noncomputable def c_107:Con prog:=bd_ _ _ 107 [af_,(.list .int)] [.int] _ x_107
noncomputable def hw_ (a0:aa_) (a1:ab_):Option (Bool×Unit) :=
 ((bg_ a1.2.1 0 (w64 (a0.1 - 1))).bind λv0 =>
 ((bg_ a1.2.2.1 0 (w64 (a0.1 - 1))).bind λv1 =>
 (((cond (a1.1==1)
 (((cond v0.1
 ((bg_ a1.2.2.2.1 0 (w64 (a0.2 - 1))).bind λv2 =>
 (some (v2.1,())))
 (some (false,())))).bind λv3 =>
 (some (v3.1,((a1.2.1,(0,(a1.2.2.2.1,(0,([],()))))),()))))
 (cond (a1.1==2)
 (((cond v0.1
 (cond v1.1
 (cond (decide (a1.2.1≤a1.2.2.1))
 ((bg_ a1.2.2.2.1 0 100).bind λv4 =>
 (some (v4.1,())))
 (some (false,())))
 (some (false,())))
 (some (false,())))).bind λv5 =>
 (some (v5.1,((a1.2.1,(a1.2.2.1,(a1.2.2.2.1,(0,([],()))))),()))))
 (((cond (a1.1==3)
 (some ((a1.1==3),()))
 (some ((a1.1==4),())))).bind λv6 =>
 (cond v6.1
 (((cond v0.1
 (cond v1.1
 (some ((a1.2.1 != a1.2.2.1),()))
 (some (false,())))
 (some (false,())))).bind λv7 =>
 (some (v7.1,((a1.2.1,(a1.2.2.1,(0,(0,([],()))))),()))))
 (cond (a1.1==5)
 ((((bg_ a1.2.2.2.1 0 (w64 (a0.2 - 1))).bind λv8 =>
 (cond v8.1
 ((bg_ a1.2.2.2.2.1 0 a0.1).bind λv9 =>
 (some (v9.1,())))
 (some (false,()))))).bind λv10 =>
 (some (v10.1,((0,(0,(a1.2.2.2.1,(a1.2.2.2.2.1,([],()))))),()))))
 (cond (a1.1==6)
 ((((fw_ a0 a1.2.2.2.2.2.1).bind λv11 =>
 (cond v11.1
 ((bg_ a1.2.2.2.1 0 a0.1).bind λv12 =>
 (cond v12.1
 ((bg_ a1.2.2.2.2.1 0 a0.1).bind λv13 =>
 (some (v13.1,())))
 (some (false,()))))
 (some (false,()))))).bind λv14 =>
 (some (v14.1,((0,(0,(a1.2.2.2.1,(a1.2.2.2.2.1,(a1.2.2.2.2.2.1,()))))),()))))
 (cond (a1.1==7)
 (((cond v0.1
 ((bg_ a1.2.2.2.1 2 10).bind λv15 =>
 (cond v15.1
 ((bg_ a1.2.2.2.2.1 0 (w64 (a1.2.2.2.1 - 1))).bind λv16 =>
 (some (v16.1,())))
 (some (false,()))))
 (some (false,())))).bind λv17 =>
 (some (v17.1,((a1.2.1,(0,(a1.2.2.2.1,(a1.2.2.2.2.1,([],()))))),()))))
 (some (false,((0,(0,(0,(0,([],()))))),()))))))))))).bind λv18 =>
 (cond v18.1
 ((ir_ a1 (a1.1,(v18.2.1.1,(v18.2.1.2.1,(v18.2.1.2.2.1,(v18.2.1.2.2.2.1,(v18.2.1.2.2.2.2.1,a1.2.2.2.2.2.2))))))).bind λv19 =>
 (some (v19.1,())))
 (some (false,()))))))
theorem x_205:ba_ (P:=prog) (cxC [c_56,c_159,c_203] []) (.p .z (.p (.q [] .z .z) (.p .z (.p .z (.j0 [.v 8 .bool,.b (.s 7) [.keep,.val .int,.val .int,.val .int,.val .int,.val (.list .int),.keep]] (.p .z (.p .z (.p (.j0 [.v 8 .bool] .z .z) (.p .z (.p (.j0 [.v 8 .bool] .z .z) (.j0 [.v 72 .bool] .z (.p (.j0 [.v 8 .bool] .z .z) (.p .z (.p (.j0 [.v 8 .bool] .z .z) (.p .z (.p (.j0 [.v 8 .bool] .z .z) (.p .z (.p (.j0 [.v 8 .bool] .z .z) .z))))))))))))) .z))))) 205 [af_,ah_] [.bool]=λx=>hw_ x.1 x.2.1:=by kernel_rfl
noncomputable def c_205:Con prog:=bd_ _ _ 205 [af_,ah_] [.bool] _ x_205
noncomputable def gm_ (a0:ab_) (a1:(List Int)):Option (Bool×Unit) :=
 (((cond (a0.1==1)
 ((at? a1 a0.2.1).bind λv0 =>
 (some ((v0==a0.2.2.2.1),())))
 (cond (a0.1==2)
 ((ae_ (ρ:=(Int×Unit)) (λ(v1:(Int×(Int×Unit))) =>
 (cond (decide (v1.2.1≤a0.2.2.1))
 ((at? a1 v1.2.1).bind λv2 =>
 (some (inl ((w64 (v1.1+v2)),((w64 (v1.2.1+1)),())))))
 (some (inr (v1.1,()))))) (0,(a0.2.1,()))).bind λv3 =>
 (some ((v3.1==a0.2.2.2.1),())))
 (cond (a0.1==3)
 ((at? a1 a0.2.1).bind λv4 =>
 ((at? a1 a0.2.2.1).bind λv5 =>
 (some ((decide (v4<v5)),()))))
 (cond (a0.1==4)
 ((at? a1 a0.2.1).bind λv6 =>
 ((at? a1 a0.2.2.1).bind λv7 =>
 (some ((v6==v7),()))))
 (cond (a0.1==5)
 ((eb_ a1 a0.2.2.2.1).bind λv8 =>
 (some ((v8.1==a0.2.2.2.2.1),())))
 (cond (a0.1==6)
 ((hx_ a1 a0.2.2.2.2.2.1).bind λv9 =>
 (cond (v9.1==a0.2.2.2.1)
 (some ((v9.2.1==a0.2.2.2.2.1),()))
 (some (false,()))))
 (cond (a0.1==7)
 ((at? a1 a0.2.1).bind λv10 =>
 ((md v10 a0.2.2.2.1).bind λv11 =>
 (some ((v11==a0.2.2.2.2.1),()))))
 (some (false,())))))))))).bind λv12 =>
 (some ((v12.1 != a0.2.2.2.2.2.2),())))
theorem x_161:ba_ (P:=prog) (cxC [c_206,c_207] []) (.p .z (.p .z (.j0 [.v 5 .bool] (.p .z (.p .z (.p (.q [] .z .z) (.p .z (.p (.p .z (.p (.p .z (.lp [.v 6 .int,.v 7 .int] [.v 6 .int] [] 1 .z)) .z)) (.p .z (.p (.q [] .z .z) (.p .z (.p (.q [] .z .z) (.p .z (.p (.q [] .z .z) (.p .z (.p .z (.p .z (.p (.q [] .z .z) .z))))))))))))))) .z))) 161 [ah_,(.list .int)] [.bool]=λx=>gm_ x.1 x.2.1:=by kernel_rfl
noncomputable def c_161:Con prog:=bd_ _ _ 161 [ah_,(.list .int)] [.bool] _ x_161
end
section
set_option maxRecDepth 100000
set_option maxHeartbeats 0
noncomputable def dn_ (a0:aa_) (a1:(List (List Int))):Option (Int×Unit) :=
 ((cq_ a0).bind λv0 =>
 (cond (v0.1 != 0)
 (some (v0.1,()))
 ((((ae_ (ρ:=(Unit⊕(Bool×Unit))) (λ(v1:(Int×Unit)) =>
 (cond (decide (v1.1<(a1.length:Int)))
 ((at? a1 v1.1).bind λv2 =>
 ((cf_ a0 v2).bind λv3 =>
 (cond (!v3.1)
 (some (inr (inr ((decide (0≤v1.1)),()))))
 (some (inl ((w64 (v1.1+1)),()))))))
 (some (inr (inl ()))))) (0,())).bind λv4 =>
 (cc_ v4 (λv5=>(some ((decide (0≤(-1))),())))
 (λv6=>(some v6))))).bind λv7 =>
 (cond v7.1
 (some (12,()))
 (some (0,()))))))
theorem x_113:ba_ (P:=prog) (cxI (λk=>cond (Nat.beq k 169) (.p .z (.j0 [.v 4 .bool] .z .z)) (cond (Nat.beq k 208) (.p .z (.p (.p .z (.ls [.v 8 .int] [] [] 0 .z)) .z)) (.z))) (λk=>Nat.beq k 74||Nat.beq k 171||false) (cxC [c_74,c_171] []) 4) .z 113 [af_,(.list (.list .int))] [.int]=λx=>dn_ x.1 x.2.1:=by kernel_rfl
noncomputable def c_113:Con prog:=bd_ _ _ 113 [af_,(.list (.list .int))] [.int] _ x_113
noncomputable def ol_ (a0:ad_) (a1:Int) (a2:fh_):Option (Bool×Unit) :=
 ((((sub? a0.2.2.2.2.1 0 a1).bind λv0 =>
 ((((ex_ a2.1).bind λv1 =>
 (cond v1.1
 (cond (decide ((a2.1.length:Int)≤12))
 ((((ae_ (ρ:=(Unit⊕(Int×Unit))) (λ(v2:(Int×Unit)) =>
 (cond (decide (v2.1<(v0.length:Int)))
 ((at? v0 v2.1).bind λv3 =>
 (cond (v3.1==a2.1)
 (some (inr (inr (v2.1,()))))
 (some (inl ((w64 (v2.1+1)),())))))
 (some (inr (inl ()))))) (0,())).bind λv4 =>
 (cc_ v4 (λv5=>(some ((-1),())))
 (λv6=>(some v6))))).bind λv7 =>
 (some ((decide (v7.1<0)),())))
 (some (false,())))
 (some (false,()))))).bind λv8 =>
 (cond (!v8.1)
 (some (true,()))
 ((au_ a2.2.1 0 (w64 ((a0.1.length:Int) - 1))).bind λv9 =>
 (cond (!v9.1)
 (some (true,()))
 ((au_ a2.2.2.1 (-1) 7).bind λv10 =>
 (some ((!v10.1),()))))))))).bind λv11 =>
 (cond v11.1
 (some (false,()))
 ((((gl_ a0 a2.2.2.2.1).bind λv12 =>
 (cond (!v12.1)
 (some (true,()))
 ((gl_ a0 a2.2.2.2.2.2.2.1).bind λv13 =>
 (cond (!v13.1)
 (some (true,()))
 ((gl_ a0 a2.2.2.2.2.2.2.2).bind λv14 =>
 (cond (!v14.1)
 (some (true,()))
 (some ((decide (6<(a2.2.2.2.2.2.1.length:Int))),()))))))))).bind λv15 =>
 (cond v15.1
 (some (false,()))
 ((((((ae_ (ρ:=(Unit⊕(Bool×Unit))) (λ(v16:(Int×Unit)) =>
 (cond (decide (v16.1<(a2.2.2.2.2.2.2.1.length:Int)))
 ((at? a2.2.2.2.2.2.2.1 v16.1).bind λv17 =>
 ((be_ a2.2.2.2.1 v17).bind λv18 =>
 (cond (!v18.1)
 (some (inr (inr ((decide (0≤v16.1)),()))))
 (some (inl ((w64 (v16.1+1)),()))))))
 (some (inr (inl ()))))) (0,())).bind λv19 =>
 (cc_ v19 (λv20=>(some ((decide (0≤(-1))),())))
 (λv21=>(some v21))))).bind λv22 =>
 (cond v22.1
 (some (true,()))
 ((((ae_ (ρ:=(Unit⊕(Bool×Unit))) (λ(v23:(Int×Unit)) =>
 (cond (decide (v23.1<(a2.2.2.2.2.2.2.2.length:Int)))
 ((at? a2.2.2.2.2.2.2.2 v23.1).bind λv24 =>
 ((be_ a2.2.2.2.1 v24).bind λv25 =>
 (cond v25.1
 (some (inr (inr ((decide (0≤v23.1)),()))))
 (some (inl ((w64 (v23.1+1)),()))))))
 (some (inr (inl ()))))) (0,())).bind λv26 =>
 (cc_ v26 (λv27=>(some ((decide (0≤(-1))),())))
 (λv28=>(some v28))))).bind λv29 =>
 (some (v29.1,())))))).bind λv30 =>
 (cond v30.1
 (some (false,()))
 ((ae_ (ρ:=(Unit⊕(Bool×Unit))) (λ(v31:(Int×Unit)) =>
 (cond (decide (v31.1<(a2.2.2.2.2.2.1.length:Int)))
 ((at? a2.2.2.2.2.2.1 v31.1).bind λv32 =>
 ((sub? a2.2.2.2.2.2.1 0 v31.1).bind λv33 =>
 ((((ae_ (ρ:=(Unit⊕(Bool×Unit))) (λ(v34:(Int×Unit)) =>
 (cond (decide (v34.1<(v33.length:Int)))
 ((at? v33 v34.1).bind λv35 =>
 (cond (v35.1==v32.1)
 (some (inr (inr ((decide (0≤v34.1)),()))))
 (some (inl ((w64 (v34.1+1)),())))))
 (some (inr (inl ()))))) (0,())).bind λv36 =>
 (cc_ v36 (λv37=>(some ((decide (0≤(-1))),())))
 (λv38=>(some v38))))).bind λv39 =>
 ((((ey_ a0 v32.1 v32.2).bind λv40 =>
 (cond (!v40.1)
 (some (true,()))
 (some (v39.1,()))))).bind λv41 =>
 (cond v41.1
 (some (inr (inr (false,()))))
 (some (inl ((w64 (v31.1+1)),()))))))))
 (some (inr (inl ()))))) (0,())).bind λv42 =>
 (cc_ v42 (λv43=>(some (true,())))
 (λv44=>(some v44))))))))))
theorem x_129:ba_ (P:=prog) (cxI (λk=>cond (Nat.beq k 150) (.p .z (.p (.p .z (.ls [.v 8 .int] [] [] 0 .z)) .z)) (cond (Nat.beq k 166) (.p .z (.j0 [.v 4 .bool] .z .z)) (cond (Nat.beq k 184) (.p .z (.j0 [.v 6 .bool] .z .z)) (cond (Nat.beq k 189) (.p .z (.j0 [.v 4 .bool] .z .z)) (cond (Nat.beq k 220) (.p .z (.j0 [.v 6 .int] .z .z)) (cond (Nat.beq k 221) (.p .z (.p (.p .z (.ls [.v 8 .int] [] [] 0 .z)) .z)) (cond (Nat.beq k 227) (.p .z (.p (.p .z (.ls [.v 8 .int] [] [] 0 .z)) .z)) (cond (Nat.beq k 228) (.p .z (.p (.q [] .z .z) .z)) (.z))))))))) (λk=>Nat.beq k 81||Nat.beq k 121||Nat.beq k 130||Nat.beq k 179||Nat.beq k 185||Nat.beq k 186||false) (cxC [c_81,bl7,bz5,c_179,c_185,c_186] []) 12) (.p .z (.p (.j0 [.v 35 .bool] (.q [] .z .z) .z) (.p (.j0 [.v 60 .bool] .z .z) (.p .z (.p .z (.p (.j0 [.v 72 .bool] .z .z) (.p (.p .z (.ls [.v 76 .int] [] [] 0 (.p .z (.p .z (.p (.p .z (.p .z (.j0 [.v 96 .bool] .z .z))) .z))))) .z))))))) 129 [bb_,.int,mm_] [.bool]=λx=>ol_ x.1 x.2.1 x.2.2.1:=by kernel_rfl
noncomputable def c_129:Con prog:=bd_ _ _ 129 [bb_,.int,mm_] [.bool] _ x_129
noncomputable def cg_ (a0:aa_) (a1:ab_):Option (Bool×Unit) :=
 (((cond (a1.1==1)
 ((ap_ a0 a1.2.1).bind λv0 =>
 (cond v0.1
 ((bm_ a0 a1.2.2.2.1).bind λv1 =>
 (some (v1.1,((a1.2.1,(0,(a1.2.2.2.1,(0,([],()))))),()))))
 (some (false,((a1.2.1,(0,(a1.2.2.2.1,(0,([],()))))),())))))
 (cond (a1.1==2)
 ((ap_ a0 a1.2.1).bind λv2 =>
 (cond v2.1
 ((ap_ a0 a1.2.2.1).bind λv3 =>
 (cond v3.1
 (cond (decide (a1.2.1≤a1.2.2.1))
 ((ax_ a1.2.2.2.1 0 100).bind λv4 =>
 (some (v4.1,((a1.2.1,(a1.2.2.1,(a1.2.2.2.1,(0,([],()))))),()))))
 (some (false,((a1.2.1,(a1.2.2.1,(a1.2.2.2.1,(0,([],()))))),()))))
 (some (false,((a1.2.1,(a1.2.2.1,(a1.2.2.2.1,(0,([],()))))),())))))
 (some (false,((a1.2.1,(a1.2.2.1,(a1.2.2.2.1,(0,([],()))))),())))))
 (((cond (a1.1==3)
 (some ((a1.1==3),()))
 (some ((a1.1==4),())))).bind λv5 =>
 (cond v5.1
 ((ap_ a0 a1.2.1).bind λv6 =>
 (cond v6.1
 ((ap_ a0 a1.2.2.1).bind λv7 =>
 (cond v7.1
 (some ((a1.2.1 != a1.2.2.1),((a1.2.1,(a1.2.2.1,(0,(0,([],()))))),())))
 (some (false,((a1.2.1,(a1.2.2.1,(0,(0,([],()))))),())))))
 (some (false,((a1.2.1,(a1.2.2.1,(0,(0,([],()))))),())))))
 (cond (a1.1==5)
 ((bm_ a0 a1.2.2.2.1).bind λv8 =>
 (cond v8.1
 ((ax_ a1.2.2.2.2.1 0 a0.1).bind λv9 =>
 (some (v9.1,((0,(0,(a1.2.2.2.1,(a1.2.2.2.2.1,([],()))))),()))))
 (some (false,((0,(0,(a1.2.2.2.1,(a1.2.2.2.2.1,([],()))))),())))))
 (cond (a1.1==6)
 ((ax_ a1.2.2.2.1 0 a0.1).bind λv10 =>
 (cond v10.1
 ((ax_ a1.2.2.2.2.1 0 a0.1).bind λv11 =>
 (cond v11.1
 ((cf_ a0 a1.2.2.2.2.2.1).bind λv12 =>
 (some (v12.1,((0,(0,(a1.2.2.2.1,(a1.2.2.2.2.1,(a1.2.2.2.2.2.1,()))))),()))))
 (some (false,((0,(0,(a1.2.2.2.1,(a1.2.2.2.2.1,(a1.2.2.2.2.2.1,()))))),())))))
 (some (false,((0,(0,(a1.2.2.2.1,(a1.2.2.2.2.1,(a1.2.2.2.2.2.1,()))))),())))))
 (cond (a1.1==7)
 ((ap_ a0 a1.2.1).bind λv13 =>
 (cond v13.1
 ((ax_ a1.2.2.2.1 2 10).bind λv14 =>
 (cond v14.1
 ((ax_ a1.2.2.2.2.1 0 (w64 (a1.2.2.2.1 - 1))).bind λv15 =>
 (some (v15.1,((a1.2.1,(0,(a1.2.2.2.1,(a1.2.2.2.2.1,([],()))))),()))))
 (some (false,((a1.2.1,(0,(a1.2.2.2.1,(a1.2.2.2.2.1,([],()))))),())))))
 (some (false,((a1.2.1,(0,(a1.2.2.2.1,(a1.2.2.2.2.1,([],()))))),())))))
 (some (false,((0,(0,(0,(0,([],()))))),()))))))))))).bind λv16 =>
 (cond v16.1
 (cond (a1.2.1==v16.2.1.1)
 (cond (a1.2.2.1==v16.2.1.2.1)
 (cond (a1.2.2.2.1==v16.2.1.2.2.1)
 (cond (a1.2.2.2.2.1==v16.2.1.2.2.2.1)
 (some (((a1.2.2.2.2.2.1.length:Int)==(v16.2.1.2.2.2.2.1.length:Int)),()))
 (some (false,())))
 (some (false,())))
 (some (false,())))
 (some (false,())))
 (some (false,()))))
theorem x_118:ba_ (P:=prog) (cxC [bz4,c_171,c_174,c_175] []) (.p .z (.p .z (.p .z (.j0 [.v 6 .bool,.b (.s 5) [.keep,.val .int,.val .int,.val .int,.val .int,.val (.list .int),.keep]] (.p .z (.p .z (.p .z (.p .z (.p .z (.j0 [.v 65 .bool] .z .z)))))) .z)))) 118 [af_,ah_] [.bool]=λx=>cg_ x.1 x.2.1:=by kernel_rfl
noncomputable def c_118:Con prog:=bd_ _ _ 118 [af_,ah_] [.bool] _ x_118
noncomputable def cy_ (a0:(List ab_)) (a1:(List Int)):Option (Int×Unit) :=
 ((ae_ (ρ:=(Unit⊕(Int×Unit))) (λ(v0:(Int×Unit)) =>
 (cond (decide (v0.1<(a0.length:Int)))
 ((at? a0 v0.1).bind λv1 =>
 ((dm_ v1 a1).bind λv2 =>
 (cond (!v2.1)
 (some (inr (inr (v0.1,()))))
 (some (inl ((w64 (v0.1+1)),()))))))
 (some (inr (inl ()))))) (0,())).bind λv3 =>
 (cc_ v3 (λv4=>(some ((-1),())))
 (λv5=>(some v5))))
theorem x_178:ba_ (P:=prog) (cxI (λk=>cond (Nat.beq k 114) (.p .z (.p (.p .z (.ls [.v 8 .int] [] [] 0 .z)) .z)) (.z)) (λk=>Nat.beq k 173||false) (cxC [c_173] []) 3) .z 178 [(.list ah_),(.list .int)] [.int]=λx=>cy_ x.1 x.2.1:=by kernel_rfl
noncomputable def c_178:Con prog:=bd_ _ _ 178 [(.list ah_),(.list .int)] [.int] _ x_178
noncomputable def fl_ (a0:aa_) (a1:ab_):Option (Int×Unit) :=
 ((gx_ a0).bind λv0 =>
 (cond (v0.1 != 0)
 (some (v0.1,()))
 ((hw_ a0 a1).bind λv1 =>
 (cond (!v1.1)
 (some (11,()))
 (some (0,()))))))
theorem x_160:ba_ (P:=prog) (cxC [c_152,c_205] []) .z 160 [af_,ah_] [.int]=λx=>fl_ x.1 x.2.1:=by kernel_rfl
noncomputable def c_160:Con prog:=bd_ _ _ 160 [af_,ah_] [.int] _ x_160
noncomputable def ji_ (a0:(List ab_)) (a1:(List Int)):Option (Int×Unit) :=
 ((ae_ (ρ:=(Unit⊕(Int×Unit))) (λ(v0:(Int×Unit)) =>
 (cond (decide (v0.1<(a0.length:Int)))
 ((at? a0 v0.1).bind λv1 =>
 ((gm_ v1 a1).bind λv2 =>
 (cond (!v2.1)
 (some (inr (inr (v0.1,()))))
 (some (inl ((w64 (v0.1+1)),()))))))
 (some (inr (inl ()))))) (0,())).bind λv3 =>
 (cc_ v3 (λv4=>(some ((-1),())))
 (λv5=>(some v5))))
theorem x_109:ba_ (P:=prog) (cxC [c_161] []) (.p .z (.p (.p .z (.ls [.v 5 .int] [] [] 0 .z)) .z)) 109 [(.list ah_),(.list .int)] [.int]=λx=>ji_ x.1 x.2.1:=by kernel_rfl
noncomputable def c_109:Con prog:=bd_ _ _ 109 [(.list ah_),(.list .int)] [.int] _ x_109
end
end Go.Proofs.YtlbfbdbagohinaaGreatDoor.Rx
namespace Go.Proofs.YtlbfbdbagohinaaGreatDoor.Rx
open Go Pad Rex Sum
section
def wi (a b c:Int):Bool:=decide (b≤a)&&decide (a≤c)
theorem cm_ {a b c:Int}:wi a b c=true↔b≤a∧a≤c:=by simp[wi]
theorem at4 (a b c:Int):(cond (decide (b≤a)) (some ((decide (a≤c)),())) (some (false,())))=some (wi a b c,()):=by
 unfold wi
 cases decide (b≤a)<;>rfl
theorem dr_ (a b c:Int):au_ a b c=some (wi a b c,()):=at4 a b c
theorem hn_ (a b c:Int):bp_ a b c=some (wi a b c,()):=at4 a b c
theorem km_ {α:Type} [BEq α] [LawfulBEq α] (l:List α) (x:α):l.any (x == ·)=l.contains x:=by
 induction l with
 | nil=>rfl
 | cons y l ih=>simp[List.contains_cons,ih]
theorem bo0 {l:List Int} {x:Int} (hl:Sm l.length):∃ i:Int,ep_ l x=some (i,())∧decide (0≤i)=l.contains x:=by
  unfold ep_
  have h1:=mw_ l (λi y=>cond (x==y) (some (inr ((i:Int),()):Unit⊕(Int×Unit))) none) (λi=>((i:Int),())) (r0:=inl ())
    (body:=λ(v0:(Int×Unit)) =>
     (cond (decide (v0.1<(l.length:Int)))
     ((at? l v0.1).bind λv1 =>
     (cond (x==v1)
     (some (inr (inr (v0.1,()))))
     (some (inl ((w64 (v0.1+1)),())))))
     (some (inr (inl ())))))
    (λi y hy=>by
      have hi:=an_ hy
      simp only[dlt hi,a5_,ag_ hy,a0_,br_ (show Sm i by omega)]
      cases x==y<;>rfl)
    (by simp only[dnl,a4_])
  rcases xx_ (q:=λy=>x==y) (f:=λi=>(inr ((i:Int),()):Unit⊕(Int×Unit))) l 0 with ⟨h2,h3⟩ | ⟨i,h2,h3⟩
  · refine⟨-1,e6_ (congrArg (λo=>Option.bind o _) h1) ?_,by rw[← km_,h3];rfl⟩
    rw[h2];rfl
  · refine⟨i,e6_ (congrArg (λo=>Option.bind o _) h1) ?_,by rw[← km_,h3];exact b4_ (by omega)⟩
    rw[h2];rfl
theorem np_ {l:List Int} {x:Int} (hl:Sm l.length):be_ l x=some (l.contains x,()):=by
 obtain⟨i,h1,h2⟩:=bo0 (x:=x) hl
 unfold be_
 rw[h1,a0_,h2]
theorem af9 {l:List (List UInt8)} {x:List UInt8} (hl:Sm l.length):∃ i:Int,dk_ l x=some (i,())∧decide (0≤i)=l.contains x:=by
 unfold dk_
 rcases xx_ (q:=λy=>x==y) (f:=λi=>(inr ((i:Int),()):Unit⊕(Int×Unit))) l 0 with ⟨h2,h3⟩ | ⟨i,h2,h3⟩
 ·refine⟨-1,hh_ l (λi y=>cond (x==y) (some (inr ((i:Int),()):Unit⊕(Int×Unit))) none) (λi=>((i:Int),())) (r0:=inl ()) (λi y hy => ?_) ?_ ?_,by rw[← km_,h3];rfl⟩
  ·have hi:=an_ hy
   simp only[dlt hi,a5_,ag_ hy,a0_,br_ (show Sm i by omega)]
   cases x==y<;>rfl
  ·simp only[dnl,a4_]
  ·rw[h2];rfl
 ·refine⟨i,hh_ l (λi y=>cond (x==y) (some (inr ((i:Int),()):Unit⊕(Int×Unit))) none) (λi=>((i:Int),())) (r0:=inl ()) (λi y hy => ?_) ?_ ?_,by rw[← km_,h3];exact b4_ (by omega)⟩
  ·have hi:=an_ hy
   simp only[dlt hi,a5_,ag_ hy,a0_,br_ (show Sm i by omega)]
   cases x==y<;>rfl
  ·simp only[dnl,a4_]
  ·rw[h2];rfl
theorem vt_ {l:List (List UInt8)} {x:List UInt8} (hl:Sm l.length):cu_ l x=some (l.contains x,()):=by
 obtain⟨i,h1,h2⟩:=af9 (x:=x) hl
 unfold cu_
 rw[h1,a0_,h2]
def yp_ (c:UInt8):Bool:=decide (97≤(c.toNat:Int))&&decide ((c.toNat:Int)≤122)
def okW (t:List UInt8):Bool:=t.all yp_&&(!(t==[])&&!(reserved.contains t))
def okN (t:List UInt8):Bool:=decide ((t.length:Int)≤12)&&okW t
theorem bv5 (c:UInt8):(cond (decide (((UInt8.toNat c):Int)<97)) (some (true,())) (some ((decide (122<((UInt8.toNat c):Int))),())))=some (!(yp_ c),()):=by
 unfold yp_
 by_cases h1:((UInt8.toNat c):Int)<97
 ·rw[b4_ h1,c1_ (by omega:¬ (97:Int)≤(c.toNat:Int))];rfl
 ·rw[c1_ h1,b4_ (by omega:(97:Int)≤(c.toNat:Int))]
  by_cases h2:122<((UInt8.toNat c):Int)
  ·rw[b4_ h2,c1_ (by omega:¬ ((UInt8.toNat c):Int)≤122)];rfl
  ·rw[c1_ h2,b4_ (by omega:((UInt8.toNat c):Int)≤122)];rfl
theorem sc_ {t:List UInt8} (hl:Sm t.length):ae_ (ρ:=(Unit⊕(Bool×Unit))) (λ(v0:(Int×Unit)) =>
 (cond (decide (v0.1<(t.length:Int)))
 ((((at? t v0.1).bind λv1 =>
 (cond (decide (((UInt8.toNat v1):Int)<97))
 (some (true,()))
 ((at? t v0.1).bind λv2 =>
 (some ((decide (122<((UInt8.toNat v2):Int))),())))))).bind λv3 =>
 (cond v3.1
 (some (inr (inr (false,()))))
 (some (inl ((w64 (v0.1+1)),())))))
 (some (inr (inl ()))))) (0,())=some (cond (t.all yp_) (inl ()) (inr (false,()))):=by
  refine e6_ (mw_ t (λi c=>cond (yp_ c) none (some (inr (false,()):Unit⊕(Bool×Unit)))) (λi=>((i:Int),())) (r0:=inl ()) (λi y hy => ?_) ?_) ?_
  · have hi:=an_ hy
    simp only[dlt hi,a5_,ag_ hy,a0_,br_ (show Sm i by omega),bv5]
    cases yp_ y<;>rfl
  · simp only[dnl,a4_]
  · rw[tb_]
    cases t.all yp_<;>rfl
theorem ba7 {t:List UInt8} (hl:Sm t.length):ex_ t=some (okW t,()):=by
 unfold ex_
 refine e6_ (congrArg (λo=>Option.bind o _) (sc_ hl)) ?_
 unfold okW
 rw[a0_]
 cases t.all yp_ with
 | false=>rfl
 | true =>
  simp only[a5_,c6_]
  cases t==[] with
  | true=>rfl
  | false =>
   simp only[k7_,a5_,c6_]
   rw[vt_ (by decide),a0_]
   rfl
theorem bc4 {t:List UInt8} (hl:Sm t.length):lu_ t=some (okW t,()):=by
  unfold lu_
  have h0:(((cond (t==[]) (some ((t==[]),())) (cond (t==[97,116]) (some ((t==[97,116]),())) (cond (t==[115,116,97,116,101,115]) (some ((t==[115,116,97,116,101,115]),())) (cond (t==[115,116,97,114,116]) (some ((t==[115,116,97,114,116]),()))
     (cond (t==[103,111,110,101]) (some ((t==[103,111,110,101]),())) (cond (t==[105,102]) (some ((t==[105,102]),())) (cond (t==[108,111,99,107]) (some ((t==[108,111,99,107]),())) (cond (t==[119,105,116,104]) (some ((t==[119,105,116,104]),()))
     (cond (t==[115,101,116,115]) (some ((t==[115,101,116,115]),())) (cond (t==[115,112,101,110,100,115]) (some ((t==[115,112,101,110,100,115]),())) (some ((t==[98,114,105,110,103,115]),()))))))))))))):Option (Bool×Unit))=some ((t==[]||reserved.contains t),()):=by
    unfold reserved
    simp only[List.contains_cons,List.contains_nil,h6_]
    cases t==[] with
    | true=>rfl
    | false =>
    cases t==[97,116] with
    | true=>rfl
    | false =>
    cases t==[115,116,97,116,101,115] with
    | true=>rfl
    | false =>
    cases t==[115,116,97,114,116] with
    | true=>rfl
    | false =>
    cases t==[103,111,110,101] with
    | true=>rfl
    | false =>
    cases t==[105,102] with
    | true=>rfl
    | false =>
    cases t==[108,111,99,107] with
    | true=>rfl
    | false =>
    cases t==[119,105,116,104] with
    | true=>rfl
    | false =>
    cases t==[115,101,116,115] with
    | true=>rfl
    | false =>
    cases t==[115,112,101,110,100,115] with
    | true=>rfl
    | false=>rfl
  refine e6_ (congrArg (λo=>Option.bind o _) h0) ?_
  rw[a0_]
  unfold okW
  cases hz:(t==[]||reserved.contains t) with
  | true =>
    have:(!(t==[])&&!(reserved.contains t))=false:=by
      rw[← Bool.not_or,hz];rfl
    rw[this,l7_]
    rfl
  | false =>
    have:(!(t==[])&&!(reserved.contains t))=true:=by
      rw[← Bool.not_or,hz];rfl
    rw[this,i4_]
    simp only[a4_]
    refine e6_ (congrArg (λo=>Option.bind o _) (sc_ hl)) ?_
    rw[a0_]
    cases t.all yp_<;>rfl
end
section
def sy_ (things:List hr_) (th n:Int):Bool:=wi th 0 (w64 ((things.length:Int) - 1))&&match at? things th with
 | some t=>wi n 0 (w64 (t.2.2.1 - 1))
 | none=>false
theorem as6 {α:Type} {l:List α} {i:Int} (hl:Sm l.length) (h:wi i 0 (w64 ((l.length:Int) - 1))=true):∃ x,at? l i=some x:=by
 rw[ic_ (by omega) (by omega)] at h
 obtain⟨h1,h2⟩:=cm_.1 h
 obtain⟨x,hx⟩:=bi_ (l:=l) (i:=i.toNat) (by omega)
 exact⟨x,by rw[show i=((i.toNat:Nat):Int) by omega];exact ag_ hx⟩
theorem ob_ {r:ad_} (hl:Sm r.2.1.length) (th n:Int):ey_ r th n=some (sy_ r.2.1 th n,()):=by
 unfold ey_ sy_
 rw[dr_,a0_]
 cases h:wi th 0 (w64 ((r.2.1.length:Int) - 1)) with
 | false=>rfl
 | true =>
  obtain⟨x,hx⟩:=as6 hl h
  simp only[a5_,hx,a0_,dr_,c6_]
def cOk (things:List hr_) (c:List bx_):Bool:=decide ((c.length:Int)≤8)&&c.all λl=>sy_ things l.1 l.2.1
theorem rs_ {α:Type} (l:List α) (q:α→Bool):(!(l.any λx=>!(q x)))=l.all q:=by
 induction l with
 | nil=>rfl
 | cons x l ih =>
  rw[List.any_cons,List.all_cons,← ih]
  cases q x<;>rfl
theorem jn_ {r:ad_} (hl:Sm r.2.1.length) (c:List bx_):dl_ r c=some (cOk r.2.1 c,()):=by
 unfold dl_ cOk
 cases h8:decide ((c.length:Int)≤8) with
 | false=>rfl
 | true =>
  have h8:=f9_ h8
  simp only[a5_,c6_]
  refine e6_ (congrArg (λo=>Option.bind o _) (ng_ (show Sm c.length by omega) (λl=>!(sy_ r.2.1 l.1 l.2.1)) (λi y hy => ?_) ?_)) ?_
  ·simp only[dlt (an_ hy),a5_,ag_ hy,a0_,ob_ hl]
   cases sy_ r.2.1 y.1 y.2.1<;>rfl
  ·simp only[dnl,a4_]
  ·rw[a0_]
   exact congrArg (λb=>some (b,())) (rs_ c _)
theorem au8 {r:ad_} (hl:Sm r.2.1.length) (c:List bx_):kd_ r c=some (cOk r.2.1 c,()):=by
 unfold kd_ cOk
 cases h8:decide ((c.length:Int)≤8) with
 | false=>rfl
 | true =>
  have h8:=f9_ h8
  simp only[a5_,c6_]
  refine e6_ (congrArg (λo=>Option.bind o _) (ng_ (show Sm c.length by omega) (λl=>!(sy_ r.2.1 l.1 l.2.1)) (λi y hy => ?_) ?_)) ?_
  ·simp only[dlt (an_ hy),a5_,ag_ hy,a0_,hn_,sy_]
   cases h:wi y.1 0 (w64 ((r.2.1.length:Int) - 1)) with
   | false=>rfl
   | true =>
    obtain⟨x,hx⟩:=as6 hl h
    simp only[e3_,a4_,hx,a0_,c6_]
    cases wi y.2.1 0 (w64 (x.2.2.1 - 1))<;>rfl
  ·simp only[dnl,a4_]
  ·rw[a0_]
   exact congrArg (λb=>some (b,())) (rs_ c _)
end
section
def prv (l:List Int) (i:Nat):Int:=match i with
 | 0=>-1
 | j+1=>(l[j]?).getD 0
def ce0 (np:Nat) (l:List Int) (i:Nat) (x:Int):Bool:=decide (x≤prv l i)||decide ((np:Int)≤x)
def badQ (np:Nat) (l:List Int) (i:Nat) (x:Int):Bool:=!(wi x 0 ((np:Int) - 1))||(decide (0<i)&&decide (x≤prv l i))
def vo_ (np:Nat) (l:List Int):Bool:=(gs_ (λi x=>cond (ce0 np l i x) (some ()) none) 0 l).isNone
theorem aa6 {α ρ:Type} {q:Nat→α→Bool} {r:ρ}:∀ (l:List α) (i:Nat),gs_ (λi x=>cond (q i x) (some r) none) i l=cond (gs_ (λi x=>cond (q i x) (some ()) none) i l).isNone none (some r)
 | [],_=>rfl
 | x::l,i=>by
  unfold gs_
  cases q i x with
  | true=>rfl
  | false=>exact aa6 l (i+1)
theorem xw_ {α:Type} {q:Nat→α→Bool} (l:List α):(gs_ (λi x=>cond (q i x) (some ()) none) 0 l).isNone=true↔∀ i x,l[i]?=some x→q i x=false:=by
 rw[Option.isNone_iff_eq_none,js_]
 constructor
 ·intro h i x hx
  have:=h i x hx
  rw[a8_] at this
  cases hq:q i x with
  | false=>rfl
  | true=>rw[hq] at this;cases this
 ·intro h i x hx
  rw[a8_,h i x hx]
  rfl
theorem asc_eq (np:Nat) (l:List Int):(gs_ (λi x=>cond (badQ np l i x) (some ()) none) 0 l).isNone=vo_ np l:=by
 rw[m4_]
 unfold vo_
 rw[xw_,xw_]
 constructor
 ·intro h i x hx
  have h0:=h i x hx
  unfold badQ at h0
  rw[b8_] at h0
  obtain⟨h1,h2⟩:=h0
  have h1:wi x 0 ((np:Int) - 1)=true:=by simpa using h1
  obtain⟨h3,h4⟩:=cm_.1 h1
  unfold ce0
  rw[b8_]
  refine⟨?_,c1_ (by omega)⟩
  cases i with
  | zero=>exact c1_ (by show ¬ x≤-1;omega)
  | succ j =>
   have:decide (0<j+1)=true:=b4_ (by omega)
   rw[this,c6_] at h2
   exact h2
 ·intro h
  have pos:∀ (i:Nat) (x:Int),l[i]?=some x→0≤x∧x<np:=by
   intro i
   induction i with
   | zero =>
    intro x hx
    have h0:=h 0 x hx
    unfold ce0 at h0
    rw[b8_] at h0
    have h1:=d1_ h0.1
    have h2:=d1_ h0.2
    have h1:¬ x≤-1:=h1
    omega
   | succ j ih =>
    intro x hx
    have h0:=h (j+1) x hx
    unfold ce0 at h0
    rw[b8_] at h0
    have h1:=d1_ h0.1
    have h2:=d1_ h0.2
    obtain⟨y,hy⟩:=bi_ (l:=l) (i:=j) (by have:=an_ hx;omega)
    have h3:=ih y hy
    have h1:¬ x≤(l[j]?).getD 0:=h1
    rw[hy] at h1
    have h1:¬ x≤y:=h1
    omega
  intro i x hx
  have h0:=h i x hx
  unfold ce0 at h0
  rw[b8_] at h0
  have hp:=pos i x hx
  unfold badQ
  have:wi x 0 ((np:Int) - 1)=true:=cm_.2 ⟨hp.1,by omega⟩
  rw[this,h0.1,l7_]
  rfl
theorem qy_ {r:ad_} {l:List Int} (hl:Sm l.length):gl_ r l=some (vo_ r.2.2.1.length l,()):=by
 unfold gl_
 refine hh_ l (λi x=>cond (ce0 r.2.2.1.length l i x) (some (inr (false,()):Unit⊕(Bool×Unit))) none) (λi=>(prv l i,((i:Int),()))) (r0:=inl ()) (λi y hy => ?_) ?_ ?_
 ·have hi:=an_ hy
  simp only[dlt hi,a5_,ag_ hy,a0_,br_ (show Sm i by omega),ce0]
  have hn:prv l (i+1)=y:=by show (l[i]?).getD 0=y;rw[hy];rfl
  cases decide (y≤prv l i) with
  | true=>rfl
  | false =>
   simp only[a4_,j6_,a0_,hn]
   cases decide ((r.2.2.1.length:Int)≤y)<;>rfl
 ·simp only[dnl,a4_]
 ·rw[aa6]
  unfold vo_
  cases (gs_ (λi x=>cond (ce0 r.2.2.1.length l i x) (some ()) none) 0 l).isNone<;>rfl
end
end Go.Proofs.YtlbfbdbagohinaaGreatDoor.Rx
namespace Go.Proofs.YtlbfbdbagohinaaGreatDoor.Rx
open Go Pad Rex Go.Proofs Go.Proofs.Tryz Sum
section
set_option maxRecDepth 100000
set_option maxHeartbeats 0
noncomputable def bu_ (a0:aa_) (a1:(List Int)):Option (Int×Unit) :=
 ((dn_ a0 ([a1]:List (List Int))).bind λv0 =>
 (some (v0.1,())))
theorem x_62:ba_ (P:=prog) (cxC [c_113] []) .z 62 [af_,(.list .int)] [.int]=λx=>bu_ x.1 x.2.1:=by kernel_rfl
noncomputable def c_62:Con prog:=bd_ _ _ 62 [af_,(.list .int)] [.int] _ x_62
noncomputable def fc_ (a0:ad_):Option (Int×Unit) :=
 (((cond (decide (8<(a0.1.length:Int)))
 (some (true,()))
 (cond (decide (12<(a0.2.1.length:Int)))
 (some (true,()))
 (cond (decide (10<(a0.2.2.1.length:Int)))
 (some (true,()))
 (cond (decide (16<(a0.2.2.2.1.length:Int)))
 (some (true,()))
 (cond (decide (24<(a0.2.2.2.2.1.length:Int)))
 (some (true,()))
 (some ((decide (12<(a0.2.2.2.2.2.1.length:Int))),())))))))).bind λv0 =>
 (cond v0.1
 (some (2,()))
 ((ae_ (ρ:=(Unit⊕(Int×Unit))) (λ(v1:(Int×Unit)) =>
 (cond (decide (v1.1<(a0.1.length:Int)))
 ((at? a0.1 v1.1).bind λv2 =>
 ((sub? a0.1 0 v1.1).bind λv3 =>
 ((((ex_ v2).bind λv4 =>
 (cond v4.1
 (cond (decide ((v2.length:Int)≤12))
 ((((ae_ (ρ:=(Unit⊕(Int×Unit))) (λ(v5:(Int×Unit)) =>
 (cond (decide (v5.1<(v3.length:Int)))
 ((at? v3 v5.1).bind λv6 =>
 (cond (v6==v2)
 (some (inr (inr (v5.1,()))))
 (some (inl ((w64 (v5.1+1)),())))))
 (some (inr (inl ()))))) (0,())).bind λv7 =>
 (cc_ v7 (λv8=>(some ((-1),())))
 (λv9=>(some v9))))).bind λv10 =>
 (some ((decide (v10.1<0)),())))
 (some (false,())))
 (some (false,()))))).bind λv11 =>
 (cond (!v11.1)
 (some (inr (inr (22,()))))
 (some (inl ((w64 (v1.1+1)),())))))))
 (some (inr (inl ()))))) (0,())).bind λv12 =>
 (cc_ v12 (λv13=>(cond ((a0.1.length:Int)==0)
 (some (22,()))
 ((ae_ (ρ:=(Unit⊕(Int×Unit))) (λ(v15:(Int×Unit)) =>
 (cond (decide (v15.1<(a0.2.1.length:Int)))
 ((at? a0.2.1 v15.1).bind λv16 =>
 ((((sub? a0.2.1 0 v15.1).bind λv17 =>
 ((((ex_ v16.1).bind λv18 =>
 (cond v18.1
 (cond (decide ((v16.1.length:Int)≤12))
 ((((ae_ (ρ:=(Unit⊕(Int×Unit))) (λ(v19:(Int×Unit)) =>
 (cond (decide (v19.1<(v17.length:Int)))
 ((at? v17 v19.1).bind λv20 =>
 (cond (v20.1==v16.1)
 (some (inr (inr (v19.1,()))))
 (some (inl ((w64 (v19.1+1)),())))))
 (some (inr (inl ()))))) (0,())).bind λv21 =>
 (cc_ v21 (λv22=>(some ((-1),())))
 (λv23=>(some v23))))).bind λv24 =>
 (some ((decide (v24.1<0)),())))
 (some (false,())))
 (some (false,()))))).bind λv25 =>
 (cond (!v25.1)
 (some (true,()))
 ((au_ v16.2.1 0 (w64 ((a0.1.length:Int) - 1))).bind λv26 =>
 (cond (!v26.1)
 (some (true,()))
 ((au_ v16.2.2.1 2 6).bind λv27 =>
 (cond (!v27.1)
 (some (true,()))
 ((au_ v16.2.2.2 0 (w64 (v16.2.2.1 - 1))).bind λv28 =>
 (some ((!v28.1),()))))))))))).bind λv29 =>
 (cond v29.1
 (some (inr (inr (21,()))))
 (some (inl ((w64 (v15.1+1)),()))))))
 (some (inr (inl ()))))) (0,())).bind λv30 =>
 (cc_ v30 (λv31=>((ae_ (ρ:=(Unit⊕(Int×Unit))) (λ(v33:(Int×Unit)) =>
 (cond (decide (v33.1<(a0.2.2.1.length:Int)))
 ((at? a0.2.2.1 v33.1).bind λv34 =>
 ((((sub? a0.2.2.1 0 v33.1).bind λv35 =>
 ((((ex_ v34.1).bind λv36 =>
 (cond v36.1
 (cond (decide ((v34.1.length:Int)≤12))
 ((((ae_ (ρ:=(Unit⊕(Int×Unit))) (λ(v37:(Int×Unit)) =>
 (cond (decide (v37.1<(v35.length:Int)))
 ((at? v35 v37.1).bind λv38 =>
 (cond (v38.1==v34.1)
 (some (inr (inr (v37.1,()))))
 (some (inl ((w64 (v37.1+1)),())))))
 (some (inr (inl ()))))) (0,())).bind λv39 =>
 (cc_ v39 (λv40=>(some ((-1),())))
 (λv41=>(some v41))))).bind λv42 =>
 (some ((decide (v42.1<0)),())))
 (some (false,())))
 (some (false,()))))).bind λv43 =>
 (cond (!v43.1)
 (some (true,()))
 ((au_ v34.2.1 0 (w64 ((a0.1.length:Int) - 1))).bind λv44 =>
 (cond (!v44.1)
 (some ((v34.2.1 != (-1)),()))
 (some (false,())))))))).bind λv45 =>
 (cond v45.1
 (some (inr (inr (24,()))))
 ((dl_ a0 v34.2.2).bind λv46 =>
 (cond (!v46.1)
 (some (inr (inr (25,()))))
 (some (inl ((w64 (v33.1+1)),()))))))))
 (some (inr (inl ()))))) (0,())).bind λv47 =>
 (cc_ v47 (λv48=>((ae_ (ρ:=(Unit⊕(Int×Unit))) (λ(v50:(Int×Unit)) =>
 (cond (decide (v50.1<(a0.2.2.2.1.length:Int)))
 ((at? a0.2.2.2.1 v50.1).bind λv51 =>
 ((((au_ v51.1 0 (w64 ((a0.1.length:Int) - 1))).bind λv52 =>
 (cond (!v52.1)
 (some (true,()))
 ((au_ v51.2.1 0 (w64 ((a0.1.length:Int) - 1))).bind λv53 =>
 (cond (!v53.1)
 (some (true,()))
 (some ((v51.1==v51.2.1),()))))))).bind λv54 =>
 (cond v54.1
 (some (inr (inr (23,()))))
 ((dl_ a0 v51.2.2).bind λv55 =>
 (cond (!v55.1)
 (some (inr (inr (25,()))))
 (some (inl ((w64 (v50.1+1)),()))))))))
 (some (inr (inl ()))))) (0,())).bind λv56 =>
 (cc_ v56 (λv57=>((ae_ (ρ:=(Unit⊕(Int×Unit))) (λ(v59:(Int×Unit)) =>
 (cond (decide (v59.1<(a0.2.2.2.2.1.length:Int)))
 ((at? a0.2.2.2.2.1 v59.1).bind λv60 =>
 ((ol_ a0 v59.1 v60).bind λv61 =>
 (cond (!v61.1)
 (some (inr (inr (26,()))))
 ((dl_ a0 v60.2.2.2.2.1).bind λv62 =>
 (cond (!v62.1)
 (some (inr (inr (25,()))))
 (some (inl ((w64 (v59.1+1)),()))))))))
 (some (inr (inl ()))))) (0,())).bind λv63 =>
 (cc_ v63 (λv64=>((ae_ (ρ:=(Unit⊕(Int×Unit))) (λ(v66:(Int×Unit)) =>
 (cond (decide (v66.1<(a0.2.2.2.2.2.1.length:Int)))
 ((at? a0.2.2.2.2.2.1 v66.1).bind λv67 =>
 ((ey_ a0 v67.2.1 v67.2.2).bind λv68 =>
 (cond (!v68.1)
 (some (inr (inr (27,()))))
 ((dl_ a0 v67.1).bind λv69 =>
 (cond (!v69.1)
 (some (inr (inr (25,()))))
 (some (inl ((w64 (v66.1+1)),()))))))))
 (some (inr (inl ()))))) (0,())).bind λv70 =>
 (cc_ v70 (λv71=>((au_ a0.2.2.2.2.2.2.1 1 4).bind λv73 =>
 (cond (!v73.1)
 (some (1,()))
 ((dl_ a0 a0.2.2.2.2.2.2.2).bind λv74 =>
 (cond (!v74.1)
 (some (25,()))
 (some (0,())))))))
 (λv72=>(some v72)))))
 (λv65=>(some v65)))))
 (λv58=>(some v58)))))
 (λv49=>(some v49)))))
 (λv32=>(some v32))))))
 (λv14=>(some v14))))))
theorem x_73:ba_ (P:=prog) (cxI (λk=>cond (Nat.beq k 122) (.p .z (.j0 [.v 6 .bool] .z .z)) (cond (Nat.beq k 124) (.p .z (.j0 [.v 6 .bool] .z .z)) (cond (Nat.beq k 126) (.p .z (.j0 [.v 6 .bool] .z .z)) (cond (Nat.beq k 180) (.p .z (.j0 [.v 6 .int] .z .z)) (cond (Nat.beq k 181) (.p .z (.j0 [.v 6 .int] .z .z)) (cond (Nat.beq k 182) (.p .z (.j0 [.v 6 .int] .z .z)) (cond (Nat.beq k 214) (.p .z (.p (.p .z (.ls [.v 8 .int] [] [] 0 .z)) .z)) (cond (Nat.beq k 215) (.p .z (.p (.q [] .z .z) .z)) (cond (Nat.beq k 216) (.p .z (.p (.p .z (.ls [.v 8 .int] [] [] 0 .z)) .z)) (cond (Nat.beq k 217) (.p .z (.p (.q [] .z .z) .z)) (cond (Nat.beq k 218) (.p .z (.p (.p .z (.ls [.v 8 .int] [] [] 0 .z)) .z)) (cond (Nat.beq k 219) (.p .z (.p (.q [] .z .z) .z)) (.z))))))))))))) (λk=>Nat.beq k 121||Nat.beq k 123||Nat.beq k 125||Nat.beq k 127||Nat.beq k 128||Nat.beq k 129||Nat.beq k 130||Nat.beq k 179||false) (cxC [bl7,c_123,c_125,c_127,c_128,c_129,bz5,c_179] []) 12) (.p .z (.p (.j0 [.v 49 .bool] .z .z) (.p .z (.p (.p .z (.ls [.v 54 .int] [] [] 0 .z)) (.p .z (.p (.p .z (.ls [.v 74 .int] [] [] 2 (.p .z (.p .z (.p (.p .z (.j0 [.v 108 .bool] .z .z)) .z))))) (.p (.p .z (.ls [.v 113 .int] [] [] 4 (.p .z (.p .z (.p (.p .z (.p (.j0 [.v 137 .bool] .z .z) .z)) .z))))) (.p (.p .z (.ls [.v 147 .int] [] [] 6 (.p .z (.p .z (.p (.p .z (.p (.j0 [.v 169 .bool] .z .z) .z)) .z))))) (.p (.p .z (.ls [.v 179 .int] [] [] 8 .z)) (.p (.p .z (.ls [.v 198 .int] [] [] 10 .z)) .z)))))))))) 73 [bb_] [.int]=λx=>fc_ x.1:=by kernel_rfl
noncomputable def c_73:Con prog:=bd_ _ _ 73 [bb_] [.int] _ x_73
noncomputable def dc_ (a0:aa_) (a1:ab_):Option (Int×Unit) :=
 ((cq_ a0).bind λv0 =>
 (cond (v0.1 != 0)
 (some (v0.1,()))
 ((cg_ a0 a1).bind λv1 =>
 (cond (!v1.1)
 (some (11,()))
 (some (0,()))))))
theorem x_172:ba_ (P:=prog) (cxC [c_74,c_118] []) .z 172 [af_,ah_] [.int]=λx=>dc_ x.1 x.2.1:=by kernel_rfl
noncomputable def c_172:Con prog:=bd_ _ _ 172 [af_,ah_] [.int] _ x_172
noncomputable def ci_ (a0:aa_) (a1:(List ab_)):Option (Int×Unit) :=
 ((cq_ a0).bind λv0 =>
 (cond (v0.1 != 0)
 (some (v0.1,()))
 (cond (decide (20<(a1.length:Int)))
 (some (2,()))
 ((((ae_ (ρ:=(Unit⊕(Bool×Unit))) (λ(v1:(Int×Unit)) =>
 (cond (decide (v1.1<(a1.length:Int)))
 ((at? a1 v1.1).bind λv2 =>
 ((cg_ a0 v2).bind λv3 =>
 (cond (!v3.1)
 (some (inr (inr ((decide (0≤v1.1)),()))))
 (some (inl ((w64 (v1.1+1)),()))))))
 (some (inr (inl ()))))) (0,())).bind λv4 =>
 (cc_ v4 (λv5=>(some ((decide (0≤(-1))),())))
 (λv6=>(some v6))))).bind λv7 =>
 (cond v7.1
 (some (11,()))
 (some (0,())))))))
theorem x_69:ba_ (P:=prog) (cxI (λk=>cond (Nat.beq k 63) (.p .z (.j0 [.v 4 .bool] .z .z)) (cond (Nat.beq k 114) (.p .z (.p (.p .z (.ls [.v 8 .int] [] [] 0 .z)) .z)) (.z))) (λk=>Nat.beq k 74||Nat.beq k 118||false) (cxC [c_74,c_118] []) 4) .z 69 [af_,(.list ah_)] [.int]=λx=>ci_ x.1 x.2.1:=by kernel_rfl
noncomputable def c_69:Con prog:=bd_ _ _ 69 [af_,(.list ah_)] [.int] _ x_69
noncomputable def cw_ (a0:aa_) (a1:(List ab_)):Option (Int×Unit) :=
 ((mk? (α:=Int) a0.1 0).bind λv0 =>
 ((ae_ (ρ:=((Unit×(Unit×((List Int)×((Int×Unit)×Unit))))⊕(Int×Unit))) (λ(v1:(Unit×(Unit×((List Int)×((Int×Unit)×Unit))))) =>
 ((cy_ a1 v1.2.2.1).bind λv2 =>
 (cond (decide (v2.1<0))
 ((ae_ (ρ:=(Int×((List Int)×Unit))) (λ(v3:(Int×((List Int)×Unit))) =>
 (((cond (decide (0≤v3.1))
 ((at? v3.2.1 v3.1).bind λv4 =>
 ((at? v3.2.1 v3.1).bind λv5 =>
 (some ((v5==(w64 (a0.2 - 1))),()))))
 (some (false,())))).bind λv6 =>
 (cond v6.1
 ((at? v3.2.1 v3.1).bind λv7 =>
 ((at? v3.2.1 v3.1).bind λv8 =>
 (some (inl ((w64 (v3.1 - 1)),((v3.2.1.set v3.1.toNat 0),()))))))
 (some (inr (v3.1,(v3.2.1,()))))))) ((w64 (a0.1 - 1)),(v1.2.2.1,()))).bind λv9 =>
 (cond (decide (v9.1<0))
 (some (inr (inr ((w64 (v1.2.2.2.1.1+1)),()))))
 ((at? v9.2.1 v9.1).bind λv10 =>
 ((at? v9.2.1 v9.1).bind λv11 =>
 ((at? v9.2.1 v9.1).bind λv12 =>
 ((at? v9.2.1 v9.1).bind λv13 =>
 (some (inl ((),((),((v9.2.1.set v9.1.toNat (w64 (v11+1))),(((w64 (v1.2.2.2.1.1+1)),()),()))))))))))))
 ((ae_ (ρ:=(Int×((List Int)×Unit))) (λ(v14:(Int×((List Int)×Unit))) =>
 (((cond (decide (0≤v14.1))
 ((at? v14.2.1 v14.1).bind λv15 =>
 ((at? v14.2.1 v14.1).bind λv16 =>
 (some ((v16==(w64 (a0.2 - 1))),()))))
 (some (false,())))).bind λv17 =>
 (cond v17.1
 ((at? v14.2.1 v14.1).bind λv18 =>
 ((at? v14.2.1 v14.1).bind λv19 =>
 (some (inl ((w64 (v14.1 - 1)),((v14.2.1.set v14.1.toNat 0),()))))))
 (some (inr (v14.1,(v14.2.1,()))))))) ((w64 (a0.1 - 1)),(v1.2.2.1,()))).bind λv20 =>
 (cond (decide (v20.1<0))
 (some (inr (inr (v1.2.2.2.1.1,()))))
 ((at? v20.2.1 v20.1).bind λv21 =>
 ((at? v20.2.1 v20.1).bind λv22 =>
 ((at? v20.2.1 v20.1).bind λv23 =>
 ((at? v20.2.1 v20.1).bind λv24 =>
 (some (inl ((),((),((v20.2.1.set v20.1.toNat (w64 (v22+1))),((v1.2.2.2.1.1,()),()))))))))))))))) ((),((),(v0,((0,()),()))))).bind λv25 =>
 (cc_ v25 (λv26=>(some (v26.2.2.2.1.1,())))
 (λv27=>(some v27)))))
theorem x_70:ba_ (P:=prog) (cxI (λk=>cond (Nat.beq k 176) (.p .z (.p .z (.rf [2,3] .z .z))) (cond (Nat.beq k 211) (.p .z (.ls [] [] [.y (.c (.y (.s 0) 3) 0),.y (.s 0),.o (.s 3) .int,.b (.y (.c (.y (.s 0) 3) 0) 4) [.val .int]] 0 (.p .z (.p .z (.p (.lp [.v 4 .int] [.v 4 .int] [.o (.s 3) .int] 2 (.p (.j0 [.v 26 .bool] .z .z) .z)) .z))))) (.z))) (λk=>Nat.beq k 178||false) (cxC [c_178] []) 9) (.p .z (.p (.p .z (.rf [4] .z .z)) .z)) 70 [af_,(.list ah_)] [.int]=λx=>cw_ x.1 x.2.1:=by kernel_rfl
noncomputable def c_70:Con prog:=bd_ _ _ 70 [af_,(.list ah_)] [.int] _ x_70
noncomputable def jg_ (a0:aa_) (a1:(List Int)) (a2:ab_):Option (Bool×Unit) :=
 ((fl_ a0 a2).bind λv0 =>
 (cond (v0.1==0)
 ((gm_ a2 a1).bind λv1 =>
 (some (v1.1,())))
 (some (false,()))))
theorem x_108:ba_ (P:=prog) (cxC [c_160,c_161] []) .z 108 [af_,(.list .int),ah_] [.bool]=λx=>jg_ x.1 x.2.1 x.2.2.1:=by kernel_rfl
noncomputable def c_108:Con prog:=bd_ _ _ 108 [af_,(.list .int),ah_] [.bool] _ x_108
noncomputable def ls_ (a0:aa_) (a1:(List ab_)):Option ((List (List Int))×Unit) :=
 ((ae_ (ρ:=(Int×Unit)) (λ(v0:(Int×(Int×Unit))) =>
 (cond (decide (v0.2.1<a0.1))
 (some (inl ((w64 (v0.1 * a0.2)),((w64 (v0.2.1+1)),()))))
 (some (inr (v0.1,()))))) (1,(0,()))).bind λv1 =>
 ((ae_ (ρ:=((List (List Int))×Unit)) (λ(v2:((List (List Int))×(Int×Unit))) =>
 (cond (decide (v2.2.1<v1.1))
 ((((mk? (α:=Int) a0.1 0).bind λv3 =>
 ((ae_ (ρ:=((List Int)×Unit)) (λ(v4:(Int×(Int×((List Int)×Unit)))) =>
 (cond (decide (0≤v4.2.1))
 ((md v4.1 a0.2).bind λv5 =>
 ((at? v4.2.2.1 v4.2.1).bind λv6 =>
 ((at? v4.2.2.1 v4.2.1).bind λv7 =>
 ((dv v4.1 a0.2).bind λv8 =>
 (some (inl (v8,((w64 (v4.2.1 - 1)),((v4.2.2.1.set v4.2.1.toNat v5),())))))))))
 (some (inr (v4.2.2.1,()))))) (v2.2.1,((w64 (a0.1 - 1)),(v3,())))).bind λv9 =>
 ((ji_ a1 v9.1).bind λv10 =>
 (cond (decide (v10.1<0))
 ((push? (α:=(List Int)) v2.1 ([v9.1]:List (List Int))).bind λv11 =>
 (some (v11,())))
 (some (v2.1,()))))))).bind λv12 =>
 (some (inl (v12.1,((w64 (v2.2.1+1)),())))))
 (some (inr (v2.1,()))))) ([],(0,()))).bind λv13 =>
 (some (v13.1,()))))
theorem x_58:ba_ (P:=prog) (cxC [c_109] []) (.p .z (.p .z (.p (.p .z (.lp [.v 5 .int,.v 6 .int] [.v 5 .int] [] 0 .z)) (.p .z (.p (.p .z (.lp [.r 7 (.list .int) 38,.v 8 .int] [.r 7 (.list .int) 38] [] 2 (.p .z (.j0 [.r 7 (.list .int) 38] (.p .z (.p .z (.p (.p .z (.lp [.v 10 .int,.v 11 .int] [] [.o (.s 9) .int] 4 .z)) .z))) .z)))) .z))))) 58 [af_,(.list ah_)] [(.list (.list .int))]=λx=>ls_ x.1 x.2.1:=by kernel_rfl
noncomputable def c_58:Con prog:=bd_ _ _ 58 [af_,(.list ah_)] [(.list (.list .int))] _ x_58
end
end Go.Proofs.YtlbfbdbagohinaaGreatDoor.Rx
namespace Go.Proofs.YtlbfbdbagohinaaGreatDoor.Rx
open Go Pad Rex Sum
section
theorem nw_ {α:Type} {l:List α} {i:Nat} (h:i≤l.length):sub? l 0 (i:Int)=some (l.take i):=by
 unfold sub?
 rw[if_pos ⟨Int.le_refl 0,by omega,by omega⟩]
 simp
def twN {α:Type} (nm:α→List UInt8) (l:List α) (i:Nat) (t:List UInt8):Bool:=(l.take i).any λy=>nm y==t
structure SmR (r:ad_):Prop where
 pl:Sm r.1.length
 th:Sm r.2.1.length
 pr:Sm r.2.2.1.length
 wy:Sm r.2.2.2.1.length
 ac:Sm r.2.2.2.2.1.length
 au:Sm r.2.2.2.2.2.1.length
 go:Sm r.2.2.2.2.2.2.2.length
 pln:∀ x ∈ r.1,Sm x.length
 thn:∀ x ∈ r.2.1,Sm x.1.length
 prn:∀ x ∈ r.2.2.1,Sm x.1.length∧Sm x.2.2.length
 wyn:∀ x ∈ r.2.2.2.1,Sm x.2.2.length
 acn:∀ x ∈ r.2.2.2.2.1,Sm x.1.length∧Sm x.2.2.2.1.length∧Sm x.2.2.2.2.1.length∧Sm x.2.2.2.2.2.1.length∧Sm x.2.2.2.2.2.2.1.length∧Sm x.2.2.2.2.2.2.2.length
 aun:∀ x ∈ r.2.2.2.2.2.1,Sm x.1.length
theorem cl_ {α:Type} {l:List α} {i:Nat} {x:α} (h:l[i]?=some x):x ∈ l:=b3_ h
def wt_ (r:ad_) (p:Int):Bool:=wi p 0 (w64 ((r.1.length:Int) - 1))
def frN {α:Type} (nm:α→List UInt8) (l:List α) (i:Nat) (t:List UInt8):Bool:=okN t&&!(twN nm l i t)
def plOk (r:ad_) (i:Nat) (x:List UInt8):Bool:=frN id r.1 i x
def bp8 (r:ad_) (i:Nat) (x:hr_):Bool:=frN (·.1) r.2.1 i x.1&&(wt_ r x.2.1&&(wi x.2.2.1 2 6&&wi x.2.2.2 0 (w64 (x.2.2.1 - 1))))
def prOk (r:ad_) (i:Nat) (x:rt_):Bool:=frN (·.1) r.2.2.1 i x.1&&(wt_ r x.2.1||x.2.1==(-1))
def ca4 (r:ad_) (x:af8):Bool:=wt_ r x.1&&(wt_ r x.2.1&&!(x.1==x.2.1))
def zw_ (a:Bool) (e:Int) (b:Bool) (f:Int):Option Int:=cond a (cond b none (some f)) (some e)
def pn_ (a:Bool) (e:Int):Option Int:=cond a none (some e)
def left (o:Option Int):Unit⊕(Int×Unit):=match o with
 | none=>.inl ()
 | some e=>.inr (e,())
theorem bv9 (o:Option Int):(o.map λe=>(inr (e,()):Unit⊕(Int×Unit))).getD (inl ())=left o:=by cases o<;>rfl
theorem dv_ {α:Type} (l:List α) (p:Nat→α→Option Int) {body:(Int×Unit)→Option ((Int×Unit)⊕(Unit⊕(Int×Unit)))} {τ:Type} {K:(Unit⊕(Int×Unit))→Option τ} {x:Option τ}
  (h:∀ (i:Nat) y,l[i]?=some y→body ((i:Int),())=some (match p i y with | none=>.inl (((i+1:Nat):Int),()) | some e=>.inr (.inr (e,())))) (e:body ((l.length:Int),())=some (.inr (.inl ()))) (hk:K (left (gs_ p 0 l))=x) :
  (ae_ body (0,())).bind K=x:=by
 refine hh_ l (λi y=>(p i y).map λe=>(inr (e,()):Unit⊕(Int×Unit))) (λi=>((i:Int),())) (r0:=inl ()) (λi y hy => ?_) e ?_
 ·rw[h i y hy]
  cases p i y<;>rfl
 ·rw[an6,bv9]
  exact hk
theorem lz_ {o:Option Int} {K:Unit→Option (Int×Unit)} {k:Int} (h:K ()=some (k,())):cc_ (left o) K (λy=>some y)=some (o.getD k,()):=by
 cases o with
 | none=>exact h
 | some e=>rfl
end
section
def wf_ (r:ad_) (l:List aa_) (i:Nat) (x:aa_):Bool:=sy_ r.2.1 x.1 x.2&&!((l.take i).any λy=>y.1==x.1)
def af7 (r:ad_) (i:Nat) (a:fh_):Bool :=
 frN (·.1) r.2.2.2.2.1 i a.1&&(wt_ r a.2.1&&(wi a.2.2.1 (-1) 7&&(vo_ r.2.2.1.length a.2.2.2.1&&(vo_ r.2.2.1.length a.2.2.2.2.2.2.1&&(vo_ r.2.2.1.length a.2.2.2.2.2.2.2&&(!(decide (6<(a.2.2.2.2.2.1.length:Int)))
  && ((a.2.2.2.2.2.2.1.all λp=>a.2.2.2.1.contains p)&&(!(a.2.2.2.2.2.2.2.any λp=>a.2.2.2.1.contains p)
   && (gs_ (λi x=>cond (wf_ r a.2.2.2.2.2.1 i x) none (some ())) 0 a.2.2.2.2.2.1).isNone))))))))
theorem wg_ {α ρ:Type} {q:Nat→α→Bool} {r:ρ}:∀ (l:List α) (i:Nat),gs_ (λi x=>cond (q i x) none (some r)) i l=cond (gs_ (λi x=>cond (q i x) none (some ())) i l).isNone none (some r)
 | [],_=>rfl
 | x::l,i=>by
  unfold gs_
  cases q i x with
  | false=>rfl
  | true=>exact wg_ l (i+1)
theorem tg_ {α:Type} {l:List α} (hl:Sm l.length) (nm:α→List UInt8) {t:List UInt8} (ht:Sm t.length) :
  ((ex_ t).bind λv1=>cond v1.1 (cond (decide ((t.length:Int)≤12)) ((((ae_ (ρ:=Unit⊕(Int×Unit)) (λ(v:Int×Unit)=>cond (decide (v.1<(l.length:Int))) ((at? l v.1).bind λy=>cond (nm y==t) (some (inr (inr (v.1,())))) (some (inl (w64 (v.1+1),())))) (some (inr (inl ())))) (0,())).bind λv=>cc_ v (λ_=>some ((-1:Int),())) (λw=>some w))).bind λv=>some (decide (v.1<0),())) (some (false,()))) (some (false,())))
   = some (okN t&&!(l.any λy=>nm y==t),()):=by
 rw[ba7 ht,a0_]
 obtain⟨n,h1,h2,_⟩:=if_lt hl (λy=>nm y==t) (body:=λ(v:Int×Unit)=>cond (decide (v.1<(l.length:Int))) ((at? l v.1).bind λy=>cond (nm y==t) (some (inr (inr (v.1,())))) (some (inl (w64 (v.1+1),())))) (some (inr (inl ())))) (λi y hy=>by
  simp only[dlt (an_ hy),a5_,ag_ hy,a0_]
  cases nm y==t<;>rfl) (by simp only[dnl,a4_])
 rw[h1,a0_,h2]
 unfold okN
 cases okW t with
 | false=>rw[l7_,e1_];rfl
 | true=>cases decide ((t.length:Int)≤12)<;>rfl
theorem tx_ {α:Type} {l:List α} (h:Sm l.length) (i:Nat):Sm (l.take i).length:=by
 rw[c4_]
 exact d9_ (Nat.min_le_right _ _) h
theorem bs2 {r:ad_} (h:SmR r) {i:Nat} {a:fh_} (ha:r.2.2.2.2.1[i]?=some a):ol_ r (i:Int) a=some (af7 r i a,()):=by
 have hi:=an_ ha
 obtain⟨s1,s2,s3,s4,s5,s6⟩:=h.acn a (cl_ ha)
 unfold ol_
 refine e6_ (congrArg (λo=>Option.bind o _) (?_:_=some (!(frN (·.1) r.2.2.2.2.1 i a.1&&(wt_ r a.2.1&&wi a.2.2.1 (-1) 7)),()))) ?_
 ·rw[nw_ (g8_ hi),a0_]
  refine e6_ (congrArg (λo=>Option.bind o _) (tg_ (tx_ h.ac i) (·.1) s1)) ?_
  unfold frN twN wt_
  rw[a0_]
  cases okN a.1&&!((r.2.2.2.2.1.take i).any λy=>y.1==a.1) with
  | false=>rfl
  | true =>
   simp only[dr_,a0_]
   cases wi a.2.1 0 (w64 ((r.1.length:Int) - 1)) with
   | false=>rfl
   | true=>rfl
 ·rw[a0_]
  unfold af7
  cases frN (·.1) r.2.2.2.2.1 i a.1 with
  | false=>rfl
  | true =>
  cases wt_ r a.2.1 with
  | false=>rfl
  | true =>
  cases wi a.2.2.1 (-1) 7 with
  | false=>rfl
  | true =>
   simp only[e3_,a4_,c6_,qy_ s2,qy_ s5,qy_ s6,a0_]
   cases vo_ r.2.2.1.length a.2.2.2.1 with
   | false=>rfl
   | true =>
   cases vo_ r.2.2.1.length a.2.2.2.2.2.2.1 with
   | false=>rfl
   | true =>
   cases vo_ r.2.2.1.length a.2.2.2.2.2.2.2 with
   | false=>rfl
   | true =>
   cases h6:decide (6<(a.2.2.2.2.2.1.length:Int)) with
   | true=>rfl
   | false =>
   simp only[e3_,k7_,a4_,c6_,a0_]
   refine e6_ (congrArg (λo=>Option.bind o _) (?_:_=some (!((a.2.2.2.2.2.2.1.all λp=>a.2.2.2.1.contains p)&&!(a.2.2.2.2.2.2.2.any λp=>a.2.2.2.1.contains p)),()))) ?_
   ·refine e6_ (congrArg (λo=>Option.bind o _) (ng_ s5 (λp=>!(a.2.2.2.1.contains p)) (λi y hy => ?_) ?_)) ?_
    ·simp only[dlt (an_ hy),a5_,ag_ hy,a0_,np_ s2]
     cases a.2.2.2.1.contains y<;>rfl
    ·simp only[dnl,a4_]
    rw[a0_,← rs_ a.2.2.2.2.2.2.1]
    cases a.2.2.2.2.2.2.1.any λp=>!(a.2.2.2.1.contains p) with
    | true=>rfl
    | false =>
    refine e6_ (congrArg (λo=>Option.bind o _) (ng_ s6 (λp=>a.2.2.2.1.contains p) (λi y hy => ?_) ?_)) ?_
    ·simp only[dlt (an_ hy),a5_,ag_ hy,a0_,np_ s2]
     cases a.2.2.2.1.contains y<;>rfl
    ·simp only[dnl,a4_]
    cases a.2.2.2.2.2.2.2.any λp=>a.2.2.2.1.contains p<;>rfl
   ·rw[a0_]
    cases a.2.2.2.2.2.2.1.all λp=>a.2.2.2.1.contains p with
    | false=>rfl
    | true =>
    cases a.2.2.2.2.2.2.2.any λp=>a.2.2.2.1.contains p with
    | true=>rfl
    | false =>
     simp only[e3_,k7_,a4_,c6_]
     refine hh_ a.2.2.2.2.2.1 (λi x=>cond (wf_ r a.2.2.2.2.2.1 i x) none (some (inr (false,()):Unit⊕(Bool×Unit)))) (λi=>((i:Int),())) (r0:=inl ()) (λk y hy => ?_) ?_ ?_
     ·have hk:=an_ hy
      simp only[dlt hk,a5_,ag_ hy,a0_,br_ (show Sm k by omega),nw_ (g8_ hk)]
      refine e6_ (congrArg (λo=>Option.bind o _) (ng_ (tx_ s4 k) (λz=>z.1==y.1) (λn z hz => ?_) ?_)) ?_
      ·simp only[dlt (an_ hz),a5_,ag_ hz,a0_]
       cases z.1==y.1<;>rfl
      ·simp only[dnl,a4_]
      ·rw[a0_,ob_ h.th]
       unfold wf_
       cases sy_ r.2.1 y.1 y.2 with
       | false=>rfl
       | true =>
        cases (a.2.2.2.2.2.1.take k).any λz=>z.1==y.1<;>rfl
     ·simp only[dnl,a4_]
     ·rw[wg_]
      cases (gs_ (λi x=>cond (wf_ r a.2.2.2.2.2.1 i x) none (some ())) 0 a.2.2.2.2.2.1).isNone<;>rfl
end
section
def ak6 (r:ad_):Bool:=decide (8<(r.1.length:Int))||(decide (12<(r.2.1.length:Int))||(decide (10<(r.2.2.1.length:Int))||(decide (16<(r.2.2.2.1.length:Int))||(decide (24<(r.2.2.2.2.1.length:Int))||decide (12<(r.2.2.2.2.2.1.length:Int))))))
theorem many_of (r:ad_):(cond (decide (8<(r.1.length:Int)))
 (some (true,()))
 (cond (decide (12<(r.2.1.length:Int)))
 (some (true,()))
 (cond (decide (10<(r.2.2.1.length:Int)))
 (some (true,()))
 (cond (decide (16<(r.2.2.2.1.length:Int)))
 (some (true,()))
 (cond (decide (24<(r.2.2.2.2.1.length:Int)))
 (some (true,()))
 (some ((decide (12<(r.2.2.2.2.2.1.length:Int))),())))))))=some (ak6 r,()):=by
  unfold ak6
  cases decide (8<(r.1.length:Int)) with
  | true=>rfl
  | false =>
  cases decide (12<(r.2.1.length:Int)) with
  | true=>rfl
  | false =>
  cases decide (10<(r.2.2.1.length:Int)) with
  | true=>rfl
  | false =>
  cases decide (16<(r.2.2.2.1.length:Int)) with
  | true=>rfl
  | false =>
  cases decide (24<(r.2.2.2.2.1.length:Int)) with
  | true=>rfl
  | false=>rfl
def ei_ (r:ad_):Int :=
 cond (ak6 r) 2 ((gs_ (λi x=>pn_ (plOk r i x) 22) 0 r.1).getD
  (cond ((r.1.length:Int)==0) 22 ((gs_ (λi x=>pn_ (bp8 r i x) 21) 0 r.2.1).getD
   ((gs_ (λi x=>zw_ (prOk r i x) 24 (cOk r.2.1 x.2.2) 25) 0 r.2.2.1).getD
    ((gs_ (λ_ x=>zw_ (ca4 r x) 23 (cOk r.2.1 x.2.2) 25) 0 r.2.2.2.1).getD
     ((gs_ (λi x=>zw_ (af7 r i x) 26 (cOk r.2.1 x.2.2.2.2.1) 25) 0 r.2.2.2.2.1).getD
      ((gs_ (λ_ x=>zw_ (sy_ r.2.1 x.2.1 x.2.2) 27 (cOk r.2.1 x.1) 25) 0 r.2.2.2.2.2.1).getD
       (cond (wi r.2.2.2.2.2.2.1 1 4) (cond (cOk r.2.1 r.2.2.2.2.2.2.2) 0 25) 1))))))))
theorem qz_ {r:ad_} (h:SmR r):fc_ r=some (ei_ r,()):=by
 unfold fc_
 refine e6_ (congrArg (λo=>Option.bind o _) (many_of r)) ?_
 rw[a0_]
 unfold ei_
 cases ak6 r with
 | true=>rfl
 | false =>
 simp only[a4_]
 refine dv_ r.1 (λi x=>pn_ (plOk r i x) 22) (λi y hy => ?_) ?_ (lz_ ?_)
 ·have hi:=an_ hy
  simp only[dlt hi,a5_,ag_ hy,a0_,br_ (show Sm i from d9_ (g8_ hi) h.pl),nw_ (g8_ hi)]
  refine e6_ (congrArg (λo=>Option.bind o _) (tg_ (tx_ h.pl i) id (h.pln y (cl_ hy)))) ?_
  unfold pn_ plOk frN twN
  rw[a0_]
  cases okN y&&!((r.1.take i).any λz=>id z==y)<;>rfl
 ·simp only[dnl,a4_]
 cases (r.1.length:Int)==0 with
 | true=>rfl
 | false =>
 simp only[a4_]
 refine dv_ r.2.1 (λi x=>pn_ (bp8 r i x) 21) (λi y hy => ?_) ?_ (lz_ ?_)
 ·have hi:=an_ hy
  simp only[dlt hi,a5_,ag_ hy,a0_,br_ (show Sm i from d9_ (g8_ hi) h.th),nw_ (g8_ hi)]
  refine e6_ (congrArg (λo=>Option.bind o _) (e6_ (congrArg (λo=>Option.bind o _) (tg_ (tx_ h.th i) (·.1) (h.thn y (cl_ hy)))) (?_:_=some (!(bp8 r i y),())))) ?_
  ·simp only[dr_,a0_]
   unfold bp8 frN twN wt_
   cases okN y.1&&!((r.2.1.take i).any λz=>z.1==y.1) with
   | false=>rfl
   | true =>
    cases wi y.2.1 0 (w64 ((r.1.length:Int) - 1)) with
    | false=>rfl
    | true =>
     cases wi y.2.2.1 2 6 with
     | false=>rfl
     | true=>rfl
  ·rw[a0_]
   unfold pn_
   cases bp8 r i y<;>rfl
 ·simp only[dnl,a4_]
 refine dv_ r.2.2.1 (λi x=>zw_ (prOk r i x) 24 (cOk r.2.1 x.2.2) 25) (λi y hy => ?_) ?_ (lz_ ?_)
 ·have hi:=an_ hy
  simp only[dlt hi,a5_,ag_ hy,a0_,br_ (show Sm i from d9_ (g8_ hi) h.pr),nw_ (g8_ hi)]
  refine e6_ (congrArg (λo=>Option.bind o _) (e6_ (congrArg (λo=>Option.bind o _) (tg_ (tx_ h.pr i) (·.1) (h.prn y (cl_ hy)).1)) (?_:_=some (!(prOk r i y),())))) ?_
  ·simp only[dr_,a0_]
   unfold prOk frN twN wt_
   cases okN y.1&&!((r.2.2.1.take i).any λz=>z.1==y.1) with
   | false=>rfl
   | true =>
    cases wi y.2.1 0 (w64 ((r.1.length:Int) - 1)) with
    | false=>rfl
    | true=>rfl
  ·rw[a0_,jn_ h.th,a0_]
   unfold zw_
   cases prOk r i y with
   | false=>rfl
   | true=>cases cOk r.2.1 y.2.2<;>rfl
 ·simp only[dnl,a4_]
 refine dv_ r.2.2.2.1 (λi x=>zw_ (ca4 r x) 23 (cOk r.2.1 x.2.2) 25) (λi y hy => ?_) ?_ (lz_ ?_)
 ·have hi:=an_ hy
  simp only[dlt hi,a5_,ag_ hy,a0_,br_ (show Sm i from d9_ (g8_ hi) h.wy)]
  refine e6_ (congrArg (λo=>Option.bind o _) (?_:_=some (!(ca4 r y),()))) ?_
  ·simp only[dr_,a0_]
   unfold ca4 wt_
   cases wi y.1 0 (w64 ((r.1.length:Int) - 1)) with
   | false=>rfl
   | true =>
    cases wi y.2.1 0 (w64 ((r.1.length:Int) - 1)) with
    | false=>rfl
    | true=>simp
  ·rw[a0_,jn_ h.th,a0_]
   unfold zw_
   cases ca4 r y with
   | false=>rfl
   | true=>cases cOk r.2.1 y.2.2<;>rfl
 ·simp only[dnl,a4_]
 refine dv_ r.2.2.2.2.1 (λi x=>zw_ (af7 r i x) 26 (cOk r.2.1 x.2.2.2.2.1) 25) (λi y hy => ?_) ?_ (lz_ ?_)
 ·have hi:=an_ hy
  simp only[dlt hi,a5_,ag_ hy,a0_,br_ (show Sm i from d9_ (g8_ hi) h.ac),bs2 h hy,jn_ h.th]
  unfold zw_
  cases af7 r i y with
  | false=>rfl
  | true=>cases cOk r.2.1 y.2.2.2.2.1<;>rfl
 ·simp only[dnl,a4_]
 refine dv_ r.2.2.2.2.2.1 (λi x=>zw_ (sy_ r.2.1 x.2.1 x.2.2) 27 (cOk r.2.1 x.1) 25) (λi y hy => ?_) ?_ (lz_ ?_)
 ·have hi:=an_ hy
  simp only[dlt hi,a5_,ag_ hy,a0_,br_ (show Sm i from d9_ (g8_ hi) h.au),ob_ h.th,jn_ h.th]
  unfold zw_
  cases sy_ r.2.1 y.2.1 y.2.2 with
  | false=>rfl
  | true=>cases cOk r.2.1 y.1<;>rfl
 ·simp only[dnl,a4_]
 rw[dr_,a0_,jn_ h.th,a0_]
 cases wi r.2.2.2.2.2.2.1 1 4 with
 | false=>rfl
 | true=>cases cOk r.2.1 r.2.2.2.2.2.2.2<;>rfl
end
section

end
section
theorem jf_ {α τ:Type} (l:List α) (hl:Sm l.length) (q:α→Bool) {body:(Int×Unit)→Option ((Int×Unit)⊕(Unit⊕(Bool×Unit)))} {K:(Unit⊕(Bool×Unit))→Option τ} {x:Option τ}
  (h:∀ (i:Nat) y,l[i]?=some y→body ((i:Int),())=some (cond (q y) (.inr (.inr (true,()))) (.inl (w64 ((i:Int)+1),())))) (e:body ((l.length:Int),())=some (.inr (.inl ()))) (hx:K (cond (l.any q) (.inr (true,())) (.inl ()))=x) :
  (ae_ body (0,())).bind K=x:=by
 refine hh_ l (λi y=>cond (q y) (some (inr (true,()):Unit⊕(Bool×Unit))) none) (λi=>((i:Int),())) (r0:=inl ()) (λi y hy => ?_) e ?_
 ·have hi:=an_ hy
  rw[h i y hy,br_ (show Sm i by omega)]
  cases q y<;>rfl
 ·rw[xy_ (q:=q)]
  cases hq:l.any q<;>rw[hq] at hx<;>exact hx
theorem hi_ {α:Type} {l:List α} {q:α→Bool} (h:l.any q=false):∀ x ∈ l,q x=false:=by
 intro x hx
 cases hq:q x with
 | false=>rfl
 | true=>rw[List.any_eq_true.2 ⟨x,hx,hq⟩] at h;cases h
theorem nlt {n:Nat} {k:Int} (h:decide (k<(n:Int))=false) (hk:k≤1000000000):Sm n:=by
 have:=d1_ h
 omega
def bv4 (r:ad_):Bool:=decide (12<(r.1.length:Int))||(decide (15<(r.2.1.length:Int))||(decide (14<(r.2.2.1.length:Int))||(decide (20<(r.2.2.2.1.length:Int))||(decide (30<(r.2.2.2.2.1.length:Int))||(decide (15<(r.2.2.2.2.2.1.length:Int))||decide (20<(r.2.2.2.2.2.2.2.length:Int)))))))
theorem bv3 (r:ad_):(cond (decide (12<(r.1.length:Int)))
 (some (true,()))
 (cond (decide (15<(r.2.1.length:Int)))
 (some (true,()))
 (cond (decide (14<(r.2.2.1.length:Int)))
 (some (true,()))
 (cond (decide (20<(r.2.2.2.1.length:Int)))
 (some (true,()))
 (cond (decide (30<(r.2.2.2.2.1.length:Int)))
 (some (true,()))
 (cond (decide (15<(r.2.2.2.2.2.1.length:Int)))
 (some (true,()))
 (some ((decide (20<(r.2.2.2.2.2.2.2.length:Int))),()))))))))=some (bv4 r,()):=by
  unfold bv4
  cases decide (12<(r.1.length:Int)) with
  | true=>rfl
  | false =>
  cases decide (15<(r.2.1.length:Int)) with
  | true=>rfl
  | false =>
  cases decide (14<(r.2.2.1.length:Int)) with
  | true=>rfl
  | false =>
  cases decide (20<(r.2.2.2.1.length:Int)) with
  | true=>rfl
  | false =>
  cases decide (30<(r.2.2.2.2.1.length:Int)) with
  | true=>rfl
  | false =>
  cases decide (15<(r.2.2.2.2.2.1.length:Int)) with
  | true=>rfl
  | false=>rfl
theorem bf8 (r:ad_):∃ b,lx_ r=some (b,())∧(b=false→SmR r∧r.2.1.length≤15∧r.2.2.2.2.2.2.2.length≤20∧r.2.2.2.2.1.length≤30):=by
 unfold lx_
 have e0:=bv3 r
 cases hm:bv4 r with
 | true =>
  rw[hm] at e0
  exact⟨true,e6_ (congrArg (λo=>Option.bind o _) e0) rfl,λh=>by cases h⟩
 | false =>
 rw[hm] at e0
 unfold bv4 at hm
 simp only[b8_] at hm
 obtain⟨h1,h2,h3,h4,h5,h6,h7⟩:=hm
 have l1:=nlt h1 (by decide)
 have l2:=nlt h2 (by decide)
 have l3:=nlt h3 (by decide)
 have l4:=nlt h4 (by decide)
 have l5:=nlt h5 (by decide)
 have l6:=nlt h6 (by decide)
 have l7:=nlt h7 (by decide)
 have b2:=d1_ h2
 have b5:=d1_ h5
 have b7:=d1_ h7
 let qa:fh_→Bool:=λy=>decide (100<(y.1.length:Int))||(decide (20<(y.2.2.2.2.1.length:Int))||(decide (20<(y.2.2.2.1.length:Int))||(decide (20<(y.2.2.2.2.2.1.length:Int))||(decide (20<(y.2.2.2.2.2.2.1.length:Int))||decide (20<(y.2.2.2.2.2.2.2.length:Int))))))
 let b1:=r.1.any λx=>decide (100<(x.length:Int))
 let bt:=r.2.1.any λx=>decide (100<(x.1.length:Int))
 let bp:=r.2.2.1.any λx=>decide (100<(x.1.length:Int))||decide (20<(x.2.2.length:Int))
 let bw:=r.2.2.2.1.any λx=>decide (20<(x.2.2.length:Int))
 let ba:=r.2.2.2.2.1.any qa
 let bo:=r.2.2.2.2.2.1.any λx=>decide (20<(x.1.length:Int))
 refine⟨b1||(bt||(bp||(bw||(ba||bo)))),?_,?_⟩
 ·refine e6_ (congrArg (λo=>Option.bind o _) e0) ?_
  rw[a0_]
  simp only[a4_]
  refine jf_ r.1 l1 (λx=>decide (100<(x.length:Int))) (λi y hy => ?_) ?_ ?_
  ·simp only[dlt (an_ hy),a5_,ag_ hy,a0_]
   cases decide (100<(y.length:Int))<;>rfl
  ·simp only[dnl,a4_]
  show cc_ (cond b1 _ _) _ _=_
  cases b1 with
  | true=>rfl
  | false =>
  refine jf_ r.2.1 l2 (λx=>decide (100<(x.1.length:Int))) (λi y hy => ?_) ?_ ?_
  ·simp only[dlt (an_ hy),a5_,ag_ hy,a0_]
   cases decide (100<(y.1.length:Int))<;>rfl
  ·simp only[dnl,a4_]
  show cc_ (cond bt _ _) _ _=_
  cases bt with
  | true=>rfl
  | false =>
  refine jf_ r.2.2.1 l3 (λx=>decide (100<(x.1.length:Int))||decide (20<(x.2.2.length:Int))) (λi y hy => ?_) ?_ ?_
  ·simp only[dlt (an_ hy),a5_,ag_ hy,a0_]
   cases decide (100<(y.1.length:Int)) with
   | true=>rfl
   | false=>cases decide (20<(y.2.2.length:Int))<;>rfl
  ·simp only[dnl,a4_]
  show cc_ (cond bp _ _) _ _=_
  cases bp with
  | true=>rfl
  | false =>
  refine jf_ r.2.2.2.1 l4 (λx=>decide (20<(x.2.2.length:Int))) (λi y hy => ?_) ?_ ?_
  ·simp only[dlt (an_ hy),a5_,ag_ hy,a0_]
   cases decide (20<(y.2.2.length:Int))<;>rfl
  ·simp only[dnl,a4_]
  show cc_ (cond bw _ _) _ _=_
  cases bw with
  | true=>rfl
  | false =>
  refine jf_ r.2.2.2.2.1 l5 qa (λi y hy => ?_) ?_ ?_
  ·simp only[dlt (an_ hy),a5_,ag_ hy,a0_,qa]
   cases decide (100<(y.1.length:Int)) with
   | true=>rfl
   | false =>
   cases decide (20<(y.2.2.2.2.1.length:Int)) with
   | true=>rfl
   | false =>
   cases decide (20<(y.2.2.2.1.length:Int)) with
   | true=>rfl
   | false =>
   cases decide (20<(y.2.2.2.2.2.1.length:Int)) with
   | true=>rfl
   | false =>
   cases decide (20<(y.2.2.2.2.2.2.1.length:Int)) with
   | true=>rfl
   | false=>cases decide (20<(y.2.2.2.2.2.2.2.length:Int))<;>rfl
  ·simp only[dnl,a4_]
  show cc_ (cond ba _ _) _ _=_
  cases ba with
  | true=>rfl
  | false =>
  refine jf_ r.2.2.2.2.2.1 l6 (λx=>decide (20<(x.1.length:Int))) (λi y hy => ?_) ?_ ?_
  ·simp only[dlt (an_ hy),a5_,ag_ hy,a0_]
   cases decide (20<(y.1.length:Int))<;>rfl
  ·simp only[dnl,a4_]
  show cc_ (cond bo _ _) _ _=_
  cases bo<;>rfl
 ·intro hb
  simp only[b8_] at hb
  obtain⟨g1,g2,g3,g4,g5,g6⟩:=hb
  refine⟨⟨l1,l2,l3,l4,l5,l6,l7,λx hx=>nlt (hi_ g1 x hx) (by decide),λx hx=>nlt (hi_ g2 x hx) (by decide),λx hx => ?_,λx hx=>nlt (hi_ g4 x hx) (by decide),λx hx => ?_,λx hx=>nlt (hi_ g6 x hx) (by decide)⟩,by omega,by omega,by omega⟩
  ·have:=hi_ g3 x hx
   simp only[b8_] at this
   exact⟨nlt this.1 (by decide),nlt this.2 (by decide)⟩
  ·have:=hi_ g5 x hx
   simp only[qa,b8_] at this
   obtain⟨a1,a2,a3,a4,a5,a6⟩:=this
   exact⟨nlt a1 (by decide),nlt a3 (by decide),nlt a2 (by decide),nlt a4 (by decide),nlt a5 (by decide),nlt a6 (by decide)⟩
structure SmG (g:ac_):Prop where
 room:SmR g.1
 th:g.1.2.1.length≤15
 go:g.1.2.2.2.2.2.2.2.length≤20
 ac:g.1.2.2.2.2.1.length≤30
 lk:g.2.1.length≤10
 cd:g.2.2.1.length≤10
 nt:g.2.2.2.1.length≤20
 lkn:∀ x ∈ g.2.1,¬ (3<x.1∧5<x.2)
 cdn:∀ x ∈ g.2.2.1,x.length≤10
 ntn:∀ x ∈ g.2.2.2.1,x.1.length≤100∧x.2.2.2.1.length≤20∧x.2.2.2.2.2.2.2.2.2.1.length≤10
theorem bf7 (g:ac_):∃ b,lw_ g=some (b,())∧(b=false→SmG g):=by
 unfold lw_
 obtain⟨b0,e0,h0⟩:=bf8 g.1
 rw[e0]
 simp only[a0_]
 cases b0 with
 | true=>exact⟨true,rfl,λh=>by cases h⟩
 | false =>
 obtain⟨r1,r2,r3,r4⟩:=h0 rfl
 cases h1:decide (10<(g.2.1.length:Int)) with
 | true=>exact⟨true,rfl,λh=>by cases h⟩
 | false =>
 cases h2:decide (10<(g.2.2.1.length:Int)) with
 | true=>exact⟨true,rfl,λh=>by cases h⟩
 | false =>
 cases h3:decide (20<(g.2.2.2.1.length:Int)) with
 | true=>exact⟨true,rfl,λh=>by cases h⟩
 | false =>
 have l1:=nlt h1 (by decide)
 have l2:=nlt h2 (by decide)
 have l3:=nlt h3 (by decide)
 let ql:aa_→Bool:=λy=>decide (3<y.1)&&decide (5<y.2)
 let qn:dd_→Bool:=λy=>decide (100<(y.1.length:Int))||(decide (20<(y.2.2.2.1.length:Int))||decide (10<(y.2.2.2.2.2.2.2.2.2.1.length:Int)))
 let b1:=g.2.1.any ql
 let b2:=g.2.2.1.any λx=>decide (10<(x.length:Int))
 let b3:=g.2.2.2.1.any qn
 refine⟨b1||(b2||b3),?_,?_⟩
 ·simp only[a0_,a4_]
  refine jf_ g.2.1 l1 ql (λi y hy => ?_) ?_ ?_
  ·simp only[dlt (an_ hy),a5_,ag_ hy,a0_,ql]
   cases decide (3<y.1) with
   | false=>rfl
   | true=>cases decide (5<y.2)<;>rfl
  ·simp only[dnl,a4_]
  show cc_ (cond b1 _ _) _ _=_
  cases b1 with
  | true=>rfl
  | false =>
  refine jf_ g.2.2.1 l2 (λx=>decide (10<(x.length:Int))) (λi y hy => ?_) ?_ ?_
  ·simp only[dlt (an_ hy),a5_,ag_ hy,a0_]
   cases decide (10<(y.length:Int))<;>rfl
  ·simp only[dnl,a4_]
  show cc_ (cond b2 _ _) _ _=_
  cases b2 with
  | true=>rfl
  | false =>
  refine jf_ g.2.2.2.1 l3 qn (λi y hy => ?_) ?_ ?_
  ·simp only[dlt (an_ hy),a5_,ag_ hy,a0_,qn]
   cases decide (100<(y.1.length:Int)) with
   | true=>rfl
   | false =>
   cases decide (20<(y.2.2.2.1.length:Int)) with
   | true=>rfl
   | false=>cases decide (10<(y.2.2.2.2.2.2.2.2.2.1.length:Int))<;>rfl
  ·simp only[dnl,a4_]
  show cc_ (cond b3 _ _) _ _=_
  cases b3<;>rfl
 ·intro hb
  simp only[b8_] at hb
  obtain⟨g1,g2,g3⟩:=hb
  have c1:=d1_ h1
  have c2:=d1_ h2
  have c3:=d1_ h3
  refine⟨r1,r2,r3,r4,by omega,by omega,by omega,λx hx => ?_,λx hx => ?_,λx hx => ?_⟩
  ·have:=hi_ g1 x hx
   intro hc
   simp only[ql,b4_ hc.1,b4_ hc.2] at this
   cases this
  ·have:=d1_ (hi_ g2 x hx)
   omega
  ·have:=hi_ g3 x hx
   simp only[qn,b8_] at this
   have d1:=d1_ this.1
   have d2:=d1_ this.2.1
   have d3:=d1_ this.2.2
   omega
end
end Go.Proofs.YtlbfbdbagohinaaGreatDoor.Rx
namespace Go.Proofs.YtlbfbdbagohinaaGreatDoor.Rx
open Go Pad Rex Go.Proofs Go.Proofs.Tryz Sum
section
set_option maxRecDepth 100000
set_option maxHeartbeats 0
noncomputable def ec_ (a0:aa_) (a1:ab_) (a2:(List Int)):Option (Bool×Int×Unit) :=
 ((dc_ a0 a1).bind λv0 =>
 (cond (v0.1 != 0)
 (some (false,(v0.1,())))
 ((bu_ a0 a2).bind λv1 =>
 (cond (v1.1 != 0)
 (some (false,(v1.1,())))
 ((dm_ a1 a2).bind λv2 =>
 (some (v2.1,(0,()))))))))
theorem x_115:ba_ (P:=prog) (cxC [c_62,c_172,c_173] []) .z 115 [af_,ah_,(.list .int)] [.bool,.int]=λx=>ec_ x.1 x.2.1 x.2.2.1:=by kernel_rfl
noncomputable def c_115:Con prog:=bd_ _ _ 115 [af_,ah_,(.list .int)] [.bool,.int] _ x_115
noncomputable def cd_ (a0:ad_) (a1:ak_):Option (Int×Unit) :=
 ((fc_ a0).bind λv0 =>
 (cond (v0.1 != 0)
 (some (v0.1,()))
 (((cond ((a1.1.length:Int) != (a0.2.1.length:Int))
 (some (true,()))
 (cond ((a1.2.1.length:Int) != (a0.2.2.1.length:Int))
 (some (true,()))
 (some (((a1.2.2.length:Int) != a0.2.2.2.2.2.2.1),()))))).bind λv1 =>
 (cond v1.1
 (some (28,()))
 ((ae_ (ρ:=(Unit⊕(Int×Unit))) (λ(v2:(Int×Unit)) =>
 (cond (decide (v2.1<(a1.1.length:Int)))
 ((at? a1.1 v2.1).bind λv3 =>
 ((ey_ a0 v2.1 v3).bind λv4 =>
 (cond (!v4.1)
 (some (inr (inr (28,()))))
 (some (inl ((w64 (v2.1+1)),()))))))
 (some (inr (inl ()))))) (0,())).bind λv5 =>
 (cc_ v5 (λv6=>((ae_ (ρ:=(Unit⊕(Int×Unit))) (λ(v8:(Int×Unit)) =>
 (cond (decide (v8.1<(a1.2.1.length:Int)))
 ((at? a1.2.1 v8.1).bind λv9 =>
 ((au_ v9 (w64 ((w64 ((-2) - a0.2.2.2.2.2.2.1))+1)) (w64 ((a0.1.length:Int) - 1))).bind λv10 =>
 (cond (!v10.1)
 (some (inr (inr (28,()))))
 (some (inl ((w64 (v8.1+1)),()))))))
 (some (inr (inl ()))))) (0,())).bind λv11 =>
 (cc_ v11 (λv12=>((ae_ (ρ:=(Unit⊕(Int×Unit))) (λ(v14:(Int×Unit)) =>
 (cond (decide (v14.1<(a1.2.2.length:Int)))
 ((at? a1.2.2 v14.1).bind λv15 =>
 ((au_ v15 0 (w64 ((a0.1.length:Int) - 1))).bind λv16 =>
 (cond (!v16.1)
 (some (inr (inr (28,()))))
 (some (inl ((w64 (v14.1+1)),()))))))
 (some (inr (inl ()))))) (0,())).bind λv17 =>
 (cc_ v17 (λv18=>(some (0,())))
 (λv19=>(some v19)))))
 (λv13=>(some v13)))))
 (λv7=>(some v7))))))))
theorem x_110:ba_ (P:=prog) (cxC [c_73,bl7,bz5] []) (.p .z (.p .z (.p (.j0 [.v 40 .bool] .z .z) (.p (.p .z (.ls [.v 44 .int] [] [] 0 .z)) (.p (.p .z (.ls [.v 58 .int] [] [] 2 .z)) (.p (.p .z (.ls [.v 77 .int] [] [] 4 .z)) .z)))))) 110 [bb_,ch_] [.int]=λx=>cd_ x.1 x.2.1:=by kernel_rfl
noncomputable def bz6:Con prog:=bd_ _ _ 110 [bb_,ch_] [.int] _ x_110
noncomputable def az_ (a0:aa_) (a1:(List ab_)):Option (Int×Int×Unit) :=
 ((ci_ a0 a1).bind λv0 =>
 (cond (v0.1 != 0)
 (some (0,(v0.1,())))
 ((cw_ a0 a1).bind λv1 =>
 (some (v1.1,(0,()))))))
theorem x_26:ba_ (P:=prog) (cxC [c_69,c_70] []) .z 26 [af_,(.list ah_)] [.int,.int]=λx=>az_ x.1 x.2.1:=by kernel_rfl
noncomputable def c_26:Con prog:=bd_ _ _ 26 [af_,(.list ah_)] [.int,.int] _ x_26
noncomputable def fe_ (a0:aa_) (a1:(List ab_)) (a2:(List Int)):Option (Int×Bool×Int×Unit) :=
 ((ci_ a0 a1).bind λv0 =>
 (cond (v0.1 != 0)
 (some (0,(false,(v0.1,()))))
 ((bu_ a0 a2).bind λv1 =>
 (cond (v1.1 != 0)
 (some (0,(false,(v1.1,()))))
 ((cy_ a1 a2).bind λv2 =>
 (some (v2.1,((decide (v2.1<0)),(0,())))))))))
theorem x_197:ba_ (P:=prog) (cxC [c_62,c_69,c_178] []) .z 197 [af_,(.list ah_),(.list .int)] [.int,.bool,.int]=λx=>fe_ x.1 x.2.1 x.2.2.1:=by kernel_rfl
noncomputable def c_197:Con prog:=bd_ _ _ 197 [af_,(.list ah_),(.list .int)] [.int,.bool,.int] _ x_197
noncomputable def ig_ (a0:ad_):Option (ak_×Int×Unit) :=
 ((fc_ a0).bind λv0 =>
 (cond (v0.1 != 0)
 (some (([],([],[])),(v0.1,())))
 ((mk? (α:=Int) a0.2.2.2.2.2.2.1 0).bind λv1 =>
 ((ae_ (ρ:=(((List Int)×Unit)×Unit)) (λ(v2:(Int×(((List Int)×Unit)×Unit))) =>
 (cond (decide (v2.1<(a0.2.1.length:Int)))
 ((at? a0.2.1 v2.1).bind λv3 =>
 ((push? (α:=Int) v2.2.1.1 [v3.2.2.2]).bind λv4 =>
 (some (inl ((w64 (v2.1+1)),((v4,()),()))))))
 (some (inr ((v2.2.1.1,()),()))))) (0,(([],()),()))).bind λv5 =>
 ((ae_ (ρ:=(((List Int)×Unit)×Unit)) (λ(v6:(Int×(((List Int)×Unit)×Unit))) =>
 (cond (decide (v6.1<(a0.2.2.1.length:Int)))
 ((at? a0.2.2.1 v6.1).bind λv7 =>
 ((push? (α:=Int) v6.2.1.1 [v7.2.1]).bind λv8 =>
 (some (inl ((w64 (v6.1+1)),((v8,()),()))))))
 (some (inr ((v6.2.1.1,()),()))))) (0,(([],()),()))).bind λv9 =>
 ((push? (α:=Int) [] v5.1.1).bind λv10 =>
 ((push? (α:=Int) [] v9.1.1).bind λv11 =>
 ((push? (α:=Int) [] v1).bind λv12 =>
 ((((ae_ (ρ:=(((List Int)×Unit)⊕(Bool×((List Int)×Unit)))) (λ(v13:(Int×((List Int)×Unit))) =>
 (cond (decide (v13.1<101))
 ((((ae_ (ρ:=(Unit⊕(Int×Unit))) (λ(v14:(Int×Unit)) =>
 (cond (decide (v14.1<(a0.2.2.2.2.2.1.length:Int)))
 ((at? a0.2.2.2.2.2.1 v14.1).bind λv15 =>
 ((((at? v13.2.1 v15.2.1).bind λv16 =>
 ((at? v13.2.1 v15.2.1).bind λv17 =>
 (cond (v17 != v15.2.2)
 ((av_ (a0,(v13.2.1,(v11,v12))) v15.1).bind λv18 =>
 (some (v18.1,())))
 (some (false,())))))).bind λv19 =>
 (cond v19.1
 (some (inr (inr (v14.1,()))))
 (some (inl ((w64 (v14.1+1)),()))))))
 (some (inr (inl ()))))) (0,())).bind λv20 =>
 (cc_ v20 (λv21=>(some ((-1),())))
 (λv22=>(some v22))))).bind λv23 =>
 (cond (decide (v23.1<0))
 (some (inr (inr ((!true),(v13.2.1,())))))
 ((at? a0.2.2.2.2.2.1 v23.1).bind λv24 =>
 ((at? a0.2.2.2.2.2.1 v23.1).bind λv25 =>
 ((at? v13.2.1 v24.2.1).bind λv26 =>
 ((at? v13.2.1 v24.2.1).bind λv27 =>
 (some (inl ((w64 (v13.1+1)),((v13.2.1.set v24.2.1.toNat v25.2.2),()))))))))))
 (some (inr (inl (v13.2.1,())))))) (0,(v10,()))).bind λv28 =>
 (cc_ v28 (λv29=>(some ((!false),(v29.1,()))))
 (λv30=>(some v30))))).bind λv31 =>
 (cond v31.1
 (some (([],([],[])),(27,())))
 (some ((v31.2.1,(v11,v12)),(0,())))))))))))))
theorem x_30:ba_ (P:=prog) (cxI (λk=>cond (Nat.beq k 79) (.p .z (.p (.j0 [.v 6 .bool,.o (.c (.s 0) 8) .int] .z .z) .z)) (cond (Nat.beq k 138) (.p .z (.p (.p .z (.ls [.v 4 .int] [] [.o (.c (.s 0) 8) .int] 0 (.p .z (.p .z (.p (.j0 [.v 3 .int] .z .z) .z))))) .z)) (cond (Nat.beq k 193) (.p .z (.p (.p .z (.ls [.v 8 .int] [] [] 0 .z)) .z)) (cond (Nat.beq k 194) (.p .z (.j0 [.v 3 .bool] .z .z)) (.z))))) (λk=>Nat.beq k 37||Nat.beq k 73||Nat.beq k 139||false) (cxC [c_73,bz3] [wa_]) 6) (.p .z (.p .z (.p .z (.p (.p .z (.lp [.v 23 .int] [] [.b (.s 5) [.row .int 3,.keep,.keep]] 0 .z)) (.p (.p .z (.lp [.v 38 .int] [] [.b (.s 5) [.keep,.row .int 3,.keep]] 2 .z)) .z))))) 30 [bb_] [ch_,.int]=λx=>ig_ x.1:=by kernel_rfl
noncomputable def c_30:Con prog:=bd_ _ _ 30 [bb_] [ch_,.int] _ x_30
noncomputable def jh_ (a0:al_):Option (Int×Unit) :=
 ((((ds_ (a0.1.length:Int) 1 8).bind λv0 =>
 (cond (!v0.1)
 (some (true,()))
 (cond ((a0.2.1.length:Int) != (a0.1.length:Int))
 (some (true,()))
 (cond ((a0.2.2.1.length:Int) != (a0.1.length:Int))
 (some (true,()))
 (some ((decide (10<(a0.2.2.2.length:Int))),()))))))).bind λv1 =>
 (cond v1.1
 (some (70,()))
 ((ae_ (ρ:=(Unit⊕(Int×Unit))) (λ(v2:(Int×Unit)) =>
 (cond (decide (v2.1<(a0.1.length:Int)))
 ((((at? a0.1 v2.1).bind λv3 =>
 ((at? a0.2.1 v2.1).bind λv4 =>
 ((fk_ v3 v4).bind λv5 =>
 (cond (v5.1 != 0)
 (some (true,()))
 ((at? a0.2.2.1 v2.1).bind λv6 =>
 (some ((decide (20<(v6.length:Int))),())))))))).bind λv7 =>
 (cond v7.1
 (some (inr (inr (70,()))))
 ((ae_ (ρ:=(Unit⊕((Int×Unit)⊕(Unit⊕(Int×Unit))))) (λ(v8:(Int×Unit)) =>
 ((at? a0.2.2.1 v2.1).bind λv9 =>
 (cond (decide (v8.1<(v9.length:Int)))
 ((at? a0.1 v2.1).bind λv10 =>
 ((at? a0.2.1 v2.1).bind λv11 =>
 ((at? a0.2.2.1 v2.1).bind λv12 =>
 ((at? v12 v8.1).bind λv13 =>
 ((jg_ v10 v11 v13).bind λv14 =>
 (cond (!v14.1)
 (some (inr (inr (inr (inr (70,()))))))
 (some (inl ((w64 (v8.1+1)),())))))))))
 (some (inr (inl ())))))) (0,())).bind λv15 =>
 (cc_ v15 (λv16=>(some (inl ((w64 (v2.1+1)),()))))
 (λv17=>(some v17))))))
 (some (inr (inl ()))))) (0,())).bind λv18 =>
 (cc_ v18 (λv19=>((ae_ (ρ:=(Unit⊕(Int×Unit))) (λ(v21:(Int×Unit)) =>
 (cond (decide (v21.1<(a0.2.2.2.length:Int)))
 ((at? a0.2.2.2 v21.1).bind λv22 =>
 ((((ds_ v22.1 0 (w64 ((a0.1.length:Int) - 1))).bind λv23 =>
 (cond (!v23.1)
 (some (true,()))
 ((ds_ v22.2.2.1 0 (w64 ((a0.1.length:Int) - 1))).bind λv24 =>
 (cond (!v24.1)
 (some (true,()))
 (some ((v22.1==v22.2.2.1),()))))))).bind λv25 =>
 (cond v25.1
 (some (inr (inr (70,()))))
 ((((at? a0.1 v22.1).bind λv26 =>
 ((ds_ v22.2.1 0 (w64 (v26.1 - 1))).bind λv27 =>
 (cond (!v27.1)
 (some (true,()))
 ((at? a0.1 v22.2.2.1).bind λv28 =>
 ((ds_ v22.2.2.2 0 (w64 (v28.1 - 1))).bind λv29 =>
 (cond (!v29.1)
 (some (true,()))
 ((at? a0.2.1 v22.1).bind λv30 =>
 ((at? v30 v22.2.1).bind λv31 =>
 ((at? a0.2.1 v22.2.2.1).bind λv32 =>
 ((at? v32 v22.2.2.2).bind λv33 =>
 (some ((v31 != v33),()))))))))))))).bind λv34 =>
 (cond v34.1
 (some (inr (inr (70,()))))
 (some (inl ((w64 (v21.1+1)),()))))))))
 (some (inr (inl ()))))) (0,())).bind λv35 =>
 (cc_ v35 (λv36=>(some (0,())))
 (λv37=>(some v37)))))
 (λv20=>(some v20))))))
theorem x_57:ba_ (P:=prog) (cxC [c_106,c_107,c_108] []) (.p .z (.p .z (.p (.j0 [.v 33 .bool] .z .z) (.p (.p .z (.ls [.v 4 .int] [] [] 0 (.p .z (.p (.p (.j0 [.v 59 .bool] (.q [] .z .z) .z) (.p .z (.ls [.v 5 .int] [] [] 2 (.p .z (.p (.p (.q [] .z .z) .z) .z))))) .z)))) (.p (.p .z (.ls [.v 6 .int] [] [] 4 (.p .z (.p (.p .z (.p (.j0 [.v 122 .bool] .z .z) (.j0 [.v 171 .bool] .z .z))) .z)))) .z))))) 57 [am_] [.int]=λx=>jh_ x.1:=by kernel_rfl
noncomputable def c_57:Con prog:=bd_ _ _ 57 [am_] [.int] _ x_57
end
end Go.Proofs.YtlbfbdbagohinaaGreatDoor.Rx
namespace Go.Proofs.YtlbfbdbagohinaaGreatDoor.Rx
open Go Pad Rex Sum
section
theorem gt_ {α ρ:Type} {p:Nat→α→Option ρ} {e:ρ} (h:∀ i x,p i x≠some e):∀ (l:List α) (i:Nat),gs_ p i l≠some e
 | [],_=>by simp[gs_]
 | x::l,i=>by
  unfold gs_
  cases hp:p i x with
  | some r =>
   intro he
   cases he
   exact h i x hp
  | none=>exact gt_ h l (i+1)
theorem dt_ {o:Option Int} {k:Int} (h:o.getD k=0) (hn:o≠some 0):o=none∧k=0:=by
 cases o with
 | none=>exact⟨rfl,h⟩
 | some e =>
  have:e=0:=h
  subst this
  exact absurd rfl hn
theorem nb_ {a:Bool} {e:Int} (h:e≠0):pn_ a e≠some 0:=by
 unfold pn_
 cases a with
 | true=>simp
 | false=>simpa using h
theorem vd_ {a b:Bool} {e f:Int} (h:e≠0) (k:f≠0):zw_ a e b f≠some 0:=by
 unfold zw_
 cases a with
 | false=>simpa using h
 | true =>
  cases b with
  | true=>simp
  | false=>simpa using k
theorem ha_ {a:Bool} {e:Int} (h:pn_ a e=none):a=true:=by cases a with
 | true=>rfl
 | false=>cases h
theorem na_ {a b:Bool} {e f:Int} (h:zw_ a e b f=none):a=true∧b=true:=by
 cases a with
 | false=>cases h
 | true=>cases b with
  | true=>exact⟨rfl,rfl⟩
  | false=>cases h
theorem ck_ {α ρ:Type} {p:Nat→α→Option ρ} {l:List α} (h:gs_ p 0 l=none) {i:Nat} {x:α} (hx:l[i]?=some x):p i x=none:=by
 have:=(js_ l 0).1 h i x hx
 rwa [a8_] at this
structure OkR (r:ad_):Prop where
 many:ak6 r=false
 pl:∀ (i:Nat) x,r.1[i]?=some x→plOk r i x=true
 ne:r.1≠[]
 th:∀ (i:Nat) x,r.2.1[i]?=some x→bp8 r i x=true
 pr:∀ (i:Nat) x,r.2.2.1[i]?=some x→prOk r i x=true∧cOk r.2.1 x.2.2=true
 wy:∀ (i:Nat) x,r.2.2.2.1[i]?=some x→ca4 r x=true∧cOk r.2.1 x.2.2=true
 ac:∀ (i:Nat) x,r.2.2.2.2.1[i]?=some x→af7 r i x=true∧cOk r.2.1 x.2.2.2.2.1=true
 au:∀ (i:Nat) x,r.2.2.2.2.2.1[i]?=some x→sy_ r.2.1 x.2.1 x.2.2=true∧cOk r.2.1 x.1=true
 py:wi r.2.2.2.2.2.2.1 1 4=true
 go:cOk r.2.1 r.2.2.2.2.2.2.2=true
theorem dp_ {r:ad_} (h:ei_ r=0):OkR r:=by
 unfold ei_ at h
 cases hm:ak6 r with
 | true=>rw[hm] at h;exact absurd (show (2:Int)=0 from h) (by decide)
 | false =>
 rw[hm] at h
 have h:(gs_ (λi x=>pn_ (plOk r i x) 22) 0 r.1).getD _=0:=h
 obtain⟨h1,h⟩:=dt_ h (gt_ (λi x=>nb_ (by decide)) _ _)
 cases he:(r.1.length:Int)==0 with
 | true=>rw[he] at h;exact absurd (show (22:Int)=0 from h) (by decide)
 | false =>
 rw[he] at h
 have h:(gs_ (λi x=>pn_ (bp8 r i x) 21) 0 r.2.1).getD _=0:=h
 obtain⟨h2,h⟩:=dt_ h (gt_ (λi x=>nb_ (by decide)) _ _)
 obtain⟨h3,h⟩:=dt_ h (gt_ (λi x=>vd_ (by decide) (by decide)) _ _)
 obtain⟨h4,h⟩:=dt_ h (gt_ (λi x=>vd_ (by decide) (by decide)) _ _)
 obtain⟨h5,h⟩:=dt_ h (gt_ (λi x=>vd_ (by decide) (by decide)) _ _)
 obtain⟨h6,h⟩:=dt_ h (gt_ (λi x=>vd_ (by decide) (by decide)) _ _)
 cases h7:wi r.2.2.2.2.2.2.1 1 4 with
 | false=>rw[h7] at h;exact absurd (show (1:Int)=0 from h) (by decide)
 | true =>
 rw[h7] at h
 cases h8:cOk r.2.1 r.2.2.2.2.2.2.2 with
 | false=>rw[h8] at h;exact absurd (show (25:Int)=0 from h) (by decide)
 | true =>
 refine⟨hm,λi x hx=>ha_ (ck_ h1 hx),λe => ?_,λi x hx=>ha_ (ck_ h2 hx),λi x hx=>na_ (ck_ h3 hx),λi x hx=>na_ (ck_ h4 hx),λi x hx=>na_ (ck_ h5 hx),λi x hx=>na_ (ck_ h6 hx),h7,h8⟩
 rw[e] at he
 cases he
def inR (r:ad_) (p:Int):Bool:=wi p (w64 ((w64 ((-2) - r.2.2.2.2.2.2.1))+1)) (w64 ((r.1.length:Int) - 1))
def yq_ (r:ad_) (s:ak_):Bool:=((s.1.length:Int) != (r.2.1.length:Int))||(((s.2.1.length:Int) != (r.2.2.1.length:Int))||((s.2.2.length:Int) != r.2.2.2.2.2.2.1))
def ckS (r:ad_) (s:ak_):Int :=
 cond (yq_ r s) 28 ((gs_ (λi n=>pn_ (sy_ r.2.1 (i:Int) n) 28) 0 s.1).getD ((gs_ (λ_ p=>pn_ (inR r p) 28) 0 s.2.1).getD ((gs_ (λ_ p=>pn_ (wt_ r p) 28) 0 s.2.2).getD 0)))
def iw_ (r:ad_) (s:ak_):Int:=cond (ei_ r != 0) (ei_ r) (ckS r s)
theorem lens_of (r:ad_) (s:ak_):(cond ((s.1.length:Int) != (r.2.1.length:Int))
 (some (true,()))
 (cond ((s.2.1.length:Int) != (r.2.2.1.length:Int))
 (some (true,()))
 (some (((s.2.2.length:Int) != r.2.2.2.2.2.2.1),()))))=some (yq_ r s,()):=by
  unfold yq_
  cases (s.1.length:Int) != (r.2.1.length:Int) with
  | true=>rfl
  | false =>
  cases (s.2.1.length:Int) != (r.2.2.1.length:Int) with
  | true=>rfl
  | false=>rfl
theorem ap3 {r:ad_} {s:ak_} (h:yq_ r s=false):s.1.length=r.2.1.length∧s.2.1.length=r.2.2.1.length∧(s.2.2.length:Int)=r.2.2.2.2.2.2.1:=by
 unfold yq_ at h
 simp only[b8_,o4_] at h
 omega
theorem gw_ {r:ad_} (h:SmR r) (s:ak_):cd_ r s=some (iw_ r s,()):=by
 unfold cd_ iw_
 rw[qz_ h,a0_]
 cases hr:ei_ r != 0 with
 | true=>rfl
 | false =>
 have ok:=dp_ (by simpa using hr)
 simp only[a4_]
 refine e6_ (congrArg (λo=>Option.bind o _) (lens_of r s)) ?_
 rw[a0_]
 unfold ckS
 cases hl:yq_ r s with
 | true=>rfl
 | false =>
 obtain⟨l1,l2,l3⟩:=ap3 hl
 have hp:=cm_.1 ok.py
 have m1:Sm s.1.length:=by rw[l1];exact h.th
 have m2:Sm s.2.1.length:=by rw[l2];exact h.pr
 have m3:Sm s.2.2.length:=by show s.2.2.length≤1000000000;omega
 simp only[a4_]
 refine dv_ s.1 (λi n=>pn_ (sy_ r.2.1 (i:Int) n) 28) (λi y hy => ?_) ?_ (lz_ ?_)
 ·have hi:=an_ hy
  simp only[dlt hi,a5_,ag_ hy,a0_,br_ (show Sm i by omega),ob_ h.th]
  unfold pn_
  cases sy_ r.2.1 (i:Int) y<;>rfl
 ·simp only[dnl,a4_]
 refine dv_ s.2.1 (λ_ p=>pn_ (inR r p) 28) (λi y hy => ?_) ?_ (lz_ ?_)
 ·have hi:=an_ hy
  simp only[dlt hi,a5_,ag_ hy,a0_,br_ (show Sm i by omega),dr_]
  unfold pn_ inR
  cases wi y (w64 ((w64 ((-2) - r.2.2.2.2.2.2.1))+1)) (w64 ((r.1.length:Int) - 1))<;>rfl
 ·simp only[dnl,a4_]
 refine dv_ s.2.2 (λ_ p=>pn_ (wt_ r p) 28) (λi y hy => ?_) ?_ (lz_ ?_)
 ·have hi:=an_ hy
  simp only[dlt hi,a5_,ag_ hy,a0_,br_ (show Sm i by omega),dr_]
  unfold pn_ wt_
  cases wi y 0 (w64 ((r.1.length:Int) - 1))<;>rfl
 ·simp only[dnl,a4_]
 rfl
theorem inR_eq {r:ad_} (h:SmR r) (hp:wi r.2.2.2.2.2.2.1 1 4=true) (p:Int):inR r p=(wt_ r p||(p==-1||wi p (w64 ((w64 ((-2) - r.2.2.2.2.2.2.1))+1)) (-2))):=by
 have hp:=cm_.1 hp
 have hpl:=h.pl
 have e1:w64 ((r.1.length:Int) - 1)=(r.1.length:Int) - 1:=ic_ (by omega) (by omega)
 have e2:w64 ((-2) - r.2.2.2.2.2.2.1)=(-2) - r.2.2.2.2.2.2.1:=ic_ (by omega) (by omega)
 have e3:w64 (((-2) - r.2.2.2.2.2.2.1)+1)=((-2) - r.2.2.2.2.2.2.1)+1:=ic_ (by omega) (by omega)
 unfold inR wt_
 rw[e1,e2,e3,m4_]
 simp only[c2_,cm_,k2_]
 omega
end
section
def gi (l:List Int) (i:Int):Int:=(at? l i).getD 0
theorem bh1 {l:List Int} {i x:Int} (h:at? l i=some x):gi l i=x:=by unfold gi;rw[h];rfl
theorem aw4 {l:List Int} {i:Int} (h0:0≤i) (h1:i<l.length):at? l i=some (gi l i):=by
 obtain⟨x,hx⟩:=bi_ (l:=l) (i:=i.toNat) (by omega)
 have:at? l i=some x:=by rw[show i=((i.toNat:Nat):Int) by omega];exact ag_ hx
 rw[this,bh1 this]
def InC (n:Nat) (c:List bx_):Prop:=∀ l ∈ c,0≤l.1∧l.1<n
theorem bl8 {things:List hr_} (hl:Sm things.length) {c:List bx_} (h:cOk things c=true):InC things.length c∧c.length≤8:=by
 unfold cOk at h
 rw[a1_] at h
 refine⟨λl hm => ?_,by have:=f9_ h.1;omega⟩
 have h2:=e2_.1 h.2 l hm
 unfold sy_ at h2
 rw[a1_] at h2
 have:=cm_.1 h2.1
 rw[ic_ (by omega) (by omega)] at this
 omega
def lq_ (th:List Int) (c:List bx_):Bool:=c.all λl=>!((gi th l.1==l.2.1)==l.2.2)
theorem any_not {α:Type} (l:List α) (q:α→Bool):(!(l.any q))=l.all λx=>!(q x):=by
 induction l with
 | nil=>rfl
 | cons x l ih =>
  rw[List.any_cons,List.all_cons,← ih]
  cases q x<;>rfl
theorem pa_ {t:gr_} {c:List bx_} (hc:Sm c.length) (hi:InC t.2.1.length c):av_ t c=some (lq_ t.2.1 c,()):=by
 unfold av_ lq_
 refine e6_ (congrArg (λo=>Option.bind o _) (ng_ hc (λl=>(gi t.2.1 l.1==l.2.1)==l.2.2) (λi y hy => ?_) ?_)) ?_
 ·have:=hi y (cl_ hy)
  simp only[dlt (an_ hy),a5_,ag_ hy,aw4 this.1 this.2,a0_]
  cases (gi t.2.1 y.1==y.2.1)==y.2.2<;>rfl
 ·simp only[dnl,a4_]
 ·rw[a0_]
  exact congrArg (λb=>some (b,())) (any_not c _)
end
end Go.Proofs.YtlbfbdbagohinaaGreatDoor.Rx
namespace Go.Proofs.YtlbfbdbagohinaaGreatDoor.Rx
open Go Pad Rex Go.Proofs Go.Proofs.Tryz Sum
section
set_option maxRecDepth 100000
set_option maxHeartbeats 0
noncomputable def ke_ (a0:ac_) (a1:Int) (a2:dd_):Option (Bool×Unit) :=
 ((sub? a0.2.2.2.1 0 a1).bind λv0 =>
 ((((ae_ (ρ:=(Unit⊕(Bool×Unit))) (λ(v1:(Int×Unit)) =>
 (cond (decide (v1.1<(v0.length:Int)))
 ((at? v0 v1.1).bind λv2 =>
 (cond (v2.1==a2.1)
 (some (inr (inr ((decide (0≤v1.1)),()))))
 (some (inl ((w64 (v1.1+1)),())))))
 (some (inr (inl ()))))) (0,())).bind λv3 =>
 (cc_ v3 (λv4=>(some ((decide (0≤(-1))),())))
 (λv5=>(some v5))))).bind λv6 =>
 ((((lu_ a2.1).bind λv7 =>
 (cond (!v7.1)
 (some (true,()))
 (cond (decide (12<(a2.1.length:Int)))
 (some (true,()))
 (cond v6.1
 (some (true,()))
 ((bp_ a2.2.1 0 (w64 ((a0.1.1.length:Int) - 1))).bind λv8 =>
 (cond (!v8.1)
 (some (true,()))
 ((bp_ a2.2.2.1 (-1) (w64 ((a0.2.1.length:Int) - 1))).bind λv9 =>
 (some ((!v9.1),())))))))))).bind λv10 =>
 (cond v10.1
 (some (false,()))
 (cond (decide (a2.2.2.1<0))
 ((lt_ a2.2.2.2.2).bind λv11 =>
 (some (v11.1,())))
 ((at? a0.2.1 a2.2.2.1).bind λv12 =>
 ((at? a0.2.2.1 a2.2.2.1).bind λv13 =>
 ((ec_ v12 a2.2.2.2.2 v13).bind λv14 =>
 (cond (v14.2.1==0)
 (some (v14.1,()))
 (some (false,())))))))))))
theorem x_75:ba_ (P:=prog) (cxI (λk=>cond (Nat.beq k 132) (.p .z (.j0 [.v 4 .bool] .z .z)) (cond (Nat.beq k 191) (.p .z (.p (.p .z (.ls [.v 8 .int] [] [] 0 .z)) .z)) (.z))) (λk=>Nat.beq k 77||Nat.beq k 115||Nat.beq k 134||Nat.beq k 135||false) (cxC [c_77,c_115,c_134,c_135] []) 4) (.p .z (.p .z (.p (.j0 [.v 49 .bool] .z .z) (.p .z (.p (.q [] .z .z) .z))))) 75 [bc_,.int,qw_] [.bool]=λx=>ke_ x.1 x.2.1 x.2.2.1:=by kernel_rfl
noncomputable def c_75:Con prog:=bd_ _ _ 75 [bc_,.int,qw_] [.bool] _ x_75
noncomputable def dx_ (a0:al_) (a1:Int) (a2:ab_):Option (Bool×Unit) :=
 ((at? a0.1 a1).bind λv0 =>
 ((at? a0.2.1 a1).bind λv1 =>
 ((ec_ v0 a2 v1).bind λv2 =>
 (cond (v2.2.1==0)
 (some (v2.1,()))
 (some (false,()))))))
theorem x_65:ba_ (P:=prog) (cxC [c_115] []) (.p .z (.p (.q [] .z .z) .z)) 65 [am_,.int,ah_] [.bool]=λx=>dx_ x.1 x.2.1 x.2.2.1:=by kernel_rfl
noncomputable def c_65:Con prog:=bd_ _ _ 65 [am_,.int,ah_] [.bool] _ x_65
noncomputable def bk_ (a0:aa_) (a1:(List ab_)):Option ((List (List Int))×Unit) :=
 ((mk? (α:=Int) a0.1 0).bind λv0 =>
 ((rdL (fe_ a0 a1) a0.2 5 0 v0 []).bind λv75 =>
 (some (v75.2.1.1,()))))
theorem x_142:ba_ (P:=prog) (cxI (λk=>cond (Nat.beq k 196) (.p .z (.p (.p .z (.lp [] [] [.o (.s 11) .int,.b (.s 4) [.row (.list .int) 38]] 0 (.p .z (.j0 [.o (.s 11) .int,.b (.s 4) [.row (.list .int) 38]] .z .z)))) .z)) (.z)) (λk=>Nat.beq k 37||Nat.beq k 197||false) (cxC [c_197] [wa_]) 5) (.p .z (.p .z (.p .z (.p .z (.j0 [.o (.s 9) .int,.b (.s 4) [.row (.list .int) 38]] .z .z))))) 142 [af_,(.list ah_)] [(.list (.list .int))]=λx=>bk_ x.1 x.2.1:=by kernel_rfl
noncomputable def c_142:Con prog:=bd_ _ _ 142 [af_,(.list ah_)] [(.list (.list .int))] _ x_142
noncomputable def fb_ (a0:ad_) (a1:ak_) (a2:(List bx_)):Option (Bool×Int×Unit) :=
 ((cd_ a0 a1).bind λv0 =>
 (cond (v0.1 != 0)
 (some (false,(v0.1,())))
 ((dl_ a0 a2).bind λv1 =>
 (cond (!v1.1)
 (some (false,(25,())))
 ((push? (α:=Int) [] a1.1).bind λv2 =>
 ((push? (α:=Int) [] a1.2.1).bind λv3 =>
 ((push? (α:=Int) [] a1.2.2).bind λv4 =>
 ((av_ (a0,(v2,(v3,v4))) a2).bind λv5 =>
 (some (v5.1,(0,())))))))))))
theorem x_80:ba_ (P:=prog) (cxI (λk=>.z) (λk=>Nat.beq k 37||Nat.beq k 110||Nat.beq k 128||Nat.beq k 139||false) (cxC [bz6,c_128,bz3] [wa_]) 2) .z 80 [bb_,ch_,(.list dj_)] [.bool,.int]=λx=>fb_ x.1 x.2.1 x.2.2.1:=by kernel_rfl
noncomputable def c_80:Con prog:=bd_ _ _ 80 [bb_,ch_,(.list dj_)] [.bool,.int] _ x_80
noncomputable def ez_ (a0:ad_) (a1:ak_) (a2:aj_):Option (ak_×Int×Unit) :=
 ((cd_ a0 a1).bind λv0 =>
 (cond (v0.1 != 0)
 (some (([],([],[])),(v0.1,())))
 ((push? (α:=Int) [] a1.1).bind λv1 =>
 ((push? (α:=Int) [] a1.2.1).bind λv2 =>
 ((push? (α:=Int) [] a1.2.2).bind λv3 =>
 ((cv_ (a0,(v1,(v2,v3))) a2).bind λv4 =>
 (cond (!v4.1)
 (some (([],([],[])),(29,())))
 (((cond (a2.2.1==1)
 ((at? a0.2.2.2.1 a2.2.2).bind λv5 =>
 ((at? v3 a2.1).bind λv6 =>
 ((at? v3 a2.1).bind λv7 =>
 ((at? v3 a2.1).bind λv8 =>
 ((at? v3 a2.1).bind λv9 =>
 (some (v1,(v2,((v3.set a2.1.toNat (w64 ((w64 (v5.1+v5.2.1)) - v7))),())))))))))
 (cond (a2.2.1==2)
 ((at? v2 a2.2.2).bind λv10 =>
 ((at? v2 a2.2.2).bind λv11 =>
 (some (v1,((v2.set a2.2.2.toNat (w64 ((-2) - a2.1))),(v3,()))))))
 (cond (a2.2.1==3)
 ((at? v3 a2.1).bind λv12 =>
 ((at? v3 a2.1).bind λv13 =>
 ((at? v2 a2.2.2).bind λv14 =>
 ((at? v2 a2.2.2).bind λv15 =>
 (some (v1,((v2.set a2.2.2.toNat v13),(v3,()))))))))
 (cond (a2.2.1==4)
 ((at? a0.2.2.2.2.1 a2.2.2).bind λv16 =>
 ((ae_ (ρ:=((List Int)×Unit)) (λ(v17:(Int×((List Int)×Unit))) =>
 (cond (decide (v17.1<(v16.2.2.2.2.2.2.1.length:Int)))
 ((at? v16.2.2.2.2.2.2.1 v17.1).bind λv18 =>
 ((at? v17.2.1 v18).bind λv19 =>
 ((at? v17.2.1 v18).bind λv20 =>
 (some (inl ((w64 (v17.1+1)),((v17.2.1.set v18.toNat (-1)),())))))))
 (some (inr (v17.2.1,()))))) (0,(v2,()))).bind λv21 =>
 ((ae_ (ρ:=((List Int)×Unit)) (λ(v22:(Int×((List Int)×Unit))) =>
 (cond (decide (v22.1<(v16.2.2.2.2.2.2.2.length:Int)))
 ((at? v16.2.2.2.2.2.2.2 v22.1).bind λv23 =>
 ((at? v22.2.1 v23).bind λv24 =>
 ((at? v22.2.1 v23).bind λv25 =>
 (some (inl ((w64 (v22.1+1)),((v22.2.1.set v23.toNat (w64 ((-2) - a2.1))),())))))))
 (some (inr (v22.2.1,()))))) (0,(v21.1,()))).bind λv26 =>
 ((ae_ (ρ:=((List Int)×Unit)) (λ(v27:(Int×((List Int)×Unit))) =>
 (cond (decide (v27.1<(v16.2.2.2.2.2.1.length:Int)))
 ((at? v16.2.2.2.2.2.1 v27.1).bind λv28 =>
 ((at? v27.2.1 v28.1).bind λv29 =>
 ((at? v27.2.1 v28.1).bind λv30 =>
 (some (inl ((w64 (v27.1+1)),((v27.2.1.set v28.1.toNat v28.2),())))))))
 (some (inr (v27.2.1,()))))) (0,(v1,()))).bind λv31 =>
 (some (v31.1,(v26.1,(v3,()))))))))
 (some (v1,(v2,(v3,()))))))))).bind λv32 =>
 ((((ae_ (ρ:=(((List Int)×Unit)⊕(Bool×((List Int)×Unit)))) (λ(v33:(Int×((List Int)×Unit))) =>
 (cond (decide (v33.1<101))
 ((((ae_ (ρ:=(Unit⊕(Int×Unit))) (λ(v34:(Int×Unit)) =>
 (cond (decide (v34.1<(a0.2.2.2.2.2.1.length:Int)))
 ((at? a0.2.2.2.2.2.1 v34.1).bind λv35 =>
 ((((at? v33.2.1 v35.2.1).bind λv36 =>
 ((at? v33.2.1 v35.2.1).bind λv37 =>
 (cond (v37 != v35.2.2)
 ((av_ (a0,(v33.2.1,(v32.2.1,v32.2.2.1))) v35.1).bind λv38 =>
 (some (v38.1,())))
 (some (false,())))))).bind λv39 =>
 (cond v39.1
 (some (inr (inr (v34.1,()))))
 (some (inl ((w64 (v34.1+1)),()))))))
 (some (inr (inl ()))))) (0,())).bind λv40 =>
 (cc_ v40 (λv41=>(some ((-1),())))
 (λv42=>(some v42))))).bind λv43 =>
 (cond (decide (v43.1<0))
 (some (inr (inr ((!true),(v33.2.1,())))))
 ((at? a0.2.2.2.2.2.1 v43.1).bind λv44 =>
 ((at? a0.2.2.2.2.2.1 v43.1).bind λv45 =>
 ((at? v33.2.1 v44.2.1).bind λv46 =>
 ((at? v33.2.1 v44.2.1).bind λv47 =>
 (some (inl ((w64 (v33.1+1)),((v33.2.1.set v44.2.1.toNat v45.2.2),()))))))))))
 (some (inr (inl (v33.2.1,())))))) (0,(v32.1,()))).bind λv48 =>
 (cc_ v48 (λv49=>(some ((!false),(v49.1,()))))
 (λv50=>(some v50))))).bind λv51 =>
 (cond v51.1
 (some (([],([],[])),(27,())))
 (some ((v51.2.1,(v32.2.1,v32.2.2.1)),(0,())))))))))))))
theorem x_85:ba_ (P:=prog) (cxI (λk=>cond (Nat.beq k 79) (.p .z (.p (.j0 [.v 6 .bool,.o (.c (.s 0) 8) .int] .z .z) .z)) (cond (Nat.beq k 138) (.p .z (.p (.p .z (.ls [.v 4 .int] [] [.o (.c (.s 0) 8) .int] 0 (.p .z (.p .z (.p (.j0 [.v 3 .int] .z .z) .z))))) .z)) (cond (Nat.beq k 141) (.p .z (.p .z (.p .z (.p .z (.p .z (.p .z (.p .z (.p .z (.p .z (.p .z (.p (.p .z (.p (.p .z (.lp [.v 96 .int] [] [.o (.c (.s 0) 9) .int] 1 .z)) (.p (.p .z (.lp [.v 111 .int] [] [.o (.c (.s 0) 9) .int] 3 .z)) (.p .z (.lp [.v 127 .int] [] [.o (.c (.s 0) 8) .int] 5 .z))))) .z))))))))))) (cond (Nat.beq k 193) (.p .z (.p (.p .z (.ls [.v 8 .int] [] [] 0 .z)) .z)) (cond (Nat.beq k 194) (.p .z (.j0 [.v 3 .bool] .z .z)) (.z)))))) (λk=>Nat.beq k 37||Nat.beq k 110||Nat.beq k 112||Nat.beq k 139||false) (cxC [bz6,c_112,bz3] [wa_]) 7) (.p .z (.p .z (.p .z (.p .z (.j0 [.o (.c (.s 9) 8) .int,.o (.c (.s 9) 9) .int,.o (.c (.s 9) 10) .int] .z .z))))) 85 [bb_,ch_,bt_] [ch_,.int]=λx=>ez_ x.1 x.2.1 x.2.2.1:=by kernel_rfl
noncomputable def c_85:Con prog:=bd_ _ _ 85 [bb_,ch_,bt_] [ch_,.int] _ x_85
noncomputable def gy_ (a0:al_):Option (Bool×Unit) :=
 ((jh_ a0).bind λv0 =>
 (cond (v0.1 != 0)
 (some ((decide (20<(a0.1.length:Int))),()))
 ((ae_ (ρ:=(Unit⊕(Bool×Unit))) (λ(v1:(Int×(Int×Unit))) =>
 (cond (decide (v1.2.1<(a0.1.length:Int)))
 ((at? a0.1 v1.2.1).bind λv2 =>
 ((at? a0.2.2.1 v1.2.1).bind λv3 =>
 ((ls_ v2 v3).bind λv4 =>
 (cond (decide (200<(w64 (v1.1 * (aw6 201 (v4.1.length:Int))))))
 (some (inr (inr (true,()))))
 (some (inl ((w64 (v1.1 * (aw6 201 (v4.1.length:Int)))),((w64 (v1.2.1+1)),()))))))))
 (some (inr (inl ()))))) (1,(0,()))).bind λv5 =>
 (cc_ v5 (λv6=>(some (false,())))
 (λv7=>(some v7))))))
theorem x_20:ba_ (P:=prog) (cxC [c_57,c_58] []) (.p .z (.p .z (.p .z (.p (.p .z (.ls [.v 3 .int,.v 4 .int] [] [] 0 (.p .z (.p (.p (.q [] .z .z) .z) .z)))) .z)))) 20 [am_] [.bool]=λx=>gy_ x.1:=by kernel_rfl
noncomputable def c_20:Con prog:=bd_ _ _ 20 [am_] [.bool] _ x_20
noncomputable def fa_ (a0:ad_) (a1:ak_):Option ((List aj_)×Int×Unit) :=
 ((cd_ a0 a1).bind λv0 =>
 (cond (v0.1 != 0)
 (some ([],(v0.1,())))
 ((push? (α:=Int) [] a1.1).bind λv1 =>
 ((push? (α:=Int) [] a1.2.1).bind λv2 =>
 ((push? (α:=Int) [] a1.2.2).bind λv3 =>
 ((ae_ (ρ:=(Unit×(((List aj_)×Unit)×Unit))) (λ(v4:(Int×(Unit×(((List aj_)×Unit)×Unit)))) =>
 (cond (decide (v4.1<a0.2.2.2.2.2.2.1))
 ((ae_ (ρ:=(Unit×(((List aj_)×Unit)×Unit))) (λ(v5:(Int×(Unit×(((List aj_)×Unit)×Unit)))) =>
 (cond (decide (v5.1<(([0,(a0.2.2.2.1.length:Int),(a0.2.2.1.length:Int),(a0.2.2.1.length:Int),(a0.2.2.2.2.1.length:Int)]).length:Int)))
 ((at? [0,(a0.2.2.2.1.length:Int),(a0.2.2.1.length:Int),(a0.2.2.1.length:Int),(a0.2.2.2.2.1.length:Int)] v5.1).bind λv6 =>
 ((at? [0,(a0.2.2.2.1.length:Int),(a0.2.2.1.length:Int),(a0.2.2.1.length:Int),(a0.2.2.2.2.1.length:Int)] v5.1).bind λv7 =>
 ((ae_ (ρ:=(Unit×(((List aj_)×Unit)×Unit))) (λ(v8:(Int×(Unit×(((List aj_)×Unit)×Unit)))) =>
 (cond (decide (v8.1<v7))
 ((((cv_ (a0,(v1,(v2,v3))) (v4.1,(v5.1,v8.1))).bind λv9 =>
 (cond v9.1
 ((push? (α:=aj_) v8.2.2.1.1 [(v4.1,(v5.1,v8.1))]).bind λv10 =>
 (some ((),((v10,()),()))))
 (some ((),((v8.2.2.1.1,()),())))))).bind λv11 =>
 (some (inl ((w64 (v8.1+1)),((),((v11.2.1.1,()),()))))))
 (some (inr ((),((v8.2.2.1.1,()),())))))) (0,((),((v5.2.2.1.1,()),())))).bind λv12 =>
 (some (inl ((w64 (v5.1+1)),((),((v12.2.1.1,()),()))))))))
 (some (inr ((),((v5.2.2.1.1,()),())))))) (0,((),((v4.2.2.1.1,()),())))).bind λv13 =>
 (some (inl ((w64 (v4.1+1)),((),((v13.2.1.1,()),()))))))
 (some (inr ((),((v4.2.2.1.1,()),())))))) (0,((),(([],()),())))).bind λv14 =>
 (some (v14.2.1.1,(0,())))))))))
theorem x_59:ba_ (P:=prog) (cxI (λk=>cond (Nat.beq k 162) (.p .z (.lp [.v 9 .int] [] [.y (.s 0),.b (.y (.s 0) 4) [.row bt_ 56]] 0 (.p .z (.p .z (.p (.p .z (.p .z (.lp [.v 26 .int] [] [.y (.s 0),.b (.y (.s 0) 4) [.row bt_ 56]] 2 (.p .z (.p .z (.p (.p .z (.p .z (.lp [.v 32 .int] [] [.y (.s 0),.b (.y (.s 0) 4) [.row bt_ 56]] 4 (.p .z (.p .z (.j0 [.y (.s 0),.b (.y (.s 0) 4) [.row bt_ 56]] .z .z)))))) .z)))))) .z))))) (.z)) (λk=>Nat.beq k 37||Nat.beq k 110||Nat.beq k 112||false) (cxC [bz6,c_112] [wa_]) 6) (.p .z (.p .z (.p .z (.p (.p .z (.rf [4,7] .z .z)) .z)))) 59 [bb_,ch_] [(.list bt_),.int]=λx=>fa_ x.1 x.2.1:=by kernel_rfl
noncomputable def c_59:Con prog:=bd_ _ _ 59 [bb_,ch_] [(.list bt_),.int] _ x_59
end
section
set_option maxRecDepth 100000
set_option maxHeartbeats 0
noncomputable def gn_ (a0:ac_):Option (Int×Unit) :=
 ((fc_ a0.1).bind λv0 =>
 (cond (v0.1 != 0)
 (some (v0.1,()))
 (((cond (decide (8<(a0.2.1.length:Int)))
 (some (true,()))
 (some ((decide (16<(a0.2.2.2.1.length:Int))),())))).bind λv1 =>
 (cond v1.1
 (some (2,()))
 ((ae_ (ρ:=(Unit⊕(Int×Unit))) (λ(v2:(Int×Unit)) =>
 (cond (decide (v2.1<(a0.2.1.length:Int)))
 ((at? a0.2.1 v2.1).bind λv3 =>
 ((cq_ v3).bind λv4 =>
 (cond (v4.1 != 0)
 (some (inr (inr (v4.1,()))))
 (some (inl ((w64 (v2.1+1)),()))))))
 (some (inr (inl ()))))) (0,())).bind λv5 =>
 (cc_ v5 (λv6=>(cond ((a0.2.2.1.length:Int) != (a0.2.1.length:Int))
 (some (12,()))
 ((ae_ (ρ:=(Unit⊕(Int×Unit))) (λ(v8:(Int×Unit)) =>
 (cond (decide (v8.1<(a0.2.1.length:Int)))
 ((at? a0.2.1 v8.1).bind λv9 =>
 ((at? a0.2.2.1 v8.1).bind λv10 =>
 ((bu_ v9 v10).bind λv11 =>
 (cond (v11.1 != 0)
 (some (inr (inr (12,()))))
 (some (inl ((w64 (v8.1+1)),())))))))
 (some (inr (inl ()))))) (0,())).bind λv12 =>
 (cc_ v12 (λv13=>((ae_ (ρ:=(Unit⊕(Int×Unit))) (λ(v15:(Int×Unit)) =>
 (cond (decide (v15.1<(a0.1.2.2.2.2.1.length:Int)))
 ((at? a0.1.2.2.2.2.1 v15.1).bind λv16 =>
 (cond (decide ((a0.2.1.length:Int)≤v16.2.2.1))
 (some (inr (inr (26,()))))
 (some (inl ((w64 (v15.1+1)),())))))
 (some (inr (inl ()))))) (0,())).bind λv17 =>
 (cc_ v17 (λv18=>((ae_ (ρ:=(Unit⊕(Int×Unit))) (λ(v20:(Int×Unit)) =>
 (cond (decide (v20.1<(a0.2.2.2.1.length:Int)))
 ((at? a0.2.2.2.1 v20.1).bind λv21 =>
 ((ke_ a0 v20.1 v21).bind λv22 =>
 (cond (!v22.1)
 (some (inr (inr (40,()))))
 ((kd_ a0.1 v21.2.2.2.1).bind λv23 =>
 (cond (!v23.1)
 (some (inr (inr (25,()))))
 (some (inl ((w64 (v20.1+1)),()))))))))
 (some (inr (inl ()))))) (0,())).bind λv24 =>
 (cc_ v24 (λv25=>((bp_ a0.2.2.2.2 1 100).bind λv27 =>
 (cond (!v27.1)
 (some (1,()))
 (some (0,())))))
 (λv26=>(some v26)))))
 (λv19=>(some v19)))))
 (λv14=>(some v14))))))
 (λv7=>(some v7))))))))
theorem x_29:ba_ (P:=prog) (cxC [c_62,c_73,c_74,c_75,c_76,c_77] []) (.p .z (.p .z (.p (.j0 [.v 28 .bool] .z .z) (.p (.p .z (.ls [.v 32 .int] [] [] 0 .z)) (.p .z (.p (.p .z (.ls [.v 52 .int] [] [] 2 .z)) (.p (.p .z (.ls [.v 70 .int] [] [] 4 .z)) (.p (.p .z (.ls [.v 84 .int] [] [] 6 .z)) .z)))))))) 29 [bc_] [.int]=λx=>gn_ x.1:=by kernel_rfl
noncomputable def c_29:Con prog:=bd_ _ _ 29 [bc_] [.int] _ x_29
noncomputable def ca_ (a0:al_):Option (Int×Unit) :=
 ((((bo_ (a0.1.length:Int) 1 8).bind λv0 =>
 (cond (!v0.1)
 (some (true,()))
 (cond ((a0.2.1.length:Int) != (a0.1.length:Int))
 (some (true,()))
 (cond ((a0.2.2.1.length:Int) != (a0.1.length:Int))
 (some (true,()))
 (some ((decide (10<(a0.2.2.2.length:Int))),()))))))).bind λv1 =>
 (cond v1.1
 (some (70,()))
 ((ae_ (ρ:=(Unit⊕(Int×Unit))) (λ(v2:(Int×Unit)) =>
 (cond (decide (v2.1<(a0.1.length:Int)))
 ((at? a0.1 v2.1).bind λv3 =>
 ((((at? a0.2.1 v2.1).bind λv4 =>
 ((bu_ v3 v4).bind λv5 =>
 (cond (v5.1 != 0)
 (some (true,()))
 ((at? a0.2.2.1 v2.1).bind λv6 =>
 (some ((decide (20<(v6.length:Int))),()))))))).bind λv7 =>
 (cond v7.1
 (some (inr (inr (70,()))))
 ((at? a0.2.2.1 v2.1).bind λv8 =>
 ((((ae_ (ρ:=(Unit⊕(Bool×Unit))) (λ(v9:(Int×Unit)) =>
 (cond (decide (v9.1<(v8.length:Int)))
 ((at? v8 v9.1).bind λv10 =>
 ((dx_ a0 v2.1 v10).bind λv11 =>
 (cond (!v11.1)
 (some (inr (inr ((decide (0≤v9.1)),()))))
 (some (inl ((w64 (v9.1+1)),()))))))
 (some (inr (inl ()))))) (0,())).bind λv12 =>
 (cc_ v12 (λv13=>(some ((decide (0≤(-1))),())))
 (λv14=>(some v14))))).bind λv15 =>
 (cond v15.1
 (some (inr (inr (70,()))))
 (some (inl ((w64 (v2.1+1)),())))))))))
 (some (inr (inl ()))))) (0,())).bind λv16 =>
 (cc_ v16 (λv17=>((((ae_ (ρ:=(Unit⊕(Bool×Unit))) (λ(v19:(Int×Unit)) =>
 (cond (decide (v19.1<(a0.2.2.2.length:Int)))
 ((at? a0.2.2.2 v19.1).bind λv20 =>
 ((kg_ a0 v20).bind λv21 =>
 (cond (!v21.1)
 (some (inr (inr ((decide (0≤v19.1)),()))))
 (some (inl ((w64 (v19.1+1)),()))))))
 (some (inr (inl ()))))) (0,())).bind λv22 =>
 (cc_ v22 (λv23=>(some ((decide (0≤(-1))),())))
 (λv24=>(some v24))))).bind λv25 =>
 (cond v25.1
 (some (70,()))
 (some (0,())))))
 (λv18=>(some v18))))))
theorem x_22:ba_ (P:=prog) (cxI (λk=>cond (Nat.beq k 63) (.p .z (.j0 [.v 4 .bool] .z .z)) (cond (Nat.beq k 66) (.p .z (.j0 [.v 4 .bool] .z .z)) (cond (Nat.beq k 114) (.p .z (.p (.p .z (.ls [.v 8 .int] [] [] 0 .z)) .z)) (cond (Nat.beq k 116) (.p .z (.p (.p .z (.ls [.v 8 .int] [] [] 0 .z)) .z)) (.z))))) (λk=>Nat.beq k 61||Nat.beq k 62||Nat.beq k 65||Nat.beq k 68||false) (cxC [c_61,c_62,c_65,c_68] []) 7) (.p .z (.p .z (.p (.j0 [.v 31 .bool] .z .z) (.p (.p .z (.ls [.v 35 .int] [] [] 0 (.p .z (.p .z (.p (.p .z (.p (.j0 [.v 56 .bool] .z .z) .z)) .z))))) .z)))) 22 [am_] [.int]=λx=>ca_ x.1:=by kernel_rfl
noncomputable def c_22:Con prog:=bd_ _ _ 22 [am_] [.int] _ x_22
noncomputable def fm_ (a0:al_) (a1:hj_):Option (Bool×Unit) :=
 ((bo_ a1.1 0 (w64 ((a0.1.length:Int) - 1))).bind λv0 =>
 (cond v0.1
 ((dx_ a0 a1.1 a1.2).bind λv1 =>
 (some (v1.1,())))
 (some (false,()))))
theorem x_95:ba_ (P:=prog) (cxC [c_61,c_65] []) .z 95 [am_,la_] [.bool]=λx=>fm_ x.1 x.2.1:=by kernel_rfl
noncomputable def c_95:Con prog:=bd_ _ _ 95 [am_,la_] [.bool] _ x_95
end
section
set_option maxRecDepth 100000
set_option maxHeartbeats 0
noncomputable def cs_ (a0:ac_) (a1:ai_):Option (Int×Unit) :=
 ((gn_ a0).bind λv0 =>
 (cond (v0.1 != 0)
 (some (v0.1,()))
 ((cd_ a0.1 a1.1).bind λv1 =>
 (cond (v1.1 != 0)
 (some (v1.1,()))
 (cond ((a1.2.length:Int) != (a0.2.2.2.1.length:Int))
 (some (28,()))
 (some (0,())))))))
theorem x_83:ba_ (P:=prog) (cxC [c_29,bz6] []) .z 83 [bc_,aw_] [.int]=λx=>cs_ x.1 x.2.1:=by kernel_rfl
noncomputable def c_83:Con prog:=bd_ _ _ 83 [bc_,aw_] [.int] _ x_83
noncomputable def hy_ (a0:al_):Option (Int×Int×Unit) :=
 ((ca_ a0).bind λv0 =>
 (cond (v0.1 != 0)
 (cond (v0.1 != 0)
 (some (0,(v0.1,())))
 none)
 ((ae_ (ρ:=(Unit⊕(Int×(Int×Unit)))) (λ(v1:(Int×(Int×Unit))) =>
 (cond (decide (v1.2.1<(a0.1.length:Int)))
 ((at? a0.1 v1.2.1).bind λv2 =>
 ((at? a0.2.2.1 v1.2.1).bind λv3 =>
 ((az_ v2 v3).bind λv4 =>
 (cond (v4.2.1 != 0)
 (((cond (v4.2.1 != 0)
 (some (0,(v4.2.1,())))
 none)).bind λv5 =>
 (some (inr (inr v5))))
 (cond (decide (20000<(w64 (v1.1 * v4.1))))
 (some (inr (inr (0,(2,())))))
 (some (inl ((w64 (v1.1 * v4.1)),((w64 (v1.2.1+1)),())))))))))
 (some (inr (inl ()))))) (1,(0,()))).bind λv6 =>
 (cc_ v6 (λv7=>((ae_ (ρ:=(((List (List (List Int)))×Unit)×Unit)) (λ(v9:(Int×(((List (List (List Int)))×Unit)×Unit))) =>
 (cond (decide (v9.1<(a0.1.length:Int)))
 ((at? a0.1 v9.1).bind λv10 =>
 ((at? a0.2.2.1 v9.1).bind λv11 =>
 ((bk_ v10 v11).bind λv12 =>
 ((push? (α:=(List (List Int))) v9.2.1.1 ([v12.1]:List (List (List Int)))).bind λv13 =>
 (some (inl ((w64 (v9.1+1)),((v13,()),()))))))))
 (some (inr ((v9.2.1.1,()),()))))) (0,(([],()),()))).bind λv14 =>
 (((mk? (α:=Int) (a0.1.length:Int) 0).bind λv15 =>
 (wlP true (λn w=>((),(w,((n,()),())))) (λa=>a.2.2.1.1) (λa=>a.2.1) a0.2.2.2 v14.1.1 (λw n=>some (w64 (n+1),())) 3 ((Int×Unit)×Unit) (λn w=>((n,()),())) 0 0 v15)).bind λv116 =>
 (some (v116.1.1,(0,()))))))
 (λv8=>(some v8))))))
theorem x_48:ba_ (P:=prog) (cxI (λk=>cond (Nat.beq k 88) (.p .z (.p .z (.p .z (.p .z (.p (.p .z (.ls [.v 6 .int,.v 24 .int] [] [] 0 .z)) (.p (.p .z (.lp [.v 51 .int] [] [.b (.s 5) [.keep,.keep,.keep,.keep,.row (.list (.list .int)) 33]] 2 .z)) .z)))))) (cond (Nat.beq k 144) (.p .z (.p (.p .z (.p (.p (.p .z (.ls [.v 20 .int] [] [] 0 .z)) .z) .z)) (.p (.p .z (.ls [.v 49 .int] [] [.y (.c (.s 4) 0),.o (.s 11) .int,.b (.y (.c (.s 4) 0) 2) [.val .int]] 2 (.p .z (.p .z (.js [.y (.c (.s 4) 0),.o (.s 11) .int,.b (.y (.c (.s 4) 0) 2) [.val .int]] .z .z))))) .z))) (.z))) (λk=>Nat.beq k 22||Nat.beq k 26||Nat.beq k 142||false) (cxC [c_22,c_26,c_142] []) 5) (.p .z (.p .z (.p .z (.j0 [.b (.s 2) [.val .int]] (.p .z (.rf [2] .z .z)) .z)))) 48 [am_] [.int,.int]=λx=>hy_ x.1:=by kernel_rfl
noncomputable def c_48:Con prog:=bd_ _ _ 48 [am_] [.int,.int] _ x_48
noncomputable def hz_ (a0:al_) (a1:hj_):Option ((List Int)×Int×Unit) :=
 ((ca_ a0).bind λv0 =>
 (cond (v0.1 != 0)
 (cond (v0.1 != 0)
 (cond (v0.1 != 0)
 (some ([],(v0.1,())))
 none)
 ((fm_ a0 a1).bind λv1 =>
 (cond (!v1.1)
 (some ([],(70,())))
 ((fd_ a0 a1.1).bind λv2 =>
 (cond v2.1
 (some ([],(2,())))
 ((go_ a0 a1).bind λv3 =>
 ((ca_ v3.1).bind λv4 =>
 (cond (v4.1 != 0)
 (cond (v4.1 != 0)
 (some ([],(v4.1,())))
 none)
 ((ae_ (ρ:=(Unit⊕((List Int)×(Int×Unit)))) (λ(v5:(Int×(Int×Unit))) =>
 (cond (decide (v5.2.1<(v3.1.1.length:Int)))
 ((at? v3.1.1 v5.2.1).bind λv6 =>
 ((at? v3.1.2.2.1 v5.2.1).bind λv7 =>
 ((az_ v6 v7).bind λv8 =>
 (cond (v8.2.1 != 0)
 (((cond (v8.2.1 != 0)
 (some ([],(v8.2.1,())))
 none)).bind λv9 =>
 (some (inr (inr v9))))
 (cond (decide (20000<(w64 (v5.1 * v8.1))))
 (some (inr (inr ([],(2,())))))
 (some (inl ((w64 (v5.1 * v8.1)),((w64 (v5.2.1+1)),())))))))))
 (some (inr (inl ()))))) (1,(0,()))).bind λv10 =>
 (cc_ v10 (λv11=>((ae_ (ρ:=(((List (List (List Int)))×Unit)×Unit)) (λ(v13:(Int×(((List (List (List Int)))×Unit)×Unit))) =>
 (cond (decide (v13.1<(v3.1.1.length:Int)))
 ((at? v3.1.1 v13.1).bind λv14 =>
 ((at? v3.1.2.2.1 v13.1).bind λv15 =>
 ((bk_ v14 v15).bind λv16 =>
 ((push? (α:=(List (List Int))) v13.2.1.1 ([v16.1]:List (List (List Int)))).bind λv17 =>
 (some (inl ((w64 (v13.1+1)),((v17,()),()))))))))
 (some (inr ((v13.2.1.1,()),()))))) (0,(([],()),()))).bind λv18 =>
 none))
 (λv12=>(some v12))))))))))))
 ((ae_ (ρ:=(Unit⊕((List Int)×(Int×Unit)))) (λ(v19:(Int×(Int×Unit))) =>
 (cond (decide (v19.2.1<(a0.1.length:Int)))
 ((at? a0.1 v19.2.1).bind λv20 =>
 ((at? a0.2.2.1 v19.2.1).bind λv21 =>
 ((az_ v20 v21).bind λv22 =>
 (cond (v22.2.1 != 0)
 (((cond (v22.2.1 != 0)
 (cond (v22.2.1 != 0)
 (some ([],(v22.2.1,())))
 none)
 ((fm_ a0 a1).bind λv23 =>
 (cond (!v23.1)
 (some ([],(70,())))
 ((fd_ a0 a1.1).bind λv24 =>
 (cond v24.1
 (some ([],(2,())))
 ((go_ a0 a1).bind λv25 =>
 ((ca_ v25.1).bind λv26 =>
 (cond (v26.1 != 0)
 (cond (v26.1 != 0)
 (some ([],(v26.1,())))
 none)
 ((ae_ (ρ:=(Unit⊕((List Int)×(Int×Unit)))) (λ(v27:(Int×(Int×Unit))) =>
 (cond (decide (v27.2.1<(v25.1.1.length:Int)))
 ((at? v25.1.1 v27.2.1).bind λv28 =>
 ((at? v25.1.2.2.1 v27.2.1).bind λv29 =>
 ((az_ v28 v29).bind λv30 =>
 (cond (v30.2.1 != 0)
 (((cond (v30.2.1 != 0)
 (some ([],(v30.2.1,())))
 none)).bind λv31 =>
 (some (inr (inr v31))))
 (cond (decide (20000<(w64 (v27.1 * v30.1))))
 (some (inr (inr ([],(2,())))))
 (some (inl ((w64 (v27.1 * v30.1)),((w64 (v27.2.1+1)),())))))))))
 (some (inr (inl ()))))) (1,(0,()))).bind λv32 =>
 (cc_ v32 (λv33=>((ae_ (ρ:=(((List (List (List Int)))×Unit)×Unit)) (λ(v35:(Int×(((List (List (List Int)))×Unit)×Unit))) =>
 (cond (decide (v35.1<(v25.1.1.length:Int)))
 ((at? v25.1.1 v35.1).bind λv36 =>
 ((at? v25.1.2.2.1 v35.1).bind λv37 =>
 ((bk_ v36 v37).bind λv38 =>
 ((push? (α:=(List (List Int))) v35.2.1.1 ([v38.1]:List (List (List Int)))).bind λv39 =>
 (some (inl ((w64 (v35.1+1)),((v39,()),()))))))))
 (some (inr ((v35.2.1.1,()),()))))) (0,(([],()),()))).bind λv40 =>
 none))
 (λv34=>(some v34))))))))))))).bind λv41 =>
 (some (inr (inr v41))))
 (cond (decide (20000<(w64 (v19.1 * v22.1))))
 (some (inr (inr ([],(2,())))))
 (some (inl ((w64 (v19.1 * v22.1)),((w64 (v19.2.1+1)),())))))))))
 (some (inr (inl ()))))) (1,(0,()))).bind λv42 =>
 (cc_ v42 (λv43=>((ae_ (ρ:=(((List (List (List Int)))×Unit)×Unit)) (λ(v45:(Int×(((List (List (List Int)))×Unit)×Unit))) =>
 (cond (decide (v45.1<(a0.1.length:Int)))
 ((at? a0.1 v45.1).bind λv46 =>
 ((at? a0.2.2.1 v45.1).bind λv47 =>
 ((bk_ v46 v47).bind λv48 =>
 ((push? (α:=(List (List Int))) v45.2.1.1 ([v48.1]:List (List (List Int)))).bind λv49 =>
 (some (inl ((w64 (v45.1+1)),((v49,()),()))))))))
 (some (inr ((v45.2.1.1,()),()))))) (0,(([],()),()))).bind λv50 =>
 ((fm_ a0 a1).bind λv51 =>
 (cond (!v51.1)
 (some ([],(70,())))
 ((fd_ a0 a1.1).bind λv52 =>
 (cond v52.1
 (some ([],(2,())))
 ((go_ a0 a1).bind λv53 =>
 ((ca_ v53.1).bind λv54 =>
 (cond (v54.1 != 0)
 (cond (v54.1 != 0)
 (some ([],(v54.1,())))
 none)
 ((ae_ (ρ:=(Unit⊕((List Int)×(Int×Unit)))) (λ(v55:(Int×(Int×Unit))) =>
 (cond (decide (v55.2.1<(v53.1.1.length:Int)))
 ((at? v53.1.1 v55.2.1).bind λv56 =>
 ((at? v53.1.2.2.1 v55.2.1).bind λv57 =>
 ((az_ v56 v57).bind λv58 =>
 (cond (v58.2.1 != 0)
 (((cond (v58.2.1 != 0)
 (some ([],(v58.2.1,())))
 none)).bind λv59 =>
 (some (inr (inr v59))))
 (cond (decide (20000<(w64 (v55.1 * v58.1))))
 (some (inr (inr ([],(2,())))))
 (some (inl ((w64 (v55.1 * v58.1)),((w64 (v55.2.1+1)),())))))))))
 (some (inr (inl ()))))) (1,(0,()))).bind λv60 =>
 (cc_ v60 (λv61=>((ae_ (ρ:=(((List (List (List Int)))×Unit)×Unit)) (λ(v63:(Int×(((List (List (List Int)))×Unit)×Unit))) =>
 (cond (decide (v63.1<(v53.1.1.length:Int)))
 ((at? v53.1.1 v63.1).bind λv64 =>
 ((at? v53.1.2.2.1 v63.1).bind λv65 =>
 ((bk_ v64 v65).bind λv66 =>
 ((push? (α:=(List (List Int))) v63.2.1.1 ([v66.1]:List (List (List Int)))).bind λv67 =>
 (some (inl ((w64 (v63.1+1)),((v67,()),()))))))))
 (some (inr ((v63.2.1.1,()),()))))) (0,(([],()),()))).bind λv68 =>
 ((es_ (a0,v50.1.1) (v53.1,v68.1.1)).bind λv69 =>
 ((((ae_ (ρ:=(Unit⊕(Int×Unit))) (λ(v70:(Int×Unit)) =>
 (cond (decide (v70.1<(v69.length:Int)))
 ((at? v69 v70.1).bind λv71 =>
 ((at? v69 v70.1).bind λv72 =>
 (cond (v72==a1.1)
 (some (inr (inr (v70.1,()))))
 (some (inl ((w64 (v70.1+1)),()))))))
 (some (inr (inl ()))))) (0,())).bind λv73 =>
 (cc_ v73 (λv74=>(some ((-1),())))
 (λv75=>(some v75))))).bind λv76 =>
 (cond (v76.1==(-1))
 (some (v69,(0,())))
 ((ae_ (ρ:=(Int×((List Int)×Unit))) (λ(v77:(Int×(Int×((List Int)×Unit)))) =>
 (cond (decide (v77.2.1<(v77.2.2.1.length:Int)))
 ((((at? v77.2.2.1 v77.2.1).bind λv78 =>
 ((at? v77.2.2.1 v77.2.1).bind λv79 =>
 (cond (!(v79==a1.1))
 ((at? v77.2.2.1 v77.1).bind λv80 =>
 ((at? v77.2.2.1 v77.1).bind λv81 =>
 (some ((w64 (v77.1+1)),((v77.2.2.1.set v77.1.toNat v79),())))))
 (some (v77.1,(v77.2.2.1,()))))))).bind λv82 =>
 (some (inl (v82.1,((w64 (v77.2.1+1)),(v82.2.1,()))))))
 (some (inr (v77.1,(v77.2.2.1,())))))) (v76.1,((w64 (v76.1+1)),(v69,())))).bind λv83 =>
 ((sub? v83.2.1 v83.1 (v83.2.1.length:Int)).bind λv84 =>
 ((sub? ((List.take v83.1.toNat v83.2.1)++(List.replicate (v83.2.1.length - v83.1.toNat) 0)) 0 v83.1).bind λv85 =>
 (some (v85,(0,())))))))))))
 (λv62=>(some v62)))))))))))))
 (λv44=>(some v44))))))
theorem x_50:ba_ (P:=prog) (cxI (λk=>cond (Nat.beq k 88) (.p .z (.p .z (.p .z (.p .z (.p (.p .z (.ls [.v 6 .int,.v 24 .int] [] [] 0 .z)) (.p (.p .z (.lp [.v 51 .int] [] [.b (.s 5) [.keep,.keep,.keep,.keep,.row (.list (.list .int)) 33]] 2 .z)) .z)))))) (cond (Nat.beq k 98) (.p .z (.j0 [.v 5 .int] .z (.p .z (.p (.p .z (.lp [.v 5 .int,.v 6 .int] [.v 5 .int] [.o (.s 0) .int] 0 (.p .z (.j0 [.v 5 .int,.o (.s 0) .int] .z .z)))) .z)))) (cond (Nat.beq k 150) (.p .z (.p (.p .z (.ls [.v 8 .int] [] [] 0 .z)) .z)) (.z)))) (λk=>Nat.beq k 22||Nat.beq k 26||Nat.beq k 95||Nat.beq k 96||Nat.beq k 97||Nat.beq k 99||Nat.beq k 142||false) (cxQ [ri_99] (cxC [c_22,c_26,c_95,c_96,c_97,c_142] [])) 6) .z 50 [am_,la_] [(.list .int),.int]=λx=>hz_ x.1 x.2.1:=by kernel_rfl
noncomputable def c_50:Con prog:=bd_ _ _ 50 [am_,la_] [(.list .int),.int] _ x_50
noncomputable def kf_ (a0:ac_):Option (ai_×Int×Unit) :=
 ((gn_ a0).bind λv0 =>
 (cond (v0.1 != 0)
 (some ((([],([],[])),[]),(v0.1,())))
 ((ig_ a0.1).bind λv1 =>
 (cond (v1.2.1 != 0)
 (some ((([],([],[])),[]),(v1.2.1,())))
 ((mk? (α:=Bool) (a0.2.2.2.1.length:Int) false).bind λv2 =>
 ((ae_ (ρ:=((List Bool)×((List aa_)×Unit))) (λ(v3:(Int×((List Bool)×((List aa_)×Unit)))) =>
 (cond (decide (v3.1<(a0.2.2.2.1.length:Int)))
 ((((at? a0.2.2.2.1 v3.1).bind λv4 =>
 ((fb_ a0.1 v1.1 v4.2.2.2.1).bind λv5 =>
 (((cond v5.1
 ((be_ v1.1.2.2 v4.2.1).bind λv6 =>
 (cond v6.1
 ((at? v3.2.1 v3.1).bind λv7 =>
 ((at? v3.2.1 v3.1).bind λv8 =>
 (some ((!v8),()))))
 (some (false,()))))
 (some (false,())))).bind λv9 =>
 (cond v9.1
 ((at? v3.2.1 v3.1).bind λv10 =>
 ((at? v3.2.1 v3.1).bind λv11 =>
 (some ((v3.2.1.set v3.1.toNat true),((wr_ v3.2.2.1 v4.2.2.1),())))))
 (some (v3.2.1,(v3.2.2.1,())))))))).bind λv12 =>
 (some (inl ((w64 (v3.1+1)),(v12.1,(v12.2.1,()))))))
 (some (inr (v3.2.1,(v3.2.2.1,())))))) (0,(v2,([],())))).bind λv13 =>
 ((push? (α:=Int) [] v1.1.1).bind λv14 =>
 ((push? (α:=Int) [] v1.1.2.1).bind λv15 =>
 ((push? (α:=Int) [] v1.1.2.2).bind λv16 =>
 ((push? (α:=Bool) [] v13.1).bind λv17 =>
 (some (((v14,(v15,v16)),v17),(0,())))))))))))))
theorem x_9:ba_ (P:=prog) (cxI (λk=>cond (Nat.beq k 31) (.p .z (.lp [.v 12 .int] [] [.o (.c (.s 0) 15) .bool,.m (.c (.s 0) 16) .int .int] 0 (.p .z (.p .z (.j0 [.o (.c (.s 0) 15) .bool,.m (.c (.s 0) 16) .int .int] (.p .z (.p .z (.j0 [.v 55 .bool] .z .z))) .z))))) (.z)) (λk=>Nat.beq k 29||Nat.beq k 30||Nat.beq k 37||Nat.beq k 80||Nat.beq k 81||Nat.beq k 82||false) (cxC [c_29,c_30,c_80,c_81] [wa_,by4]) 3) .z 9 [bc_] [aw_,.int]=λx=>kf_ x.1:=by kernel_rfl
noncomputable def c_9:Con prog:=bd_ _ _ 9 [bc_] [aw_,.int] _ x_9
noncomputable def fz_ (a0:al_) (a1:Int):Option ((List (List Int))×Int×Unit) :=
 ((ca_ a0).bind λv0 =>
 (cond (v0.1 != 0)
 (((cond (v0.1==0)
 ((bo_ a1 0 (w64 ((a0.1.length:Int) - 1))).bind λv1 =>
 (some ((!v1.1),())))
 (some (false,())))).bind λv2 =>
 (cond v2.1
 (some ([],(1,())))
 (cond (v0.1 != 0)
 (some ([],(v0.1,())))
 none)))
 ((ae_ (ρ:=(Unit⊕((List (List Int))×(Int×Unit)))) (λ(v3:(Int×(Int×Unit))) =>
 (cond (decide (v3.2.1<(a0.1.length:Int)))
 ((at? a0.1 v3.2.1).bind λv4 =>
 ((at? a0.2.2.1 v3.2.1).bind λv5 =>
 ((az_ v4 v5).bind λv6 =>
 (cond (v6.2.1 != 0)
 (((((cond (v6.2.1==0)
 ((bo_ a1 0 (w64 ((a0.1.length:Int) - 1))).bind λv7 =>
 (some ((!v7.1),())))
 (some (false,())))).bind λv8 =>
 (cond v8.1
 (some ([],(1,())))
 (cond (v6.2.1 != 0)
 (some ([],(v6.2.1,())))
 none)))).bind λv9 =>
 (some (inr (inr v9))))
 (cond (decide (20000<(w64 (v3.1 * v6.1))))
 (some (inr (inr ([],(2,())))))
 (some (inl ((w64 (v3.1 * v6.1)),((w64 (v3.2.1+1)),())))))))))
 (some (inr (inl ()))))) (1,(0,()))).bind λv10 =>
 (cc_ v10 (λv11=>((ae_ (ρ:=(((List (List (List Int)))×Unit)×Unit)) (λ(v13:(Int×(((List (List (List Int)))×Unit)×Unit))) =>
 (cond (decide (v13.1<(a0.1.length:Int)))
 ((at? a0.1 v13.1).bind λv14 =>
 ((at? a0.2.2.1 v13.1).bind λv15 =>
 ((bk_ v14 v15).bind λv16 =>
 ((push? (α:=(List (List Int))) v13.2.1.1 ([v16.1]:List (List (List Int)))).bind λv17 =>
 (some (inl ((w64 (v13.1+1)),((v17,()),()))))))))
 (some (inr ((v13.2.1.1,()),()))))) (0,(([],()),()))).bind λv18 =>
 ((((bo_ a1 0 (w64 ((a0.1.length:Int) - 1))).bind λv19 =>
 (some ((!v19.1),())))).bind λv20 =>
 (cond v20.1
 (some ([],(1,())))
 (psbX true (a0.1.length:Int) a0.2.2.2 v18.1.1 λv388 =>
 ((at? v388.2.1 a1).bind λv389 =>
 (some (v389,(0,())))))))))
 (λv12=>(some v12))))))
theorem x_13:ba_ (P:=prog) (cxI (λk=>cond (Nat.beq k 41) (.p .z (.p .z (.p (.j0 [.v 23 .bool] .z .z) .z))) (cond (Nat.beq k 42) (.p .z (.p .z (.p (.p .z (.lp [.v 26 .int] [] [.g (.s 20) (.list .bool)] 0 .z)) (.j0 [.g (.s 20) (.list .bool)] (.p .z (.rf [3] .z (.p .z (.lp [.v 43 .int] [] [.g (.c (.s 3) 0) (.list .bool)] 4 .z)))) (.p .z (.p (.p .z (.lp [.v 67 .int] [] [.g (.s 20) (.list .bool),.g (.s 9) (.list (.list .int))] 6 (.p .z (.p .z (.p (.p .z (.p .z (.lp [.v 74 .int] [] [.g (.s 20) (.list .bool),.g (.s 9) (.list (.list .int))] 8 (.p .z (.p .z (.j0 [.g (.s 20) (.list .bool),.g (.s 9) (.list (.list .int))] .z .z)))))) .z))))) (.q [(.s 9)] .z .z))))))) (cond (Nat.beq k 88) (.p .z (.p .z (.p .z (.p .z (.p (.p .z (.ls [.v 6 .int,.v 24 .int] [] [] 0 .z)) (.p (.p .z (.lp [.v 51 .int] [] [.b (.s 5) [.keep,.keep,.keep,.keep,.row (.list (.list .int)) 33]] 2 .z)) .z)))))) (cond (Nat.beq k 144) (.p .z (.p (.p .z (.p (.p (.p .z (.ls [.v 20 .int] [] [] 0 .z)) .z) .z)) (.p (.p .z (.ls [.v 49 .int] [] [.g (.c (.y (.c (.s 4) 0) 3) 0) (.list .bool),.y (.c (.s 4) 0),.o (.s 11) .int] 2 (.p .z (.p .z (.js [.g (.c (.y (.c (.s 4) 0) 3) 0) (.list .bool),.y (.c (.s 4) 0),.o (.s 11) .int] .z .z))))) .z))) (.z))))) (λk=>Nat.beq k 22||Nat.beq k 26||Nat.beq k 61||Nat.beq k 142||false) (cxC [c_22,c_26,c_61,c_142] []) 12) .z 13 [am_,.int] [(.list (.list .int)),.int]=λx=>fz_ x.1 x.2.1:=by kernel_rfl
noncomputable def c_13:Con prog:=bd_ _ _ 13 [am_,.int] [(.list (.list .int)),.int] _ x_13
end
section
set_option maxRecDepth 100000
set_option maxHeartbeats 0
noncomputable def ih_ (a0:ac_) (a1:ai_):Option ((List Bool)×Int×Unit) :=
 ((cs_ a0 a1).bind λv0 =>
 (cond (v0.1 != 0)
 (cond (v0.1 != 0)
 (some ([],(v0.1,())))
 none)
 ((push? (α:=Bool) [] a1.2).bind λv1 =>
 ((ae_ (ρ:=((List Bool)×((List aa_)×Unit))) (λ(v2:((List Bool)×(Int×((List aa_)×Unit)))) =>
 (cond (decide (v2.2.1<(a0.2.1.length:Int)))
 (((cond (decide (v2.2.1<0))
 ((push? (α:=Bool) v2.1 [true]).bind λv3 =>
 (some (v3,(v2.2.2.1,()))))
 (((cond ((gd_ 0 v2.2.2.1 v2.2.1)==0)
 ((ae_ (ρ:=((List Int)×((List ab_)×Unit))) (λ(v4:((List Int)×((List ab_)×(Int×Unit)))) =>
 (cond (decide (v4.2.2.1<(a0.2.2.2.1.length:Int)))
 ((((at? a0.2.2.2.1 v4.2.2.1).bind λv5 =>
 (((cond (v5.2.2.1==v2.2.1)
 ((at? v1 v4.2.2.1).bind λv6 =>
 ((at? v1 v4.2.2.1).bind λv7 =>
 (some (v7,()))))
 (some (false,())))).bind λv8 =>
 (cond v8.1
 ((push? (α:=Int) v4.1 [v4.2.2.1]).bind λv9 =>
 ((push? (α:=ab_) v4.2.1 [v5.2.2.2.2]).bind λv10 =>
 (some (v9,(v10,())))))
 (some (v4.1,(v4.2.1,()))))))).bind λv11 =>
 (some (inl (v11.1,(v11.2.1,((w64 (v4.2.2.1+1)),()))))))
 (some (inr (v4.1,(v4.2.1,())))))) ([],([],(0,())))).bind λv12 =>
 ((at? a0.2.1 v2.2.1).bind λv13 =>
 ((az_ v13 v12.2.1).bind λv14 =>
 (((cond (v14.2.1==0)
 (some ((decide (v14.1≤a0.2.2.2.2)),()))
 (some (false,())))).bind λv15 =>
 (cond v15.1
 (some ((kq_ (kq_ v2.2.2.1 v2.2.1 2) v2.2.1 1),()))
 (some ((kq_ v2.2.2.1 v2.2.1 2),())))))))
 (some (v2.2.2.1,())))).bind λv16 =>
 ((push? (α:=Bool) v2.1 [((gd_ 0 v16.1 v2.2.1)==1)]).bind λv17 =>
 (some (v17,(v16.1,()))))))).bind λv18 =>
 (some (inl (v18.1,((w64 (v2.2.1+1)),(v18.2.1,()))))))
 (some (inr (v2.1,(v2.2.2.1,())))))) ([],(0,([],())))).bind λv19 =>
 (some (v19.1,(0,())))))))
theorem x_35:ba_ (P:=prog) (cxI (λk=>cond (Nat.beq k 84) (.p .z (.p .z (.j0 [.m (.c (.s 0) 16) .int .int] (.p .z (.p (.p .z (.p .z (.j0 [.v 37 .bool] .z .z))) .z)) .z))) (cond (Nat.beq k 86) (.p .z (.p (.p .z (.lp [.r 6 .int 3,.r 7 ah_ 40,.v 13 .int] [.r 6 .int 3,.r 7 ah_ 40] [] 0 (.p .z (.p .z (.j0 [.r 6 .int 3,.r 7 ah_ 40] (.p .z (.j0 [.v 26 .bool] .z .z)) .z))))) .z)) (.z))) (λk=>Nat.beq k 26||Nat.beq k 82||Nat.beq k 83||false) (cxC [c_26,c_83] [by4]) 6) (.p .z (.p .z (.p .z (.p (.p .z (.lp [.r 4 .bool 4,.v 20 .int] [.r 4 .bool 4] [.m (.c (.s 6) 16) .int .int] 0 (.p .z (.p .z (.j0 [.r 4 .bool 4,.m (.c (.s 6) 16) .int .int] .z .z))))) .z)))) 35 [bc_,aw_] [(.list .bool),.int]=λx=>ih_ x.1 x.2.1:=by kernel_rfl
noncomputable def c_35:Con prog:=bd_ _ _ 35 [bc_,aw_] [(.list .bool),.int] _ x_35
noncomputable def fy_ (a0:ac_) (a1:ai_) (a2:Int):Option (Int×Unit) :=
 ((cs_ a0 a1).bind λv0 =>
 (cond (v0.1 != 0)
 (some (v0.1,()))
 ((kr_ a0 a2).bind λv1 =>
 (some (v1.1,())))))
theorem x_43:ba_ (P:=prog) (cxC [c_83,c_90] []) .z 43 [bc_,aw_,.int] [.int]=λx=>fy_ x.1 x.2.1 x.2.2.1:=by kernel_rfl
noncomputable def c_43:Con prog:=bd_ _ _ 43 [bc_,aw_,.int] [.int] _ x_43
noncomputable def cp_  : Option (Bool×Unit) :=
 ((hy_ ([(2,4),(1,4)],(([[3,1],[1]]:List (List Int)),(([[(2,(0,(1,(4,(0,([],false))))))],[]]:List (List ab_)),[(0,(1,(1,0)))])))).bind λv0 =>
 ((hz_ ([(2,4),(1,4)],(([[3,1],[1]]:List (List Int)),(([[(2,(0,(1,(4,(0,([],false))))))],[]]:List (List ab_)),[(0,(1,(1,0)))]))) (0,(1,(0,(0,(3,(0,([],false)))))))).bind λv1 =>
 (cond (v0.2.1==0)
 (cond (v1.2.1==0)
 (cond (v0.1==3)
 ((cj_ v1.1 [1]).bind λv2 =>
 (some (v2.1,())))
 (some (false,())))
 (some (false,())))
 (some (false,())))))
theorem x_17:ba_ (P:=prog) (cxC [c_48,c_49,c_50,c_51] []) .z 17 [] [.bool]=λx=>cp_:=by kernel_rfl
noncomputable def c_17:Con prog:=bd_ _ _ 17 [] [.bool] _ x_17
noncomputable def lv_ (a0:ac_) (a1:ai_) (a2:aj_):Option (ai_×Int×Unit) :=
 ((cs_ a0 a1).bind λv0 =>
 (cond (v0.1 != 0)
 (cond (v0.1 != 0)
 (some ((([],([],[])),[]),(v0.1,())))
 none)
 ((push? (α:=Bool) [] a1.2).bind λv1 =>
 (((((cond (a2.2.1==4)
 ((bp_ a2.2.2 0 (w64 ((a0.1.2.2.2.2.1.length:Int) - 1))).bind λv2 =>
 (cond v2.1
 ((at? a0.1.2.2.2.2.1 a2.2.2).bind λv3 =>
 (cond (decide (v3.2.2.1<0))
 (some ((!true),([],())))
 ((((ae_ (ρ:=((List Int)×((List ab_)×Unit))) (λ(v4:((List Int)×((List ab_)×(Int×Unit)))) =>
 (cond (decide (v4.2.2.1<(a0.2.2.2.1.length:Int)))
 ((((at? a0.2.2.2.1 v4.2.2.1).bind λv5 =>
 (((cond (v5.2.2.1==v3.2.2.1)
 ((at? v1 v4.2.2.1).bind λv6 =>
 ((at? v1 v4.2.2.1).bind λv7 =>
 (some (v7,()))))
 (some (false,())))).bind λv8 =>
 (cond v8.1
 ((push? (α:=Int) v4.1 [v4.2.2.1]).bind λv9 =>
 ((push? (α:=ab_) v4.2.1 [v5.2.2.2.2]).bind λv10 =>
 (some (v9,(v10,())))))
 (some (v4.1,(v4.2.1,()))))))).bind λv11 =>
 (some (inl (v11.1,(v11.2.1,((w64 (v4.2.2.1+1)),()))))))
 (some (inr (v4.1,(v4.2.1,())))))) ([],([],(0,())))).bind λv12 =>
 ((at? a0.2.1 v3.2.2.1).bind λv13 =>
 ((az_ v13 v12.2.1).bind λv14 =>
 (((cond (v14.2.1==0)
 (some ((decide (v14.1≤a0.2.2.2.2)),()))
 (some (false,())))).bind λv15 =>
 (cond v15.1
 (some ((kq_ (kq_ [] v3.2.2.1 2) v3.2.2.1 1),()))
 (some ((kq_ [] v3.2.2.1 2),())))))))).bind λv16 =>
 (some ((!((gd_ 0 v16.1 v3.2.2.1)==1)),(v16.1,()))))))
 (some (false,([],())))))
 (some (false,([],()))))).bind λv17 =>
 (cond v17.1
 (some ((!false),(v1,(v17.2.1,((a1.1.1,(a1.1.2.1,(a1.1.2.2,()))),())))))
 ((ez_ a0.1 a1.1 a2).bind λv18 =>
 (cond (v18.2.1 != 0)
 (some ((!false),(v1,(v17.2.1,((a1.1.1,(a1.1.2.1,(a1.1.2.2,()))),())))))
 ((ae_ (ρ:=((List Bool)×((List aa_)×Unit))) (λ(v19:(Int×((List Bool)×((List aa_)×Unit)))) =>
 (cond (decide (v19.1<(a0.2.2.2.1.length:Int)))
 ((((at? a0.2.2.2.1 v19.1).bind λv20 =>
 ((fb_ a0.1 v18.1 v20.2.2.2.1).bind λv21 =>
 (((cond v21.1
 ((be_ v18.1.2.2 v20.2.1).bind λv22 =>
 (cond v22.1
 ((at? v19.2.1 v19.1).bind λv23 =>
 ((at? v19.2.1 v19.1).bind λv24 =>
 (some ((!v24),()))))
 (some (false,()))))
 (some (false,())))).bind λv25 =>
 (cond v25.1
 ((at? v19.2.1 v19.1).bind λv26 =>
 ((at? v19.2.1 v19.1).bind λv27 =>
 (some ((v19.2.1.set v19.1.toNat true),((wr_ v19.2.2.1 v20.2.2.1),())))))
 (some (v19.2.1,(v19.2.2.1,())))))))).bind λv28 =>
 (some (inl ((w64 (v19.1+1)),(v28.1,(v28.2.1,()))))))
 (some (inr (v19.2.1,(v19.2.2.1,())))))) (0,(v1,(v17.2.1,())))).bind λv29 =>
 (some ((!true),(v29.1,(v29.2.1,((v18.1.1,(v18.1.2.1,(v18.1.2.2,()))),()))))))))))).bind λv30 =>
 (cond v30.1
 (some ((([],([],[])),[]),(29,())))
 ((push? (α:=Int) [] v30.2.2.2.1.1).bind λv31 =>
 ((push? (α:=Int) [] v30.2.2.2.1.2.1).bind λv32 =>
 ((push? (α:=Int) [] v30.2.2.2.1.2.2.1).bind λv33 =>
 ((push? (α:=Bool) [] v30.2.1).bind λv34 =>
 (some (((v31,(v32,v33)),v34),(0,()))))))))))))
theorem x_10:ba_ (P:=prog) (cxI (λk=>cond (Nat.beq k 31) (.p .z (.lp [.v 12 .int] [] [.o (.c (.s 0) 15) .bool,.m (.c (.s 0) 16) .int .int] 0 (.p .z (.p .z (.j0 [.o (.c (.s 0) 15) .bool,.m (.c (.s 0) 16) .int .int] (.p .z (.p .z (.j0 [.v 55 .bool] .z .z))) .z))))) (cond (Nat.beq k 34) (.p .z (.p (.j0 [.v 38 .bool,.m (.c (.s 0) 16) .int .int] .z .z) .z)) (cond (Nat.beq k 84) (.p .z (.p .z (.j0 [.m (.c (.s 0) 16) .int .int] (.p .z (.p (.p .z (.p .z (.j0 [.v 37 .bool] .z .z))) .z)) .z))) (cond (Nat.beq k 86) (.p .z (.p (.p .z (.lp [.r 6 .int 3,.r 7 ah_ 40,.v 13 .int] [.r 6 .int 3,.r 7 ah_ 40] [] 0 (.p .z (.p .z (.j0 [.r 6 .int 3,.r 7 ah_ 40] (.p .z (.j0 [.v 26 .bool] .z .z)) .z))))) .z)) (.z))))) (λk=>Nat.beq k 26||Nat.beq k 37||Nat.beq k 77||Nat.beq k 80||Nat.beq k 81||Nat.beq k 82||Nat.beq k 83||Nat.beq k 85||false) (cxC [c_26,c_77,c_80,c_81,c_83,c_85] [wa_,by4]) 9) (.p .z (.p .z (.p .z (.p (.j0 [.v 23 .bool,.o (.c (.s 8) 15) .bool,.m (.c (.s 8) 16) .int .int,.b (.s 8) [.keep,.keep,.keep,.keep,.keep,.keep,.keep,.keep,.keep,.keep,.keep,.keep,.val (.list .int),.val (.list .int),.val (.list .int),.keep,.keep]] .z .z) .z)))) 10 [bc_,aw_,bt_] [aw_,.int]=λx=>lv_ x.1 x.2.1 x.2.2.1:=by kernel_rfl
noncomputable def c_10:Con prog:=bd_ _ _ 10 [bc_,aw_,bt_] [aw_,.int] _ x_10
noncomputable def om_ (a0:ac_) (a1:ai_):Option ((List aj_)×Int×Unit) :=
 ((cs_ a0 a1).bind λv0 =>
 (cond (v0.1 != 0)
 (cond (v0.1 != 0)
 (some ([],(v0.1,())))
 ((fa_ a0.1 a1.1).bind λv1 =>
 (cond (v1.2.1 != 0)
 (some ([],(v1.2.1,())))
 none)))
 ((push? (α:=Bool) [] a1.2).bind λv2 =>
 ((fa_ a0.1 a1.1).bind λv3 =>
 (cond (v3.2.1 != 0)
 (some ([],(v3.2.1,())))
 ((ae_ (ρ:=((List aj_)×((List aa_)×Unit))) (λ(v4:((List aj_)×(Int×((List aa_)×Unit)))) =>
 (cond (decide (v4.2.1<(v3.1.length:Int)))
 ((((at? v3.1 v4.2.1).bind λv5 =>
 ((((push? (α:=Bool) [] v2).bind λv6 =>
 (((((cond (v5.2.1==4)
 ((bp_ v5.2.2 0 (w64 ((a0.1.2.2.2.2.1.length:Int) - 1))).bind λv7 =>
 (some (v7.1,())))
 (some (false,())))).bind λv8 =>
 (cond v8.1
 ((at? a0.1.2.2.2.2.1 v5.2.2).bind λv9 =>
 (((cond (decide (v9.2.2.1<0))
 (some (v4.2.2.1,()))
 (((cond ((gd_ 0 v4.2.2.1 v9.2.2.1)==0)
 ((ae_ (ρ:=((List Int)×((List ab_)×Unit))) (λ(v10:((List Int)×((List ab_)×(Int×Unit)))) =>
 (cond (decide (v10.2.2.1<(a0.2.2.2.1.length:Int)))
 ((((at? a0.2.2.2.1 v10.2.2.1).bind λv11 =>
 (((cond (v11.2.2.1==v9.2.2.1)
 ((at? v2 v10.2.2.1).bind λv12 =>
 ((at? v2 v10.2.2.1).bind λv13 =>
 (some (v13,()))))
 (some (false,())))).bind λv14 =>
 (cond v14.1
 ((push? (α:=Int) v10.1 [v10.2.2.1]).bind λv15 =>
 ((push? (α:=ab_) v10.2.1 [v11.2.2.2.2]).bind λv16 =>
 (some (v15,(v16,())))))
 (some (v10.1,(v10.2.1,()))))))).bind λv17 =>
 (some (inl (v17.1,(v17.2.1,((w64 (v10.2.2.1+1)),()))))))
 (some (inr (v10.1,(v10.2.1,())))))) ([],([],(0,())))).bind λv18 =>
 ((at? a0.2.1 v9.2.2.1).bind λv19 =>
 ((az_ v19 v18.2.1).bind λv20 =>
 (((cond (v20.2.1==0)
 (some ((decide (v20.1≤a0.2.2.2.2)),()))
 (some (false,())))).bind λv21 =>
 (cond v21.1
 (some ((kq_ (kq_ v4.2.2.1 v9.2.2.1 2) v9.2.2.1 1),()))
 (some ((kq_ v4.2.2.1 v9.2.2.1 2),())))))))
 (some (v4.2.2.1,())))).bind λv22 =>
 (some (v22.1,()))))).bind λv23 =>
 (some (v23.1,((kq_ [] v9.2.2.1 (gd_ 0 v23.1 v9.2.2.1)),())))))
 (some (v4.2.2.1,([],())))))).bind λv24 =>
 (((((cond (v5.2.1==4)
 ((bp_ v5.2.2 0 (w64 ((a0.1.2.2.2.2.1.length:Int) - 1))).bind λv25 =>
 (cond v25.1
 ((at? a0.1.2.2.2.2.1 v5.2.2).bind λv26 =>
 (cond (decide (v26.2.2.1<0))
 (some ((!true),(v24.2.1,())))
 (((cond ((gd_ 0 v24.2.1 v26.2.2.1)==0)
 ((ae_ (ρ:=((List Int)×((List ab_)×Unit))) (λ(v27:((List Int)×((List ab_)×(Int×Unit)))) =>
 (cond (decide (v27.2.2.1<(a0.2.2.2.1.length:Int)))
 ((((at? a0.2.2.2.1 v27.2.2.1).bind λv28 =>
 (((cond (v28.2.2.1==v26.2.2.1)
 ((at? v6 v27.2.2.1).bind λv29 =>
 ((at? v6 v27.2.2.1).bind λv30 =>
 (some (v30,()))))
 (some (false,())))).bind λv31 =>
 (cond v31.1
 ((push? (α:=Int) v27.1 [v27.2.2.1]).bind λv32 =>
 ((push? (α:=ab_) v27.2.1 [v28.2.2.2.2]).bind λv33 =>
 (some (v32,(v33,())))))
 (some (v27.1,(v27.2.1,()))))))).bind λv34 =>
 (some (inl (v34.1,(v34.2.1,((w64 (v27.2.2.1+1)),()))))))
 (some (inr (v27.1,(v27.2.1,())))))) ([],([],(0,())))).bind λv35 =>
 ((at? a0.2.1 v26.2.2.1).bind λv36 =>
 ((az_ v36 v35.2.1).bind λv37 =>
 (((cond (v37.2.1==0)
 (some ((decide (v37.1≤a0.2.2.2.2)),()))
 (some (false,())))).bind λv38 =>
 (cond v38.1
 (some ((kq_ (kq_ v24.2.1 v26.2.2.1 2) v26.2.2.1 1),()))
 (some ((kq_ v24.2.1 v26.2.2.1 2),())))))))
 (some (v24.2.1,())))).bind λv39 =>
 (some ((!((gd_ 0 v39.1 v26.2.2.1)==1)),(v39.1,()))))))
 (some (false,(v24.2.1,())))))
 (some (false,(v24.2.1,()))))).bind λv40 =>
 (cond v40.1
 (some ((!false),(v6,(v40.2.1,((a1.1.1,(a1.1.2.1,(a1.1.2.2,()))),())))))
 ((ez_ a0.1 a1.1 v5).bind λv41 =>
 (cond (v41.2.1 != 0)
 (some ((!false),(v6,(v40.2.1,((a1.1.1,(a1.1.2.1,(a1.1.2.2,()))),())))))
 ((ae_ (ρ:=((List Bool)×((List aa_)×Unit))) (λ(v42:(Int×((List Bool)×((List aa_)×Unit)))) =>
 (cond (decide (v42.1<(a0.2.2.2.1.length:Int)))
 ((((at? a0.2.2.2.1 v42.1).bind λv43 =>
 ((fb_ a0.1 v41.1 v43.2.2.2.1).bind λv44 =>
 (((cond v44.1
 ((be_ v41.1.2.2 v43.2.1).bind λv45 =>
 (cond v45.1
 ((at? v42.2.1 v42.1).bind λv46 =>
 ((at? v42.2.1 v42.1).bind λv47 =>
 (some ((!v47),()))))
 (some (false,()))))
 (some (false,())))).bind λv48 =>
 (cond v48.1
 ((at? v42.2.1 v42.1).bind λv49 =>
 ((at? v42.2.1 v42.1).bind λv50 =>
 (some ((v42.2.1.set v42.1.toNat true),((wr_ v42.2.2.1 v43.2.2.1),())))))
 (some (v42.2.1,(v42.2.2.1,())))))))).bind λv51 =>
 (some (inl ((w64 (v42.1+1)),(v51.1,(v51.2.1,()))))))
 (some (inr (v42.2.1,(v42.2.2.1,())))))) (0,(v6,(v40.2.1,())))).bind λv52 =>
 (some ((!true),(v52.1,(v52.2.1,((v41.1.1,(v41.1.2.1,(v41.1.2.2,()))),()))))))))))).bind λv53 =>
 (cond v53.1
 (some (false,(v24.1,())))
 (some (true,(v24.1,())))))))).bind λv54 =>
 (cond v54.1
 ((push? (α:=aj_) v4.1 [v5]).bind λv55 =>
 (some (v55,(v54.2.1,()))))
 (some (v4.1,(v54.2.1,()))))))).bind λv56 =>
 (some (inl (v56.1,((w64 (v4.2.1+1)),(v56.2.1,()))))))
 (some (inr (v4.1,(v4.2.2.1,())))))) ([],(0,([],())))).bind λv57 =>
 (some (v57.1,(0,())))))))))
theorem x_21:ba_ (P:=prog) (cxI (λk=>cond (Nat.beq k 31) (.p .z (.lp [.v 12 .int] [] [.o (.c (.s 0) 15) .bool,.m (.c (.s 0) 16) .int .int] 0 (.p .z (.p .z (.j0 [.o (.c (.s 0) 15) .bool,.m (.c (.s 0) 16) .int .int] (.p .z (.p .z (.j0 [.v 55 .bool] .z .z))) .z))))) (cond (Nat.beq k 34) (.p .z (.p (.j0 [.v 38 .bool,.m (.c (.s 0) 16) .int .int] .z .z) .z)) (cond (Nat.beq k 60) (.p .z (.p .z (.j0 [.m (.c (.s 0) 16) .int .int,.m (.s 23) .int .int] (.j0 [.v 41 .bool] .z (.p (.p .z (.j0 [.m (.c (.s 0) 16) .int .int] .z .z)) .z)) (.p (.j0 [.v 70 .bool,.o (.s 21) .bool,.m (.s 23) .int .int,.b (.s 5) [.keep,.keep,.keep,.keep,.keep,.keep,.keep,.keep,.keep,.keep,.keep,.keep,.val (.list .int),.val (.list .int),.val (.list .int),.keep,.keep]] .z .z) .z)))) (cond (Nat.beq k 84) (.p .z (.p .z (.j0 [.m (.c (.s 0) 16) .int .int] (.p .z (.p (.p .z (.p .z (.j0 [.v 37 .bool] .z .z))) .z)) .z))) (cond (Nat.beq k 86) (.p .z (.p (.p .z (.lp [.r 6 .int 3,.r 7 ah_ 40,.v 13 .int] [.r 6 .int 3,.r 7 ah_ 40] [] 0 (.p .z (.p .z (.j0 [.r 6 .int 3,.r 7 ah_ 40] (.p .z (.j0 [.v 26 .bool] .z .z)) .z))))) .z)) (.z)))))) (λk=>Nat.beq k 26||Nat.beq k 59||Nat.beq k 77||Nat.beq k 80||Nat.beq k 81||Nat.beq k 82||Nat.beq k 83||Nat.beq k 85||false) (cxC [c_26,c_59,c_77,c_80,c_81,c_83,c_85] [by4]) 9) (.p .z (.p .z (.p .z (.p .z (.p .z (.p (.p .z (.lp [.r 4 bt_ 56,.v 32 .int] [.r 4 bt_ 56] [.m (.c (.s 6) 16) .int .int] 0 (.p .z (.p .z (.j0 [.r 4 bt_ 56,.m (.c (.s 6) 16) .int .int] (.p .z (.j0 [.v 39 .bool,.m (.c (.s 6) 16) .int .int] .z .z)) .z))))) .z)))))) 21 [bc_,aw_] [(.list bt_),.int]=λx=>om_ x.1 x.2.1:=by kernel_rfl
noncomputable def c_21:Con prog:=bd_ _ _ 21 [bc_,aw_] [(.list bt_),.int] _ x_21
noncomputable def jy_ (a0:al_):Option ((List (List (List Int)))×Bool×Unit) :=
 ((ae_ (ρ:=(((List (List (List Int)))×Unit)⊕((List (List (List Int)))×(Bool×Unit)))) (λ(v0:((List (List (List Int)))×(Int×Unit))) =>
 (cond (decide (v0.2.1<(a0.1.length:Int)))
 ((fz_ a0 v0.2.1).bind λv1 =>
 (cond (v1.2.1 != 0)
 (some (inr (inr ([],(false,())))))
 ((push? (α:=(List (List Int))) v0.1 ([v1.1]:List (List (List Int)))).bind λv2 =>
 (some (inl (v2,((w64 (v0.2.1+1)),())))))))
 (some (inr (inl (v0.1,())))))) ([],(0,()))).bind λv3 =>
 (cc_ v3 (λv4=>(some (v4.1,(true,()))))
 (λv5=>(some v5))))
theorem x_23:ba_ (P:=prog) (cxC [c_13] []) (.p .z (.p .z (.p (.p .z (.ls [.r 4 (.list (.list .int)) 33,.v 5 .int] [.r 4 (.list (.list .int)) 33] [] 0 .z)) .z))) 23 [am_] [(.list (.list (.list .int))),.bool]=λx=>jy_ x.1:=by kernel_rfl
noncomputable def c_23:Con prog:=bd_ _ _ 23 [am_] [(.list (.list (.list .int))),.bool] _ x_23
end
section
set_option maxRecDepth 100000
set_option maxHeartbeats 0
noncomputable def ii_ (a0:ac_) (a1:ai_) (a2:Int):Option ((List Int)×Int×Unit) :=
 ((fy_ a0 a1 a2).bind λv0 =>
 (cond (v0.1 != 0)
 (some ([],(v0.1,())))
 ((ae_ (ρ:=((List Int)×((List ab_)×Unit))) (λ(v1:((List Int)×((List ab_)×(Int×Unit)))) =>
 (cond (decide (v1.2.2.1<(a0.2.2.2.1.length:Int)))
 ((((at? a0.2.2.2.1 v1.2.2.1).bind λv2 =>
 (((cond (v2.2.2.1==a2)
 ((at? a1.2 v1.2.2.1).bind λv3 =>
 (some (v3,())))
 (some (false,())))).bind λv4 =>
 (cond v4.1
 ((push? (α:=Int) v1.1 [v1.2.2.1]).bind λv5 =>
 ((push? (α:=ab_) v1.2.1 [v2.2.2.2.2]).bind λv6 =>
 (some (v5,(v6,())))))
 (some (v1.1,(v1.2.1,()))))))).bind λv7 =>
 (some (inl (v7.1,(v7.2.1,((w64 (v1.2.2.1+1)),()))))))
 (some (inr (v1.1,(v1.2.1,())))))) ([],([],(0,())))).bind λv8 =>
 (some (v8.1,(0,()))))))
theorem x_38:ba_ (P:=prog) (cxI (λk=>cond (Nat.beq k 86) (.p .z (.p (.p .z (.lp [.r 6 .int 3,.r 7 ah_ 40,.v 13 .int] [.r 6 .int 3,.r 7 ah_ 40] [] 0 (.p .z (.p .z (.j0 [.r 6 .int 3,.r 7 ah_ 40] (.p .z (.j0 [.v 26 .bool] .z .z)) .z))))) .z)) (.z)) (λk=>Nat.beq k 43||false) (cxC [c_43] []) 3) .z 38 [bc_,aw_,.int] [(.list .int),.int]=λx=>ii_ x.1 x.2.1 x.2.2.1:=by kernel_rfl
noncomputable def c_38:Con prog:=bd_ _ _ 38 [bc_,aw_,.int] [(.list .int),.int] _ x_38
end
section
set_option maxRecDepth 100000
set_option maxHeartbeats 0
noncomputable def ij_ (a0:ac_) (a1:ai_):Option (al_×Int×Unit) :=
 ((ih_ a0 a1).bind λv0 =>
 (cond (v0.2.1 != 0)
 (some (([],([],([],[]))),(v0.2.1,())))
 (cond ((a0.2.1.length:Int)==0)
 (some (([],([],([],[]))),(70,())))
 ((push? (α:=aa_) [] a0.2.1).bind λv1 =>
 ((mk? (α:=(List ab_)) (a0.2.1.length:Int) []).bind λv2 =>
 ((ae_ (ρ:=(((List (List ab_))×(((List aa_)×((List (List Int))×((List (List ab_))×((List bq_)×Unit))))×(((List (List Int))×Unit)×Unit)))⊕(al_×(Int×Unit)))) (λ(v3:(Int×((List (List ab_))×(((List aa_)×((List (List Int))×((List (List ab_))×((List bq_)×Unit))))×(((List (List Int))×Unit)×Unit))))) =>
 (cond (decide (v3.1<(a0.2.1.length:Int)))
 ((at? a0.2.2.1 v3.1).bind λv4 =>
 ((push? (α:=Int) [] v4).bind λv5 =>
 ((push? (α:=(List Int)) v3.2.2.2.1.1 ([v5]:List (List Int))).bind λv6 =>
 ((ii_ a0 a1 v3.1).bind λv7 =>
 (cond (v7.2.1 != 0)
 (some (inr (inr (([],([],([],[]))),(v7.2.1,())))))
 ((ae_ (ρ:=((List (List ab_))×Unit)) (λ(v8:(Int×((List (List ab_))×Unit))) =>
 (cond (decide (v8.1<(v7.1.length:Int)))
 ((at? v7.1 v8.1).bind λv9 =>
 ((at? v8.2.1 v3.1).bind λv10 =>
 ((at? v8.2.1 v3.1).bind λv11 =>
 ((at? a0.2.2.2.1 v9).bind λv12 =>
 ((ce_ v12.2.2.2.2).bind λv13 =>
 ((push? (α:=ab_) v11 [v13.1]).bind λv14 =>
 ((at? v8.2.1 v3.1).bind λv15 =>
 (cond ((v3.1==v3.1)&&true)
 ((at? v8.2.1 v3.1).bind λv16 =>
 (some (inl ((w64 (v8.1+1)),((v8.2.1.set v3.1.toNat v14),())))))
 none))))))))
 (some (inr (v8.2.1,()))))) (0,(v3.2.1,()))).bind λv17 =>
 (some (inl ((w64 (v3.1+1)),(v17.1,((v3.2.2.1.1,(v3.2.2.1.2.1,(v3.2.2.1.2.2.1,(v3.2.2.1.2.2.2.1,())))),((v6,()),()))))))))))))
 (some (inr (inl (v3.2.1,((v3.2.2.1.1,(v3.2.2.1.2.1,(v3.2.2.1.2.2.1,(v3.2.2.1.2.2.2.1,())))),((v3.2.2.2.1.1,()),())))))))) (0,(v2,(([],([],([],([],())))),(([],()),()))))).bind λv18 =>
 (cc_ v18 (λv19=>(some ((v1,(v19.2.2.1.1,(v19.1,[]))),(0,()))))
 (λv20=>(some v20)))))))))
theorem x_11:ba_ (P:=prog) (cxC [c_35,c_38,c_39] [cp_36,wa_]) (.p .z (.p .z (.p .z (.p .z (.p (.p .z (.ls [.v 40 .int] [] [.g (.s 35) (.list ah_),.b (.s 4) [.val (.list af_),.val (.list (.list .int)),.val (.list (.list ah_)),.val (.list jr_)],.b (.s 8) [.keep,.row (.list .int) 38,.keep,.keep]] 0 (.p .z (.p .z (.p (.p .z (.p .z (.p .z (.p .z (.p .z (.lp [.v 67 .int] [] [.g (.s 35) (.list ah_)] 2 .z)))))) .z))))) .z))))) 11 [bc_,aw_] [am_,.int]=λx=>ij_ x.1 x.2.1:=by kernel_rfl
noncomputable def c_11:Con prog:=bd_ _ _ 11 [bc_,aw_] [am_,.int] _ x_11
end
section
set_option maxRecDepth 100000
set_option maxHeartbeats 0
noncomputable def er_ (a0:ac_) (a1:Int) (a2:Int):Option (Bool×Unit) :=
 ((lw_ a0).bind λv0 =>
 (cond v0.1
 ((cp_).bind λv1 =>
 (some (v1.1,())))
 ((kf_ a0).bind λv2 =>
 (cond (v2.2.1 != 0)
 ((cp_).bind λv3 =>
 (some (v3.1,())))
 ((ij_ a0 v2.1).bind λv4 =>
 (((cond (v4.2.1 != 0)
 (some (true,()))
 ((gy_ v4.1).bind λv5 =>
 (some (v5.1,()))))).bind λv6 =>
 (cond v6.1
 ((cp_).bind λv7 =>
 (some (v7.1,())))
 ((ae_ (ρ:=((((List Int)×((List Int)×((List Int)×((List Bool)×Unit))))×(((List aa_)×((List (List Int))×((List (List ab_))×((List bq_)×Unit))))×Unit))⊕(Bool×Unit))) (λ(v8:(Int×(((List Int)×((List Int)×((List Int)×((List Bool)×Unit))))×(((List aa_)×((List (List Int))×((List (List ab_))×((List bq_)×Unit))))×Unit)))) =>
 (cond (decide (v8.1<2))
 ((om_ a0 ((v8.2.1.1,(v8.2.1.2.1,v8.2.1.2.2.1)),v8.2.1.2.2.2.1)).bind λv9 =>
 (((cond (v9.2.1 != 0)
 (some (true,()))
 (some (((v9.1.length:Int)==0),())))).bind λv10 =>
 (cond v10.1
 ((cp_).bind λv11 =>
 (some (inr (inr (v11.1,())))))
 ((md (w64 (a1+(w64 (v8.1 * a2)))) (v9.1.length:Int)).bind λv12 =>
 ((md (w64 (v12+(v9.1.length:Int))) (v9.1.length:Int)).bind λv13 =>
 ((at? v9.1 v13).bind λv14 =>
 ((lv_ a0 ((v8.2.1.1,(v8.2.1.2.1,v8.2.1.2.2.1)),v8.2.1.2.2.2.1) v14).bind λv15 =>
 (cond (v15.2.1 != 0)
 (some (inr (inr (false,()))))
 ((ij_ a0 v15.1).bind λv16 =>
 (((cond (v16.2.1 != 0)
 (some (true,()))
 ((ca_ v16.1).bind λv17 =>
 (some ((v17.1 != 0),()))))).bind λv18 =>
 (cond v18.1
 (some (inr (inr (false,()))))
 ((jy_ (v8.2.2.1.1,(v8.2.2.1.2.1,(v8.2.2.1.2.2.1,v8.2.2.1.2.2.2.1)))).bind λv19 =>
 ((jy_ v16.1).bind λv20 =>
 (((cond (!v19.2.1)
 (some (true,()))
 (cond (!v20.2.1)
 (some (true,()))
 (some (((v19.1.length:Int) != (v20.1.length:Int)),()))))).bind λv21 =>
 (cond v21.1
 (some (inr (inr (false,()))))
 ((ae_ (ρ:=(Unit⊕((Int×(((List Int)×((List Int)×((List Int)×((List Bool)×Unit))))×(((List aa_)×((List (List Int))×((List (List ab_))×((List bq_)×Unit))))×Unit)))⊕((((List Int)×((List Int)×((List Int)×((List Bool)×Unit))))×(((List aa_)×((List (List Int))×((List (List ab_))×((List bq_)×Unit))))×Unit))⊕(Bool×Unit))))) (λ(v22:(Int×Unit)) =>
 (cond (decide (v22.1<(v19.1.length:Int)))
 ((ae_ (ρ:=(Unit⊕((Int×Unit)⊕(Unit⊕((Int×(((List Int)×((List Int)×((List Int)×((List Bool)×Unit))))×(((List aa_)×((List (List Int))×((List (List ab_))×((List bq_)×Unit))))×Unit)))⊕((((List Int)×((List Int)×((List Int)×((List Bool)×Unit))))×(((List aa_)×((List (List Int))×((List (List ab_))×((List bq_)×Unit))))×Unit))⊕(Bool×Unit))))))) (λ(v23:(Int×Unit)) =>
 ((at? v20.1 v22.1).bind λv24 =>
 (cond (decide (v23.1<(v24.length:Int)))
 ((at? v19.1 v22.1).bind λv25 =>
 ((at? v20.1 v22.1).bind λv26 =>
 ((at? v26 v23.1).bind λv27 =>
 ((jj_ v25 v27).bind λv28 =>
 (cond (!v28.1)
 (some (inr (inr (inr (inr (inr (inr (false,()))))))))
 (some (inl ((w64 (v23.1+1)),()))))))))
 (some (inr (inl ())))))) (0,())).bind λv29 =>
 (cc_ v29 (λv30=>(some (inl ((w64 (v22.1+1)),()))))
 (λv31=>(some v31))))
 (some (inr (inl ()))))) (0,())).bind λv32 =>
 (cc_ v32 (λv33=>(some (inl ((w64 (v8.1+1)),((v15.1.1.1,(v15.1.1.2.1,(v15.1.1.2.2,(v15.1.2,())))),((v16.1.1,(v16.1.2.1,(v16.1.2.2.1,(v16.1.2.2.2,())))),()))))))
 (λv34=>(some v34)))))))))))))))))))
 (some (inr (inl ((v8.2.1.1,(v8.2.1.2.1,(v8.2.1.2.2.1,(v8.2.1.2.2.2.1,())))),((v8.2.2.1.1,(v8.2.2.1.2.1,(v8.2.2.1.2.2.1,(v8.2.2.1.2.2.2.1,())))),()))))))) (0,((v2.1.1.1,(v2.1.1.2.1,(v2.1.1.2.2,(v2.1.2,())))),((v4.1.1,(v4.1.2.1,(v4.1.2.2.1,(v4.1.2.2.2,())))),())))).bind λv35 =>
 (cc_ v35 (λv36=>((cp_).bind λv38 =>
 (some (v38.1,()))))
 (λv37=>(some v37)))))))))))
theorem x_5:ba_ (P:=prog) (cxC [c_6,c_9,c_10,c_11,c_17,c_20,c_21,c_22,c_23,c_24] []) (.p .z (.p .z (.p .z (.p .z (.p .z (.p (.j0 [.v 44 .bool] .z .z) (.p (.p .z (.ls [.v 10 .int] [] [.b (.s 7) [.val (.list .int),.val (.list .int),.val (.list .int),.val (.list .bool)],.b (.s 9) [.val (.list af_),.val (.list (.list .int)),.val (.list (.list ah_)),.val (.list jr_)]] 0 (.p .z (.p (.p .z (.p (.j0 [.v 62 .bool] .z .z) (.p .z (.p .z (.p .z (.p .z (.p .z (.p (.j0 [.v 103 .bool] .z .z) (.p .z (.p .z (.p (.j0 [.v 126 .bool] .z .z) (.p (.p .z (.ls [.v 20 .int] [] [] 2 (.p .z (.p (.p .z (.ls [.v 21 .int] [] [] 4 (.p .z (.p (.p (.q [] .z .z) .z) .z)))) .z)))) .z)))))))))))) .z)))) .z))))))) 5 [bc_,.int,.int] [.bool]=λx=>er_ x.1 x.2.1 x.2.2.1:=by kernel_rfl
noncomputable def c_5:Con prog:=bd_ _ _ 5 [bc_,.int,.int] [.bool] _ x_5
end
end Go.Proofs.YtlbfbdbagohinaaGreatDoor.Rx
section

end
namespace Go.Proofs.YtlbfbdbagohinaaGreatDoor.Rx
open Go Pad Rex Sum
section
theorem bs_ {α:Type} {l:List α} (h:Sm l.length):push? [] l=some l:=by
 rw[yg_ (by simp only[h9_];omega)]
 rfl
theorem ea_ {α:Type} {l:List α} {x:α} (h:Sm l.length):push? l [x]=some (l++[x]):=yg_ (by simp only[c8_,h9_];omega)
theorem br4 {α:Type} {l:List α} {i:Nat} {x:α} (h:l[i]?=some x):l.set ((i:Nat):Int).toNat x=l:=by
 show l.set i x=l
 refine f7_ λj => ?_
 rw[d2_]
 split
 ·next e =>
  subst e
  rw[if_pos (an_ h),h]
 ·rfl
end
section
set_option maxRecDepth 10000
theorem an1 {σ ρ τ:Type} (n:Nat) (F:Nat→τ→σ) (R:τ→ρ) (t0:τ) {body:σ→Option (σ⊕ρ)} (I:Nat→τ→Prop) (h0:I 0 t0)
  (h:∀ i t,i<n→I i t→Tot (body (F i t)) (λr=>∃ t',r = .inl (F (i+1) t')∧I (i+1) t')) (e:∀ t,I n t→body (F n t)=some (.inr (R t))) :
  Tot (ae_ body (F 0 t0)) (λr=>∃ t,r=R t∧I n t):=by
 refine ky_ (λi s=>∃ t,s=F i t∧I i t) _ n 0 (F 0 t0) ⟨t0,rfl,h0⟩ (λj s h1 h2 hs => ?_) (λs hs => ?_)
 ·obtain⟨t,rfl,ht⟩:=hs
  obtain⟨r,hr,t',rfl,ht'⟩:=h j t (by omega) ht
  exact .inl ⟨_,hr,t',rfl,ht'⟩
 ·obtain⟨t,rfl,ht⟩:=hs
  rw[a8_] at ht ⊢
  exact⟨_,e t ht,t,rfl,ht⟩
structure VS (r:ad_) (s:ak_):Prop where
 l1:s.1.length=r.2.1.length
 l2:s.2.1.length=r.2.2.1.length
 l3:(s.2.2.length:Int)=r.2.2.2.2.2.2.1
 th:∀ (i:Nat) n,s.1[i]?=some n→sy_ r.2.1 (i:Int) n=true
 pr:∀ (i:Nat) p,s.2.1[i]?=some p→inR r p=true
 py:∀ (i:Nat) p,s.2.2[i]?=some p→wt_ r p=true
theorem by6 {r:ad_} {s:ak_} (h:VS r s):ckS r s=0:=by
 unfold ckS
 have hl:yq_ r s=false:=by
  unfold yq_
  have:=h.l1
  have:=h.l2
  have:=h.l3
  simp only[b8_,o4_]
  omega
 rw[hl,a4_]
 rw[(js_ s.1 0).2 (λj x hx=>by rw[a8_,h.th j x hx];rfl),Option.getD_none]
 rw[(js_ s.2.1 0).2 (λj x hx=>by rw[h.pr j x hx];rfl),Option.getD_none]
 rw[(js_ s.2.2 0).2 (λj x hx=>by rw[h.py j x hx];rfl),Option.getD_none]
theorem sx_ {r:ad_} (h:SmR r) (ok:OkR r) {i n:Int} (hs:sy_ r.2.1 i n=true):(0≤i∧i<r.2.1.length)∧(0≤n∧n≤5):=by
 unfold sy_ at hs
 rw[a1_] at hs
 have hi:=cm_.1 hs.1
 have hth:=h.th
 rw[ic_ (by omega) (by omega)] at hi
 obtain⟨t,ht,hg⟩:=bm9 (l:=r.2.1) (i:=i) (by omega) (by omega)
 have h2:=hs.2
 rw[ht] at h2
 have hn:=cm_.1 h2
 have:=ok.th _ _ hg
 unfold bp8 at this
 simp only[a1_] at this
 have h3:=cm_.1 this.2.2.1
 rw[ic_ (by omega) (by omega)] at hn
 omega
end
end Go.Proofs.YtlbfbdbagohinaaGreatDoor.Rx
namespace Go.Proofs.YtlbfbdbagohinaaGreatDoor.Rx
open Go Pad Rex Go.Proofs Go.Proofs.Tryz Sum
section
set_option maxRecDepth 100000
noncomputable def autB (a0:ad_) (th pr py:List Int):(Int×Unit)→Option ((Int×Unit)⊕(Unit⊕(Int×Unit))) :=
 (λ(v14:(Int×Unit)) =>
 (cond (decide (v14.1<(a0.2.2.2.2.2.1.length:Int)))
 ((at? a0.2.2.2.2.2.1 v14.1).bind λv15 =>
 ((((at? th v15.2.1).bind λv16 =>
 ((at? th v15.2.1).bind λv17 =>
 (cond (v17 != v15.2.2)
 ((av_ (a0,(th,(pr,py))) v15.1).bind λv18 =>
 (some (v18.1,())))
 (some (false,())))))).bind λv19 =>
 (cond v19.1
 (some (inr (inr (v14.1,()))))
 (some (inl ((w64 (v14.1+1)),()))))))
 (some (inr (inl ())))))
noncomputable def setB (a0:ad_) (v11 v12:List Int):(Int×((List Int)×Unit))→Option ((Int×((List Int)×Unit))⊕(((List Int)×Unit)⊕(Bool×((List Int)×Unit)))) :=
 (λ(v13:(Int×((List Int)×Unit))) =>
 (cond (decide (v13.1<101))
 ((((ae_ (ρ:=(Unit⊕(Int×Unit))) (autB a0 v13.2.1 v11 v12) (0,())).bind λv20 =>
 (cc_ v20 (λv21=>(some ((-1),())))
 (λv22=>(some v22))))).bind λv23 =>
 (cond (decide (v23.1<0))
 (some (inr (inr ((!true),(v13.2.1,())))))
 ((at? a0.2.2.2.2.2.1 v23.1).bind λv24 =>
 ((at? a0.2.2.2.2.2.1 v23.1).bind λv25 =>
 ((at? v13.2.1 v24.2.1).bind λv26 =>
 ((at? v13.2.1 v24.2.1).bind λv27 =>
 (some (inl ((w64 (v13.1+1)),((v13.2.1.set v24.2.1.toNat v25.2.2),()))))))))))
 (some (inr (inl (v13.2.1,()))))))
noncomputable def thgB (a0:ad_):(Int×(((List Int)×Unit)×Unit))→Option ((Int×(((List Int)×Unit)×Unit))⊕(((List Int)×Unit)×Unit)) :=
 (λ(v2:(Int×(((List Int)×Unit)×Unit))) =>
 (cond (decide (v2.1<(a0.2.1.length:Int)))
 ((at? a0.2.1 v2.1).bind λv3 =>
 ((push? (α:=Int) v2.2.1.1 [v3.2.2.2]).bind λv4 =>
 (some (inl ((w64 (v2.1+1)),((v4,()),()))))))
 (some (inr ((v2.2.1.1,()),())))))
noncomputable def prpB (a0:ad_):(Int×(((List Int)×Unit)×Unit))→Option ((Int×(((List Int)×Unit)×Unit))⊕(((List Int)×Unit)×Unit)) :=
 (λ(v6:(Int×(((List Int)×Unit)×Unit))) =>
 (cond (decide (v6.1<(a0.2.2.1.length:Int)))
 ((at? a0.2.2.1 v6.1).bind λv7 =>
 ((push? (α:=Int) v6.2.1.1 [v7.2.1]).bind λv8 =>
 (some (inl ((w64 (v6.1+1)),((v8,()),()))))))
 (some (inr ((v6.2.1.1,()),())))))
noncomputable def rbegX (a0:ad_):Option (ak_×(Int×Unit)) :=
 ((fc_ a0).bind λv0 =>
 (cond (v0.1 != 0)
 (some (([],([],[])),(v0.1,())))
 ((mk? (α:=Int) a0.2.2.2.2.2.2.1 0).bind λv1 =>
 ((ae_ (ρ:=(((List Int)×Unit)×Unit)) (thgB a0) (0,(([],()),()))).bind λv5 =>
 ((ae_ (ρ:=(((List Int)×Unit)×Unit)) (prpB a0) (0,(([],()),()))).bind λv9 =>
 ((push? (α:=Int) [] v5.1.1).bind λv10 =>
 ((push? (α:=Int) [] v9.1.1).bind λv11 =>
 ((push? (α:=Int) [] v1).bind λv12 =>
 ((((ae_ (ρ:=(((List Int)×Unit)⊕(Bool×((List Int)×Unit)))) (setB a0 v11 v12) (0,(v10,()))).bind λv28 =>
 (cc_ v28 (λv29=>(some ((!false),(v29.1,()))))
 (λv30=>(some v30))))).bind λv31 =>
 (cond v31.1
 (some (([],([],[])),(27,())))
 (some ((v31.2.1,(v11,v12)),(0,())))))))))))))
theorem bs7:ig_=rbegX:=by kernel_rfl
end
end Go.Proofs.YtlbfbdbagohinaaGreatDoor.Rx
namespace Go.Proofs.YtlbfbdbagohinaaGreatDoor.Rx
open Go Pad Rex Sum
section
set_option maxRecDepth 10000
def VT (r:ad_) (th:List Int):Prop:=th.length=r.2.1.length∧∀ (i:Nat) n,th[i]?=some n→sy_ r.2.1 (i:Int) n=true
theorem ce5 {r:ad_} (h:SmR r) (ok:OkR r) {th:List Int} (hv:VT r th) {i n:Int} (hs:sy_ r.2.1 i n=true):VT r (th.set i.toNat n):=by
 refine⟨by rw[f1_];exact hv.1,λj m hj => ?_⟩
 have hi:=(sx_ h ok hs).1
 rw[d2_] at hj
 split at hj
 ·next e =>
  split at hj
  ·obtain rfl:=a7_ hj
   rw[show (j:Int)=i by omega]
   exact hs
  ·cases hj
 ·exact hv.2 j m hj
theorem bp7 {r:ad_} (h:SmR r):ae_ (thgB r) (0,(([],()),()))=some ((r.2.1.map (·.2.2.2),()),()):=by
 have hth:=h.th
 obtain⟨z,hz,q,rfl,hq⟩:=an1 r.2.1.length (λi (q:List Int)=>((i:Int),((q,()),()))) (λq=>((q,()),())) [] (body:=thgB r) (λi q=>q=(r.2.1.take i).map (·.2.2.2)) rfl (λi q hi hq=>by
  obtain⟨x,hx⟩:=bi_ hi
  have hq2:Sm q.length:=by rw[hq,f2_,c4_];omega
  refine⟨_,?_,q++[x.2.2.2],rfl,?_⟩
  ·unfold thgB
   simp only[dlt hi,a5_,ag_ hx,a0_,ea_ hq2,br_ (show Sm i by omega)]
  ·rw[f4_,hx,hq,n8_]
   rfl) (λq hq=>by
  unfold thgB
  simp only[dnl,a4_])
 rw[d4_] at hq
 subst hq
 exact hz
theorem bt3 {r:ad_} (h:SmR r):ae_ (prpB r) (0,(([],()),()))=some ((r.2.2.1.map (·.2.1),()),()):=by
 have hth:=h.pr
 obtain⟨z,hz,q,rfl,hq⟩:=an1 r.2.2.1.length (λi (q:List Int)=>((i:Int),((q,()),()))) (λq=>((q,()),())) [] (body:=prpB r) (λi q=>q=(r.2.2.1.take i).map (·.2.1)) rfl (λi q hi hq=>by
  obtain⟨x,hx⟩:=bi_ hi
  have hq2:Sm q.length:=by rw[hq,f2_,c4_];omega
  refine⟨_,?_,q++[x.2.1],rfl,?_⟩
  ·unfold prpB
   simp only[dlt hi,a5_,ag_ hx,a0_,ea_ hq2,br_ (show Sm i by omega)]
  ·rw[f4_,hx,hq,n8_]
   rfl) (λq hq=>by
  unfold prpB
  simp only[dnl,a4_])
 rw[d4_] at hq
 subst hq
 exact hz
end
end Go.Proofs.YtlbfbdbagohinaaGreatDoor.Rx
namespace Go.Proofs.YtlbfbdbagohinaaGreatDoor.Rx
open Go Pad Rex Go.Proofs Go.Proofs.Tryz Sum
section
set_option maxRecDepth 100000
noncomputable def pbgB (a0:ac_) (s:ak_):(Int×((List Bool)×((List aa_)×Unit)))→Option ((Int×((List Bool)×((List aa_)×Unit)))⊕((List Bool)×((List aa_)×Unit))) :=
 (λ(v3:(Int×((List Bool)×((List aa_)×Unit)))) =>
 (cond (decide (v3.1<(a0.2.2.2.1.length:Int)))
 ((((at? a0.2.2.2.1 v3.1).bind λv4 =>
 ((fb_ a0.1 s v4.2.2.2.1).bind λv5 =>
 (((cond v5.1
 ((be_ s.2.2 v4.2.1).bind λv6 =>
 (cond v6.1
 ((at? v3.2.1 v3.1).bind λv7 =>
 ((at? v3.2.1 v3.1).bind λv8 =>
 (some ((!v8),()))))
 (some (false,()))))
 (some (false,())))).bind λv9 =>
 (cond v9.1
 ((at? v3.2.1 v3.1).bind λv10 =>
 ((at? v3.2.1 v3.1).bind λv11 =>
 (some ((v3.2.1.set v3.1.toNat true),((wr_ v3.2.2.1 v4.2.2.1),())))))
 (some (v3.2.1,(v3.2.2.1,())))))))).bind λv12 =>
 (some (inl ((w64 (v3.1+1)),(v12.1,(v12.2.1,()))))))
 (some (inr (v3.2.1,(v3.2.2.1,()))))))
noncomputable def pbegX (a0:ac_):Option (ai_×(Int×Unit)) :=
 ((gn_ a0).bind λv0 =>
 (cond (v0.1 != 0)
 (some ((([],([],[])),[]),(v0.1,())))
 ((ig_ a0.1).bind λv1 =>
 (cond (v1.2.1 != 0)
 (some ((([],([],[])),[]),(v1.2.1,())))
 ((mk? (α:=Bool) (a0.2.2.2.1.length:Int) false).bind λv2 =>
 ((ae_ (ρ:=((List Bool)×((List aa_)×Unit))) (pbgB a0 v1.1) (0,(v2,([],())))).bind λv13 =>
 ((push? (α:=Int) [] v1.1.1).bind λv14 =>
 ((push? (α:=Int) [] v1.1.2.1).bind λv15 =>
 ((push? (α:=Int) [] v1.1.2.2).bind λv16 =>
 ((push? (α:=Bool) [] v13.1).bind λv17 =>
 (some (((v14,(v15,v16)),v17),(0,())))))))))))))
theorem bt6:kf_=pbegX:=by kernel_rfl
end
end Go.Proofs.YtlbfbdbagohinaaGreatDoor.Rx
namespace Go.Proofs.YtlbfbdbagohinaaGreatDoor.Rx
open Go Pad Rex Sum
section
set_option maxRecDepth 10000
theorem wc_ {r:ad_} (h:SmR r) (ok:OkR r) {s:ak_} (hv:VS r s):Sm s.1.length∧Sm s.2.1.length∧Sm s.2.2.length:=by
 have:=cm_.1 ok.py
 have h1:=hv.l1
 have h2:=hv.l2
 have h3:=hv.l3
 have:=h.th
 have:=h.pr
 refine⟨by show s.1.length≤1000000000;omega,by show s.2.1.length≤1000000000;omega,by show s.2.2.length≤1000000000;omega⟩
theorem ik_ {r:ad_} {s:ak_} (h0:ei_ r=0) (hv:VS r s):iw_ r s=0:=by
 unfold iw_
 rw[h0]
 exact by6 hv
end
section
theorem ki_ (a b c:Int):ax_ a b c=some (wi a b c,()):=at4 a b c
theorem mq_ (a b c:Int):bg_ a b c=some (wi a b c,()):=at4 a b c
def okL (l:aa_):Bool:=wi l.1 1 4&&wi l.2 2 10
structure Lk (l:aa_):Prop where
 w1:1≤l.1
 w2:l.1≤4
 s1:2≤l.2
 s2:l.2≤10
theorem kp_ {l:aa_}:okL l=true↔Lk l:=by
 unfold okL
 rw[a1_,cm_,cm_]
 exact⟨λh=>⟨h.1.1,h.1.2,h.2.1,h.2.2⟩,λh=>⟨⟨h.w1,h.w2⟩,h.s1,h.s2⟩⟩
theorem rz_ (l:aa_):gx_ l=some (if okL l then 0 else 10,()):=by
 unfold gx_ okL
 simp only[mq_,a0_]
 cases wi l.1 1 4<;>cases wi l.2 2 10<;>rfl
theorem kj_ (l:aa_):cq_ l=some (if okL l then 0 else 10,()):=by
 unfold cq_ okL
 simp only[ki_,a0_]
 cases wi l.1 1 4<;>cases wi l.2 2 10<;>rfl
def co_ (l:aa_) (c:List Int):Bool:=decide ((c.length:Int)=l.1)&&c.all λn=>wi n 0 (l.2 - 1)
theorem Lk.ws {l:aa_} (h:Lk l):w64 (l.2 - 1)=l.2 - 1:=by have:=h.s1;have:=h.s2;exact md_ (by omega) (by omega)
theorem Lk.ww {l:aa_} (h:Lk l):w64 (l.1 - 1)=l.1 - 1:=by have:=h.w1;have:=h.w2;exact md_ (by omega) (by omega)
theorem lh_ {l:aa_} (h:Lk l) (n:Int):bm_ l n=some (wi n 0 (l.2 - 1),()):=by
 unfold bm_
 rw[ki_,h.ws]
 rfl
theorem sp_ {l:aa_} (h:Lk l) (n:Int):ap_ l n=some (wi n 0 (l.1 - 1),()):=by
 unfold ap_
 rw[ki_,h.ww]
 rfl
theorem all_any {α:Type} (l:List α) (q:α→Bool):(!(l.any λx=>!(q x)))=l.all q:=rs_ l q
theorem ry_ {l:aa_} (h:Lk l) (c:List Int):fw_ l c=some (co_ l c,()):=by
 have w2:=h.w2
 unfold fw_ co_
 by_cases he:(c.length:Int)=l.1
 ·have hb:((c.length:Int) != l.1)=false:=by simp[he]
  rw[hb,b4_ he,c6_,a4_]
  refine hh_ c (λ_ y=>cond (wi y 0 (l.2 - 1)) none (some (inr (false,()):Unit⊕(Bool×Unit)))) (λi=>((i:Int),())) (r0:=inl ()) (λi y hy => ?_) ?_ ?_
  ·have hi:=an_ hy
   simp only[dlt hi,a5_,ag_ hy,a0_,mq_,h.ws,br_ (show Sm i by unfold Sm;omega)]
   cases wi y 0 (l.2 - 1)<;>rfl
  ·simp only[dnl,a4_]
  ·rw[tb_ (q:=λy=>wi y 0 (l.2 - 1))]
   cases c.all λy=>wi y 0 (l.2 - 1)<;>rfl
 ·have hb:((c.length:Int) != l.1)=true:=by simp[he]
  rw[hb,c1_ he]
  rfl
theorem ne_ {l:aa_} (h:Lk l) (c:List Int):cf_ l c=some (co_ l c,()):=by
 have w2:=h.w2
 unfold cf_ co_
 by_cases he:(c.length:Int)=l.1
 ·have hb:((c.length:Int)==l.1)=true:=by simp[he]
  rw[hb,b4_ he,c6_,a5_,ng_ (l:=c) (by unfold Sm;omega) (λn=>!(wi n 0 (l.2 - 1))) (λi y hy=>by
   simp only[dlt (an_ hy),a5_,ag_ hy,a0_,lh_ h]
   cases wi y 0 (l.2 - 1)<;>rfl) (by simp only[dnl,a4_]),a0_,all_any]
 ·have hb:((c.length:Int)==l.1)=false:=by simp[he]
  rw[hb,c1_ he]
  rfl
theorem sk_ (l:aa_) (c:List Int):fk_ l c=some (if okL l then (if co_ l c then 0 else 12) else 10,()):=by
 unfold fk_
 rw[rz_,a0_]
 cases h:okL l with
 | true =>
  rw[if_pos rfl,ry_ (kp_.1 h)]
  cases co_ l c<;>rfl
 | false=>rfl
theorem ga_ (l:aa_) (c:List Int):bu_ l c=some (if okL l then (if co_ l c then 0 else 12) else 10,()):=by
 unfold bu_ dn_
 rw[kj_,a0_]
 cases h:okL l with
 | true =>
  have hl:=kp_.1 h
  have:=ng_ (l:=[c]) (by unfold Sm;simp) (λc=>!(co_ l c)) (body:=λ(v1:(Int×Unit)) =>
   (cond (decide (v1.1<(([c]:List (List Int)).length:Int)))
   ((at? [c] v1.1).bind λv2 =>
   ((cf_ l v2).bind λv3 =>
   (cond (!v3.1)
   (some (inr (inr ((decide (0≤v1.1)),()))))
   (some (inl ((w64 (v1.1+1)),()))))))
   (some (inr (inl ()))))) (λi y hy=>by
   simp only[dlt (an_ hy),a5_,ag_ hy,a0_,ne_ hl]
   cases co_ l y<;>rfl) (by simp only[dnl,a4_])
  rw[this]
  simp only[List.any_cons,List.any_nil,h6_]
  cases co_ l c<;>rfl
 | false=>rfl
theorem ba0 {α:Type} [BEq α] [LawfulBEq α] [DecidableEq α] {a b:List α} (ha:Sm a.length) (he:a.length=b.length) {body:(Int×Unit)→Option ((Int×Unit)⊕(Unit⊕(Bool×Unit)))} {K:(Unit⊕(Bool×Unit))→Option (Bool×Unit)}
  (h:∀ (i:Nat) x y,a[i]?=some x→b[i]?=some y→body ((i:Int),())=some (cond (x != y) (.inr (.inr (false,()))) (.inl (w64 ((i:Int)+1),())))) (e:body ((a.length:Int),())=some (.inr (.inl ()))) (k1:K (.inl ())=some (true,())) (k2:K (.inr (false,()))=some (false,())) :
  (ae_ body (0,())).bind K=some (decide (a=b),()):=by
 refine hh_ (a.zip b) (λ_ p=>cond (p.1==p.2) none (some (inr (false,()):Unit⊕(Bool×Unit)))) (λi=>((i:Int),())) (r0:=inl ()) (λi p hp => ?_) ?_ ?_
 ·obtain⟨h1,h2⟩:=e4_.1 hp
  rw[h i p.1 p.2 h1 h2,br_ (show Sm i by have:=an_ h1;unfold Sm at *; omega)]
  cases hq:p.1==p.2<;>simp[bne,hq]
 ·rw[j0_,← he,Nat.min_self]
  exact e
 ·rw[tb_ (q:=λp:α×α=>p.1==p.2)]
  have hk:((a.zip b).all λp=>p.1==p.2)=decide (a=b):=by
   refine m4_.2 ?_
   rw[e2_,decide_eq_true_iff]
   constructor
   ·intro hz
    refine f7_ λi => ?_
    by_cases hi:i<a.length
    ·obtain⟨x,hx⟩:=bi_ hi
     obtain⟨y,hy⟩:=bi_ (l:=b) (i:=i) (by omega)
     have:=hz (x,y) (b3_ (e4_.2 ⟨hx,hy⟩))
     rw[hx,hy,show x=y from eq_of_beq this]
    ·rw[c7_ (by omega),c7_ (by omega)]
   ·rintro rfl p hp
    obtain⟨i,hi⟩:=f0_ hp
    obtain⟨h1,h2⟩:=e4_.1 hi
    rw[h1] at h2
    exact k2_.2 (a7_ h2)
  rw[hk]
  cases decide (a=b)
  ·exact k2
  ·exact k1
theorem ou_ {a b:List Int} (ha:Sm a.length):cj_ a b=some (decide (a=b),()):=by
 unfold cj_
 by_cases he:a.length=b.length
 ·have hb:((a.length:Int) != (b.length:Int))=false:=by simp[he]
  rw[hb,a4_]
  refine ba0 ha he (λi x y hx hy => ?_) ?_ rfl rfl
  ·simp only[dlt (an_ hx),a5_,ag_ hx,ag_ hy,a0_]
   cases x != y<;>rfl
  ·simp only[dnl,a4_]
 ·have hb:((a.length:Int) != (b.length:Int))=true:=by simp;omega
  rw[hb,c1_ (λe=>he (by rw[e]))]
  rfl
def ct_ (l:aa_) (c:ab_):Bool :=
 if c.1=1 then wi c.2.1 0 (l.1 - 1)&&(wi c.2.2.2.1 0 (l.2 - 1)&&(c.2.2.1==0&&(c.2.2.2.2.1==0&&decide (c.2.2.2.2.2.1=[]))))
 else if c.1=2 then wi c.2.1 0 (l.1 - 1)&&(wi c.2.2.1 0 (l.1 - 1)&&(decide (c.2.1≤c.2.2.1)&&(wi c.2.2.2.1 0 100&&(c.2.2.2.2.1==0&&decide (c.2.2.2.2.2.1=[])))))
 else if c.1=3∨c.1=4 then wi c.2.1 0 (l.1 - 1)&&(wi c.2.2.1 0 (l.1 - 1)&&(c.2.1 != c.2.2.1&&(c.2.2.2.1==0&&(c.2.2.2.2.1==0&&decide (c.2.2.2.2.2.1=[])))))
 else if c.1=5 then wi c.2.2.2.1 0 (l.2 - 1)&&(wi c.2.2.2.2.1 0 l.1&&(c.2.1==0&&(c.2.2.1==0&&decide (c.2.2.2.2.2.1=[]))))
 else if c.1=6 then co_ l c.2.2.2.2.2.1&&(wi c.2.2.2.1 0 l.1&&(wi c.2.2.2.2.1 0 l.1&&(c.2.1==0&&c.2.2.1==0)))
 else if c.1=7 then wi c.2.1 0 (l.1 - 1)&&(wi c.2.2.2.1 2 10&&(wi c.2.2.2.2.1 0 (c.2.2.2.1 - 1)&&(c.2.2.1==0&&decide (c.2.2.2.2.2.1=[]))))
 else false
theorem len0 (l:List Int):((l.length:Int)==((([]:List Int)).length:Int))=decide (l=[]):=by cases l<;>simp<;>omega
theorem ab3 {l:aa_} (h:Lk l) {c:ab_} (hs:Sm c.2.2.2.2.2.1.length):hw_ l c=some (ct_ l c,()):=by
 unfold hw_ ct_ ir_
 simp only[mq_,ry_ h,ou_ hs,a0_,h.ww,h.ws,c3_,a5_]
 by_cases h1:c.1=1
 ·simp only[h1]
  cases wi c.2.1 0 (l.1 - 1)<;>cases wi c.2.2.2.1 0 (l.2 - 1)<;>simp only[a5_,a4_,a0_,c3_,c6_,e1_,Int.reduceBEq,h8_,g4_,Int.reduceEq,l4_,l3_,l1_]<;>cases c.2.2.1==0<;>cases c.2.2.2.2.1==0<;>rfl
 by_cases h2:c.1=2
 ·simp only[h2]
  cases wi c.2.1 0 (l.1 - 1)<;>cases wi c.2.2.1 0 (l.1 - 1)<;>cases decide (c.2.1≤c.2.2.1)<;>cases wi c.2.2.2.1 0 100<;>simp only[a5_,a4_,a0_,c3_,c6_,e1_,Int.reduceBEq,h8_,g4_,Int.reduceEq,l4_,l3_,l1_]<;>cases c.2.2.2.2.1==0<;>rfl
 by_cases h3:c.1=3
 ·simp only[h3]
  cases wi c.2.1 0 (l.1 - 1)<;>cases wi c.2.2.1 0 (l.1 - 1)<;>cases c.2.1 != c.2.2.1<;>simp only[a5_,a4_,a0_,c3_,c6_,e1_,Int.reduceBEq,h8_,g4_,Int.reduceEq,l4_,l3_,l1_]<;>cases c.2.2.2.1==0<;>cases c.2.2.2.2.1==0<;>rfl
 by_cases h4:c.1=4
 ·simp only[h4]
  cases wi c.2.1 0 (l.1 - 1)<;>cases wi c.2.2.1 0 (l.1 - 1)<;>cases c.2.1 != c.2.2.1<;>simp only[a5_,a4_,a0_,c3_,c6_,e1_,Int.reduceBEq,h8_,g4_,Int.reduceEq,l4_,l3_,l1_]<;>cases c.2.2.2.1==0<;>cases c.2.2.2.2.1==0<;>rfl
 by_cases h5:c.1=5
 ·simp only[h5]
  cases wi c.2.2.2.1 0 (l.2 - 1)<;>cases wi c.2.2.2.2.1 0 l.1<;>simp only[a5_,a4_,a0_,c3_,c6_,e1_,Int.reduceBEq,h8_,g4_,Int.reduceEq,l4_,l3_,l1_]<;>cases c.2.1==0<;>cases c.2.2.1==0<;>rfl
 by_cases h6:c.1=6
 ·simp only[h6]
  cases co_ l c.2.2.2.2.2.1<;>cases wi c.2.2.2.1 0 l.1<;>cases wi c.2.2.2.2.1 0 l.1<;>simp only[a5_,a4_,a0_,c3_,c6_,e1_,Int.reduceBEq,h8_,g4_,Int.reduceEq,l4_,l3_,l1_]<;>cases c.2.1==0<;>cases c.2.2.1==0<;>simp
 by_cases h7:c.1=7
 ·simp only[h7]
  cases wi c.2.1 0 (l.1 - 1)
  ·rfl
  cases hn:wi c.2.2.2.1 2 10
  ·rfl
  have:=cm_.1 hn
  rw[md_ (n:=c.2.2.2.1 - 1) (by omega) (by omega)]
  cases wi c.2.2.2.2.1 0 (c.2.2.2.1 - 1)<;>simp only[a5_,a4_,a0_,c3_,c6_,e1_,Int.reduceBEq,h8_,g4_,Int.reduceEq,l4_,l3_,l1_]<;>cases c.2.2.1==0<;>rfl
 have b1:(c.1==1)=false:=by simp[h1]
 have b2:(c.1==2)=false:=by simp[h2]
 have b3:(c.1==3)=false:=by simp[h3]
 have b4:(c.1==4)=false:=by simp[h4]
 have b5:(c.1==5)=false:=by simp[h5]
 have b6:(c.1==6)=false:=by simp[h6]
 have b7:(c.1==7)=false:=by simp[h7]
 simp only[b1,b2,b3,b4,b5,b6,b7,h1,h2,h3,h4,h5,h6,h7,a4_,a0_,g4_,l1_]
theorem nf_ {l:aa_} (h:Lk l) (c:ab_):cg_ l c=some (ct_ l c,()):=by
 unfold cg_ ct_
 simp only[ki_,sp_ h,lh_ h,ne_ h,a0_]
 by_cases h1:c.1=1
 ·simp only[h1]
  cases wi c.2.1 0 (l.1 - 1)<;>cases wi c.2.2.2.1 0 (l.2 - 1)<;>simp only[a5_,a4_,a0_,c3_,c6_,e1_,Int.reduceBEq,h8_,g4_,Int.reduceEq,l4_,l3_,l1_,len0]<;>cases c.2.2.1==0<;>cases c.2.2.2.2.1==0<;>rfl
 by_cases h2:c.1=2
 ·simp only[h2]
  cases wi c.2.1 0 (l.1 - 1)<;>cases wi c.2.2.1 0 (l.1 - 1)<;>cases decide (c.2.1≤c.2.2.1)<;>cases wi c.2.2.2.1 0 100<;>simp only[a5_,a4_,a0_,c3_,c6_,e1_,Int.reduceBEq,h8_,g4_,Int.reduceEq,l4_,l3_,l1_,len0]<;>cases c.2.2.2.2.1==0<;>rfl
 by_cases h3:c.1=3
 ·simp only[h3]
  cases wi c.2.1 0 (l.1 - 1)<;>cases wi c.2.2.1 0 (l.1 - 1)<;>cases c.2.1 != c.2.2.1<;>simp only[a5_,a4_,a0_,c3_,c6_,e1_,Int.reduceBEq,h8_,g4_,Int.reduceEq,l4_,l3_,l1_,len0]<;>cases c.2.2.2.1==0<;>cases c.2.2.2.2.1==0<;>rfl
 by_cases h4:c.1=4
 ·simp only[h4]
  cases wi c.2.1 0 (l.1 - 1)<;>cases wi c.2.2.1 0 (l.1 - 1)<;>cases c.2.1 != c.2.2.1<;>simp only[a5_,a4_,a0_,c3_,c6_,e1_,Int.reduceBEq,h8_,g4_,Int.reduceEq,l4_,l3_,l1_,len0]<;>cases c.2.2.2.1==0<;>cases c.2.2.2.2.1==0<;>rfl
 by_cases h5:c.1=5
 ·simp only[h5]
  cases wi c.2.2.2.1 0 (l.2 - 1)<;>cases wi c.2.2.2.2.1 0 l.1<;>simp only[a5_,a4_,a0_,c3_,c6_,e1_,Int.reduceBEq,h8_,g4_,Int.reduceEq,l4_,l3_,l1_,len0]<;>cases c.2.1==0<;>cases c.2.2.1==0<;>rfl
 by_cases h6:c.1=6
 ·simp only[h6]
  cases co_ l c.2.2.2.2.2.1<;>cases wi c.2.2.2.1 0 l.1<;>cases wi c.2.2.2.2.1 0 l.1<;>simp only[a5_,a4_,a0_,c3_,c6_,e1_,Int.reduceBEq,h8_,g4_,Int.reduceEq,l4_,l3_,l1_,len0]<;>cases c.2.1==0<;>cases c.2.2.1==0<;>rfl
 by_cases h7:c.1=7
 ·simp only[h7]
  cases wi c.2.1 0 (l.1 - 1)
  ·rfl
  cases hn:wi c.2.2.2.1 2 10
  ·rfl
  have:=cm_.1 hn
  rw[md_ (n:=c.2.2.2.1 - 1) (by omega) (by omega)]
  cases wi c.2.2.2.2.1 0 (c.2.2.2.1 - 1)<;>simp only[a5_,a4_,a0_,c3_,c6_,e1_,Int.reduceBEq,h8_,g4_,Int.reduceEq,l4_,l3_,l1_,len0]<;>cases c.2.2.1==0<;>rfl
 have b1:(c.1==1)=false:=by simp[h1]
 have b2:(c.1==2)=false:=by simp[h2]
 have b3:(c.1==3)=false:=by simp[h3]
 have b4:(c.1==4)=false:=by simp[h4]
 have b5:(c.1==5)=false:=by simp[h5]
 have b6:(c.1==6)=false:=by simp[h6]
 have b7:(c.1==7)=false:=by simp[h7]
 simp only[b1,b2,b3,b4,b5,b6,b7,h1,h2,h3,h4,h5,h6,h7,a4_,a0_,g4_,l1_]
theorem sl_ {l:aa_} (hl:Lk l) {c:ab_} (hs:Sm c.2.2.2.2.2.1.length):fl_ l c=some (cond (ct_ l c) 0 11,()):=by
 unfold fl_
 rw[rz_,kp_.2 hl,if_pos rfl,a0_,ab3 hl hs]
 cases ct_ l c<;>rfl
theorem sq_ {l:aa_} (hl:Lk l) (c:ab_):dc_ l c=some (cond (ct_ l c) 0 11,()):=by
 unfold dc_
 rw[kj_,kp_.2 hl,if_pos rfl,a0_,nf_ hl]
 cases ct_ l c<;>rfl
end
section
theorem xc_ {α τ σ ρ:Type} (l:List α) (f:τ→α→τ) (F:Nat→τ→σ) (R:τ→ρ) (t0:τ) {body:σ→Option (σ⊕ρ)}
  (h:∀ i x t,l[i]?=some x→body (F i t)=some (.inl (F (i+1) (f t x)))) (e:∀ t,body (F l.length t)=some (.inr (R t))):ae_ body (F 0 t0)=some (R (l.foldl f t0)):=by
 obtain⟨t,h1,h2⟩:=le_ l (λ_=>f) F R t0 (λi t=>t=(l.take i).foldl f t0) rfl (λi x t hx ht=>⟨h i x t hx,by
  rw[ht,f4_,hx,l5_]
  rfl⟩) (λt _=>e t)
 rw[h2,h1,d4_]
theorem lj_ {α τ σ ρ υ:Type} (l:List α) (f:τ→α→τ) (F:Nat→τ→σ) (R:τ→ρ) (t0:τ) {body:σ→Option (σ⊕ρ)} {K:ρ→Option υ} {x:Option υ}
  (h:∀ i x t,l[i]?=some x→body (F i t)=some (.inl (F (i+1) (f t x)))) (e:∀ t,body (F l.length t)=some (.inr (R t))) (hk:K (R (l.foldl f t0))=x):(ae_ body (F 0 t0)).bind K=x:=by
 rw[xc_ l f F R t0 h e,a0_,hk]
theorem aa1 {α β:Type}:∀ (l:List α) (m:List β) (i:Nat),(l.zip m).take i=(l.take i).zip (m.take i)
 | [],m,i=>by simp
 | x::l,[],i=>by cases i<;>simp
 | x::l,y::m,0=>rfl
 | x::l,y::m,i+1=>by simp[aa1 l m i]
theorem gk_ {l:aa_} {c:List Int}:co_ l c=true↔(c.length:Int)=l.1∧∀ n ∈ c,0≤n∧n≤l.2 - 1:=by
 unfold co_
 rw[a1_,decide_eq_true_iff,e2_]
 exact⟨λh=>⟨h.1,λn hn=>cm_.1 (h.2 n hn)⟩,λh=>⟨h.1,λn hn=>cm_.2 (h.2 n hn)⟩⟩
def xh_ (l:List Int) (k:Int):Int:=l.foldl (λs x=>cond (x==k) (w64 (s+1)) s) 0
def bo6 (code guess:List Int):Int:=(code.zip guess).foldl (λs p=>cond (p.1==p.2) (w64 (s+1)) s) 0
def comW (code guess:List Int):Int:=(List.range 10).foldl (λs (k:Nat)=>w64 (s+aw6 (xh_ code k) (xh_ guess k))) 0
theorem ae7 {l:List Int} {j:Nat} {x k:Int} (h:l[j]?=some x):xh_ (l.take (j+1)) k=cond (x==k) (w64 (xh_ (l.take j) k+1)) (xh_ (l.take j) k):=by
 unfold xh_
 rw[f4_,h,l5_]
 rfl
theorem pc_ {l:List Int} {k:Int} (hl:Sm l.length):eb_ l k=some (xh_ l k,()):=by
 unfold eb_ xh_
 refine lj_ l (λs x=>cond (x==k) (w64 (s+1)) s) (λi s=>(s,((i:Int),()))) (λs=>(s,())) 0 (λi x s hx=>by
  have hi:=an_ hx
  simp only[dlt hi,a5_,ag_ hx,a0_,br_ (show Sm i by unfold Sm at *; omega)]
  cases x==k<;>rfl) (λs=>by simp only[dnl,a4_]) rfl
theorem ab4 {l:aa_} (hl:Lk l) {code guess:List Int} (hc:co_ l code=true) (hg:co_ l guess=true):hx_ code guess=some (bo6 code guess,(w64 (comW code guess - bo6 code guess),())):=by
 obtain⟨c1,_⟩:=gk_.1 hc
 obtain⟨g1,_⟩:=gk_.1 hg
 have w2:=hl.w2
 have sc:Sm code.length:=by unfold Sm;omega
 have sg:Sm guess.length:=by unfold Sm;omega
 have hz:(code.zip guess).length=code.length:=by rw[j0_];omega
 unfold hx_
 refine lj_ (code.zip guess) (λs p=>cond (p.1==p.2) (w64 (s+1)) s) (λi s=>(s,((i:Int),()))) (λs=>(s,())) 0 (λi p s hp=>by
  obtain⟨h1,h2⟩:=e4_.1 hp
  simp only[dlt (an_ h1),a5_,ag_ h1,ag_ h2,a0_,br_ (show Sm i by have:=an_ h1;unfold Sm at *; omega)]
  cases p.1==p.2<;>rfl) (λs=>by rw[hz];simp only[dnl,a4_]) ?_
 refine lj_ (List.range 10) (λs (k:Nat)=>w64 (s+aw6 (xh_ code k) (xh_ guess k))) (λi s=>(s,((i:Int),()))) (λs=>(s,())) 0 (λi k s hk=>by
  have hi:=an_ hk
  rw[g6_] at hi
  rw[j3_ hi] at hk
  obtain rfl:=a7_ hk
  simp only[show decide ((i:Int)<10)=true from b4_ (by omega),a5_,pc_ sc,pc_ sg,a0_,br_ (show Sm i by unfold Sm;omega)]) (λs=>by
  rw[g6_]
  rfl) rfl
theorem ae6 {l:aa_} (hl:Lk l) {code guess:List Int} (hc:co_ l code=true) (hg:co_ l guess=true):ek_ code guess=some (bo6 code guess,(w64 (comW code guess - bo6 code guess),())):=by
  obtain⟨c1,c2⟩:=gk_.1 hc
  obtain⟨g1,g2⟩:=gk_.1 hg
  have w2:=hl.w2
  have s2:=hl.s2
  have hz:(code.zip guess).length=code.length:=by rw[j0_];omega
  have tk:∀ i,(code.zip guess).take i=(code.take i).zip (guess.take i):=λi=>aa1 _ _ i
  let I:Nat→(Int×(List Int×List Int))→Prop:=λi t=>t.1=bo6 (code.take i) (guess.take i)∧t.2.1.length=10∧t.2.2.length=10∧∀ k:Nat,k<10→t.2.1[k]?=some (xh_ (code.take i) k)∧t.2.2[k]?=some (xh_ (guess.take i) k)
  have h1:=le_ (code.zip guess) (λ_ (t:Int×(List Int×List Int)) p=>(cond (p.1==p.2) (w64 (t.1+1)) t.1,(t.2.1.set p.1.toNat (w64 ((t.2.1[p.1.toNat]?).getD 0+1)),t.2.2.set p.2.toNat (w64 ((t.2.2[p.2.toNat]?).getD 0+1)))))
    (λi t=>(t.1,((i:Int),(t.2.1,(t.2.2,()))))) (λt=>(t.1,(t.2.1,(t.2.2,())))) (0,([0,0,0,0,0,0,0,0,0,0],[0,0,0,0,0,0,0,0,0,0])) I
    (body:=λ(v0:(Int×(Int×((List Int)×((List Int)×Unit))))) =>
 (cond (decide (v0.2.1<(code.length:Int)))
 ((at? code v0.2.1).bind λv1 =>
 ((((at? guess v0.2.1).bind λv2 =>
 (cond (v1==v2)
 (some ((w64 (v0.1+1)),()))
 (some (v0.1,()))))).bind λv3 =>
 (cond (decide (v1<(10:Int)))
 ((at? v0.2.2.1 v1).bind λv4 =>
 ((at? v0.2.2.1 v1).bind λv5 =>
 (cond (decide (v1<(10:Int)))
 ((at? v0.2.2.1 v1).bind λv6 =>
 ((at? v0.2.2.1 v1).bind λv7 =>
 ((at? guess v0.2.1).bind λv8 =>
 (cond (decide (v8<(10:Int)))
 ((at? v0.2.2.2.1 v8).bind λv9 =>
 ((at? v0.2.2.2.1 v8).bind λv10 =>
 (cond (decide (v8<(10:Int)))
 ((at? v0.2.2.2.1 v8).bind λv11 =>
 ((at? v0.2.2.2.1 v8).bind λv12 =>
 (some (inl (v3.1,((w64 (v0.2.1+1)),((v0.2.2.1.set v1.toNat (w64 (v5+1))),((v0.2.2.2.1.set v8.toNat (w64 (v10+1))),()))))))))
 none)))
 none))))
 none)))
 none)))
 (some (inr (v0.1,(v0.2.2.1,(v0.2.2.2.1,())))))))
    ⟨rfl,rfl,rfl,λk hk=>⟨by
      match k,hk with
      | 0,_ | 1,_ | 2,_ | 3,_ | 4,_ | 5,_ | 6,_ | 7,_ | 8,_ | 9,_=>rfl,by
      match k,hk with
      | 0,_ | 1,_ | 2,_ | 3,_ | 4,_ | 5,_ | 6,_ | 7,_ | 8,_ | 9,_=>rfl⟩⟩ (λi p t hp ht=>by
      obtain⟨x,y⟩:=p
      obtain⟨hx,hy⟩:=e4_.1 hp
      obtain⟨t1,t2,t3,t4⟩:=ht
      have hx':=c2 x (b3_ hx)
      have hy':=g2 y (b3_ hy)
      have ax:at? t.2.1 x=some (xh_ (code.take i) x):=by
        have:=(t4 x.toNat (by omega)).1
        rw[show ((x.toNat:Nat):Int)=x by omega] at this
        unfold at?
        rw[if_pos hx'.1]
        exact this
      have ay:at? t.2.2 y=some (xh_ (guess.take i) y):=by
        have:=(t4 y.toNat (by omega)).2
        rw[show ((y.toNat:Nat):Int)=y by omega] at this
        unfold at?
        rw[if_pos hy'.1]
        exact this
      have gx:t.2.1[x.toNat]?=some (xh_ (code.take i) x):=by
        have:=(t4 x.toNat (by omega)).1
        rwa [show ((x.toNat:Nat):Int)=x by omega] at this
      have gy:t.2.2[y.toNat]?=some (xh_ (guess.take i) y):=by
        have:=(t4 y.toNat (by omega)).2
        rwa [show ((y.toNat:Nat):Int)=y by omega] at this
      refine⟨?_,?_,?_,?_,λk hk => ?_⟩
      · simp only[dlt (an_ hx),a5_,ag_ hx,ag_ hy,a0_,ax,ay,show decide (x<10)=true from b4_ (by omega),show decide (y<10)=true from b4_ (by omega),br_ (show Sm i by have:=an_ hx;unfold Sm;omega),gx,gy,h1_]
        cases x==y<;>rfl
      · show cond (x==y) (w64 (t.1+1)) t.1=bo6 (code.take (i+1)) (guess.take (i+1))
        unfold bo6
        rw[← tk,f4_,hp,l5_,tk,t1]
        rfl
      · simp[t2]
      · simp[t3]
      · obtain⟨q1,q2⟩:=t4 k hk
        constructor
        · show (t.2.1.set x.toNat (w64 ((t.2.1[x.toNat]?).getD 0+1)))[k]?=_
          rw[ae7 hx,gx,h1_,d2_]
          by_cases e:x.toNat=k
          · have e2:x=(k:Int):=by omega
            rw[if_pos e,if_pos (by omega),e2,c3_,a5_]
          · have e2:(x==(k:Int))=false:=by simp;omega
            rw[if_neg e,q1,e2,a4_]
        · show (t.2.2.set y.toNat (w64 ((t.2.2[y.toNat]?).getD 0+1)))[k]?=_
          rw[ae7 hy,gy,h1_,d2_]
          by_cases e:y.toNat=k
          · have e2:y=(k:Int):=by omega
            rw[if_pos e,if_pos (by omega),e2,c3_,a5_]
          · have e2:(y==(k:Int))=false:=by simp;omega
            rw[if_neg e,q2,e2,a4_]) (λt _=>by rw[hz];simp only[dnl,a4_])
  obtain⟨t,⟨t1,t2,t3,t4⟩,h2⟩:=h1
  rw[hz] at t1 t4
  rw[d4_,show guess.take code.length=guess by rw[e0_ (by omega)]] at t1
  unfold ek_
  refine (congrArg (λo=>Option.bind o _) h2).trans ?_
  rw[a0_]
  refine lj_ (List.range 10) (λs (k:Nat)=>w64 (s+aw6 (xh_ code k) (xh_ guess k))) (λi s=>(s,((i:Int),()))) (λs=>(s,())) 0 (λi k s hk=>by
    have hi:=an_ hk
    rw[g6_] at hi
    rw[j3_ hi] at hk
    obtain rfl:=a7_ hk
    obtain⟨q1,q2⟩:=t4 i hi
    rw[d4_] at q1
    rw[show guess.take code.length=guess by rw[e0_ (by omega)]] at q2
    simp only[show decide ((i:Int)<10)=true from b4_ (by omega),a5_,ag_ q1,ag_ q2,a0_,br_ (show Sm i by unfold Sm;omega)]) (λs=>by
    rw[g6_]
    rfl) ?_
  rw[t1]
  rfl
end
section
def ui_ (code:List Int) (a b:Int):List Int:=(code.take (b+1).toNat).drop a.toNat
def sumW (l:List Int):Int:=l.foldl (λs x=>w64 (s+x)) 0
def gt0 (code:List Int) (i:Int):Int:=(at? code i).getD 0
def plV (c:ab_) (code:List Int):Bool :=
 cond (c.1==1) (gt0 code c.2.1==c.2.2.2.1) <|
 cond (c.1==2) (sumW (ui_ code c.2.1 c.2.2.1)==c.2.2.2.1) <|
 cond (c.1==3) (decide (gt0 code c.2.1<gt0 code c.2.2.1)) <|
 cond (c.1==4) (gt0 code c.2.1==gt0 code c.2.2.1) <|
 cond (c.1==5) (xh_ code c.2.2.2.1==c.2.2.2.2.1) <|
 cond (c.1==6) (cond (bo6 code c.2.2.2.2.2.1==c.2.2.2.1) (w64 (comW code c.2.2.2.2.2.1 - bo6 code c.2.2.2.2.2.1)==c.2.2.2.2.1) false) <|
 cond (c.1==7) ((gt0 code c.2.1).tmod c.2.2.2.1==c.2.2.2.2.1) false
def tr (c:ab_) (code:List Int):Bool:=plV c code != c.2.2.2.2.2.2
theorem gt0_at {code:List Int} {i x:Int} (h:at? code i=some x):gt0 code i=x:=by unfold gt0;rw[h];rfl
theorem ok_ {l:aa_} (hl:Lk l) {c:ab_} {code:List Int} (hc:ct_ l c=true) (hk:co_ l code=true):gm_ c code=some (tr c code,())∧dm_ c code=some (tr c code,()):=by
 obtain⟨c1,c2⟩:=gk_.1 hk
 have w1:=hl.w1;have w2:=hl.w2;have s1:=hl.s1;have s2:=hl.s2
 have sc:Sm code.length:=by unfold Sm;omega
 unfold ct_ at hc
 have hat:∀ i,wi i 0 (l.1 - 1)=true→at? code i=some (gt0 code i):=by
  intro i hi
  obtain⟨a,b⟩:=cm_.1 hi
  obtain⟨x,h1⟩:=bi_ (l:=code) (i:=i.toNat) (by omega)
  have h2:at? code i=some x:=by unfold at?; rw[if_pos a];exact h1
  rw[h2,gt0_at h2]
 unfold gm_ dm_ gz_ tr plV
 by_cases h1:c.1=1
 ·simp only[h1,h8_,a1_] at hc
  have hx:=hat _ hc.1
  simp only[h1,hx,c3_,a5_,a0_,and_self]
 have b1:(c.1==1)=false:=by simp[h1]
 simp only[b1,a4_]
 by_cases h2:c.1=2
 ·simp only[h2,h8_,a1_,show ¬ ((2:Int)=1) by omega,g4_] at hc
  obtain⟨hA,hB,hAB,_⟩:=hc
  obtain⟨a1,a2⟩:=cm_.1 hA
  obtain⟨d1,d2⟩:=cm_.1 hB
  have hab:c.2.1≤c.2.2.1:=by simpa using hAB
  have hsub:sub? code c.2.1 (w64 (c.2.2.1+1))=some (ui_ code c.2.1 c.2.2.1):=by
   rw[md_ (by omega) (by omega)]
   unfold sub? ui_
   rw[if_pos ⟨a1,by omega,by omega⟩]
  have hsl:(ui_ code c.2.1 c.2.2.1).length=(c.2.2.1 - c.2.1+1).toNat:=by
   unfold ui_
   rw[h3_,c4_]
   omega
  have hsg:∀ (j:Nat) x,(ui_ code c.2.1 c.2.2.1)[j]?=some x→at? code (c.2.1+(j:Int))=some x:=by
   intro j x hj
   have hlt:=an_ hj
   unfold ui_ at hj
   rw[List.getElem?_drop,m7_,if_pos (by omega)] at hj
   unfold at?
   rw[if_pos (by omega),show (c.2.1+(j:Int)).toNat=c.2.1.toNat+j by omega]
   exact hj
  simp only[h2,c3_,a5_,hsub,a0_]
  constructor
  ·have:=xc_ (ui_ code c.2.1 c.2.2.1) (λs x=>w64 (s+x)) (λi s=>(s,(c.2.1+(i:Int),()))) (λs=>(s,())) 0 (body:=λ(v1:(Int×(Int×Unit))) =>
    (cond (decide (v1.2.1≤c.2.2.1))
    ((at? code v1.2.1).bind λv2 =>
    (some (inl ((w64 (v1.1+v2)),((w64 (v1.2.1+1)),())))))
    (some (inr (v1.1,()))))) (λi x s hx=>by
    have hi:=an_ hx
    simp only[show decide (c.2.1+(i:Int)≤c.2.2.1)=true from b4_ (by omega),a5_,hsg i x hx,a0_,md_ (n:=c.2.1+(i:Int)+1) (by omega) (by omega)]
    rw[show c.2.1+(i:Int)+1=c.2.1+((i+1:Nat):Int) by omega]) (λs=>by
    simp only[show decide (c.2.1+((ui_ code c.2.1 c.2.2.1).length:Int)≤c.2.2.1)=false from c1_ (by omega),a4_])
   simp only[Int.natCast_zero,Int.add_zero] at this
   rw[this]
   rfl
  ·refine congrArg (λo=>Option.bind o _) (?_:_=some (sumW (ui_ code c.2.1 c.2.2.1)==c.2.2.2.1,())) |>.trans rfl
   refine lj_ (ui_ code c.2.1 c.2.2.1) (λs x=>w64 (s+x)) (λi s=>(s,((i:Int),()))) (λs=>(s,())) 0 (λi x s hx=>by
    have hi:=an_ hx
    simp only[dlt hi,a5_,ag_ hx,a0_,br_ (show Sm i by unfold Sm;omega)]) (λs=>by simp only[dnl,a4_]) rfl
 have b2:(c.1==2)=false:=by simp[h2]
 simp only[b2,a4_]
 by_cases h3:c.1=3
 ·simp only[h3,h8_,a1_,show ¬ ((3:Int)=1) by omega,show ¬ ((3:Int)=2) by omega,g4_,l3_] at hc
  simp only[h3,hat _ hc.1,hat _ hc.2.1,c3_,a5_,a0_,and_self]
 have b3:(c.1==3)=false:=by simp[h3]
 simp only[b3,a4_]
 by_cases h4:c.1=4
 ·simp only[h4,h8_,a1_,show ¬ ((4:Int)=1) by omega,show ¬ ((4:Int)=2) by omega,g4_,l4_] at hc
  simp only[h4,hat _ hc.1,hat _ hc.2.1,c3_,a5_,a0_,and_self]
 have b4:(c.1==4)=false:=by simp[h4]
 simp only[b4,a4_]
 by_cases h5:c.1=5
 ·have hs:=pc_ (k:=c.2.2.2.1) sc
  simp only[h5,c3_,a5_,hs,a0_,true_and]
  have:=hs
  unfold eb_ at this
  obtain⟨y,h6,h7⟩:=bnd this
  rw[h6]
  have e:y.1=xh_ code c.2.2.2.1:=congrArg Prod.fst (a7_ h7)
  rw[a0_,a0_,e]
 have b5:(c.1==5)=false:=by simp[h5]
 simp only[b5,a4_]
 by_cases h6:c.1=6
 ·simp only[h6,h8_,a1_,show ¬ ((6:Int)=1) by omega,show ¬ ((6:Int)=2) by omega,show ¬ ((6:Int)=3∨(6:Int)=4) by omega,show ¬ ((6:Int)=5) by omega,g4_] at hc
  simp only[h6,c3_,a5_,ab4 hl hk hc.1,ae6 hl hk hc.1,a0_]
  cases bo6 code c.2.2.2.2.2.1==c.2.2.2.1<;>exact⟨rfl,rfl⟩
 have b6:(c.1==6)=false:=by simp[h6]
 simp only[b6,a4_]
 by_cases h7:c.1=7
 ·simp only[h7,h8_,a1_,show ¬ ((7:Int)=1) by omega,show ¬ ((7:Int)=2) by omega,show ¬ ((7:Int)=3∨(7:Int)=4) by omega,show ¬ ((7:Int)=5) by omega,show ¬ ((7:Int)=6) by omega,g4_] at hc
  obtain⟨n1,n2⟩:=cm_.1 hc.2.1
  have hm:md (gt0 code c.2.1) c.2.2.2.1=some ((gt0 code c.2.1).tmod c.2.2.2.1):=ao8 (by omega)
  simp only[h7,hat _ hc.1,hm,c3_,a5_,a0_,and_self]
 ·simp[h1,h2,h3,h4,h5,h6,h7] at hc
end
section
def dh_ (S:Nat):Nat→List (List Int)
 | 0=>[[]]
 | W+1=>(List.range S).flatMap λ(x:Nat)=>(dh_ S W).map λc=>(x:Int)::c
theorem zd_ {α β:Type} {f:α→List β} {m:Nat}:∀ (l:List α),(∀ x ∈ l,(f x).length=m)→(l.flatMap f).length=l.length * m
 | [],_=>by simp
 | x::l,h=>by
  rw[l6_,c5_,h x (by simp),zd_ l (λy hy=>h y (by simp[hy])),c8_,h2_]
  omega
theorem aq7 {α β:Type} {f:α→List β} {m:Nat}:∀ (l:List α) (q r:Nat) (x:α),(∀ x ∈ l,(f x).length=m)→r<m→l[q]?=some x→(l.flatMap f)[q * m+r]?=(f x)[r]?
 | [],q,r,x,h,hr,hq=>by simp at hq
 | y::l,0,r,x,h,hr,hq=>by
  have e:y=x:=by simpa using hq
  subst e
  rw[l6_,Nat.zero_mul,a8_,b1_ (by rw[h y (by simp)];exact hr)]
 | y::l,q+1,r,x,h,hr,hq=>by
  have hq':l[q]?=some x:=by simpa using hq
  have hl:=h y (by simp)
  rw[l6_,b5_ (by rw[hl,h2_];omega),hl,show (q+1) * m+r - m=q * m+r by rw[h2_];omega]
  exact aq7 l q r x (λz hz=>h z (by simp[hz])) hr hq'
theorem jp_ (S:Nat):∀ W,(dh_ S W).length=S ^ W
 | 0=>rfl
 | W+1=>by
  unfold dh_
  rw[zd_ (m:=S ^ W) _ (λx _=>by rw[f2_,jp_ S W]),g6_,i1_,h7_]
theorem rl_ (S:Nat):∀ W c,c ∈ dh_ S W↔c.length=W∧∀ n ∈ c,0≤n∧n<(S:Int)
 | 0,c=>by
  unfold dh_
  rw[m6_]
  constructor
  ·rintro rfl;exact⟨rfl,by simp⟩
  ·rintro⟨h,_⟩;exact j2_.1 h
 | W+1,c=>by
  unfold dh_
  rw[List.mem_flatMap]
  constructor
  ·rintro⟨x,hx,hc⟩
   obtain⟨d,hd,rfl⟩:=d5_.1 hc
   obtain⟨h1,h2⟩:=(rl_ S W d).1 hd
   have:=o3_.1 hx
   refine⟨by rw[c8_,h1],λn hn => ?_⟩
   rcases c9_.1 hn with rfl | hn
   ·omega
   ·exact h2 n hn
  ·rintro⟨h1,h2⟩
   cases c with
   | nil=>simp at h1
   | cons x c =>
    obtain⟨a,b⟩:=h2 x (by simp)
    refine⟨x.toNat,o3_.2 (by omega),d5_.2 ⟨c,(rl_ S W c).2 ⟨by simpa using h1,λn hn=>h2 n (by simp[hn])⟩,?_⟩⟩
    rw[show ((x.toNat:Nat):Int)=x by omega]
def dig (S:Nat):Nat→Nat→List Int
 | 0,_=>[]
 | W+1,i=>dig S W (i / S)++[((i % S:Nat):Int)]
theorem bj7 (S:Nat):∀ W i,(dig S W i).length=W
 | 0,_=>rfl
 | W+1,i=>by unfold dig;rw[c5_,bj7 S W];rfl
theorem ar5 {S:Nat} (hS:0<S):∀ (W q r:Nat),q<S→r<S ^ W→dig S (W+1) (q * S ^ W+r)=(q:Int)::dig S W r
 | 0,q,r,hq,hr=>by
  have:r=0:=by simpa using hr
  subst this
  simp[dig,k8_ hq]
 | W+1,q,r,hq,hr=>by
  have e1:(q * S ^ (W+1)+r) / S=q * S ^ W+r / S:=by
   rw[i1_,← Nat.mul_assoc,h7_ (q * S ^ W) S,Nat.mul_add_div hS]
  have e2:(q * S ^ (W+1)+r) % S=r % S:=by
   rw[i1_,← Nat.mul_assoc,h7_ (q * S ^ W) S,Nat.mul_add_mod]
  have hr':r / S<S ^ W:=Nat.div_lt_of_lt_mul (by rw[h7_,← i1_];exact hr)
  rw[dig,e1,e2,ar5 hS W q (r / S) hq hr']
  rfl
theorem on_ {S:Nat} (hS:0<S):∀ (W i:Nat),i<S ^ W→(dh_ S W)[i]?=some (dig S W i)
 | 0,i,h=>by
  have:i=0:=by simpa using h
  subst this;rfl
 | W+1,i,h=>by
  have hP:0<S ^ W:=Nat.pow_pos hS
  have hr:i % S ^ W<S ^ W:=Nat.mod_lt _ hP
  have hq:i / S ^ W<S:=Nat.div_lt_of_lt_mul (by rw[← i1_];exact h)
  have he:i=i / S ^ W * S ^ W+i % S ^ W:=by rw[h7_];exact (Nat.div_add_mod i (S ^ W)).symm
  rw[he,ar5 hS W _ _ hq hr]
  unfold dh_
  rw[aq7 (m:=S ^ W) _ _ _ (i / S ^ W) (λx _=>by rw[f2_,jp_]) hr (by rw[j3_ hq]),d3_,on_ hS W _ hr]
  rfl
def rdg (l:aa_) (cl:List ab_):List (List Int):=(dh_ l.2.toNat l.1.toNat).filter λc=>cl.all (tr · c)
theorem tl_ {l:aa_} (hl:Lk l) {c:List Int}:c ∈ dh_ l.2.toNat l.1.toNat↔co_ l c=true:=by
 have:=hl.w1;have:=hl.s1
 rw[rl_,gk_]
 constructor
 ·rintro⟨a,b⟩;exact⟨by omega,λn hn=>by have:=b n hn;omega⟩
 ·rintro⟨a,b⟩;exact⟨by omega,λn hn=>by have:=b n hn;omega⟩
theorem ao1 {l:aa_} (hl:Lk l):l.2.toNat ^ l.1.toNat≤10000:=by
 have:=hl.w1;have:=hl.w2;have:=hl.s1;have:=hl.s2
 have h1:l.2.toNat ^ l.1.toNat≤10 ^ l.1.toNat:=Nat.pow_le_pow_left (by omega) _
 have h2:10 ^ l.1.toNat≤10 ^ 4:=Nat.pow_le_pow_right (by omega) (by omega)
 omega
theorem cb7 {l:aa_} (hl:Lk l) (cl:List ab_):(rdg l cl).length≤10000:=by
 have h:=i3_ (λc=>cl.all (tr · c)) (dh_ l.2.toNat l.1.toNat)
 have:=ao1 hl
 rw[jp_] at h
 unfold rdg
 omega
theorem bn5 (cl:List ab_) (code:List Int):(!(cl.any λc=>!(tr c code)))=cl.all (tr · code):=rs_ cl λc=>tr c code
theorem ai8 {l:aa_} (hl:Lk l) {cl:List ab_} (hn:cl.length≤20) {code:List Int} (hc:∀ c ∈ cl,ct_ l c=true) (hk:co_ l code=true):∃ r,ji_ cl code=some (r,())∧decide (r<0)=cl.all (tr · code):=by
 obtain⟨n,h1,h2,_⟩:=if_lt (l:=cl) (by unfold Sm;omega) (λc=>!(tr c code)) (body:=λ(v0:(Int×Unit)) =>
  (cond (decide (v0.1<(cl.length:Int)))
  ((at? cl v0.1).bind λv1 =>
  ((gm_ v1 code).bind λv2 =>
  (cond (!v2.1)
  (some (inr (inr (v0.1,()))))
  (some (inl ((w64 (v0.1+1)),()))))))
  (some (inr (inl ()))))) (λi c hi=>by
  simp only[dlt (an_ hi),a5_,ag_ hi,a0_,(ok_ hl (hc c (b3_ hi)) hk).1]
  cases tr c code<;>rfl) (by simp only[dnl,a4_])
 exact⟨n,h1,by rw[h2,bn5]⟩
theorem vh_ {l:aa_} (hl:Lk l) {cl:List ab_} (hn:cl.length≤20) {code:List Int} (hc:∀ c ∈ cl,ct_ l c=true) (hk:co_ l code=true):∃ r,cy_ cl code=some (r,())∧decide (r<0)=cl.all (tr · code):=by
 obtain⟨n,h1,h2,_⟩:=if_lt (l:=cl) (by unfold Sm;omega) (λc=>!(tr c code)) (body:=λ(v0:(Int×Unit)) =>
  (cond (decide (v0.1<(cl.length:Int)))
  ((at? cl v0.1).bind λv1 =>
  ((dm_ v1 code).bind λv2 =>
  (cond (!v2.1)
  (some (inr (inr (v0.1,()))))
  (some (inl ((w64 (v0.1+1)),()))))))
  (some (inr (inl ()))))) (λi c hi=>by
  simp only[dlt (an_ hi),a5_,ag_ hi,a0_,(ok_ hl (hc c (b3_ hi)) hk).2]
  cases tr c code<;>rfl) (by simp only[dnl,a4_])
 exact⟨n,h1,by rw[h2,bn5]⟩
theorem rep_set {p:Nat} {x:Int} {t:List Int}:(List.replicate (p+1) (0:Int)++t).set p x=List.replicate p 0++(x::t):=by
 rw[List.set_append_left _ _ (by rw[f6_];omega),o0_,i2_ _ _ (by rw[f6_];omega),f6_,f3_]
 simp
theorem by1 {l:aa_} (hl:Lk l) {S:Nat} (hS:l.2=(S:Int)):∀ (p n:Nat) (t:List Int),p≤4→n≤10000→ae_ (ρ:=((List Int)×Unit)) (λ(v4:(Int×(Int×((List Int)×Unit)))) =>
 (cond (decide (0≤v4.2.1))
 ((md v4.1 l.2).bind λv5 =>
 ((at? v4.2.2.1 v4.2.1).bind λv6 =>
 ((at? v4.2.2.1 v4.2.1).bind λv7 =>
 ((dv v4.1 l.2).bind λv8 =>
 (some (inl (v8,((w64 (v4.2.1 - 1)),((v4.2.2.1.set v4.2.1.toNat v5),())))))))))
 (some (inr (v4.2.2.1,()))))) ((n:Int),((p:Int) - 1,(List.replicate p 0++t,())))=some (dig S p n++t,()):=by
  have s1:=hl.s1;have s2:=hl.s2
  intro p
  induction p with
  | zero =>
    intro n t _ _
    refine kz_ ?_
    simp[dig]
  | succ p ih =>
    intro n t hp hn
    have hd:dv (n:Int) l.2=some ((n / S:Nat):Int):=by
      unfold dv
      have:n / S≤n:=Nat.div_le_self n S
      rw[hS,if_neg (by omega),show (n:Int).tdiv (S:Int)=((n / S:Nat):Int) from (Int.ofNat_tdiv ..).symm]
      generalize n / S=q at this
      rw[md_ (by omega) (by omega)]
    have hm:md (n:Int) l.2=some ((n % S:Nat):Int):=by
      rw[hS,ao8 (by omega),show (n:Int).tmod (S:Int)=((n % S:Nat):Int) from (Int.ofNat_tmod ..).symm]
    obtain⟨y,hy⟩:=bi_ (l:=List.replicate (p+1) (0:Int)++t) (i:=p) (by simp;omega)
    have e:((p+1:Nat):Int) - 1=((p:Nat):Int):=by omega
    refine (qt_ (s':=(((n / S:Nat):Int),((p:Int) - 1,(List.replicate p 0++(((n % S:Nat):Int)::t),())))) ?_).trans ?_
    · simp only[e,show decide (0≤(p:Int))=true from b4_ (by omega),a5_,hm,hd,ag_ hy,a0_,b7_,rep_set,md_ (n:=(p:Int) - 1) (by omega) (by omega)]
    · rw[ih (n / S) _ (by omega) (d9_ (Nat.div_le_self n S) hn)]
      simp[dig]
theorem bb1 {l:aa_} (hl:Lk l) {cl:List ab_} (hn:cl.length≤20) (hc:∀ c ∈ cl,ct_ l c=true):ls_ l cl=some (rdg l cl,()):=by
  have w1:=hl.w1;have w2:=hl.w2;have s1:=hl.s1;have s2:=hl.s2
  obtain⟨W,hW⟩:∃ W:Nat,l.1=(W:Int):=⟨l.1.toNat,by omega⟩
  obtain⟨S,hS⟩:∃ S:Nat,l.2=(S:Int):=⟨l.2.toNat,by omega⟩
  have hpow:S ^ W≤10000:=by have:=ao1 hl;rwa [hW,hS,b7_,b7_] at this
  have hSp:0<S:=by omega
  have hlen:=jp_ S W
  have e1:ae_ (ρ:=(Int×Unit)) (λ(v0:(Int×(Int×Unit))) =>
      (cond (decide (v0.2.1<l.1))
      (some (inl ((w64 (v0.1 * l.2)),((w64 (v0.2.1+1)),()))))
      (some (inr (v0.1,()))))) (1,(0,()))=some (((S ^ W:Nat):Int),()):=by
    obtain⟨t,rfl,h2⟩:=le_ (List.range W) (λi t x=>t * S) (λi (t:Nat)=>((t:Int),((i:Int),()))) (λt=>((t:Int),())) 1 (λi t=>t=S ^ i) (body:=λ(v0:(Int×(Int×Unit))) =>
      (cond (decide (v0.2.1<l.1))
      (some (inl ((w64 (v0.1 * l.2)),((w64 (v0.2.1+1)),()))))
      (some (inr (v0.1,()))))) rfl (λi x t hi ht=>by
      have hi2:=an_ hi
      rw[g6_] at hi2
      have:S ^ (i+1)≤10000:=d9_ (Nat.pow_le_pow_right hSp (by omega)) hpow
      refine⟨?_,by rw[ht,i1_]⟩
      simp only[show decide ((i:Int)<l.1)=true from b4_ (by omega),a5_,br_ (show Sm i by unfold Sm;omega)]
      rw[hS,← Int.natCast_mul,ht,show S ^ i * S=S ^ (i+1) from (i1_ ..).symm,md_ (by omega) (by omega)]) (λt _=>by
      rw[g6_]
      simp only[show decide ((W:Int)<l.1)=false from c1_ (by omega),a4_])
    rw[g6_] at h2
    exact h2
  unfold ls_
  refine (congrArg (λo=>Option.bind o _) e1).trans ?_
  rw[a0_]
  obtain⟨t,h1,h2⟩:=le_ (dh_ S W) (λj t c=>cond (cl.all (tr · c)) (t++[c]) t) (λj (t:List (List Int))=>(t,((j:Int),()))) (λt=>(t,())) [] (λj t=>t=((dh_ S W).take j).filter λc=>cl.all (tr · c)) (body:=λ(v2:((List (List Int))×(Int×Unit))) =>
 (cond (decide (v2.2.1<((S ^ W:Nat):Int)))
 ((((mk? (α:=Int) l.1 0).bind λv3 =>
 ((ae_ (ρ:=((List Int)×Unit)) (λ(v4:(Int×(Int×((List Int)×Unit)))) =>
 (cond (decide (0≤v4.2.1))
 ((md v4.1 l.2).bind λv5 =>
 ((at? v4.2.2.1 v4.2.1).bind λv6 =>
 ((at? v4.2.2.1 v4.2.1).bind λv7 =>
 ((dv v4.1 l.2).bind λv8 =>
 (some (inl (v8,((w64 (v4.2.1 - 1)),((v4.2.2.1.set v4.2.1.toNat v5),())))))))))
 (some (inr (v4.2.2.1,()))))) (v2.2.1,((w64 (l.1 - 1)),(v3,())))).bind λv9 =>
 ((ji_ cl v9.1).bind λv10 =>
 (cond (decide (v10.1<0))
 ((push? (α:=(List Int)) v2.1 [v9.1]).bind λv11 =>
 (some (v11,())))
 (some (v2.1,()))))))).bind λv12 =>
 (some (inl (v12.1,((w64 (v2.2.1+1)),())))))
 (some (inr (v2.1,()))))) rfl (λj c t hj ht=>by
    have hj2:=an_ hj
    rw[hlen] at hj2
    have hg:=on_ hSp W j hj2
    rw[hj] at hg
    obtain rfl:=a7_ hg
    have hok:co_ l (dig S W j)=true:=(tl_ hl (c:=dig S W j)).1 (by rw[hW,hS,b7_,b7_];exact b3_ hj)
    obtain⟨r,r1,r2⟩:=ai8 hl hn hc hok
    have hdig:=by1 hl hS W j [] (by omega) (by omega)
    rw[d6_,d6_] at hdig
    have hb:=i3_ (λc=>cl.all (tr · c)) ((dh_ S W).take j)
    rw[c4_] at hb
    refine⟨?_,?_⟩
    · simp only[show decide ((j:Int)<((S ^ W:Nat):Int))=true from b4_ (by omega),a5_,ow_ (show 0≤l.1 by omega) (show l.1≤2147483648 by omega),a0_,hl.ww,show l.1.toNat=W by omega,br_ (show Sm j by unfold Sm;omega)]
      rw[show l.1 - 1=(W:Int) - 1 by omega]
      have:∀ (K:(List Int×Unit)→Option ((List (List Int)×(Int×Unit))⊕(List (List Int)×Unit))),Option.bind (some (dig S W j,())) K=K (dig S W j,()):=λK=>rfl
      rw[hdig,a0_,r1,a0_,r2]
      cases hp:cl.all (tr · (dig S W j)) with
      | false=>rfl
      | true =>
        rw[a5_,yg_ (by rw[ht];simp only[l8_];omega)]
        rfl
    · rw[ht,f4_,hj,m8_]
      cases hp:cl.all (tr · (dig S W j))<;>simp[hp]) (λt _=>by
    rw[hlen]
    simp only[dnl,a4_])
  refine (congrArg (λo=>Option.bind o _) h2).trans ?_
  rw[a0_,h1,d4_]
  unfold rdg
  rw[hW,hS,b7_,b7_]
end
section
theorem ax2 {σ ρ:Type} {body:σ→Option (σ⊕ρ)} (F:Nat→σ) {n:Nat} {r:ρ} (h:∀ j,j<n→body (F j)=some (.inl (F (j+1)))) (e:body (F n)=some (.inr r)):ae_ body (F 0)=some r:=by
 have:=ky_ (body:=body) (λj s=>s=F j) (λx=>x=r) n 0 (F 0) rfl (λj s _ hj q=>by subst q;exact .inl ⟨_,h j (by omega),rfl⟩) (λs q=>by subst q;rw[a8_];exact⟨_,e,rfl⟩)
 obtain⟨x,h1,rfl⟩:=this
 exact h1
theorem br5 {p:List Int} {x y:Int} {t:List Int}:(p++x::t).set p.length y=p++y::t:=by
 rw[i2_ _ _ (b9_ _),f3_]
 rfl
theorem bw8 {p:List Int} {x:Int} {t:List Int}:at? (p++x::t) ((p.length:Nat):Int)=some x:=by
 rw[at?_nat,b5_ (b9_ _),f3_]
 rfl
def odoB (l:aa_):(Int×(List Int×Unit))→Option ((Int×(List Int×Unit))⊕(Int×(List Int×Unit))):=(λ(v3:(Int×((List Int)×Unit))) =>
 (((cond (decide (0≤v3.1))
 ((at? v3.2.1 v3.1).bind λv4 =>
 ((at? v3.2.1 v3.1).bind λv5 =>
 (some ((v5==(w64 (l.2 - 1))),()))))
 (some (false,())))).bind λv6 =>
 (cond v6.1
 ((at? v3.2.1 v3.1).bind λv7 =>
 ((at? v3.2.1 v3.1).bind λv8 =>
 (some (inl ((w64 (v3.1 - 1)),((v3.2.1.set v3.1.toNat 0),()))))))
 (some (inr (v3.1,(v3.2.1,())))))))
theorem odo {l:aa_} (hl:Lk l) {S:Nat} (hS:l.2=(S:Int)):∀ (W j k:Nat),W≤4→∃ (i:Int) (c:List Int),
  ae_ (odoB l) ((W:Int) - 1,(dig S W j++List.replicate k 0,()))=some (i,(c,())) ∧
  (j+1=S ^ W→i<0)∧(j+1<S ^ W→0≤i∧∃ x,at? c i=some x∧c.set i.toNat (w64 (x+1))=dig S W (j+1)++List.replicate k 0):=by
 have s1:=hl.s1;have s2:=hl.s2
 intro W
 induction W with
 | zero =>
  intro j k _
  refine⟨_,_,kz_ (r:=((0:Int) - 1,(dig S 0 j++List.replicate k 0,()))) rfl,λ_=>by omega,λh => ?_⟩
  simp at h
 | succ W ih =>
  intro j k hW
  have hd:dig S (W+1) j++List.replicate k 0=dig S W (j / S)++((j % S:Nat):Int)::List.replicate k 0:=by rw[dig,b0_];rfl
  have hlen:=bj7 S W (j / S)
  have hg:at? (dig S W (j / S)++((j % S:Nat):Int)::List.replicate k 0) ((W:Nat):Int)=some ((j % S:Nat):Int):=by
   have:=bw8 (p:=dig S W (j / S)) (x:=((j % S:Nat):Int)) (t:=List.replicate k 0)
   rwa [hlen] at this
  have hse:∀ y:Int,(dig S W (j / S)++((j % S:Nat):Int)::List.replicate k 0).set W y=dig S W (j / S)++y::List.replicate k 0:=λy=>by
   have:=br5 (p:=dig S W (j / S)) (x:=((j % S:Nat):Int)) (y:=y) (t:=List.replicate k 0)
   rwa [hlen] at this
  have hmod:j % S<S:=Nat.mod_lt _ (by omega)
  have hdm:=Nat.div_add_mod j S
  have hpos:decide (0≤(W:Int))=true:=b4_ (by omega)
  rw[hd,show ((W+1:Nat):Int) - 1=(W:Int) by omega]
  by_cases h9:j % S=S - 1
  ·obtain⟨i,c,e1,e2,e3⟩:=ih (j / S) (k+1) (by omega)
   have hj1:j+1=S * (j / S+1):=by rw[Nat.mul_add,Nat.mul_one];omega
   have hb:(((j % S:Nat):Int)==w64 (l.2 - 1))=true:=by rw[hl.ws,hS];simp;omega
   refine⟨i,c,?_,λh=>e2 ?_,λh => ?_⟩
   ·rw[← e1]
    refine qt_ ?_
    unfold odoB
    simp only[hpos,a5_,hg,a0_,hb,b7_,hse,md_ (n:=(W:Int) - 1) (by omega) (by omega)]
    rfl
   ·rw[i1_,h7_] at h
    rw[hj1] at h
    exact Nat.eq_of_mul_eq_mul_left (by omega) h
   ·have:j / S+1<S ^ W:=by
     rw[i1_,h7_,hj1] at h
     exact Nat.lt_of_mul_lt_mul_left h
    obtain⟨f1,x,f2,f3⟩:=e3 this
    refine⟨f1,x,f2,?_⟩
    rw[f3,dig,hj1,Nat.mul_div_cancel_left _ (by omega),Nat.mul_mod_right,b0_]
    rfl
  ·have hb:(((j % S:Nat):Int)==w64 (l.2 - 1))=false:=by rw[hl.ws,hS];simp;omega
   refine⟨_,_,kz_ (r:=((W:Int),(dig S W (j / S)++((j % S:Nat):Int)::List.replicate k 0,()))) (by
    unfold odoB
    simp only[hpos,a5_,hg,a0_,hb,a4_]),λh => ?_,λh=>⟨by omega,_,hg,?_⟩⟩
   ·exfalso
    have:(j+1) % S=0:=by rw[h,i1_];exact Nat.mul_mod_left _ _
    have h2:(j+1) % S=j % S+1:=by rw[Nat.add_mod,k8_ (show 1<S by omega),k8_ (by omega)]
    omega
   ·simp only[b7_]
    rw[hse,md_ (by omega) (by omega),dig,b0_]
    have h2:(j+1) % S=j % S+1:=by rw[Nat.add_mod,k8_ (show 1<S by omega),k8_ (by omega)]
    have h3:(j+1) / S=j / S:=by
     refine Nat.div_eq_of_lt_le ?_ ?_
     ·rw[h7_];omega
     ·rw[h7_,Nat.mul_add];omega
    rw[h2,h3]
    simp
theorem ar4 (S:Nat):∀ W,List.replicate W (0:Int)=dig S W 0
 | 0=>rfl
 | W+1=>by rw[dig,Nat.zero_div,Nat.zero_mod,← ar4 S W,o0_];rfl
noncomputable def bd7 (l:aa_) (n:Int) (c:List Int):Option ((Unit×(Unit×((List Int)×((Int×Unit)×Unit))))⊕((Unit×(Unit×((List Int)×((Int×Unit)×Unit))))⊕(Int×Unit))) :=
 ((ae_ (odoB l) ((w64 (l.1 - 1)),(c,()))).bind λv9 =>
 (cond (decide (v9.1<0))
 (some (inr (inr (n,()))))
 ((at? v9.2.1 v9.1).bind λv10 =>
 ((at? v9.2.1 v9.1).bind λv11 =>
 ((at? v9.2.1 v9.1).bind λv12 =>
 ((at? v9.2.1 v9.1).bind λv13 =>
 (some (inl ((),((),((v9.2.1.set v9.1.toNat (w64 (v11+1))),((n,()),()))))))))))))
noncomputable def cntX (a0:aa_) (a1:List ab_):Option (Int×Unit) :=
 ((mk? (α:=Int) a0.1 0).bind λv0 =>
 ((ae_ (ρ:=((Unit×(Unit×((List Int)×((Int×Unit)×Unit))))⊕(Int×Unit))) (λ(v1:(Unit×(Unit×((List Int)×((Int×Unit)×Unit))))) =>
 ((cy_ a1 v1.2.2.1).bind λv2 =>
 (cond (decide (v2.1<0)) (bd7 a0 (w64 (v1.2.2.2.1.1+1)) v1.2.2.1) (bd7 a0 v1.2.2.2.1.1 v1.2.2.1)))) ((),((),(v0,((0,()),()))))).bind λv25 =>
 (cc_ v25 (λv26=>(some (v26.2.2.2.1.1,())))
 (λv27=>(some v27)))))
theorem cntX_eq:cw_=cntX:=by kernel_rfl
theorem av3 {l:aa_} (hl:Lk l) {cl:List ab_} (hn:cl.length≤20) (hc:∀ c ∈ cl,ct_ l c=true):cw_ l cl=some (((rdg l cl).length:Int),()):=by
  have w1:=hl.w1;have w2:=hl.w2;have s1:=hl.s1;have s2:=hl.s2
  obtain⟨W,hW⟩:∃ W:Nat,l.1=(W:Int):=⟨l.1.toNat,by omega⟩
  obtain⟨S,hS⟩:∃ S:Nat,l.2=(S:Int):=⟨l.2.toNat,by omega⟩
  have hpow:S ^ W≤10000:=by have:=ao1 hl;rwa [hW,hS,b7_,b7_] at this
  have hSp:0<S:=by omega
  have hN:0<S ^ W:=Nat.pow_pos hSp
  have hlen:=jp_ S W
  have hok:∀ j,j<S ^ W→co_ l (dig S W j)=true:=λj hj=>(tl_ hl).1 (by rw[hW,hS,b7_,b7_];exact b3_ (on_ hSp W j hj))
  let cn:Nat→Nat:=λj=>(((dh_ S W).take j).filter λc=>cl.all (tr · c)).length
  have hcn:∀ j,j<S ^ W→cn j≤j∧cn (j+1)=cond (cl.all (tr · (dig S W j))) (cn j+1) (cn j):=by
    intro j hj
    constructor
    · have hb:=i3_ (λc=>cl.all (tr · c)) ((dh_ S W).take j)
      rw[c4_] at hb
      exact d9_ hb (Nat.min_le_left _ _)
    · show (((dh_ S W).take (j+1)).filter _).length=_
      rw[f4_,on_ hSp W j hj,m8_,c5_]
      cases hp:cl.all (tr · (dig S W j))<;>simp[hp,cn]
  have step:∀ j,j<S ^ W→∀ m:Int,(j+1<S ^ W→bd7 l m (dig S W j)=some (inl ((),((),(dig S W (j+1),((m,()),()))))))∧(j+1=S ^ W→bd7 l m (dig S W j)=some (inr (inr (m,())))):=by
    intro j hj m
    obtain⟨i,c,o1,o2,o3⟩:=odo hl hS W j 0 (by omega)
    simp only[m2_,d6_] at o1 o3
    rw[← hW,← hl.ww] at o1
    constructor
    · intro h
      obtain⟨p1,x,p2,p3⟩:=o3 h
      unfold bd7
      rw[o1,a0_]
      simp only[show decide (i<0)=false from c1_ (by omega),a4_,p2,a0_,p3]
    · intro h
      unfold bd7
      rw[o1,a0_]
      simp only[show decide (i<0)=true from b4_ (o2 h),a5_]
  have body:∀ j,j<S ^ W→(((cy_ cl (dig S W j)).bind λv2=>(cond (decide (v2.1<0)) (bd7 l (w64 ((cn j:Int)+1)) (dig S W j)) (bd7 l (cn j) (dig S W j)))))=bd7 l ((cn (j+1):Nat):Int) (dig S W j):=by
    intro j hj
    obtain⟨r,r1,r2⟩:=vh_ hl hn hc (hok j hj)
    obtain⟨q1,q2⟩:=hcn j hj
    rw[r1,a0_,r2,q2]
    cases cl.all (tr · (dig S W j)) with
    | false=>rfl
    | true=>rw[a5_,a5_,br_ (show Sm (cn j) by unfold Sm;omega)]
  rw[cntX_eq]
  unfold cntX
  rw[ow_ (by omega) (by omega),a0_,show l.1.toNat=W by omega,ar4 S W]
  have hw:=ax2 (n:=S ^ W - 1) (F:=λj=>((),((),(dig S W j,(((cn j:Int),()),()))))) (r:=inr ((cn (S ^ W):Int),())) (body:=λ(v1:(Unit×(Unit×((List Int)×((Int×Unit)×Unit))))) =>
 ((cy_ cl v1.2.2.1).bind λv2 =>
 (cond (decide (v2.1<0)) (bd7 l (w64 (v1.2.2.2.1.1+1)) v1.2.2.1) (bd7 l v1.2.2.2.1.1 v1.2.2.1)))) (λj hj=>(body j (by omega)).trans ((step j (by omega) _).1 (by omega))) ((body (S ^ W - 1) (by omega)).trans (by
    rw[show S ^ W - 1+1=S ^ W by omega]
    exact (step (S ^ W - 1) (by omega) _).2 (by omega)))
  refine (congrArg (λo=>Option.bind o _) (show ae_ _ _=_ from hw)).trans ?_
  have e:cn (S ^ W)=(rdg l cl).length:=by
    show (((dh_ S W).take (S ^ W)).filter _).length=_
    rw[← hlen,d4_]
    unfold rdg
    rw[hW,hS,b7_,b7_]
  rw[a0_,← e]
  rfl
theorem li_ {l:aa_} (hl:Lk l) {cl:List ab_} (hn:cl.length≤20) (hc:∀ c ∈ cl,ct_ l c=true):ci_ l cl=some (0,()):=by
  unfold ci_
  rw[kj_,kp_.2 hl,if_pos rfl,a0_]
  have:=ng_ (l:=cl) (by unfold Sm;omega) (λc=>!(ct_ l c)) (body:=λ(v1:(Int×Unit)) =>
 (cond (decide (v1.1<(cl.length:Int)))
 ((at? cl v1.1).bind λv2 =>
 ((cg_ l v2).bind λv3 =>
 (cond (!v3.1)
 (some (inr (inr ((decide (0≤v1.1)),()))))
 (some (inl ((w64 (v1.1+1)),()))))))
 (some (inr (inl ()))))) (λi y hy=>by
    simp only[dlt (an_ hy),a5_,ag_ hy,a0_,nf_ hl]
    cases ct_ l y<;>rfl) (by simp only[dnl,a4_])
  have ha:(cl.any λc=>!(ct_ l c))=false:=by
    rw[List.any_eq_false]
    intro c h
    simp[hc c h]
  rw[ha] at this
  simp only[show decide ((20:Int)<(cl.length:Int))=false from c1_ (by omega),e8_,a4_,this,a0_]
theorem sh_ {l:aa_} (hl:Lk l) {cl:List ab_} (hn:cl.length≤20) (hc:∀ c ∈ cl,ct_ l c=true):az_ l cl=some (((rdg l cl).length:Int),(0,())):=by
 unfold az_
 rw[li_ hl hn hc,a0_]
 simp only[e8_,a4_,av3 hl hn hc,a0_]
theorem sg_ {l:aa_} (hl:Lk l) (c:ab_) {k:List Int} (hk:co_ l k=true):ec_ l c k=some (cond (ct_ l c) (tr c k) false,(cond (ct_ l c) 0 11,())):=by
 unfold ec_
 rw[sq_ hl,a0_]
 cases hc:ct_ l c with
 | false=>rfl
 | true =>
  simp only[a5_,e8_,a4_]
  rw[ga_,kp_.2 hl,if_pos rfl,hk,if_pos rfl,a0_]
  simp only[e8_,a4_,(ok_ hl hc hk).2,a0_]
end
section
def clOk (l:aa_) (c:ab_) (k:List Int):Bool:=ct_ l c&&tr c k
end
section
set_option maxRecDepth 10000
def zeroB (c:ab_):Bool:=c.1==0&&(c.2.1==0&&(c.2.2.1==0&&(c.2.2.2.1==0&&(c.2.2.2.2.1==0&&(((c.2.2.2.2.2.1.length:Int)==0)&&!c.2.2.2.2.2.2)))))
theorem bc3 (c:ab_):lt_ c=some (zeroB c,()):=by
 unfold lt_ zeroB
 cases c.1==0 with
 | false=>rfl
 | true =>
 cases c.2.1==0 with
 | false=>rfl
 | true =>
 cases c.2.2.1==0 with
 | false=>rfl
 | true =>
 cases c.2.2.2.1==0 with
 | false=>rfl
 | true =>
 cases c.2.2.2.2.1==0 with
 | false=>rfl
 | true=>cases (c.2.2.2.2.2.1.length:Int)==0<;>rfl
def twNt (g:ac_) (i:Nat) (n:dd_):Bool:=(g.2.2.2.1.take i).any λy=>y.1==n.1
def cdOk (g:ac_) (i:Nat) (l:aa_):Bool:=match g.2.2.1[i]? with
 | some k=>co_ l k
 | none=>false
noncomputable def cc0 (g:ac_) (i:Nat) (n:dd_):Bool:=okN n.1&&(!(twNt g i n)&&(wi n.2.1 0 (w64 ((g.1.1.length:Int) - 1))&&(wi n.2.2.1 (-1) (w64 ((g.2.1.length:Int) - 1))&&(cond (decide (n.2.2.1<0)) (zeroB n.2.2.2.2) (match at? g.2.1 n.2.2.1,at? g.2.2.1 n.2.2.1 with
 | some l,some k=>clOk l n.2.2.2.2 k
 | _,_=>false)))))
def LkAll (g:ac_):Prop:=∀ (i:Nat) l,g.2.1[i]?=some l→Lk l∧∃ k,g.2.2.1[i]?=some k∧co_ l k=true
theorem LkAll.at {g:ac_} (hg:SmG g) (h:LkAll g) {i:Int} (h0:¬ i<0) (hw:wi i (-1) (w64 ((g.2.1.length:Int) - 1))=true):∃ l k,at? g.2.1 i=some l∧at? g.2.2.1 i=some k∧Lk l∧co_ l k=true:=by
 have hlk:=hg.lk
 rw[ic_ (by omega) (by omega)] at hw
 have hw:=cm_.1 hw
 obtain⟨l,hl⟩:=bi_ (l:=g.2.1) (i:=i.toNat) (by omega)
 obtain⟨h1,k,hk,h2⟩:=h _ l hl
 have hi:i=((i.toNat:Nat):Int):=by omega
 exact⟨l,k,by rw[hi];exact ag_ hl,by rw[hi];exact ag_ hk,h1,h2⟩
theorem au9 {g:ac_} (hg:SmG g) (hL:LkAll g) {i:Nat} {n:dd_} (hn:g.2.2.2.1[i]?=some n):ke_ g (i:Int) n=some (cc0 g i n,()):=by
 have hi:=an_ hn
 have hs:=hg.nt
 have hnm:=(hg.ntn n (cl_ hn)).1
 have ht:Sm (g.2.2.2.1.take i).length:=by rw[c4_];show _≤1000000000;omega
 unfold ke_
 rw[nw_ (g8_ hi),a0_]
 refine e6_ (congrArg (λo=>Option.bind o _) (ng_ ht (λy=>y.1==n.1) (λk y hy => ?_) ?_)) ?_
 ·simp only[dlt (an_ hy),a5_,ag_ hy,a0_]
  cases y.1==n.1<;>rfl
 ·simp only[dnl,a4_]
 rw[a0_]
 simp only[bc4 (show Sm n.1.length by show _≤1000000000;omega),hn_,a0_]
 unfold cc0 okN twNt
 cases okW n.1 with
 | false=>simp only[l7_,e1_];rfl
 | true =>
 by_cases h12:(n.1.length:Int)≤12
 ·rw[b4_ h12,c1_ (by omega:¬ 12<(n.1.length:Int))]
  cases (g.2.2.2.1.take i).any λy=>y.1==n.1 with
  | true=>rfl
  | false =>
  cases wi n.2.1 0 (w64 ((g.1.1.length:Int) - 1)) with
  | false=>rfl
  | true =>
  cases hw:wi n.2.2.1 (-1) (w64 ((g.2.1.length:Int) - 1)) with
  | false=>rfl
  | true =>
  cases hz:decide (n.2.2.1<0) with
  | true=>simp only[bc3];rfl
  | false =>
  obtain⟨l,k,e1,e2,h1,h2⟩:=hL.at hg (d1_ hz) hw
  simp only[e1,e2,e3_,k7_,a4_,a0_,sg_ h1 _ h2,c6_]
  unfold clOk
  cases ct_ l n.2.2.2.2<;>rfl
 ·rw[c1_ h12,b4_ (by omega:12<(n.1.length:Int))]
  rfl
noncomputable def di_ (g:ac_):Int :=
  cond (ei_ g.1 != 0) (ei_ g.1) (cond (decide (8<(g.2.1.length:Int))||decide (16<(g.2.2.2.1.length:Int))) 2
   ((gs_ (λ_ l=>pn_ (okL l) 10) 0 g.2.1).getD
    (cond ((g.2.2.1.length:Int) != (g.2.1.length:Int)) 12
     ((gs_ (λi l=>pn_ (cdOk g i l) 12) 0 g.2.1).getD
      ((gs_ (λ_ (a:fh_)=>pn_ (!(decide ((g.2.1.length:Int)≤a.2.2.1))) 26) 0 g.1.2.2.2.2.1).getD
       ((gs_ (λi n=>zw_ (cc0 g i n) 40 (cOk g.1.2.1 n.2.2.2.1) 25) 0 g.2.2.2.1).getD
        (cond (wi g.2.2.2.2 1 100) 0 1)))))))
theorem tn_ {o:Option Int} {K:Unit→Option (Int×Unit)} {k:Int} (h:o=none→K ()=some (k,())):cc_ (left o) K (λy=>some y)=some (o.getD k,()):=by
 cases o with
 | none=>exact h rfl
 | some e=>rfl
theorem cc2 {g:ac_} (h1:gs_ (λ_ l=>pn_ (okL l) 10) 0 g.2.1=none) (h2:gs_ (λi l=>pn_ (cdOk g i l) 12) 0 g.2.1=none):LkAll g:=by
 intro i l hl
 refine⟨kp_.1 (ha_ (ck_ h1 hl)),?_⟩
 have:=ha_ (ck_ h2 hl)
 unfold cdOk at this
 cases hk:g.2.2.1[i]? with
 | none=>rw[hk] at this;cases this
 | some k=>rw[hk] at this;exact⟨k,rfl,this⟩
theorem mn_of (g:ac_):(cond (decide (8<(g.2.1.length:Int))) (some (true,())) (some ((decide (16<(g.2.2.2.1.length:Int))),())))=some (decide (8<(g.2.1.length:Int))||decide (16<(g.2.2.2.1.length:Int)),()):=by
 cases decide (8<(g.2.1.length:Int))<;>rfl
theorem wm_ {g:ac_} (hg:SmG g):gn_ g=some (di_ g,()):=by
 have hlk:=hg.lk
 have hac:=hg.ac
 have hnt:=hg.nt
 unfold gn_ di_
 rw[qz_ hg.room,a0_]
 cases hr:ei_ g.1 != 0 with
 | true=>rfl
 | false =>
 simp only[a4_]
 refine e6_ (congrArg (λo=>Option.bind o _) (mn_of g)) ?_
 rw[a0_]
 cases hm:(decide (8<(g.2.1.length:Int))||decide (16<(g.2.2.2.1.length:Int))) with
 | true=>rfl
 | false =>
 simp only[a4_]
 refine dv_ g.2.1 (λ_ l=>pn_ (okL l) 10) (λi y hy => ?_) ?_ (tn_ λhA => ?_)
 ·have hi:=an_ hy
  simp only[dlt hi,a5_,ag_ hy,a0_,br_ (show Sm i by show _≤1000000000;omega),kj_]
  unfold pn_
  cases okL y<;>rfl
 ·simp only[dnl,a4_]
 cases hcl:((g.2.2.1.length:Int) != (g.2.1.length:Int)) with
 | true=>rfl
 | false =>
 have hcl:(g.2.2.1.length:Int)=(g.2.1.length:Int):=by simpa using hcl
 simp only[a4_]
 refine dv_ g.2.1 (λi l=>pn_ (cdOk g i l) 12) (λi y hy => ?_) ?_ (tn_ λhB => ?_)
 ·have hi:=an_ hy
  obtain⟨k,hk⟩:=bi_ (l:=g.2.2.1) (i:=i) (by omega)
  have hy1:=ha_ (ck_ hA hy)
  simp only[dlt hi,a5_,ag_ hy,ag_ hk,a0_,br_ (show Sm i by show _≤1000000000;omega),ga_,hy1]
  unfold pn_ cdOk
  rw[hk]
  simp only
  cases co_ y k<;>rfl
 ·simp only[dnl,a4_]
 refine dv_ g.1.2.2.2.2.1 (λ_ (a:fh_)=>pn_ (!(decide ((g.2.1.length:Int)≤a.2.2.1))) 26) (λi y hy => ?_) ?_ (tn_ λhC => ?_)
 ·have hi:=an_ hy
  simp only[dlt hi,a5_,ag_ hy,a0_,br_ (show Sm i by show _≤1000000000;omega)]
  unfold pn_
  cases decide ((g.2.1.length:Int)≤y.2.2.1)<;>rfl
 ·simp only[dnl,a4_]
 have hL:=cc2 hA hB
 refine dv_ g.2.2.2.1 (λi n=>zw_ (cc0 g i n) 40 (cOk g.1.2.1 n.2.2.2.1) 25) (λi y hy => ?_) ?_ (tn_ λhD => ?_)
 ·have hi:=an_ hy
  simp only[dlt hi,a5_,ag_ hy,a0_,br_ (show Sm i by show _≤1000000000;omega),au9 hg hL hy,au8 hg.room.th]
  unfold zw_
  cases cc0 g i y with
  | false=>rfl
  | true=>cases cOk g.1.2.1 y.2.2.2.1<;>rfl
 ·simp only[dnl,a4_]
 rw[hn_,a0_]
 cases wi g.2.2.2.2 1 100<;>rfl
structure OkG (g:ac_):Prop where
 room:ei_ g.1=0
 n8:g.2.1.length≤8
 n16:g.2.2.2.1.length≤16
 lk:LkAll g
 cd:g.2.2.1.length=g.2.1.length
 ac:∀ (i:Nat) (a:fh_),g.1.2.2.2.2.1[i]?=some a→a.2.2.1<(g.2.1.length:Int)
 nt:∀ (i:Nat) n,g.2.2.2.1[i]?=some n→cc0 g i n=true∧cOk g.1.2.1 n.2.2.2.1=true
 tr:wi g.2.2.2.2 1 100=true
theorem ej_ {g:ac_} (h:di_ g=0):OkG g:=by
 unfold di_ at h
 cases hr:ei_ g.1 != 0 with
 | true =>
  rw[hr] at h
  rw[n1_] at hr
  exact absurd h hr
 | false =>
 rw[hr,a4_] at h
 cases hm:(decide (8<(g.2.1.length:Int))||decide (16<(g.2.2.2.1.length:Int))) with
 | true=>rw[hm] at h;exact absurd (show (2:Int)=0 from h) (by decide)
 | false =>
 rw[hm,a4_] at h
 rw[b8_] at hm
 have m1:=d1_ hm.1
 have m2:=d1_ hm.2
 obtain⟨hA,h⟩:=dt_ h (gt_ (λi x=>nb_ (by decide)) _ _)
 cases hcl:((g.2.2.1.length:Int) != (g.2.1.length:Int)) with
 | true=>rw[hcl] at h;exact absurd (show (12:Int)=0 from h) (by decide)
 | false =>
 rw[hcl,a4_] at h
 have hcl:(g.2.2.1.length:Int)=(g.2.1.length:Int):=by simpa using hcl
 obtain⟨hB,h⟩:=dt_ h (gt_ (λi x=>nb_ (by decide)) _ _)
 obtain⟨hC,h⟩:=dt_ h (gt_ (λi x=>nb_ (by decide)) _ _)
 obtain⟨hD,h⟩:=dt_ h (gt_ (λi x=>vd_ (by decide) (by decide)) _ _)
 refine⟨by simpa using hr,by omega,by omega,cc2 hA hB,by omega,λi a ha => ?_,λi n hn=>na_ (ck_ hD hn),?_⟩
 ·have:=ha_ (ck_ hC ha)
  simpa using this
 ·cases hw:wi g.2.2.2.2 1 100 with
  | true=>rfl
  | false=>rw[hw] at h;exact absurd (show (1:Int)=0 from h) (by decide)
end
section
set_option maxRecDepth 10000
theorem hm_ {σ ρ:Type} {body:σ→Option (σ⊕ρ)} {s t:σ} {r:ρ} (h:body s=some (.inl t)) (e:ae_ body t=some r):ae_ body s=some r:=by
 obtain⟨k,hk⟩:=gh_.1 e
 exact nr_ (k:=k+1) (by rw[al1 h];exact hk)
theorem fj_ {σ ρ:Type} {body:σ→Option (σ⊕ρ)} {s:σ} {r:ρ} (h:body s=some (.inr r)):ae_ body s=some r:=nr_ (k:=1) (ti_ h)
theorem bm3 {α τ σ ρ υ:Type} (l:List α) (f:Nat→τ→α→τ) (F:Nat→τ→σ) (R:τ→ρ) (t0:τ) {body:σ→Option (σ⊕ρ)} (I:Nat→τ→Prop) {K:ρ→Option υ} {x:Option υ} (h0:I 0 t0)
  (h:∀ i x t,l[i]?=some x→I i t→body (F i t)=some (.inl (F (i+1) (f i t x)))∧I (i+1) (f i t x)) (e:∀ t,I l.length t→body (F l.length t)=some (.inr (R t))) (hk:∀ t,I l.length t→K (R t)=x) :
  (ae_ body (F 0 t0)).bind K=x:=by
 obtain⟨t,h1,h2⟩:=le_ l f F R t0 I h0 h e
 rw[h2,a0_]
 exact hk t h1
theorem bn0 {np:Nat} {l:List Int} (h:vo_ np l=true):∀ x ∈ l,0≤x∧x<(np:Int):=by
 intro x hx
 obtain⟨i,hi⟩:=f0_ hx
 rw[← asc_eq] at h
 have:=(xw_ l).1 h i x hi
 unfold badQ at this
 rw[b8_] at this
 have h1:wi x 0 ((np:Int) - 1)=true:=by simpa using this.1
 have:=cm_.1 h1
 omega
structure ActIn (r:ad_) (a:fh_):Prop where
 us:∀ p ∈ a.2.2.2.1,0≤p∧p<(r.2.2.1.length:Int)
 sp:∀ p ∈ a.2.2.2.2.2.2.1,0≤p∧p<(r.2.2.1.length:Int)
 br:∀ p ∈ a.2.2.2.2.2.2.2,0≤p∧p<(r.2.2.1.length:Int)
 st:∀ x ∈ a.2.2.2.2.2.1,sy_ r.2.1 x.1 x.2=true
theorem bn8 {r:ad_} {i:Nat} {a:fh_} (h:af7 r i a=true):ActIn r a:=by
 unfold af7 at h
 simp only[a1_] at h
 obtain⟨_,_,_,h1,h2,h3,_,_,_,h4⟩:=h
 refine⟨bn0 h1,bn0 h2,bn0 h3,λx hx => ?_⟩
 obtain⟨j,hj⟩:=f0_ hx
 rw[Option.isNone_iff_eq_none] at h4
 have:=ck_ h4 hj
 cases hs:wf_ r a.2.2.2.2.2.1 j x with
 | false=>rw[hs] at this;cases this
 | true =>
  unfold wf_ at hs
  rw[a1_] at hs
  exact hs.1
theorem dz_ {α:Type} {l:List α} (hl:Sm l.length) (i:Int):(wi i 0 (w64 ((l.length:Int) - 1))=false∧at? l i=none)∨∃ (j:Nat) (x:α),i=(j:Int)∧l[j]?=some x∧wi i 0 (w64 ((l.length:Int) - 1))=true∧at? l i=some x:=by
 rw[ic_ (by omega) (by omega)]
 by_cases h:0≤i∧i<(l.length:Int)
 ·obtain⟨x,hx⟩:=bi_ (l:=l) (i:=i.toNat) (by omega)
  have hi:i=((i.toNat:Nat):Int):=by omega
  exact .inr ⟨i.toNat,x,hi,hx,cm_.2 (by omega),by rw[hi];exact ag_ hx⟩
 ·refine .inl ⟨?_,?_⟩
  ·cases hw:wi i 0 ((l.length:Int) - 1) with
   | false=>rfl
   | true=>have:=cm_.1 hw;omega
  ·unfold at?
   split
   ·exact c7_ (by omega)
   ·rfl
def sm_ (pr:List Int) (h:Int):Nat:=pr.countP (· == h)
theorem aq1 (pr:List Int) (h:Int):sm_ pr h≤pr.length:=m0_
theorem at8 {t:gr_} (h:Sm t.2.2.1.length) (p:Int):db_ t p=some ((sm_ t.2.2.1 (w64 ((-2) - p)):Int),()):=by
 unfold db_
 refine bm3 t.2.2.1 (λ_ (c:Nat) x=>cond (x==w64 ((-2) - p)) (c+1) c) (λi c=>((c:Int),((i:Int),()))) (λc=>((c:Int),())) 0 (λi c=>c=sm_ (t.2.2.1.take i) (w64 ((-2) - p))) rfl (λi x c hx hc => ?_) (λc hc => ?_) (λc hc => ?_)
 ·have hi:=an_ hx
  have hcl:c≤i:=by rw[hc];refine d9_ (aq1 _ _) ?_;rw[c4_];omega
  have hn:sm_ (t.2.2.1.take (i+1)) (w64 ((-2) - p))=cond (x==w64 ((-2) - p)) (c+1) c:=by
   unfold sm_
   rw[f4_,hx,hc,List.countP_append]
   unfold sm_
   cases hq:x==w64 ((-2) - p) with
   | true=>simp[hq]
   | false=>simp[hq]
  refine⟨?_,hn.symm⟩
  simp only[dlt hi,a5_,ag_ hx,a0_,br_ (show Sm i by omega)]
  cases hq:x==w64 ((-2) - p) with
  | true=>simp only[a5_,a0_,br_ (show Sm c by omega)]
  | false=>rfl
 ·simp only[dnl,a4_]
 ·rw[d4_] at hc
  rw[hc]
abbrev hdl (m:aj_):Int:=w64 ((-2) - m.1)
def lgl (r:ad_) (s:ak_) (m:aj_):Bool :=
  wi m.1 0 (w64 ((s.2.2.length:Int) - 1)) &&
  cond (m.2.1==1) ((at? r.2.2.2.1 m.2.2).elim false λw=>(w.1==gi s.2.2 m.1||w.2.1==gi s.2.2 m.1)&&lq_ s.1 w.2.2)
  (cond (m.2.1==2) ((at? r.2.2.1 m.2.2).elim false λx=>gi s.2.1 m.2.2==gi s.2.2 m.1&&(lq_ s.1 x.2.2&&decide ((sm_ s.2.1 (hdl m):Int)<3)))
  (cond (m.2.1==3) ((at? s.2.1 m.2.2).elim false λp=>p==hdl m)
  (cond (m.2.1==4) ((at? r.2.2.2.2.1 m.2.2).elim false λa=>a.2.1==gi s.2.2 m.1&&((a.2.2.2.1.all λp=>gi s.2.1 p==hdl m)&&(lq_ s.1 a.2.2.2.2.1&&((a.2.2.2.2.2.2.2.all λp=>gi s.2.1 p==-1)&&decide ((sm_ s.2.1 (hdl m):Int) - (a.2.2.2.2.2.2.1.length:Int)+(a.2.2.2.2.2.2.2.length:Int)≤3)))))
   false)))
theorem as9 {l t:List Int} (hl:Sm l.length) (hi:∀ p ∈ l,0≤p∧p<(t.length:Int)) (h:Int) :
    ((ae_ (ρ:=(Unit⊕(Bool×Unit))) (λ(v15:(Int×Unit)) =>
 (cond (decide (v15.1<(l.length:Int)))
 ((at? l v15.1).bind λv16 =>
 ((at? t v16).bind λv17 =>
 (cond (!(v17==h))
 (some (inr (inr ((decide (0≤v15.1)),()))))
 (some (inl ((w64 (v15.1+1)),()))))))
 (some (inr (inl ()))))) (0,())).bind λv18 =>
 (cc_ v18 (λv19=>(some ((decide ((0:Int)≤(-1))),())))
 (λv20=>(some v20))))=some (!(l.all λp=>gi t p==h),()):=by
  refine e6_ (ng_ hl (λp=>!(gi t p==h)) (λi y hy => ?_) ?_) ?_
  · have:=hi y (cl_ hy)
    simp only[dlt (an_ hy),a5_,ag_ hy,a0_,aw4 this.1 this.2]
    cases gi t y==h<;>rfl
  · simp only[dnl,a4_]
  · rw[← rs_,Bool.not_not]
theorem ty_ {r:ad_} (h:SmR r) (ok:OkR r) {s:ak_} (hv:VS r s) (m:aj_):cv_ (r,s) m=some (lgl r s m,()):=by
 obtain⟨m1,m2,m3⟩:=wc_ h ok hv
 have hl1:=hv.l1
 have hl2:=hv.l2
 have hH:∀ {c:List bx_},cOk r.2.1 c=true→av_ (r,s) c=some (lq_ s.1 c,()):=λ{c} hc=>by
  obtain⟨c1,c2⟩:=bl8 h.th hc
  exact pa_ (t:=(r,s)) (show c.length≤1000000000 by omega) (by show InC s.1.length c;rw[hl1];exact c1)
 have hD:db_ (r,s) m.1=some ((sm_ s.2.1 (hdl m):Int),()):=at8 (t:=(r,s)) m2 m.1
 have hDl:=aq1 s.2.1 (hdl m)
 unfold cv_ lgl
 simp only[dr_,a0_]
 rcases dz_ m3 m.1 with ⟨e1,_⟩ | ⟨pj,px,hpj,hp,e1,e2⟩
 ·rw[e1];rfl
 ·have eg:gi s.2.2 m.1=px:=bh1 e2
  simp only[e1,e2,eg,e3_,a4_,a0_,c6_]
  cases hk1:m.2.1==1 with
  | true =>
   simp only[a5_]
   rcases dz_ h.wy m.2.2 with ⟨f1,f2⟩ | ⟨j,w,hj,hw,f1,f2⟩
   ·simp only[f1,f2];rfl
   ·simp only[f1,f2,e3_,a4_,a0_,hH (ok.wy j w hw).2]
    show _=some ((w.1==px||w.2.1==px)&&lq_ s.1 w.2.2,())
    cases w.1==px with
    | true=>rfl
    | false=>cases w.2.1==px<;>rfl
  | false =>
  simp only[a4_]
  cases hk2:m.2.1==2 with
  | true =>
   simp only[a5_]
   rcases dz_ m2 m.2.2 with ⟨f1,f2⟩ | ⟨j,p,hj,hp,f1,f2⟩
   ·have f3:at? r.2.2.1 m.2.2=none:=by
     rcases dz_ h.pr m.2.2 with ⟨_,g2⟩ | ⟨j,x,hj,hx,g1,g2⟩
     ·exact g2
     ·rw[← hl2,f1] at g1;cases g1
    simp only[f1,f3,a4_];rfl
   ·obtain⟨x,hx⟩:=bi_ (l:=r.2.2.1) (i:=j) (by have:=an_ hp;omega)
    have f3:at? r.2.2.1 m.2.2=some x:=by rw[hj];exact ag_ hx
    have f4:gi s.2.1 m.2.2=p:=bh1 f2
    simp only[f1,f2,f3,f4,a5_,a0_,hH (ok.pr j x hx).2,hD]
    show _=some (p==px&&(lq_ s.1 x.2.2&&decide ((sm_ s.2.1 (hdl m):Int)<3)),())
    cases p==px with
    | false=>rfl
    | true=>cases lq_ s.1 x.2.2<;>rfl
  | false =>
  simp only[a4_]
  cases hk3:m.2.1==3 with
  | true =>
   simp only[a5_]
   rcases dz_ m2 m.2.2 with ⟨f1,f2⟩ | ⟨j,p,hj,hp,f1,f2⟩
   ·simp only[f1,f2];rfl
   ·simp only[f1,f2,a5_,a0_];rfl
  | false =>
  simp only[a4_]
  cases hk4:m.2.1==4 with
  | false=>rfl
  | true =>
   simp only[a5_]
   rcases dz_ h.ac m.2.2 with ⟨f1,f2⟩ | ⟨j,a,hj,ha,f1,f2⟩
   ·simp only[f1,f2];rfl
   ·obtain⟨oa,oc⟩:=ok.ac j a ha
    have ai:=bn8 oa
    obtain⟨s1,s2,s3,s4,s5,s6⟩:=h.acn a (cl_ ha)
    simp only[f1,f2,e3_,a4_,a0_]
    show _=some (a.2.1==px&&((a.2.2.2.1.all λp=>gi s.2.1 p==hdl m)&&(lq_ s.1 a.2.2.2.2.1&&((a.2.2.2.2.2.2.2.all λp=>gi s.2.1 p==-1)&&decide ((sm_ s.2.1 (hdl m):Int) - (a.2.2.2.2.2.2.1.length:Int)+(a.2.2.2.2.2.2.2.length:Int)≤3)))),())
    cases a.2.1==px with
    | false=>rfl
    | true =>
    simp only[a5_,c6_]
    refine e6_ (congrArg (λo=>Option.bind o _) (as9 s2 (λp hp=>by have:=ai.us p hp;omega) (hdl m))) ?_
    rw[a0_]
    cases a.2.2.2.1.all λp=>gi s.2.1 p==hdl m with
    | false=>rfl
    | true =>
    simp only[e3_,k7_,a5_,hH oc,a0_,c6_]
    cases lq_ s.1 a.2.2.2.2.1 with
    | false=>rfl
    | true =>
    simp only[a5_,c6_]
    refine e6_ (congrArg (λo=>Option.bind o _) (as9 s6 (λp hp=>by have:=ai.br p hp;omega) (-1))) ?_
    rw[a0_]
    cases a.2.2.2.2.2.2.2.all λp=>gi s.2.1 p==-1 with
    | false=>rfl
    | true =>
    simp only[e3_,k7_,a5_,hD,a0_,c6_]
    rw[ic_ (n:=(sm_ s.2.1 (hdl m):Int) - _) (by omega) (by omega),ic_ (by omega) (by omega)]
theorem xv_ {α:Type} (l:List α) (hl:Sm l.length) (ix vl:α→Int) (t:List Int) (hi:∀ x ∈ l,0≤ix x∧ix x<(t.length:Int)) {body:(Int×(List Int×Unit))→Option ((Int×(List Int×Unit))⊕(List Int×Unit))}
  (hb:∀ (i:Nat) (x:α) (t':List Int) (y:Int),l[i]?=some x→at? t' (ix x)=some y→body ((i:Int),(t',()))=some (.inl (w64 ((i:Int)+1),(t'.set (ix x).toNat (vl x),())))) (e:∀ t',body ((l.length:Int),(t',()))=some (.inr (t',()))) :
  ae_ body (0,(t,()))=some (l.foldl (λt x=>t.set (ix x).toNat (vl x)) t,()):=by
 obtain⟨z,⟨_,hz⟩,e⟩:=le_ l (λ_ t x=>t.set (ix x).toNat (vl x)) (λi t=>((i:Int),(t,()))) (λt=>(t,())) t (body:=body) (λi t'=>t'.length=t.length∧t'=(l.take i).foldl (λt x=>t.set (ix x).toNat (vl x)) t) ⟨rfl,rfl⟩ (λi x t' hx ht=>by
  obtain⟨h1,h2⟩:=ht
  have hil:=an_ hx
  have:=hi x (cl_ hx)
  refine⟨?_,by rw[f1_,h1],?_⟩
  ·rw[hb i x t' _ hx (aw4 this.1 (by omega)),br_ (show Sm i by omega)]
  ·rw[f4_,hx,l5_,← h2]
   rfl) (λt' _=>e t')
 rw[d4_] at hz
 rw[← hz]
 exact e
def mvP (r:ad_) (s:ak_) (m:aj_):ak_ :=
  cond (m.2.1==1) ((at? r.2.2.2.1 m.2.2).elim s λw=>(s.1,(s.2.1,s.2.2.set m.1.toNat (w.1+w.2.1 - gi s.2.2 m.1))))
  (cond (m.2.1==2) (s.1,(s.2.1.set m.2.2.toNat (hdl m),s.2.2))
  (cond (m.2.1==3) (s.1,(s.2.1.set m.2.2.toNat (gi s.2.2 m.1),s.2.2))
  (cond (m.2.1==4) ((at? r.2.2.2.2.1 m.2.2).elim s λa=>(a.2.2.2.2.2.1.foldl (λt x=>t.set x.1.toNat x.2) s.1,(a.2.2.2.2.2.2.2.foldl (λt p=>t.set p.toNat (hdl m)) (a.2.2.2.2.2.2.1.foldl (λt p=>t.set p.toNat (-1)) s.2.1),s.2.2)))
   s)))
theorem vs_ {α:Type} {l:List α} {P:α→Prop} (h:∀ (i:Nat) x,l[i]?=some x→P x) {j:Nat} {v:α} (hv:P v):∀ (i:Nat) x,(l.set j v)[i]?=some x→P x:=by
 intro i x hx
 rw[d2_] at hx
 split at hx
 ·split at hx
  ·obtain rfl:=a7_ hx
   exact hv
  ·cases hx
 ·exact h i x hx
theorem my_ {α τ:Type} {f:τ→α→τ} {P:τ→Prop}:∀ (l:List α) (t:τ),P t→(∀ t x,x ∈ l→P t→P (f t x))→P (l.foldl f t)
 | [],t,h,_=>h
 | x::l,t,h,hf=>my_ l (f t x) (hf t x (List.mem_cons_self ..) h) λt y hy=>hf t y (o2_ _ hy)
theorem xu_ {α:Type} (ix vl:α→Int) (l:List α) (t:List Int):(l.foldl (λt x=>t.set (ix x).toNat (vl x)) t).length=t.length :=
 my_ (P:=λt'=>t'.length=t.length) l t rfl λt' x _ h=>by rw[f1_,h]
theorem lp_ {r:ad_} (h:SmR r) {p:Int}:wt_ r p=true↔0≤p∧p<(r.1.length:Int):=by
 have:=h.pl
 unfold wt_
 rw[cm_,ic_ (by omega) (by omega)]
 omega
theorem al3 {r:ad_} (h:SmR r) (ok:OkR r) {p:Int}:inR r p=true↔(-2) - r.2.2.2.2.2.2.1<p∧p<(r.1.length:Int):=by
 have:=h.pl
 have hp:=cm_.1 ok.py
 unfold inR
 rw[cm_,ic_ (n:=(-2) - r.2.2.2.2.2.2.1) (by omega) (by omega),ic_ (by omega) (by omega),ic_ (by omega) (by omega)]
 omega
theorem pl_pos {r:ad_} (ok:OkR r):0<r.1.length:=by
 have hne:r.1.length≠0:=λe=>ok.ne (j2_.1 e)
 omega
theorem hdl_eq {r:ad_} (ok:OkR r) {s:ak_} (hv:VS r s) {m:aj_} {j:Nat} {x:Int} (hj:m.1=(j:Int)) (hx:s.2.2[j]?=some x):hdl m=(-2) - m.1∧m.1<r.2.2.2.2.2.2.1:=by
 have hp:=cm_.1 ok.py
 have:=an_ hx
 have:=hv.l3
 exact⟨ic_ (by omega) (by omega),by omega⟩
theorem cc3 {r:ad_} {s:ak_} {m:aj_} (m3:Sm s.2.2.length) (hl:lgl r s m=true):∃ (j:Nat) (x:Int),m.1=(j:Int)∧s.2.2[j]?=some x∧at? s.2.2 m.1=some x:=by
 unfold lgl at hl
 rw[a1_] at hl
 rcases dz_ m3 m.1 with ⟨e1,_⟩ | ⟨pj,px,hpj,hp,e1,e2⟩
 ·rw[e1] at hl;cases hl.1
 ·exact⟨pj,px,hpj,hp,e2⟩
theorem VS_mv {r:ad_} (h:SmR r) (ok:OkR r) {s:ak_} (hv:VS r s) {m:aj_} (hl:lgl r s m=true):VS r (mvP r s m):=by
 obtain⟨m1,m2,m3⟩:=wc_ h ok hv
 obtain⟨pj,px,hpj,hp,e2⟩:=cc3 m3 hl
 obtain⟨d1,d2⟩:=hdl_eq ok hv hpj hp
 have hpy:=cm_.1 ok.py
 have hpos:=pl_pos ok
 have hhd:inR r (hdl m)=true:=(al3 h ok).2 (by omega)
 have hm1:inR r (-1)=true:=(al3 h ok).2 (by omega)
 unfold lgl at hl
 rw[a1_] at hl
 have hl:=hl.2
 have eg:gi s.2.2 m.1=px:=bh1 e2
 have hpx:=hv.py _ _ hp
 unfold mvP
 cases hk1:m.2.1==1 with
 | true =>
  rw[hk1] at hl
  simp only[a5_] at hl ⊢
  cases hw:at? r.2.2.2.1 m.2.2 with
  | none=>exact hv
  | some w =>
   rw[hw] at hl
   have hl:((w.1==gi s.2.2 m.1||w.2.1==gi s.2.2 m.1)&&lq_ s.1 w.2.2)=true:=hl
   rw[a1_,c2_,k2_,k2_] at hl
   rcases dz_ h.wy m.2.2 with ⟨f1,f2⟩ | ⟨j,w',hj,hw',f1,f2⟩
   ·rw[f2] at hw;cases hw
   ·rw[f2] at hw
    obtain rfl:=a7_ hw
    have ow:=(ok.wy j w' hw').1
    unfold ca4 at ow
    simp only[a1_] at ow
    have o1:=(lp_ h).1 ow.1
    have o2:=(lp_ h).1 ow.2.1
    refine⟨hv.l1,hv.l2,by show ((s.2.2.set _ _).length:Int)=_;rw[f1_];exact hv.l3,hv.th,hv.pr,vs_ hv.py ((lp_ h).2 ?_)⟩
    rcases hl.1 with e | e<;>omega
 | false =>
 rw[hk1] at hl
 simp only[a4_] at hl ⊢
 cases hk2:m.2.1==2 with
 | true=>exact⟨hv.l1,by show (s.2.1.set _ _).length=_;rw[f1_];exact hv.l2,hv.l3,hv.th,vs_ hv.pr hhd,hv.py⟩
 | false =>
 rw[hk2] at hl
 simp only[a4_] at hl ⊢
 cases hk3:m.2.1==3 with
 | true =>
  refine⟨hv.l1,by show (s.2.1.set _ _).length=_;rw[f1_];exact hv.l2,hv.l3,hv.th,vs_ hv.pr ?_,hv.py⟩
  rw[eg]
  have:=(lp_ h).1 hpx
  exact (al3 h ok).2 (by omega)
 | false =>
 rw[hk3] at hl
 simp only[a4_] at hl ⊢
 cases hk4:m.2.1==4 with
 | false=>exact hv
 | true =>
  simp only[a5_]
  rcases dz_ h.ac m.2.2 with ⟨f1,f2⟩ | ⟨j,a,hj,ha,f1,f2⟩
  ·rw[f2];exact hv
  ·rw[f2]
   have ai:=bn8 (ok.ac j a ha).1
   have hth:VT r (a.2.2.2.2.2.1.foldl (λt x=>t.set x.1.toNat x.2) s.1):=my_ (P:=VT r) _ _ ⟨hv.l1,hv.th⟩ λt x hx ht=>ce5 h ok ht (ai.st x hx)
   have hpr:∀ (i:Nat) p,(a.2.2.2.2.2.2.2.foldl (λt p=>t.set p.toNat (hdl m)) (a.2.2.2.2.2.2.1.foldl (λt p=>t.set p.toNat (-1)) s.2.1))[i]?=some p→inR r p=true:=by
    refine my_ (P:=λt=>∀ (i:Nat) p,t[i]?=some p→inR r p=true) _ _ ?_ λt x hx ht=>vs_ ht hhd
    exact my_ (P:=λt=>∀ (i:Nat) p,t[i]?=some p→inR r p=true) _ _ hv.pr λt x hx ht=>vs_ ht hm1
   refine⟨hth.1,?_,hv.l3,hth.2,hpr,hv.py⟩
   show (a.2.2.2.2.2.2.2.foldl (λt p=>t.set p.toNat (hdl m)) (a.2.2.2.2.2.2.1.foldl (λt p=>t.set p.toNat (-1)) s.2.1)).length=_
   rw[xu_ (λp=>p) (λ_=>hdl m),xu_ (λp=>p) (λ_=>-1)]
   exact hv.l2
end
end Go.Proofs.YtlbfbdbagohinaaGreatDoor.Rx
namespace Go.Proofs.YtlbfbdbagohinaaGreatDoor.Rx
open Go Pad Rex Go.Proofs Go.Proofs.Tryz Sum
section
set_option maxRecDepth 100000
noncomputable def mvX (a0:ad_) (a2:aj_) (v1 v2 v3:List Int):Option (List Int×(List Int×(List Int×Unit))) :=
 (cond (a2.2.1==1)
 ((at? a0.2.2.2.1 a2.2.2).bind λv5 =>
 ((at? v3 a2.1).bind λv6 =>
 ((at? v3 a2.1).bind λv7 =>
 ((at? v3 a2.1).bind λv8 =>
 ((at? v3 a2.1).bind λv9 =>
 (some (v1,(v2,((v3.set a2.1.toNat (w64 ((w64 (v5.1+v5.2.1)) - v7))),())))))))))
 (cond (a2.2.1==2)
 ((at? v2 a2.2.2).bind λv10 =>
 ((at? v2 a2.2.2).bind λv11 =>
 (some (v1,((v2.set a2.2.2.toNat (w64 ((-2) - a2.1))),(v3,()))))))
 (cond (a2.2.1==3)
 ((at? v3 a2.1).bind λv12 =>
 ((at? v3 a2.1).bind λv13 =>
 ((at? v2 a2.2.2).bind λv14 =>
 ((at? v2 a2.2.2).bind λv15 =>
 (some (v1,((v2.set a2.2.2.toNat v13),(v3,()))))))))
 (cond (a2.2.1==4)
 ((at? a0.2.2.2.2.1 a2.2.2).bind λv16 =>
 ((ae_ (ρ:=((List Int)×Unit)) (λ(v17:(Int×((List Int)×Unit))) =>
 (cond (decide (v17.1<(v16.2.2.2.2.2.2.1.length:Int)))
 ((at? v16.2.2.2.2.2.2.1 v17.1).bind λv18 =>
 ((at? v17.2.1 v18).bind λv19 =>
 ((at? v17.2.1 v18).bind λv20 =>
 (some (inl ((w64 (v17.1+1)),((v17.2.1.set v18.toNat (-1)),())))))))
 (some (inr (v17.2.1,()))))) (0,(v2,()))).bind λv21 =>
 ((ae_ (ρ:=((List Int)×Unit)) (λ(v22:(Int×((List Int)×Unit))) =>
 (cond (decide (v22.1<(v16.2.2.2.2.2.2.2.length:Int)))
 ((at? v16.2.2.2.2.2.2.2 v22.1).bind λv23 =>
 ((at? v22.2.1 v23).bind λv24 =>
 ((at? v22.2.1 v23).bind λv25 =>
 (some (inl ((w64 (v22.1+1)),((v22.2.1.set v23.toNat (w64 ((-2) - a2.1))),())))))))
 (some (inr (v22.2.1,()))))) (0,(v21.1,()))).bind λv26 =>
 ((ae_ (ρ:=((List Int)×Unit)) (λ(v27:(Int×((List Int)×Unit))) =>
 (cond (decide (v27.1<(v16.2.2.2.2.2.1.length:Int)))
 ((at? v16.2.2.2.2.2.1 v27.1).bind λv28 =>
 ((at? v27.2.1 v28.1).bind λv29 =>
 ((at? v27.2.1 v28.1).bind λv30 =>
 (some (inl ((w64 (v27.1+1)),((v27.2.1.set v28.1.toNat v28.2),())))))))
 (some (inr (v27.2.1,()))))) (0,(v1,()))).bind λv31 =>
 (some (v31.1,(v26.1,(v3,()))))))))
 (some (v1,(v2,(v3,()))))))))
noncomputable def rstX (a0:ad_) (a1:ak_) (a2:aj_):Option (ak_×(Int×Unit)) :=
 ((cd_ a0 a1).bind λv0 =>
 (cond (v0.1 != 0)
 (some (([],([],[])),(v0.1,())))
 ((push? (α:=Int) [] a1.1).bind λv1 =>
 ((push? (α:=Int) [] a1.2.1).bind λv2 =>
 ((push? (α:=Int) [] a1.2.2).bind λv3 =>
 ((cv_ (a0,(v1,(v2,v3))) a2).bind λv4 =>
 (cond (!v4.1)
 (some (([],([],[])),(29,())))
 ((mvX a0 a2 v1 v2 v3).bind λv32 =>
 ((((ae_ (ρ:=(((List Int)×Unit)⊕(Bool×((List Int)×Unit)))) (setB a0 v32.2.1 v32.2.2.1) (0,(v32.1,()))).bind λv48 =>
 (cc_ v48 (λv49=>(some ((!false),(v49.1,()))))
 (λv50=>(some v50))))).bind λv51 =>
 (cond v51.1
 (some (([],([],[])),(27,())))
 (some ((v51.2.1,(v32.2.1,v32.2.2.1)),(0,())))))))))))))
theorem rstX_eq:ez_=rstX:=by kernel_rfl
theorem mvX_eq {r:ad_} (h:SmR r) (ok:OkR r) {s:ak_} (hv:VS r s) {m:aj_} (hl:lgl r s m=true):mvX r m s.1 s.2.1 s.2.2=some ((mvP r s m).1,((mvP r s m).2.1,((mvP r s m).2.2,()))):=by
  obtain⟨m1,m2,m3⟩:=wc_ h ok hv
  have hl1:=hv.l1
  have hl2:=hv.l2
  obtain⟨pj,px,hpj,hp,e2⟩:=cc3 m3 hl
  have eg:gi s.2.2 m.1=px:=bh1 e2
  have hpx:=(lp_ h).1 (hv.py _ _ hp)
  have hpl:=h.pl
  unfold lgl at hl
  rw[a1_] at hl
  have hl:=hl.2
  unfold mvX mvP
  cases hk1:m.2.1==1 with
  | true =>
    rw[hk1] at hl
    simp only[a5_] at hl ⊢
    rcases dz_ h.wy m.2.2 with ⟨f1,f2⟩ | ⟨j,w,hj,hw,f1,f2⟩
    · rw[f2] at hl;cases hl
    · have ow:=(ok.wy j w hw).1
      unfold ca4 at ow
      simp only[a1_] at ow
      have o1:=(lp_ h).1 ow.1
      have o2:=(lp_ h).1 ow.2.1
      simp only[f2,e2,eg,a0_,Option.elim]
      rw[ic_ (n:=w.1+w.2.1) (by omega) (by omega),ic_ (by omega) (by omega)]
  | false =>
  rw[hk1] at hl
  simp only[a4_] at hl ⊢
  cases hk2:m.2.1==2 with
  | true =>
    rw[hk2] at hl
    simp only[a5_] at hl ⊢
    rcases dz_ h.pr m.2.2 with ⟨f1,f2⟩ | ⟨j,x,hj,hx,f1,f2⟩
    · rw[f2] at hl;cases hl
    · have:=an_ hx
      rw[aw4 (l:=s.2.1) (i:=m.2.2) (by omega) (by omega)]
      rfl
  | false =>
  rw[hk2] at hl
  simp only[a4_] at hl ⊢
  cases hk3:m.2.1==3 with
  | true =>
    rw[hk3] at hl
    simp only[a5_] at hl ⊢
    rcases dz_ m2 m.2.2 with ⟨f1,f2⟩ | ⟨j,x,hj,hx,f1,f2⟩
    · rw[f2] at hl;cases hl
    · simp only[f2,e2,eg,a0_]
  | false =>
  rw[hk3] at hl
  simp only[a4_] at hl ⊢
  cases hk4:m.2.1==4 with
  | false=>rfl
  | true =>
    rw[hk4] at hl
    simp only[a5_] at hl ⊢
    rcases dz_ h.ac m.2.2 with ⟨f1,f2⟩ | ⟨j,a,hj,ha,f1,f2⟩
    · rw[f2] at hl;cases hl
    · have ai:=bn8 (ok.ac j a ha).1
      obtain⟨s1,s2,s3,s4,s5,s6⟩:=h.acn a (cl_ ha)
      simp only[f2,a0_,Option.elim]
      have hA:=xv_ a.2.2.2.2.2.2.1 s5 (λp=>p) (λ_=>-1) s.2.1 (λp hp=>by have:=ai.sp p hp;omega) (body:=(λ(v17:(Int×((List Int)×Unit))) =>
 (cond (decide (v17.1<(a.2.2.2.2.2.2.1.length:Int)))
 ((at? a.2.2.2.2.2.2.1 v17.1).bind λv18 =>
 ((at? v17.2.1 v18).bind λv19 =>
 ((at? v17.2.1 v18).bind λv20 =>
 (some (inl ((w64 (v17.1+1)),((v17.2.1.set v18.toNat (-1)),())))))))
 (some (inr (v17.2.1,())))))) (λi x t' y hx hy=>by simp only[dlt (an_ hx),a5_,ag_ hx,a0_,hy]) (λt'=>by simp only[dnl,a4_])
      rw[hA,a0_]
      have hl3:(a.2.2.2.2.2.2.1.foldl (λt p=>t.set p.toNat (-1)) s.2.1).length=s.2.1.length:=xu_ (λp=>p) (λ_=>-1) _ _
      have hB:=xv_ a.2.2.2.2.2.2.2 s6 (λp=>p) (λ_=>hdl m) (a.2.2.2.2.2.2.1.foldl (λt p=>t.set p.toNat (-1)) s.2.1) (λp hp=>by have:=ai.br p hp;omega) (body:=(λ(v22:(Int×((List Int)×Unit))) =>
 (cond (decide (v22.1<(a.2.2.2.2.2.2.2.length:Int)))
 ((at? a.2.2.2.2.2.2.2 v22.1).bind λv23 =>
 ((at? v22.2.1 v23).bind λv24 =>
 ((at? v22.2.1 v23).bind λv25 =>
 (some (inl ((w64 (v22.1+1)),((v22.2.1.set v23.toNat (w64 ((-2) - m.1))),())))))))
 (some (inr (v22.2.1,())))))) (λi x t' y hx hy=>by simp only[dlt (an_ hx),a5_,ag_ hx,a0_,hy]) (λt'=>by simp only[dnl,a4_])
      simp only
      rw[hB,a0_]
      have hC:=xv_ a.2.2.2.2.2.1 s4 (λx:Int×Int=>x.1) (λx=>x.2) s.1 (λx hx=>by have:=(sx_ h ok (ai.st x hx)).1;omega) (body:=(λ(v27:(Int×((List Int)×Unit))) =>
 (cond (decide (v27.1<(a.2.2.2.2.2.1.length:Int)))
 ((at? a.2.2.2.2.2.1 v27.1).bind λv28 =>
 ((at? v27.2.1 v28.1).bind λv29 =>
 ((at? v27.2.1 v28.1).bind λv30 =>
 (some (inl ((w64 (v27.1+1)),((v27.2.1.set v28.1.toNat v28.2),())))))))
 (some (inr (v27.2.1,())))))) (λi x t' y hx hy=>by simp only[dlt (an_ hx),a5_,ag_ hx,a0_,hy]) (λt'=>by simp only[dnl,a4_])
      rw[hC,a0_]
def fstA (r:ad_) (th:List Int):Option (List bx_×aa_):=r.2.2.2.2.2.1.find? λy=>(gi th y.2.1 != y.2.2)&&lq_ th y.1
def stl (r:ad_):Nat→List Int→Option (List Int)
 | 0,_=>none
 | n+1,th=>match fstA r th with
  | none=>some th
  | some y=>stl r n (th.set y.2.1.toNat y.2.2)
theorem aa7 {α ρ:Type} {q:α→Bool} {f:Nat→ρ}:∀ (m:List α) (k:Nat),(gs_ (λi y=>cond (q y) (some (f i)) none) k m=none∧m.find? q=none)∨∃ (i:Nat) (y:α),m[i]?=some y∧m.find? q=some y∧gs_ (λi y=>cond (q y) (some (f i)) none) k m=some (f (k+i))
 | [],_=>.inl ⟨rfl,rfl⟩
 | x::m,k=>by
  unfold gs_
  cases hq:q x with
  | true=>exact .inr ⟨0,x,rfl,by simp[hq],rfl⟩
  | false =>
   rcases aa7 (q:=q) (f:=f) m (k+1) with ⟨h1,h2⟩ | ⟨i,y,h1,h2,h3⟩
   ·exact .inl ⟨h1,by simp[hq,h2]⟩
   ·exact .inr ⟨i+1,y,by simpa using h1,by simp[hq,h2],by rw[show k+(i+1)=k+1+i by omega];exact h3⟩
theorem if_find {α:Type} {l:List α} (hl:Sm l.length) (q:α→Bool) {body:(Int×Unit)→Option ((Int×Unit)⊕(Unit⊕(Int×Unit)))}
  (h:∀ (i:Nat) y,l[i]?=some y→body ((i:Int),())=some (cond (q y) (.inr (.inr ((i:Int),()))) (.inl (w64 ((i:Int)+1),())))) (e:body ((l.length:Int),())=some (.inr (.inl ()))) :
  ∃ n:Int,((ae_ body (0,())).bind λv=>cc_ v (λ_=>some ((-1:Int),())) (λw=>some w))=some (n,())∧((n = -1∧l.find? q=none)∨∃ (i:Nat) (y:α),n=(i:Int)∧l[i]?=some y∧l.find? q=some y):=by
 have hrun:=mw_ l (λi y=>cond (q y) (some (inr ((i:Int),()):Unit⊕(Int×Unit))) none) (λi=>((i:Int),())) (r0:=inl ()) (body:=body) (λi y hy=>by
  have hi:=an_ hy
  rw[h i y hy,br_ (show Sm i by omega)]
  cases q y<;>rfl) e
 have hr2:ae_ body (0,())=some ((gs_ (λi y=>cond (q y) (some (inr ((i:Int),()):Unit⊕(Int×Unit))) none) 0 l).getD (inl ())):=hrun
 rw[hr2]
 rcases aa7 (q:=q) (f:=λi=>(inr ((i:Int),()):Unit⊕(Int×Unit))) l 0 with ⟨h1,h2⟩ | ⟨i,y,h1,h2,h3⟩
 ·exact⟨-1,by rw[h1];rfl,.inl ⟨rfl,h2⟩⟩
 ·exact⟨(i:Int),by rw[h3,a8_];rfl,.inr ⟨i,y,rfl,h1,h2⟩⟩
theorem bz8 {r:ad_} (h:SmR r) (ok:OkR r) {th pr py:List Int} (hv:VT r th) :
  ∃ n:Int,((ae_ (autB r th pr py) (0,())).bind λv=>cc_ v (λ_=>some ((-1:Int),())) (λw=>some w))=some (n,())∧((n = -1∧fstA r th=none)∨∃ (i:Nat) (y:List bx_×aa_),n=(i:Int)∧r.2.2.2.2.2.1[i]?=some y∧fstA r th=some y) :=
 if_find (l:=r.2.2.2.2.2.1) h.au (λy=>(gi th y.2.1 != y.2.2)&&lq_ th y.1) (body:=autB r th pr py) (λi y hy=>by
  obtain⟨g1,g2⟩:=ok.au i y hy
  have hi:=(sx_ h ok g1).1
  obtain⟨c1,c2⟩:=bl8 h.th g2
  have hl:=hv.1
  unfold autB
  have ht:av_ (r,(th,(pr,py))) y.1=some (lq_ th y.1,()):=pa_ (t:=(r,(th,(pr,py)))) (by omega) (by show InC th.length y.1;rw[hl];exact c1)
  simp only[dlt (an_ hy),a5_,ag_ hy,a0_,aw4 hi.1 (show y.2.1<th.length by omega),ht]
  cases gi th y.2.1 != y.2.2 with
  | false=>rfl
  | true=>cases lq_ th y.1<;>rfl) (by
  unfold autB
  simp only[dnl,a4_])
theorem mn_ {r:ad_} (h:SmR r) (ok:OkR r) {pr py:List Int}:∀ (n i:Nat) (th:List Int),i+n=101→VT r th →
  ∃ z,ae_ (setB r pr py) ((i:Int),(th,()))=some z∧match stl r n th with
   | some th'=>z = .inr (false,(th',()))∧VT r th'
   | none=>∃ w,z = .inl w
 | 0,i,th,hi,hv=>by
  obtain rfl:i=101:=by omega
  exact⟨.inl (th,()),fj_ (by unfold setB;rfl),_,rfl⟩
 | n+1,i,th,hi,hv=>by
  obtain⟨k,e,hc⟩:=bz8 h ok hv (pr:=pr) (py:=py)
  have hd:decide ((i:Int)<101)=true:=b4_ (by omega)
  unfold stl
  rcases hc with ⟨rfl,hf⟩ | ⟨j,y,rfl,hy,hf⟩
  ·rw[hf]
   refine⟨.inr (false,(th,())),fj_ ?_,rfl,hv⟩
   unfold setB
   simp only[hd,a5_]
   refine e6_ (congrArg (λo=>Option.bind o _) e) rfl
  ·rw[hf]
   have g1:=(ok.au j y hy).1
   have hi2:=(sx_ h ok g1).1
   have hl:=hv.1
   obtain⟨z,ez,hz⟩:=mn_ h ok (pr:=pr) (py:=py) n (i+1) (th.set y.2.1.toNat y.2.2) (by omega) (ce5 h ok hv g1)
   refine⟨z,hm_ ?_ ez,hz⟩
   unfold setB
   simp only[hd,a5_]
   refine e6_ (congrArg (λo=>Option.bind o _) e) ?_
   simp only[a0_,show decide ((j:Int)<0)=false from c1_ (by omega),a4_,ag_ hy,aw4 hi2.1 (show y.2.1<th.length by omega),br_ (show Sm i by show _≤1000000000;omega)]
def aa3 (r:ad_) (s:ak_) (m:aj_):Option ak_:=(stl r 101 (mvP r s m).1).map λth=>(th,(mvP r s m).2)
abbrev eS:ak_:=([],([],[]))
theorem aa9 {r:ad_} (h:SmR r) (h0:ei_ r=0) {s:ak_} (hv:VS r s) (m:aj_) :
  ez_ r s m=some (cond (lgl r s m) ((aa3 r s m).elim (eS,(27,())) λt=>(t,(0,()))) (eS,(29,()))):=by
 have ok:=dp_ h0
 obtain⟨m1,m2,m3⟩:=wc_ h ok hv
 rw[rstX_eq]
 unfold rstX
 rw[gw_ h,a0_,ik_ h0 hv]
 simp only[show ((0:Int) != 0)=false from rfl,a4_]
 rw[bs_ m1,a0_,bs_ m2,a0_,bs_ m3,a0_]
 refine e6_ (congrArg (λo=>Option.bind o _) (ty_ h ok hv m)) ?_
 rw[a0_]
 cases hl:lgl r s m with
 | false=>rfl
 | true =>
 simp only[e3_,a4_,a5_]
 rw[mvX_eq h ok hv hl,a0_]
 simp only
 have hv2:=VS_mv h ok hv hl
 obtain⟨z,ez,hz⟩:=mn_ h ok (pr:=(mvP r s m).2.1) (py:=(mvP r s m).2.2) 101 0 (mvP r s m).1 rfl ⟨hv2.l1,hv2.th⟩
 refine e6_ (congrArg (λo=>Option.bind (Option.bind o _) _) ez) ?_
 unfold aa3
 cases hs:stl r 101 (mvP r s m).1 with
 | none =>
  rw[hs] at hz
  obtain⟨w,rfl⟩:=hz
  rfl
 | some th' =>
  rw[hs] at hz
  obtain⟨rfl,_⟩:=hz
  rfl
theorem xq_ {r:ad_} (h:SmR r) (h0:ei_ r=0) {s t:ak_} (hv:VS r s) {m:aj_} (hl:lgl r s m=true) (ht:aa3 r s m=some t):VS r t:=by
 have ok:=dp_ h0
 have hv2:=VS_mv h ok hv hl
 unfold aa3 at ht
 obtain⟨th,hs,rfl⟩:=f8_.1 ht
 obtain⟨z,ez,hz⟩:=mn_ h ok (pr:=(mvP r s m).2.1) (py:=(mvP r s m).2.2) 101 0 (mvP r s m).1 rfl ⟨hv2.l1,hv2.th⟩
 rw[hs] at hz
 exact⟨hz.2.1,hv2.l2,hv2.l3,hz.2.2,hv2.pr,hv2.py⟩
end
section
set_option maxRecDepth 100000
theorem ai0 {r:ad_} (h:SmR r) (h0:ei_ r=0) {s:ak_} (hv:VS r s) {c:List bx_} (hc:cOk r.2.1 c=true):fb_ r s c=some (lq_ s.1 c,(0,())):=by
 have ok:=dp_ h0
 obtain⟨m1,m2,m3⟩:=wc_ h ok hv
 unfold fb_
 rw[gw_ h,a0_,ik_ h0 hv]
 simp only[show ((0:Int) != 0)=false from rfl,a4_]
 rw[jn_ h.th,a0_,hc]
 obtain⟨c1,c2⟩:=bl8 h.th hc
 have hl:=hv.l1
 simp only[e3_,a4_]
 rw[bs_ m1,a0_,bs_ m2,a0_,bs_ m3,a0_,pa_ (t:=(r,(s.1,(s.2.1,s.2.2)))) (show c.length≤1000000000 by omega) (by show InC s.1.length c;rw[hl];exact c1)]
 rfl
def rdB (s:ak_) (n:dd_) (b:Bool):Bool:=b||(lq_ s.1 n.2.2.2.1&&s.2.2.contains n.2.1)
def rdN (g:ac_) (s:ak_) (d:List Bool):List Bool:=List.zipWith (rdB s) g.2.2.2.1 d
theorem ud_ {g:ac_} {s:ak_} {d:List Bool} (hd:d.length=g.2.2.2.1.length):(rdN g s d).length=g.2.2.2.1.length:=by
 unfold rdN
 rw[List.length_zipWith]
 omega
theorem bb3 {g:ac_} {s:ak_} {d:List Bool} {i:Nat} {n:dd_} {b:Bool} (hn:g.2.2.2.1[i]?=some n) (hb:d[i]?=some b):(rdN g s d)[i]?=some (rdB s n b):=by
 unfold rdN
 rw[List.getElem?_zipWith,hn,hb]
theorem uh_ {g:ac_} (hg:SmG g) (ok:OkG g) {s:ak_} (hv:VS g.1 s) {d:List Bool} (hd:d.length=g.2.2.2.1.length) (m:List aa_) :
  ∃ z,ae_ (pbgB g s) (0,(d,(m,())))=some z∧z.1=rdN g s d:=by
 have h0:=ok.room
 have okr:=dp_ h0
 obtain⟨m1,m2,m3⟩:=wc_ hg.room okr hv
 have hn:=hg.nt
 have hrl:=ud_ (s:=s) hd
 refine ky_ (λ(i:Nat) (z:Int×(List Bool×(List aa_×Unit)))=>∃ d' m',z=((i:Int),(d',(m',())))∧∀ j,d'[j]?=if j<i then (rdN g s d)[j]? else d[j]?) _ g.2.2.2.1.length 0 _ ⟨d,m,rfl,λj=>by simp⟩ (λj z h1 h2 hz=>.inl ?_) (λz hz => ?_)
 ·obtain⟨d',m',rfl,hd'⟩:=hz
  obtain⟨x,hx⟩:=bi_ (l:=g.2.2.2.1) (i:=j) (by omega)
  obtain⟨y,hy⟩:=bi_ (l:=d) (i:=j) (by omega)
  have hy':d'[j]?=some y:=by rw[hd' j,if_neg (by omega)];exact hy
  have hr:=bb3 (s:=s) hx hy
  have hH:=ai0 hg.room h0 hv (ok.nt j x hx).2
  have keep:rdB s x y=y→∀ k,d'[k]?=if k<j+1 then (rdN g s d)[k]? else d[k]?:=λe k=>by
   rw[hd' k]
   by_cases hk:k=j
   ·subst hk
    rw[if_neg (by omega),if_pos (by omega),hr,hy,e]
   ·by_cases hk2:k<j
    ·rw[if_pos hk2,if_pos (by omega)]
    ·rw[if_neg hk2,if_neg (by omega)]
  have turn:rdB s x y=true→∀ k,(d'.set ((j:Int)).toNat true)[k]?=if k<j+1 then (rdN g s d)[k]? else d[k]?:=λe k=>by
   rw[b7_,d2_]
   by_cases hk:j=k
   ·subst hk
    rw[if_pos rfl,if_pos (an_ hy'),if_pos (by omega),hr,e]
   ·rw[if_neg hk,hd' k]
    by_cases hk2:k<j
    ·rw[if_pos hk2,if_pos (by omega)]
    ·rw[if_neg hk2,if_neg (by omega)]
  unfold pbgB
  simp only[dlt (an_ hx),a5_,ag_ hx,ag_ hy',a0_,hH,np_ m3,br_ (show Sm j by omega)]
  unfold rdB at keep turn
  cases hb:lq_ s.1 x.2.2.2.1 with
  | false=>exact⟨_,rfl,_,_,rfl,keep (by rw[hb];simp)⟩
  | true =>
  cases hc:s.2.2.contains x.2.1 with
  | false =>
   refine⟨_,?_,d',m',rfl,keep (by rw[hc];simp)⟩
   simp only[a5_,a4_,a0_]
  | true =>
  cases y with
  | true=>exact⟨_,rfl,_,_,rfl,keep rfl⟩
  | false=>exact⟨_,rfl,_,_,rfl,turn (by rw[hb,hc];rfl)⟩
 ·obtain⟨d',m',rfl,hd'⟩:=hz
  rw[a8_]
  unfold pbgB
  simp only[dnl,a4_]
  refine⟨_,rfl,f7_ λk => ?_⟩
  rw[hd' k]
  split
  ·rfl
  ·rw[c7_ (by omega),c7_ (by omega)]
def zk_ (g:ac_) (d:List Bool) (lock:Int):List ab_:=(g.2.2.2.1.zip d).filterMap λx=>cond (x.1.2.2.1==lock&&x.2) (some x.1.2.2.2.2) none
theorem zi_ {g:ac_} {d:List Bool} {lock:Int} {c:ab_} (h:c ∈ zk_ g d lock):∃ (i:Nat) (n:dd_),g.2.2.2.1[i]?=some n∧n.2.2.1=lock∧n.2.2.2.2=c:=by
 unfold zk_ at h
 obtain⟨x,hx,he⟩:=List.mem_filterMap.1 h
 obtain⟨i,hi⟩:=f0_ (List.of_mem_zip hx).1
 cases hq:(x.1.2.2.1==lock&&x.2) with
 | false=>rw[hq] at he;cases he
 | true =>
  rw[hq] at he
  rw[a1_,k2_] at hq
  exact⟨i,x.1,hi,hq.1,a7_ he⟩
theorem zj_ {g:ac_} (hg:SmG g) (d:List Bool) (lock:Int):(zk_ g d lock).length≤20:=by
 unfold zk_
 refine d9_ (n3_ ..) ?_
 rw[j0_]
 have:=hg.nt
 omega
theorem nt_clue {g:ac_} (ok:OkG g) {i:Nat} {n:dd_} (hn:g.2.2.2.1[i]?=some n) {l:aa_} (h0:0≤n.2.2.1) (hl:at? g.2.1 n.2.2.1=some l):ct_ l n.2.2.2.2=true:=by
 have h:=(ok.nt i n hn).1
 unfold cc0 at h
 simp only[a1_] at h
 have h5:=h.2.2.2.2
 rw[c1_ (by omega),hl] at h5
 simp only[a4_] at h5
 cases hk:at? g.2.2.1 n.2.2.1 with
 | none=>rw[hk] at h5;cases h5
 | some k =>
  rw[hk] at h5
  have h5:clOk l n.2.2.2.2 k=true:=h5
  unfold clOk at h5
  rw[a1_] at h5
  exact h5.1
noncomputable def rdC (g:ac_) (d:List Bool) (lock:Int) (l:aa_):Int:=((rdg l ((zk_ g d lock))).length:Int)
theorem vg_ {g:ac_} (hg:SmG g) (ok:OkG g) (d:List Bool) {lock:Int} (h0:0≤lock) {l:aa_} (hl:at? g.2.1 lock=some l):az_ l (zk_ g d lock)=some (rdC g d lock l,(0,())):=by
 obtain⟨_,_,l1⟩:=gb_ hl
 refine sh_ (ok.lk _ l l1).1 (zj_ hg d lock) λc hc => ?_
 obtain⟨i,n,hn,rfl,rfl⟩:=zi_ hc
 exact nt_clue ok hn h0 hl
noncomputable def opn (g:ac_) (d:List Bool) (lock:Int):Bool:=cond (decide (lock<0)) true ((at? g.2.1 lock).elim false λl=>decide (rdC g d lock l≤g.2.2.2.2))
noncomputable def abB (a0:ac_) (v1:List Bool) (lock:Int):(List Int×(List ab_×(Int×Unit)))→Option ((List Int×(List ab_×(Int×Unit)))⊕(List Int×(List ab_×Unit))) :=
 (λ(v4:((List Int)×((List ab_)×(Int×Unit)))) =>
 (cond (decide (v4.2.2.1<(a0.2.2.2.1.length:Int)))
 ((((at? a0.2.2.2.1 v4.2.2.1).bind λv5 =>
 (((cond (v5.2.2.1==lock)
 ((at? v1 v4.2.2.1).bind λv6 =>
 ((at? v1 v4.2.2.1).bind λv7 =>
 (some (v7,()))))
 (some (false,())))).bind λv8 =>
 (cond v8.1
 ((push? (α:=Int) v4.1 [v4.2.2.1]).bind λv9 =>
 ((push? (α:=ab_) v4.2.1 [v5.2.2.2.2]).bind λv10 =>
 (some (v9,(v10,())))))
 (some (v4.1,(v4.2.1,()))))))).bind λv11 =>
 (some (inl (v11.1,(v11.2.1,((w64 (v4.2.2.1+1)),()))))))
 (some (inr (v4.1,(v4.2.1,()))))))
theorem am3 {g:ac_} (hg:SmG g) {d:List Bool} (hd:d.length=g.2.2.2.1.length) (lock:Int):∃ q,ae_ (abB g d lock) ([],([],(0,())))=some (q,(zk_ g d lock,())):=by
 have hn:=hg.nt
 suffices hk:∃ r,ae_ (abB g d lock) ([],([],(0,())))=some r∧∃ q,r=(q,(zk_ g d lock,())) by
  obtain⟨z,ez,q,rfl⟩:=hk
  exact⟨q,ez⟩
 refine ky_ (λ(i:Nat) (z:List Int×(List ab_×(Int×Unit)))=>∃ q,z=(q,(((g.2.2.2.1.zip d).take i).filterMap (λx=>cond (x.1.2.2.1==lock&&x.2) (some x.1.2.2.2.2) none),((i:Int),())))∧q.length≤i) (λw=>∃ q,w=(q,(zk_ g d lock,()))) g.2.2.2.1.length 0 ([],([],(0,()))) ⟨[],rfl,b9_ _⟩ (λj z h1 h2 hz=>.inl ?_) (λz hz => ?_)
 ·obtain⟨q,rfl,hq⟩:=hz
  obtain⟨x,hx⟩:=bi_ (l:=g.2.2.2.1) (i:=j) (by omega)
  obtain⟨y,hy⟩:=bi_ (l:=d) (i:=j) (by omega)
  have hzip:(g.2.2.2.1.zip d)[j]?=some (x,y):=by rw[e4_];exact⟨hx,hy⟩
  have hlen:(((g.2.2.2.1.zip d).take j).filterMap (λx=>cond (x.1.2.2.1==lock&&x.2) (some x.1.2.2.2.2) none)).length≤j:=by
   refine d9_ (n3_ ..) ?_
   rw[c4_];omega
  have hstep:((g.2.2.2.1.zip d).take (j+1)).filterMap (λx=>cond (x.1.2.2.1==lock&&x.2) (some x.1.2.2.2.2) none)=((g.2.2.2.1.zip d).take j).filterMap (λx=>cond (x.1.2.2.1==lock&&x.2) (some x.1.2.2.2.2) none)++cond (x.2.2.1==lock&&y) [x.2.2.2.2] []:=by
   rw[f4_,hzip,l9_]
   cases hc:(x.2.2.1==lock&&y) with
   | false=>simp[hc]
   | true=>simp[hc]
  unfold abB
  simp only[dlt (an_ hx),a5_,ag_ hx,ag_ hy,a0_,br_ (show Sm j by omega)]
  cases h1:x.2.2.1==lock with
  | false =>
   refine⟨_,rfl,q,?_,by omega⟩
   rw[hstep,h1,e1_,a4_,d6_]
  | true =>
  cases y with
  | false =>
   refine⟨_,rfl,q,?_,by omega⟩
   rw[hstep,l7_,a4_,d6_]
  | true =>
   simp only[a5_,a0_,ea_ (show Sm q.length by show _≤1000000000;omega),ea_ (show Sm _ from d9_ hlen (by omega))]
   refine⟨_,rfl,q++[(j:Int)],?_,by rw[c5_,l8_];omega⟩
   rw[hstep,h1,i4_,a5_]
 ·obtain⟨q,rfl,hq⟩:=hz
  rw[a8_]
  unfold abB
  simp only[dnl,a4_]
  refine⟨_,rfl,q,?_⟩
  unfold zk_
  rw[e0_ (by rw[j0_];omega)]
end
end Go.Proofs.YtlbfbdbagohinaaGreatDoor.Rx
