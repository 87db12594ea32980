/- A part of the proof: what the functions of the program compute, shown over the model. -/
import Derived.Test.YtdibamopklkilaaGreatDoorPart3
set_option linter.unusedSectionVars false
set_option linter.unusedVariables false
set_option linter.unusedSimpArgs false
namespace Go.Proofs.YtdibamopklkilaaGreatDoor.Rx
open Go Pad Rex Go.Proofs Go.Proofs.Tryz Sum
section
set_option maxRecDepth 100000
set_option maxHeartbeats 400000
def ivs (l:List Int):List Value:=l.map λn=>.int .i64 n
def ao2 (m n:Nat) (a:Int):List Int:=List.replicate n a++List.replicate (m - n) 0
theorem ax8 {P:Program} {n d:Nat} {ro:Option Nat} {f:Pad.Fr} {w:World} {K:Pad.Fr→World→Prop} {ty T E B:TypeId} {pos:String} {af:Array Edge} {gd:Option (Nat×Bool)} {x y:Operand} {S:PH} {O:List HP} {g o dl dc sl sc:Nat} {ad:Addr} {cs:Array Value} {ys:List Value}
    (hd:Nat.blt d n=true) (hT:P.underlying T=some (.slice E)) (hs:(P.info? E).map (·.size)=some 1) (hx:Pad.ev f x = .slice (some ⟨g,o,none⟩) dl dc) (hy:Pad.ev f y = .slice (some ad) sl sc) (hI:Inv w S (kn_ g B cs::O))
    (hn:ys.length=Nat.min sl dl) (hsrc:∀ j v,ys[j]?=some v→w.cell? (ad.add j)=some v) (hfit:o+ys.length≤cs.size) (h1:∀ v ∈ ys,v.oneCell'=true)
    (k:∀ w',Inv w' S (kn_ g B (cs.toList.take o++ys++cs.toList.drop (o+ys.length)).toArray::O)→K (upd f d (.int .i64 (ys.length:Nat))) w') :
    OP P n ro ⟨some d,.call ⟨.builtin .copy,#[x,y],#[T,T]⟩,ty,pos,af,gd⟩ f w K:=by
  have h:=run_copy_row (P:=P) w T T ty E g o dl dc ad sl sc cs B ys hT hs hI.blk hn hsrc hfit h1
  exact ed_ hd (by simp [execOp,resolve,invoke,builtin,hx,hy,h,Result.andThen]; rfl) (k _ hI.setRow)
theorem ch5 {P:Program} {n d:Nat} {ro:Option Nat} {f:Pad.Fr} {w:World} {K:Pad.Fr→World→Prop} {ty T E:TypeId} {pos:String} {af:Array Edge} {gd:Option (Nat×Bool)} {x y:Operand} {dl dc sl sc:Nat} {ap ad:Option Addr}
    (hd:Nat.blt d n=true) (hT:P.underlying T=some (.slice E)) (hs:(P.info? E).map (·.size)=some 1) (hx:Pad.ev f x = .slice ap dl dc) (hy:Pad.ev f y = .slice ad sl sc)
    (hn:Nat.min sl dl=0) (k:K (upd f d (.int .i64 0)) w) :
    OP P n ro ⟨some d,.call ⟨.builtin .copy,#[x,y],#[T,T]⟩,ty,pos,af,gd⟩ f w K:=by
  have h:=run_copy_none (P:=P) w T T ty E ap ad dl dc sl sc hT hs hn
  exact ed_ hd (by simp [execOp,resolve,invoke,builtin,hx,hy,h,Result.andThen]; rfl) k
theorem op_make {n d:Nat} {ro:Option Nat} {f:Pad.Fr} {w:World} {K:Pad.Fr→World→Prop} {ty:TypeId} {pos:String} {af:Array Edge} {gd:Option (Nat×Bool)} {x y:Operand} {S:PH} {O:List HP} {m:Nat}
    (hd:Nat.blt d n=true) (hx:Pad.ev f x = .int .i64 m) (hy:Pad.ev f y = .int .i64 m) (hm:m≤2147483648) (hI:Inv w S O)
    (k:∀ g w',Inv w' S (kn_ g 3 (ivs (List.replicate m 0)).toArray::O)→K (upd f d (.slice (some ⟨g,0,none⟩) m m)) w') :
    OP prog n ro ⟨some d,.makeSlice 45 x y,ty,pos,af,gd⟩ f w K:=by
  obtain ⟨bytes,zv,⟨ei,hE⟩,hb,hr⟩:=ko_ (show qn_ prog 3 .int=some (0:Int) by kernel_rfl)
  have hzv:zv = .int .i64 0:=ls_ (hr S)
  have hbb:(ei.bytes:Int) * (m:Int)≤281474976710656:=by
    have h1:(ei.bytes:Int)≤65536:=by rw [hE.hb]; omega
    have h2:(ei.bytes:Int) * (m:Int)≤65536 * 2147483648:=Int.mul_le_mul h1 (by omega) (by omega) (by omega)
    omega
  have h:=run_make (P:=prog) w 45 3 ei zv underlying45 hE.hi hE.hz .i64 .i64 m m (by omega) (n2_ _) hbb (by omega)
  have hsz:ei.size=1:=hE.hs
  have hc:madeCells zv.cells ((m:Int).toNat * ei.size)=(ivs (List.replicate m 0)).toArray:=by
    have h2:=nv_ zv.cells m
    have h3:zv.cells.size=1:=by rw [hzv]; rfl
    rw [h3] at h2
    rw [hsz,c0_]
    apply Array.toList_inj.1
    rw [h2,hzv]
    simp [Value.cells,ivs]
  rw [hc] at h
  exact ed_ hd (by rw [c0_] at h; simp [execOp,Sem.run_bind,hx,hy,h,Result.andThen]) (k _ _ (hI.alloc 3 _))
theorem cb_155:ej_ prog 155:=⟨_,func155,rfl,by kernel_rfl⟩
theorem cd0 {m:Nat} (h:m≤2147483648):wu64 (m:Int)=(m:Int):=by
  unfold wu64 IntKind.wrap
  simp [IntKind.signed,IntKind.bits]
  omega
theorem in3:(prog.info? 3).map (·.size)=some 1:=by kernel_rfl
theorem bu0 {m n q:Nat} {a:Int} (h:n+q≤m):(ivs (ao2 m n a)).take n++ivs (List.replicate q a)++(ivs (ao2 m n a)).drop (n+q)=ivs (ao2 m (n+q) a):=by
  unfold ivs ao2
  rw [← List.map_take,← List.map_drop,← h6_,← h6_]
  congr 1
  have h1:(List.replicate n a++List.replicate (m - n) (0:Int)).take n=List.replicate n a:=by
    rw [List.take_append_of_le_length (by simp),g7_ (by simp)]
  have h2:(List.replicate n a++List.replicate (m - n) (0:Int)).drop (n+q)=List.replicate (m - (n+q)) 0:=by
    rw [List.drop_append,List.drop_of_length_le (by simp)]
    simp
    omega
  rw [h1,h2,List.replicate_append_replicate]
theorem ivs_len (l:List Int):(ivs l).length=l.length:=by simp [ivs]
theorem cf4 {m n:Nat} {a:Int} (h:n≤m):(ao2 m n a).length=m:=by simp [ao2]; omega
theorem rowR_at {m n j:Nat} {a:Int} (h:j<n):(ivs (ao2 m n a))[j]?=some (.int .i64 a):=by
  unfold ivs ao2
  rw [d7_,b2_ (by simpa using h),i3_,if_pos h]
  rfl
theorem ivs_one {l:List Int}:∀ v ∈ ivs l,v.oneCell'=true:=by
  intro v hv
  obtain ⟨n,_,rfl⟩:=d9_.1 hv
  rfl
theorem sl_l {f:Pad.Fr} {w:World} {d m n g:Nat} {x y:Operand} {ty:TypeId} {pos:String} {af:Array Edge} {gd:Option (Nat×Bool)} (hx:Pad.ev f x = .slice (some ⟨g,0,none⟩) m m) (hy:Pad.ev f y = .int .i64 n) (h:n<m) :
    (execOp (Pad.ev f) ⟨some d,.slice 45 x (some y) none none,ty,pos,af,gd⟩).run prog w = .ok (.value (.slice (some ⟨g,n,none⟩) (m - n) (m - n))) w:=by
  have:=cp4 (P:=prog) (w:=w) (T:=45) (E:=3) (a:=some ⟨g,0,none⟩) (len:=m) (cap:=m) (lo:=(n:Int)) underlying45 sh3' (by omega) (by omega)
  have hne:¬ m=n:=by omega
  have e:(⟨g,0,none⟩:Addr).add (n * 1)=⟨g,n,none⟩:=by rw [Nat.mul_one,fz_,b0_]
  simp only [sliced,hne,i1_,g4_,c0_,e] at this
  simp [execOp,hx,hy,this,Result.andThen]
theorem sl_h {f:Pad.Fr} {w:World} {d m n g:Nat} {x y:Operand} {ty:TypeId} {pos:String} {af:Array Edge} {gd:Option (Nat×Bool)} (hx:Pad.ev f x = .slice (some ⟨g,0,none⟩) m m) (hy:Pad.ev f y = .int .i64 n) (h:n<m) :
    (execOp (Pad.ev f) ⟨some d,.slice 45 x none (some y) none,ty,pos,af,gd⟩).run prog w = .ok (.value (.slice (some ⟨g,0,none⟩) n m)) w:=by
  have:=cp5 (P:=prog) (w:=w) (T:=45) (E:=3) (a:=some ⟨g,0,none⟩) (len:=m) (cap:=m) (hi:=(n:Int)) underlying45 sh3' (by omega) (by omega)
  have hne:¬ m=0:=by omega
  simp [sliced,hne,Addr.add] at this
  simp [execOp,hx,hy,this,Result.andThen]
theorem op_uI {n d:Nat} {ro:Option Nat} {f:Pad.Fr} {w:World} {K:Pad.Fr→World→Prop} {ty:TypeId} {pos:String} {af:Array Edge} {gd:Option (Nat×Bool)} {x:Operand} {m:Nat} (hd:Nat.blt d n=true) (hx:Pad.ev f x = .int .u64 (m:Int)) (hm:m≤2147483648)
    (k:K (upd f d (.int .i64 (m:Int))) w):OP prog n ro ⟨some d,.convert 221 3 x,ty,pos,af,gd⟩ f w K:=by
  have h64:IntKind.i64.wrap (m:Int)=m:=by rw [IntKind.wrap_i64]; omega
  exact ed_ hd (by simp [execOp,hx,convert,run_underlying underlying221,run_underlying underlying3,Conv.intToInt,h64]) k
theorem aw7 {S:PH}:∀ (l:List Int),@RepL Int Ty.int.enc S (ivs l) l
  | []=>rfl
  | a::l=>⟨[.int .i64 a],ivs l,rfl,rfl,aw7 l⟩
def RI (m g:Nat) (a:Int) (S:PH) (Fr:List HP) (k:Nat) (f:Pad.Fr) (w:World):Prop :=
  k≤m∧(0<m→0<k)∧∃ S',S.Le S'∧Inv w S' (kn_ g 3 (ivs (ao2 m k a)).toArray::Fr)∧f 7 = .slice (some ⟨g,0,none⟩) m m∧f 8 = .int .i64 (k:Int)∧f.ds=[]
theorem cf8 {w:World} {S:PH} {Fr:List HP} {v:Value} {m:Nat} {a:Int} (hI:Inv w S Fr) (hr:RVt (.list .int) S v [a]) (hm:m≤2147483648) :
    Calls prog 97 [v,.int .i64 (m:Int)].toArray w λe w'=>∃ u S',e = .returned u∧S.Le S'∧Inv w' S' (@Row Int Ty.int.enc 3 u (List.replicate m a)::Fr):=by
  obtain ⟨a0,cap0,hv2,_,hmax,hnil,hrow⟩:=@hr_ Int Ty.int.enc S v [a] hr
  obtain ⟨ad,rfl⟩:∃ ad,a0=some ad:=by
    cases a0 with
    | none=>have:=(hnil rfl).1; simp at this
    | some ad=>exact ⟨ad,rfl⟩
  refine qj_ (n:=48) func97 rfl rfl rfl ?_
  refine bn_ (bh_ (wa_ (v:=sn) rfl rfl (dx_ ?_)))
  refine bn_ (bn_ (bh_ (wm_ (v:=.int .i64 m) rfl rfl (wo_ (yq_ (a:=(m:Int)) (b:=0) rfl rfl rfl (dx_ ?_))))))
  refine js_ rfl (b5_ (by omega)) (me_ ?_)
  refine bn_ (bh_ (wm_ (v:=v) rfl rfl (wo_ (ax7 rfl underlying45 hv2 ?_))))
  refine wo_ (cp9 (a:=1) rfl rfl underlying3 underlying221 (wm_ (v:=.int .i64 m) rfl rfl (wo_ (cp9 (a:=(m:Int)) rfl rfl underlying3 underlying221 ?_))))
  rw [cd0 hm,show wu64 1=((1:Nat):Int) from rfl]
  refine wo_ (ax6 (vs:=[.int .u64 ((1:Nat):Int),.int .u64 (m:Int)]) rfl cb_155 rfl (args2 rfl rfl) (sh_Mul 1 m (by omega) (by omega) w) λe w2 he => ?_)
  obtain ⟨rfl,rfl⟩:=he
  rw [show (1 * m / 18446744073709551616:Nat)=0 by omega,show (1 * m % 18446744073709551616:Nat)=m by omega]
  refine ⟨_,rfl,?_⟩
  refine wm_ (v:=.tuple #[.int .u64 ((0:Nat):Int),.int .u64 (m:Int)]) rfl rfl (wo_ (yr_ (v:=.int .u64 ((0:Nat):Int)) rfl rfl rfl (wo_ (yr_ (v:=.int .u64 (m:Int)) rfl rfl rfl (wa_ (v:=.int .u64 ((0:Nat):Int)) rfl rfl (wa_ (v:=.int .u64 (m:Int)) rfl rfl (dx_ ?_)))))))
  refine bn_ (bn_ (bh_ (wm_ (v:=.int .u64 ((0:Nat):Int)) rfl rfl (wo_ (cq0 (a:=((0:Nat):Int)) (b:=0) rfl rfl rfl (wm_ (v:=.bool false) rfl rfl (wk_ rfl rfl rfl (ml_ (v:=.int .u64 (m:Int)) rfl rfl (wk_ rfl rfl rfl (cq0 (a:=(m:Int)) (b:=9223372036854775807) rfl rfl rfl ?_))))))))))
  have hdf:decide ((9223372036854775807:Int)<(m:Int))=false:=b5_ (by omega)
  rw [hdf]
  refine wo_ (bp6 (b:=.bool false) rfl rfl rfl rfl (dx_ (js_ rfl rfl (me_ ?_))))
  refine bn_ (bh_ (wm_ (v:=.int .u64 (m:Int)) rfl rfl (wo_ (op_uI (m:=m) rfl rfl hm ?_))))
  refine wo_ (op_make (m:=m) rfl rfl rfl hm hI λg w3 I3=>wa_ (v:=.slice (some ⟨g,0,none⟩) m m) rfl rfl (dx_ ?_))
  have hcell:w3.cell? ad=some (.int .i64 a):=by
    obtain ⟨es,h1,h2⟩:=hrow ad rfl 0 a rfl
    have h1:es=[.int .i64 a]:=h1
    have h3:=PH.cell_in I3.in_ (h2 0 (.int .i64 a) (by rw [h1]; rfl))
    simpa [Addr.add] using h3
  have hl3:(ivs (List.replicate m (0:Int))).length=m:=by simp [ivs]
  refine bn_ (ao6 (λf w'=>∃ k,RI m g a S Fr k f w') ?_ ?_)
  · refine bh_ (wm_ (v:=.slice (some ⟨g,0,none⟩) m m) rfl rfl (wm_ (v:=v) rfl rfl ?_))
    by_cases h0:m=0
    · subst h0
      refine wo_ (ch5 (dl:=0) (dc:=0) (sl:=1) (sc:=cap0) rfl underlying45 in3 rfl hv2 rfl (wa_ (v:=.int .i64 0) rfl rfl (dx_ ?_)))
      exact ⟨0,c3_ _,λh=>h,S,lr,I3,rfl,rfl,rfl⟩
    · refine wo_ (ax8 (g:=g) (o:=0) (dl:=m) (dc:=m) (sl:=1) (sc:=cap0) (ad:=ad) (ys:=[.int .i64 a]) rfl underlying45 in3 rfl hv2 I3 ?_ ?_ ?_ ?_ λw4 I4=>wa_ (v:=.int .i64 1) rfl rfl (dx_ ?_))
      · show 1=Nat.min 1 m
        exact (p3_ (by omega)).symm
      · intro j u hj
        cases j with
        | zero =>
          obtain rfl:=a6_ hj
          simpa [Addr.add] using hcell
        | succ j=>simp at hj
      · simp [hl3]
        omega
      · intro u hu
        simp at hu
        subst hu
        rfl
      · refine ⟨1,by omega,λ_=>by omega,S,lr,?_,rfl,rfl,rfl⟩
        have:=bu0 (m:=m) (n:=0) (q:=1) (a:=a) (by omega)
        have e0:ao2 m 0 a=List.replicate m 0:=by simp [ao2]
        rw [e0] at this
        rw [← this]
        exact I4
  · rintro f w4 ⟨k0,hk0⟩
    refine bn_ (gd_ (uy_ (I:=λk f w'=>RI m g a S Fr k f w') (λk=>m - k) k0 hk0 ?_))
    rintro k f w5 ⟨r1,r2,S5,le5,r3,r4,r5,r6⟩
    refine bn_ (bn_ (bh_ (wm_ rfl r5 (wm_ rfl r4 (wo_ (ax7 rfl underlying45 rfl (wo_ (yq_ rfl rfl rfl (dx_ ?_)))))))))
    by_cases hkm:k<m
    · refine ng_ rfl (len_t hkm) (me_ ?_)
      refine gd_ (wp_draw (sps:=[spV 38 [] 0 (.int .i64 k),spV 39 [] 1 (.slice (some ⟨g,0,none⟩) m m),spV 40 [] 2 (.int .i64 k),spV 41 [1,2] 3 (.slice (some ⟨g,k,none⟩) (m - k) (m - k)),spV 42 [] 4 (.slice (some ⟨g,0,none⟩) m m),spV 43 [] 5 (.int .i64 k),
        spV 44 [4,5] 6 (.slice (some ⟨g,0,none⟩) k m),⟨some 45,[1,2,3,4,5,6],[7],λvs _=>fr0 vs 0 = .int .i64 (Nat.min k (m - k):Nat),[],[0],[1],λ_ h=>h⟩,spV 46 [0,1,2,3,4,5,6,7] 8 (.int .i64 ((k+Nat.min k (m - k):Nat):Int)),spV 8 (lrg 9) 9 (.int .i64 ((k+Nat.min k (m - k):Nat):Int))])
        (tks:=[⟨none,some 7,[],λ_=>kn_ g 3 (ivs (ao2 m k a)).toArray⟩,⟨some 7,none,[],λ_=>kn_ g 3 (ivs (ao2 m (k+Nat.min k (m - k)) a)).toArray⟩]) (O:=Fr) rfl (by kernel_rfl) r3
        ⟨ob_ rfl λl A K I=>ml_ rfl ((K 8 (wg_ rfl)).trans r5) (fo I),ob_ rfl λl A K I=>ml_ rfl ((K 7 (wg_ rfl)).trans r4) (fo I),ob_ rfl λl A K I=>ml_ rfl ((K 8 (wg_ rfl)).trans r5) (fo I),
          ob_ rfl λl A K I=>ed_ rfl (sl_l (A.v 0 rfl) (A.v 1 rfl) hkm) (fo I),ob_ rfl λl A K I=>ml_ rfl ((K 7 (wg_ rfl)).trans r4) (fo I),ob_ rfl λl A K I=>ml_ rfl ((K 8 (wg_ rfl)).trans r5) (fo I),
          ob_ rfl λl A K I=>ed_ rfl (sl_h (A.v 0 rfl) (A.v 1 rfl) hkm) (fo I),?_,?_,ob_ rfl λl A K I=>no_ rfl (A.v 8 rfl) (fo I),trivial⟩ ?_)
      · intro vs f w_ U X le A K I
        have hq:Nat.min k (m - k)≤k∧k+Nat.min k (m - k)≤m:=⟨Nat.min_le_left _ _,by have:Nat.min k (m - k)≤m - k:=n0_ _ _; omega⟩
        refine pl_ rfl (ax8 (g:=g) (o:=k) (dl:=m - k) (dc:=m - k) (sl:=k) (sc:=m) (ad:=⟨g,0,none⟩) (ys:=ivs (List.replicate (Nat.min k (m - k)) a)) rfl underlying45 in3 (A.v 2 rfl) (A.v 5 rfl) I (by simp [ivs]) ?_ ?_ ivs_one λw6 I6 => ?_)
        · intro j u hj
          have hj2:j<Nat.min k (m - k):=by
            have:=(a3_.1 hj).1
            simpa [ivs] using this
          have e:u = .int .i64 a:=by
            unfold ivs at hj
            rw [d7_,i3_,if_pos hj2] at hj
            exact (a6_ hj).symm
          rw [fz_,b0_,I.cell,e]
          have:=rowR_at (m:=m) (n:=k) (j:=j) (a:=a) (by omega)
          simpa using this
        · have:(ivs (ao2 m k a)).toArray.size=m:=by simp [ivs_len,cf4 r1]
          rw [this]
          simpa [ivs] using hq.2
        · have el:(ivs (List.replicate (Nat.min k (m - k)) a)).length=Nat.min k (m - k):=by simp [ivs]
          have e:=bu0 (m:=m) (n:=k) (q:=Nat.min k (m - k)) (a:=a) hq.2
          rw [el] at I6
          refine ⟨_,U,rfl,lr,by rw [el]; rfl,?_⟩
          show Inv w6 U (kn_ g 3 (ivs (ao2 m (k+Nat.min k (m - k)) a)).toArray::_)
          rw [← e]
          exact I6
      · intro vs f w_ U X le A K I
        have hq:k+Nat.min k (m - k)≤m:=by
          have:Nat.min k (m - k)≤m - k:=n0_ _ _
          omega
        have e:w64 ((k:Int)+(Nat.min k (m - k):Nat))=((k+Nat.min k (m - k):Nat):Int):=by
          rw [kp_ (by omega) (by omega)]
          rfl
        refine pl_ rfl (bp8 rfl (A.v 0 rfl) (A.v 7 rfl) ?_)
        rw [e]
        exact fo I
      · intro vs f6 w6 S6 ds6 le6 hF hK hI6
        have hq:0<Nat.min k (m - k)∧k+Nat.min k (m - k)≤m:=by
          have h1:Nat.min k (m - k)≤m - k:=n0_ _ _
          refine ⟨Nat.lt_min.2 ⟨r2 (by omega),by omega⟩,by omega⟩
        have e8:f6 8 = .int .i64 ((k+Nat.min k (m - k):Nat):Int):=hF.v 9 rfl
        have e7:f6 7 = .slice (some ⟨g,0,none⟩) m m:=(hK 7 (cj9 rfl)).trans r4
        exact ⟨k+Nat.min k (m - k),by omega,hq.2,λ_=>by omega,S6,le5.trans le6,hI6,e7,e8,ds6.trans r6⟩
    · refine js_ rfl (b5_ (by omega)) (uf_ ?_)
      obtain rfl:k=m:=by omega
      refine bn_ (bh_ (wm_ rfl r4 (wa_ (v:=.slice (some ⟨g,0,none⟩) k k) rfl rfl (dx_ (ux_ ⟨r6,.slice (some ⟨g,0,none⟩) k k,res1 rfl rfl,_,S5,rfl,le5,?_⟩)))))
      refine Inv.shut (A:=@Row Int Ty.int.enc 3 _ (List.replicate k a)) r3 (.inr ⟨g,k,[],ivs (List.replicate k a),[],by simp,by simp [ao2],aw7 _,by simp,by simp only [maxLen]; omega,by simp⟩)
noncomputable def dz_ (a0:List Int) (a1:Int):Option (List Int):=match a0 with
  | [a]=>mk? a1 a
  | _=>none
noncomputable def rp_97:Rpt prog:=⟨97,[.list .int,.int],.int,3,λx=>dz_ x.1 x.2.1,λ{w S Fr hv vs x r} hG hI ha hF=>by
  obtain ⟨l,c,u⟩:=x
  match vs,ha with
  | [v1,v2],⟨h1,h2,_⟩ =>
    have hF:dz_ l c=some r:=hF
    match l,hF,h1 with
    | [a],hF,h1 =>
      obtain ⟨c0,c1,rfl⟩:=ab8 (show mk? c a=some r from hF)
      obtain ⟨m,rfl⟩:=m0_ c0
      obtain rfl:v2 = .int .i64 (m:Int):=ls_ (S:=S) (qe_ (hv:=hv) (t:=.int) h2)
      have hr:RVt (.list .int) S v1 [a]:=qe_ (hv:=hv) h1
      rw [c0_]
      refine (cf8 hI hr (by omega)).mono λe w' he => ?_
      obtain ⟨u,S',h3,h4,h5⟩:=he
      exact ⟨u,S',h3,h4,h5⟩⟩
end
section
set_option maxRecDepth 100000
set_option maxHeartbeats 0
theorem cz_86:qn_ prog 3 .int=some (show Int from 0):=by kernel_rfl
theorem ce_86:Rex.elemOf prog 45=some 3:=by kernel_rfl
noncomputable def am3:Cpy prog:=⟨86,.int,3,λhc hI h=>bc2 func86 rfl rfl rfl ce_86 cz_86 rfl hc hI h⟩
theorem cz_87:qn_ prog 4 .bool=some (show Bool from false):=by kernel_rfl
theorem ce_87:Rex.elemOf prog 48=some 4:=by kernel_rfl
noncomputable def cl7:Cpy prog:=⟨87,.bool,4,λhc hI h=>bc2 func87 rfl rfl rfl ce_87 cz_87 rfl hc hI h⟩
end
section
set_option maxRecDepth 100000
set_option maxHeartbeats 0
def an_117:An:=.z
noncomputable def cs_117:List (Con prog):=[]
noncomputable def cl_117:List (Cpy prog):=[]
noncomputable def cx_117:Cx prog:=cxC cs_117 cl_117
noncomputable def br_ (a0:Int) (a1:Int) (a2:Int):Option (Bool×Unit) :=
 (cond (decide (a1≤a0))
 (some ((decide (a0≤a2)),()))
 (some (false,())))
theorem x_117:av_ cx_117 an_117 117 [.int,.int,.int] [.bool]=λx=>br_ x.1 x.2.1 x.2.2.1:=by kernel_rfl
noncomputable def at7:Con prog:=aw_ _ _ 117 [.int,.int,.int] [.bool] _ x_117
def an_207:An:=.z
noncomputable def cs_207:List (Con prog):=[]
noncomputable def cl_207:List (Cpy prog):=[]
noncomputable def cx_207:Cx prog:=cxC cs_207 cl_207
noncomputable def ae4  : Option ((List (List UInt8))×Unit) :=
 (some ([[97,116],[115,116,97,116,101,115],[115,116,97,114,116],[103,111,110,101],[105,102],[108,111,99,107],[119,105,116,104],[115,101,116,115],[115,112,101,110,100,115],[98,114,105,110,103,115]],()))
theorem x_207:av_ cx_207 an_207 207 [] [(.list .str)]=λx=>ae4:=by kernel_rfl
noncomputable def c_207:Con prog:=aw_ _ _ 207 [] [(.list .str)] _ x_207
def an_115:An:=(.p .z (.p (.p .z (.ls [.v 5 .int] [] [] 0 (.p .z (.p (.p (.q [] .z .z) .z) .z)))) .z))
noncomputable def cs_115:List (Con prog):=[]
noncomputable def cl_115:List (Cpy prog):=[]
noncomputable def cx_115:Cx prog:=cxC cs_115 cl_115
noncomputable def fn_ (a0:(List (List UInt8))) (a1:Int):Option (Bool×Unit) :=
 ((ag_ (ρ:=(Unit⊕(Bool×Unit))) (λ(v0:(Int×Unit)) =>
 (cond (decide (v0.1<a1))
 ((at? a0 v0.1).bind λv1 =>
 ((at? a0 a1).bind λv2 =>
 (cond (v1==v2)
 (some (inr (inr (true,()))))
 (some (inl ((w64 (v0.1+1)),()))))))
 (some (inr (inl ()))))) (0,())).bind λv3 =>
 (cc_ v3 (λv4=>(some (false,())))
 (λv5=>(some v5))))
theorem x_115:av_ cx_115 an_115 115 [(.list .str),.int] [.bool]=λx=>fn_ x.1 x.2.1:=by kernel_rfl
noncomputable def c_115:Con prog:=aw_ _ _ 115 [(.list .str),.int] [.bool] _ x_115
def an_167:An:=(.p .z (.p (.p .z (.ls [.v 5 .int] [] [] 0 .z)) .z))
noncomputable def cs_167:List (Con prog):=[]
noncomputable def cl_167:List (Cpy prog):=[]
noncomputable def cx_167:Cx prog:=cxC cs_167 cl_167
noncomputable def mb_ (a0:(List Int)) (a1:Int):Option (Bool×Unit) :=
 ((ag_ (ρ:=(Unit⊕(Bool×Unit))) (λ(v0:(Int×Unit)) =>
 (cond (decide (v0.1<(a0.length:Int)))
 ((at? a0 v0.1).bind λv1 =>
 (cond (v1==a1)
 (some (inr (inr (true,()))))
 (some (inl ((w64 (v0.1+1)),())))))
 (some (inr (inl ()))))) (0,())).bind λv2 =>
 (cc_ v2 (λv3=>(some (false,())))
 (λv4=>(some v4))))
theorem x_167:av_ cx_167 an_167 167 [(.list .int),.int] [.bool]=λx=>mb_ x.1 x.2.1:=by kernel_rfl
noncomputable def c_167:Con prog:=aw_ _ _ 167 [(.list .int),.int] [.bool] _ x_167
def an_120:An:=.z
noncomputable def cs_120:List (Con prog):=[]
noncomputable def cl_120:List (Cpy prog):=[]
noncomputable def cx_120:Cx prog:=cxC cs_120 cl_120
noncomputable def bl_ (a0:Int) (a1:Int) (a2:Int):Option (Bool×Unit) :=
 (cond (decide (a1≤a0))
 (some ((decide (a0≤a2)),()))
 (some (false,())))
theorem x_120:av_ cx_120 an_120 120 [.int,.int,.int] [.bool]=λx=>bl_ x.1 x.2.1 x.2.2.1:=by kernel_rfl
noncomputable def c_120:Con prog:=aw_ _ _ 120 [.int,.int,.int] [.bool] _ x_120
def an_69:An:=.z
noncomputable def cs_69:List (Con prog):=[]
noncomputable def cl_69:List (Cpy prog):=[]
noncomputable def cx_69:Cx prog:=cxC cs_69 cl_69
noncomputable def il_ (a0:Int) (a1:Int) (a2:Int):Option (Bool×Unit) :=
 (cond (decide (a1≤a0))
 (some ((decide (a0≤a2)),()))
 (some (false,())))
theorem x_69:av_ cx_69 an_69 69 [.int,.int,.int] [.bool]=λx=>il_ x.1 x.2.1 x.2.2.1:=by kernel_rfl
noncomputable def c_69:Con prog:=aw_ _ _ 69 [.int,.int,.int] [.bool] _ x_69
def an_122:An:=.z
noncomputable def cs_122:List (Con prog):=[]
noncomputable def cl_122:List (Cpy prog):=[]
noncomputable def cx_122:Cx prog:=cxC cs_122 cl_122
noncomputable def kw_ (a0:ak_):Option (Bool×Unit) :=
 (cond (a0.1==0)
 (cond (a0.2.1==0)
 (cond (a0.2.2.1==0)
 (cond (a0.2.2.2.1==0)
 (cond (a0.2.2.2.2.1==0)
 (cond ((a0.2.2.2.2.2.1.length:Int)==0)
 (some ((!a0.2.2.2.2.2.2),()))
 (some (false,())))
 (some (false,())))
 (some (false,())))
 (some (false,())))
 (some (false,())))
 (some (false,())))
theorem x_122:av_ cx_122 an_122 122 [aq_] [.bool]=λx=>kw_ x.1:=by kernel_rfl
noncomputable def c_122:Con prog:=aw_ _ _ 122 [aq_] [.bool] _ x_122
def an_232:An:=(.p .z (.p .z (.p (.p .z (.ls [.v 5 .int] [] [] 0 (.p .z (.p (.p (.q [] .z .z) .z) .z)))) .z)))
noncomputable def cs_232:List (Con prog):=[]
noncomputable def cl_232:List (Cpy prog):=[]
noncomputable def cx_232:Cx prog:=cxC cs_232 cl_232
noncomputable def go_ (a0:(List Int)) (a1:(List Int)):Option (Bool×Unit) :=
 (cond ((a0.length:Int) != (a1.length:Int))
 (some (false,()))
 ((ag_ (ρ:=(Unit⊕(Bool×Unit))) (λ(v0:(Int×Unit)) =>
 (cond (decide (v0.1<(a0.length:Int)))
 ((at? a0 v0.1).bind λv1 =>
 ((at? a1 v0.1).bind λv2 =>
 (cond (v1 != v2)
 (some (inr (inr (false,()))))
 (some (inl ((w64 (v0.1+1)),()))))))
 (some (inr (inl ()))))) (0,())).bind λv3 =>
 (cc_ v3 (λv4=>(some (true,())))
 (λv5=>(some v5)))))
theorem x_232:av_ cx_232 an_232 232 [(.list .int),(.list .int)] [.bool]=λx=>go_ x.1 x.2.1:=by kernel_rfl
noncomputable def c_232:Con prog:=aw_ _ _ 232 [(.list .int),(.list .int)] [.bool] _ x_232
def an_169:An:=(.p .z (.p .z (.p (.p .z (.lp [.v 5 .int,.v 6 .int] [.v 5 .int] [] 0 (.p .z (.j0 [.v 5 .int] .z .z)))) .z)))
noncomputable def cs_169:List (Con prog):=[]
noncomputable def cl_169:List (Cpy prog):=[]
noncomputable def cx_169:Cx prog:=cxC cs_169 cl_169
noncomputable def eg_ (a0:(List Int)) (a1:Int):Option (Int×Unit) :=
 ((ag_ (ρ:=(Int×Unit)) (λ(v0:(Int×(Int×Unit))) =>
 (cond (decide (v0.2.1<(a0.length:Int)))
 ((((at? a0 v0.2.1).bind λv1 =>
 (cond (v1==a1)
 (some ((w64 (v0.1+1)),()))
 (some (v0.1,()))))).bind λv2 =>
 (some (inl (v2.1,((w64 (v0.2.1+1)),())))))
 (some (inr (v0.1,()))))) (0,(0,()))).bind λv3 =>
 (some (v3.1,())))
theorem x_169:av_ cx_169 an_169 169 [(.list .int),.int] [.int]=λx=>eg_ x.1 x.2.1:=by kernel_rfl
noncomputable def c_169:Con prog:=aw_ _ _ 169 [(.list .int),.int] [.int] _ x_169
def an_16:An:=(.p .z (.p (.p .z (.ls [.v 5 .int] [] [] 0 (.p .z (.p (.p (.q [] .z .z) .z) .z)))) .z))
noncomputable def cs_16:List (Con prog):=[]
noncomputable def cl_16:List (Cpy prog):=[]
noncomputable def cx_16:Cx prog:=cxC cs_16 cl_16
noncomputable def bd_ (a0:ai_) (a1:(List be_)):Option (Bool×Unit) :=
 ((ag_ (ρ:=(Unit⊕(Bool×Unit))) (λ(v0:(Int×Unit)) =>
 (cond (decide (v0.1<(a1.length:Int)))
 ((at? a1 v0.1).bind λv1 =>
 ((at? a0.1 v1.1).bind λv2 =>
 ((at? a1 v0.1).bind λv3 =>
 ((at? a1 v0.1).bind λv4 =>
 (cond ((v2==v3.2.1)==v4.2.2)
 (some (inr (inr (false,()))))
 (some (inl ((w64 (v0.1+1)),()))))))))
 (some (inr (inl ()))))) (0,())).bind λv5 =>
 (cc_ v5 (λv6=>(some (true,())))
 (λv7=>(some v7))))
theorem x_16:av_ cx_16 an_16 16 [ar_,(.list ca_)] [.bool]=λx=>bd_ x.1 x.2.1:=by kernel_rfl
noncomputable def c_16:Con prog:=aw_ _ _ 16 [ar_,(.list ca_)] [.bool] _ x_16
def an_51:An:=.z
noncomputable def cs_51:List (Con prog):=[]
noncomputable def cl_51:List (Cpy prog):=[]
noncomputable def cx_51:Cx prog:=cxC cs_51 cl_51
noncomputable def fo_ (a0:ai_):Option (ai_×Unit) :=
 ((push? (α:=Int) [] a0.1).bind λv0 =>
 ((push? (α:=Int) [] a0.2.1).bind λv1 =>
 ((push? (α:=Int) [] a0.2.2).bind λv2 =>
 (some ((v0,(v1,v2)),())))))
theorem x_51:av_ cx_51 an_51 51 [ar_] [ar_]=λx=>fo_ x.1:=by kernel_rfl
noncomputable def c_51:Con prog:=aw_ _ _ 51 [ar_] [ar_] _ x_51
def an_102:An:=.z
noncomputable def cs_102 (f:List (Con prog)):List (Con prog):=f++[]
noncomputable def cl_102:List (Cpy prog):=[]
noncomputable def cx_102 (f:List (Con prog)):Cx prog:=cxC (cs_102 f) cl_102
noncomputable def g_102 (cb_:Int→Option ((List UInt8)×Unit)) (a0:Int):Option ((List UInt8)×Unit) :=
 ((sub? [48,49,50,51,52,53,54,55,56,57] (Int.tmod a0 10) (w64 ((Int.tmod a0 10)+1))).bind λv0 =>
 (cond (decide (a0<10))
 (some (v0,()))
 ((cb_ (w64 (Int.tdiv a0 10))).bind λv1 =>
 ((cat? v1.1 v0).bind λv2 =>
 (some (v2,()))))))
theorem xr_102:(λ(F:Int→Option ((List UInt8)×Unit)) (h:cb7 prog 102 [.int] [.str] (λx=>F x.1))=>av_ (cx_102 [cnv 102 [.int] [.str] _ h]) an_102 102 [.int] [.str])=λF h x=>g_102 F x.1:=by kernel_rfl
noncomputable def dp_:Nat→Int→Option ((List UInt8)×Unit)
  | 0=>λ_=>none
  | n+1=>g_102 (dp_ n)
theorem cq1:∀ n,cb7 prog 102 [.int] [.str] (λx=>dp_ n x.1)
  | 0=>λ_ _ _ h=>(by cases h)
  | n+1=>λhG hI ha h=>(aw_ _ _ 102 [.int] [.str] _ (congrFun (congrFun xr_102 (dp_ n)) (cq1 n))).ok hG hI ha h
noncomputable def cb_ (a0:Int):Option ((List UInt8)×Unit):=dp_ 20 a0
noncomputable def c_102:Con prog:=cnv 102 [.int] [.str] (λx=>cb_ x.1) (cq1 20)
def an_202:An:=(.p .z (.p .z (.p (.p .z (.lp [.v 5 .int,.v 6 .int] [.v 5 .int] [] 0 (.p .z (.j0 [.v 5 .int] .z .z)))) .z)))
noncomputable def cs_202:List (Con prog):=[]
noncomputable def cl_202:List (Cpy prog):=[]
noncomputable def cx_202:Cx prog:=cxC cs_202 cl_202
noncomputable def gx_ (a0:ai_) (a1:Int):Option (Int×Unit) :=
 ((ag_ (ρ:=(Int×Unit)) (λ(v0:(Int×(Int×Unit))) =>
 (cond (decide (v0.2.1<(a0.2.1.length:Int)))
 ((((at? a0.2.1 v0.2.1).bind λv1 =>
 (cond (v1==(w64 ((-2) - a1)))
 (some ((w64 (v0.1+1)),()))
 (some (v0.1,()))))).bind λv2 =>
 (some (inl (v2.1,((w64 (v0.2.1+1)),())))))
 (some (inr (v0.1,()))))) (0,(0,()))).bind λv3 =>
 (some (v3.1,())))
theorem x_202:av_ cx_202 an_202 202 [ar_,.int] [.int]=λx=>gx_ x.1 x.2.1:=by kernel_rfl
noncomputable def c_202:Con prog:=aw_ _ _ 202 [ar_,.int] [.int] _ x_202
def an_228:An:=(.p .z (.p .z (.p (.p .z (.lp [.r 5 aq_ 94,.v 6 .int] [.r 5 aq_ 94] [] 0 .z)) .z)))
noncomputable def cs_228:List (Con prog):=[]
noncomputable def cl_228:List (Cpy prog):=[]
noncomputable def cx_228:Cx prog:=cxC cs_228 cl_228
noncomputable def jd_ (a0:ad_) (a1:(List Int)):Option ((List ak_)×Unit) :=
 ((ag_ (ρ:=((List ak_)×Unit)) (λ(v0:((List ak_)×(Int×Unit))) =>
 (cond (decide (v0.2.1<(a1.length:Int)))
 ((at? a1 v0.2.1).bind λv1 =>
 ((at? a0.2.2.2.1 v1).bind λv2 =>
 ((push? (α:=ak_) v0.1 [v2.2.2.2.2]).bind λv3 =>
 (some (inl (v3,((w64 (v0.2.1+1)),())))))))
 (some (inr (v0.1,()))))) ([],(0,()))).bind λv4 =>
 (some (v4.1,())))
theorem x_228:av_ cx_228 an_228 228 [ao_,(.list .int)] [(.list aq_)]=λx=>jd_ x.1 x.2.1:=by kernel_rfl
noncomputable def c_228:Con prog:=aw_ _ _ 228 [ao_,(.list .int)] [(.list aq_)] _ x_228
def an_204:An:=(.p .z (.p .z (.p (.p .z (.lp [.r 7 .int 3,.v 8 .int] [.r 7 .int 3] [] 0 (.p .z (.j0 [.r 7 .int 3] (.j0 [.v 30 .bool] .z .z) .z)))) .z)))
noncomputable def cs_204:List (Con prog):=[]
noncomputable def cl_204:List (Cpy prog):=[]
noncomputable def cx_204:Cx prog:=cxC cs_204 cl_204
noncomputable def hg_ (a0:ad_) (a1:aa_) (a2:Int):Option ((List Int)×Unit) :=
 ((ag_ (ρ:=((List Int)×Unit)) (λ(v0:((List Int)×(Int×Unit))) =>
 (cond (decide (v0.2.1<(a0.2.2.2.1.length:Int)))
 ((((((at? a1.2 v0.2.1).bind λv1 =>
 (cond v1
 ((at? a0.2.2.2.1 v0.2.1).bind λv2 =>
 (some ((v2.2.2.1==a2),())))
 (some (false,()))))).bind λv3 =>
 (cond v3.1
 ((push? (α:=Int) v0.1 [v0.2.1]).bind λv4 =>
 (some (v4,())))
 (some (v0.1,()))))).bind λv5 =>
 (some (inl (v5.1,((w64 (v0.2.1+1)),())))))
 (some (inr (v0.1,()))))) ([],(0,()))).bind λv6 =>
 (some (v6.1,())))
theorem x_204:av_ cx_204 an_204 204 [ao_,aj_,.int] [(.list .int)]=λx=>hg_ x.1 x.2.1 x.2.2.1:=by kernel_rfl
noncomputable def c_204:Con prog:=aw_ _ _ 204 [ao_,aj_,.int] [(.list .int)] _ x_204
def an_63:An:=(.p .z (.p (.j0 [.v 49 .bool] .z .z) (.p (.p .z (.ls [.v 3 .int] [] [] 0 .z)) (.p (.p .z (.ls [.v 4 .int] [] [] 2 .z)) (.p (.p .z (.ls [.v 5 .int] [] [] 4 (.p .z (.p (.j0 [.v 103 .bool] .z .z) .z)))) (.p (.p .z (.ls [.v 6 .int] [] [] 6 .z)) (.p (.p .z (.ls [.v 7 .int] [] [] 8 (.p .z (.p (.p .z (.j0 [.v 164 .bool] .z .z)) .z)))) (.p (.p .z (.ls [.v 9 .int] [] [] 10 .z)) .z))))))))
noncomputable def cs_63:List (Con prog):=[]
noncomputable def cl_63:List (Cpy prog):=[]
noncomputable def cx_63:Cx prog:=cxC cs_63 cl_63
noncomputable def mt_ (a0:af_):Option (Bool×Unit) :=
 (((cond (decide (12<(a0.1.length:Int)))
 (some (true,()))
 (cond (decide (15<(a0.2.1.length:Int)))
 (some (true,()))
 (cond (decide (14<(a0.2.2.1.length:Int)))
 (some (true,()))
 (cond (decide (20<(a0.2.2.2.1.length:Int)))
 (some (true,()))
 (cond (decide (30<(a0.2.2.2.2.1.length:Int)))
 (some (true,()))
 (cond (decide (15<(a0.2.2.2.2.2.1.length:Int)))
 (some (true,()))
 (some ((decide (20<(a0.2.2.2.2.2.2.2.length:Int))),()))))))))).bind λv0 =>
 (cond v0.1
 (some (true,()))
 ((ag_ (ρ:=(Unit⊕(Bool×Unit))) (λ(v1:(Int×Unit)) =>
 (cond (decide (v1.1<(a0.1.length:Int)))
 ((at? a0.1 v1.1).bind λv2 =>
 (cond (decide (100<(v2.length:Int)))
 (some (inr (inr (true,()))))
 (some (inl ((w64 (v1.1+1)),())))))
 (some (inr (inl ()))))) (0,())).bind λv3 =>
 (cc_ v3 (λv4=>((ag_ (ρ:=(Unit⊕(Bool×Unit))) (λ(v6:(Int×Unit)) =>
 (cond (decide (v6.1<(a0.2.1.length:Int)))
 ((at? a0.2.1 v6.1).bind λv7 =>
 (cond (decide (100<(v7.1.length:Int)))
 (some (inr (inr (true,()))))
 (some (inl ((w64 (v6.1+1)),())))))
 (some (inr (inl ()))))) (0,())).bind λv8 =>
 (cc_ v8 (λv9=>((ag_ (ρ:=(Unit⊕(Bool×Unit))) (λ(v11:(Int×Unit)) =>
 (cond (decide (v11.1<(a0.2.2.1.length:Int)))
 ((((at? a0.2.2.1 v11.1).bind λv12 =>
 (cond (decide (100<(v12.1.length:Int)))
 (some (true,()))
 ((at? a0.2.2.1 v11.1).bind λv13 =>
 (some ((decide (20<(v13.2.2.length:Int))),())))))).bind λv14 =>
 (cond v14.1
 (some (inr (inr (true,()))))
 (some (inl ((w64 (v11.1+1)),())))))
 (some (inr (inl ()))))) (0,())).bind λv15 =>
 (cc_ v15 (λv16=>((ag_ (ρ:=(Unit⊕(Bool×Unit))) (λ(v18:(Int×Unit)) =>
 (cond (decide (v18.1<(a0.2.2.2.1.length:Int)))
 ((at? a0.2.2.2.1 v18.1).bind λv19 =>
 (cond (decide (20<(v19.2.2.length:Int)))
 (some (inr (inr (true,()))))
 (some (inl ((w64 (v18.1+1)),())))))
 (some (inr (inl ()))))) (0,())).bind λv20 =>
 (cc_ v20 (λv21=>((ag_ (ρ:=(Unit⊕(Bool×Unit))) (λ(v23:(Int×Unit)) =>
 (cond (decide (v23.1<(a0.2.2.2.2.1.length:Int)))
 ((at? a0.2.2.2.2.1 v23.1).bind λv24 =>
 (((cond (decide (100<(v24.1.length:Int)))
 (some (true,()))
 (cond (decide (20<(v24.2.2.2.2.1.length:Int)))
 (some (true,()))
 (cond (decide (20<(v24.2.2.2.1.length:Int)))
 (some (true,()))
 (cond (decide (20<(v24.2.2.2.2.2.1.length:Int)))
 (some (true,()))
 (cond (decide (20<(v24.2.2.2.2.2.2.1.length:Int)))
 (some (true,()))
 (some ((decide (20<(v24.2.2.2.2.2.2.2.length:Int))),())))))))).bind λv25 =>
 (cond v25.1
 (some (inr (inr (true,()))))
 (some (inl ((w64 (v23.1+1)),()))))))
 (some (inr (inl ()))))) (0,())).bind λv26 =>
 (cc_ v26 (λv27=>((ag_ (ρ:=(Unit⊕(Bool×Unit))) (λ(v29:(Int×Unit)) =>
 (cond (decide (v29.1<(a0.2.2.2.2.2.1.length:Int)))
 ((at? a0.2.2.2.2.2.1 v29.1).bind λv30 =>
 (cond (decide (20<(v30.1.length:Int)))
 (some (inr (inr (true,()))))
 (some (inl ((w64 (v29.1+1)),())))))
 (some (inr (inl ()))))) (0,())).bind λv31 =>
 (cc_ v31 (λv32=>(some (false,())))
 (λv33=>(some v33)))))
 (λv28=>(some v28)))))
 (λv22=>(some v22)))))
 (λv17=>(some v17)))))
 (λv10=>(some v10)))))
 (λv5=>(some v5))))))
theorem x_63:av_ cx_63 an_63 63 [ap_] [.bool]=λx=>mt_ x.1:=by kernel_rfl
noncomputable def c_63:Con prog:=aw_ _ _ 63 [ap_] [.bool] _ x_63
def an_126:An:=.z
noncomputable def cs_126:List (Con prog):=[]
noncomputable def cl_126:List (Cpy prog):=[]
noncomputable def cx_126:Cx prog:=cxC cs_126 cl_126
noncomputable def bc_ (a0:Int) (a1:Int) (a2:Int):Option (Bool×Unit) :=
 (cond (decide (a1≤a0))
 (some ((decide (a0≤a2)),()))
 (some (false,())))
theorem x_126:av_ cx_126 an_126 126 [.int,.int,.int] [.bool]=λx=>bc_ x.1 x.2.1 x.2.2.1:=by kernel_rfl
noncomputable def by8:Con prog:=aw_ _ _ 126 [.int,.int,.int] [.bool] _ x_126
def an_233:An:=(.p .z (.p (.p .z (.ls [.v 8 .int] [] [] 0 .z)) .z))
noncomputable def cs_233:List (Con prog):=[]
noncomputable def cl_233:List (Cpy prog):=[]
noncomputable def cx_233:Cx prog:=cxC cs_233 cl_233
noncomputable def dr_ (a0:(List (List UInt8))) (a1:(List UInt8)):Option (Int×Unit) :=
 ((ag_ (ρ:=(Unit⊕(Int×Unit))) (λ(v0:(Int×Unit)) =>
 (cond (decide (v0.1<(a0.length:Int)))
 ((at? a0 v0.1).bind λv1 =>
 (cond (a1==v1)
 (some (inr (inr (v0.1,()))))
 (some (inl ((w64 (v0.1+1)),())))))
 (some (inr (inl ()))))) (0,())).bind λv2 =>
 (cc_ v2 (λv3=>(some ((-1),())))
 (λv4=>(some v4))))
theorem x_233:av_ cx_233 an_233 233 [(.list .str),.str] [.int]=λx=>dr_ x.1 x.2.1:=by kernel_rfl
noncomputable def c_233:Con prog:=aw_ _ _ 233 [(.list .str),.str] [.int] _ x_233
def an_128:An:=.z
noncomputable def cs_128:List (Con prog):=[]
noncomputable def cl_128:List (Cpy prog):=[]
noncomputable def cx_128:Cx prog:=cxC cs_128 cl_128
noncomputable def ub_ (a0:(List UInt8)):Option ((List UInt8)×Unit) :=
 (some (a0,()))
theorem x_128:av_ cx_128 an_128 128 [.str] [.str]=λx=>ub_ x.1:=by kernel_rfl
noncomputable def c_128:Con prog:=aw_ _ _ 128 [.str] [.str] _ x_128
def an_130:An:=.z
noncomputable def cs_130:List (Con prog):=[]
noncomputable def cl_130:List (Cpy prog):=[]
noncomputable def cx_130:Cx prog:=cxC cs_130 cl_130
noncomputable def ua_ (a0:gs_):Option ((List UInt8)×Unit) :=
 (some (a0.1,()))
theorem x_130:av_ cx_130 an_130 130 [pu_] [.str]=λx=>ua_ x.1:=by kernel_rfl
noncomputable def c_130:Con prog:=aw_ _ _ 130 [pu_] [.str] _ x_130
def an_132:An:=.z
noncomputable def cs_132:List (Con prog):=[]
noncomputable def cl_132:List (Cpy prog):=[]
noncomputable def cx_132:Cx prog:=cxC cs_132 cl_132
noncomputable def wz_ (a0:jr_):Option ((List UInt8)×Unit) :=
 (some (a0.1,()))
theorem x_132:av_ cx_132 an_132 132 [op_] [.str]=λx=>wz_ x.1:=by kernel_rfl
noncomputable def c_132:Con prog:=aw_ _ _ 132 [op_] [.str] _ x_132
def an_177:An:=.z
noncomputable def cs_177:List (Con prog):=[]
noncomputable def cl_177:List (Cpy prog):=[]
noncomputable def cx_177:Cx prog:=cxC cs_177 cl_177
noncomputable def yd_ (a0:cw_):Option ((List UInt8)×Unit) :=
 (some (a0.1,()))
theorem x_177:av_ cx_177 an_177 177 [lq_] [.str]=λx=>yd_ x.1:=by kernel_rfl
noncomputable def c_177:Con prog:=aw_ _ _ 177 [lq_] [.str] _ x_177
def an_178:An:=(.p .z (.p .z (.p (.p .z (.ls [.v 5 .int,.v 10 .int] [] [] 0 (.p .z (.p .z (.p (.p .z (.p (.j0 [.v 23 .bool] .z .z) .z)) .z))))) .z)))
noncomputable def cs_178:List (Con prog):=[]
noncomputable def cl_178:List (Cpy prog):=[]
noncomputable def cx_178:Cx prog:=cxC cs_178 cl_178
noncomputable def gw_ (a0:af_) (a1:(List Int)):Option (Bool×Unit) :=
 ((ag_ (ρ:=(Unit⊕(Bool×Unit))) (λ(v0:(Int×(Int×Unit))) =>
 (cond (decide (v0.2.1<(a1.length:Int)))
 ((at? a1 v0.2.1).bind λv1 =>
 (((cond (decide (v1≤v0.1))
 (some (true,()))
 (some ((decide ((a0.2.2.1.length:Int)≤v1)),())))).bind λv2 =>
 (cond v2.1
 (some (inr (inr (false,()))))
 (some (inl (v1,((w64 (v0.2.1+1)),())))))))
 (some (inr (inl ()))))) ((-1),(0,()))).bind λv3 =>
 (cc_ v3 (λv4=>(some (true,())))
 (λv5=>(some v5))))
theorem x_178:av_ cx_178 an_178 178 [ap_,(.list .int)] [.bool]=λx=>gw_ x.1 x.2.1:=by kernel_rfl
noncomputable def c_178:Con prog:=aw_ _ _ 178 [ap_,(.list .int)] [.bool] _ x_178
def an_36:An:=(.p .z (.p (.p .z (.ls [.v 8 .int] [] [] 0 .z)) .z))
noncomputable def cs_36:List (Con prog):=[]
noncomputable def cl_36:List (Cpy prog):=[]
noncomputable def cx_36:Cx prog:=cxC cs_36 cl_36
noncomputable def bs_ (a0:(List Int)) (a1:Int):Option (Int×Unit) :=
 ((ag_ (ρ:=(Unit⊕(Int×Unit))) (λ(v0:(Int×Unit)) =>
 (cond (decide (v0.1<(a0.length:Int)))
 ((at? a0 v0.1).bind λv1 =>
 (cond (a1==v1)
 (some (inr (inr (v0.1,()))))
 (some (inl ((w64 (v0.1+1)),())))))
 (some (inr (inl ()))))) (0,())).bind λv2 =>
 (cc_ v2 (λv3=>(some ((-1),())))
 (λv4=>(some v4))))
theorem x_36:av_ cx_36 an_36 36 [(.list .int),.int] [.int]=λx=>bs_ x.1 x.2.1:=by kernel_rfl
noncomputable def c_36:Con prog:=aw_ _ _ 36 [(.list .int),.int] [.int] _ x_36
def an_136:An:=.z
noncomputable def cs_136:List (Con prog):=[]
noncomputable def cl_136:List (Cpy prog):=[]
noncomputable def cx_136:Cx prog:=cxC cs_136 cl_136
noncomputable def bx_ (a0:Int) (a1:Int) (a2:Int):Option (Bool×Unit) :=
 (cond (decide (a1≤a0))
 (some ((decide (a0≤a2)),()))
 (some (false,())))
theorem x_136:av_ cx_136 an_136 136 [.int,.int,.int] [.bool]=λx=>bx_ x.1 x.2.1 x.2.2.1:=by kernel_rfl
noncomputable def cm2:Con prog:=aw_ _ _ 136 [.int,.int,.int] [.bool] _ x_136
def an_81:An:=.z
noncomputable def cs_81:List (Con prog):=[]
noncomputable def cl_81:List (Cpy prog):=[]
noncomputable def cx_81:Cx prog:=cxC cs_81 cl_81
noncomputable def bp_ (a0:Int) (a1:Int) (a2:Int):Option (Bool×Unit) :=
 (cond (decide (a1≤a0))
 (some ((decide (a0≤a2)),()))
 (some (false,())))
theorem x_81:av_ cx_81 an_81 81 [.int,.int,.int] [.bool]=λx=>bp_ x.1 x.2.1 x.2.2.1:=by kernel_rfl
noncomputable def c_81:Con prog:=aw_ _ _ 81 [.int,.int,.int] [.bool] _ x_81
def an_140:An:=(.p .z (.p (.p .z (.j0 [.v 5 .bool] .z .z)) (.p (.p .z (.ls [.v 19 .int] [] [] 1 (.p .z (.p .z (.p (.p .z (.j0 [.v 31 .bool] .z .z)) .z))))) .z)))
noncomputable def cs_140:List (Con prog):=[]
noncomputable def cl_140:List (Cpy prog):=[]
noncomputable def cx_140:Cx prog:=cxC cs_140 cl_140
noncomputable def ms_ (a0:(List UInt8)):Option (Bool×Unit) :=
 (((cond (a0==[])
 (some ((a0==[]),()))
 (cond (a0==[97,116])
 (some ((a0==[97,116]),()))
 (cond (a0==[115,116,97,116,101,115])
 (some ((a0==[115,116,97,116,101,115]),()))
 (cond (a0==[115,116,97,114,116])
 (some ((a0==[115,116,97,114,116]),()))
 (cond (a0==[103,111,110,101])
 (some ((a0==[103,111,110,101]),()))
 (cond (a0==[105,102])
 (some ((a0==[105,102]),()))
 (cond (a0==[108,111,99,107])
 (some ((a0==[108,111,99,107]),()))
 (cond (a0==[119,105,116,104])
 (some ((a0==[119,105,116,104]),()))
 (cond (a0==[115,101,116,115])
 (some ((a0==[115,101,116,115]),()))
 (cond (a0==[115,112,101,110,100,115])
 (some ((a0==[115,112,101,110,100,115]),()))
 (some ((a0==[98,114,105,110,103,115]),()))))))))))))).bind λv0 =>
 (cond v0.1
 (some (false,()))
 ((ag_ (ρ:=(Unit⊕(Bool×Unit))) (λ(v1:(Int×Unit)) =>
 (cond (decide (v1.1<(a0.length:Int)))
 ((((at? a0 v1.1).bind λv2 =>
 (cond (decide (((UInt8.toNat v2):Int)<97))
 (some (true,()))
 ((at? a0 v1.1).bind λv3 =>
 (some ((decide (122<((UInt8.toNat v3):Int))),())))))).bind λv4 =>
 (cond v4.1
 (some (inr (inr (false,()))))
 (some (inl ((w64 (v1.1+1)),())))))
 (some (inr (inl ()))))) (0,())).bind λv5 =>
 (cc_ v5 (λv6=>(some (true,())))
 (λv7=>(some v7))))))
theorem x_140:av_ cx_140 an_140 140 [.str] [.bool]=λx=>ms_ x.1:=by kernel_rfl
noncomputable def c_140:Con prog:=aw_ _ _ 140 [.str] [.bool] _ x_140
def an_141:An:=.z
noncomputable def cs_141:List (Con prog):=[]
noncomputable def cl_141:List (Cpy prog):=[]
noncomputable def cx_141:Cx prog:=cxC cs_141 cl_141
noncomputable def ke_ (a0:ak_):Option (Bool×Unit) :=
 (cond (a0.1==0)
 (cond (a0.2.1==0)
 (cond (a0.2.2.1==0)
 (cond (a0.2.2.2.1==0)
 (cond (a0.2.2.2.2.1==0)
 (cond ((a0.2.2.2.2.2.1.length:Int)==0)
 (some ((!a0.2.2.2.2.2.2),()))
 (some (false,())))
 (some (false,())))
 (some (false,())))
 (some (false,())))
 (some (false,())))
 (some (false,())))
theorem x_141:av_ cx_141 an_141 141 [aq_] [.bool]=λx=>ke_ x.1:=by kernel_rfl
noncomputable def c_141:Con prog:=aw_ _ _ 141 [aq_] [.bool] _ x_141
def an_237:An:=(.p .z (.p .z (.p (.p .z (.lp [.v 4 .int,.v 13 .int] [.v 4 .int] [.o (.s 6) .int,.o (.s 7) .int] 0 (.p .z (.p .z (.p (.p .z (.j0 [.v 4 .int] .z .z)) .z))))) (.p (.p .z (.lp [.v 5 .int,.v 40 .int] [.v 5 .int] [] 2 .z)) .z))))
noncomputable def cs_237:List (Con prog):=[]
noncomputable def cl_237:List (Cpy prog):=[]
noncomputable def cx_237:Cx prog:=cxC cs_237 cl_237
noncomputable def id_ (a0:(List Int)) (a1:(List Int)):Option (Int×Int×Unit) :=
 ((ag_ (ρ:=(Int×((List Int)×((List Int)×Unit)))) (λ(v0:(Int×(Int×((List Int)×((List Int)×Unit))))) =>
 (cond (decide (v0.2.1<(a0.length:Int)))
 ((at? a0 v0.2.1).bind λv1 =>
 ((((at? a1 v0.2.1).bind λv2 =>
 (cond (v1==v2)
 (some ((w64 (v0.1+1)),()))
 (some (v0.1,()))))).bind λv3 =>
 (cond (decide (v1<(10:Int)))
 ((at? v0.2.2.1 v1).bind λv4 =>
 ((at? v0.2.2.1 v1).bind λv5 =>
 (cond (decide (v1<(10:Int)))
 ((at? v0.2.2.1 v1).bind λv6 =>
 ((at? v0.2.2.1 v1).bind λv7 =>
 ((at? a1 v0.2.1).bind λv8 =>
 (cond (decide (v8<(10:Int)))
 ((at? v0.2.2.2.1 v8).bind λv9 =>
 ((at? v0.2.2.2.1 v8).bind λv10 =>
 (cond (decide (v8<(10:Int)))
 ((at? v0.2.2.2.1 v8).bind λv11 =>
 ((at? v0.2.2.2.1 v8).bind λv12 =>
 (some (inl (v3.1,((w64 (v0.2.1+1)),((v0.2.2.1.set v1.toNat (w64 (v5+1))),((v0.2.2.2.1.set v8.toNat (w64 (v10+1))),()))))))))
 none)))
 none))))
 none)))
 none)))
 (some (inr (v0.1,(v0.2.2.1,(v0.2.2.2.1,()))))))) (0,(0,([0,0,0,0,0,0,0,0,0,0],([0,0,0,0,0,0,0,0,0,0],()))))).bind λv13 =>
 ((ag_ (ρ:=(Int×Unit)) (λ(v14:(Int×(Int×Unit))) =>
 (cond (decide (v14.2.1<10))
 (cond (decide (v14.2.1<(10:Int)))
 ((at? v13.2.1 v14.2.1).bind λv15 =>
 ((at? v13.2.1 v14.2.1).bind λv16 =>
 (cond (decide (v14.2.1<(10:Int)))
 ((at? v13.2.2.1 v14.2.1).bind λv17 =>
 ((at? v13.2.2.1 v14.2.1).bind λv18 =>
 (some (inl ((w64 (v14.1+(minI v16 v18))),((w64 (v14.2.1+1)),()))))))
 none)))
 none)
 (some (inr (v14.1,()))))) (0,(0,()))).bind λv19 =>
 (some (v13.1,((w64 (v19.1 - v13.1)),())))))
theorem x_237:av_ cx_237 an_237 237 [(.list .int),(.list .int)] [.int,.int]=λx=>id_ x.1 x.2.1:=by kernel_rfl
noncomputable def c_237:Con prog:=aw_ _ _ 237 [(.list .int),(.list .int)] [.int,.int] _ x_237
def an_147:An:=.z
def at_147:FuncId→An:=λk=>cond (Nat.beq k 143) (.p .z (.j0 [.v 4 .bool] .z .z)) (cond (Nat.beq k 189) (.p .z (.p (.p .z (.ls [.v 8 .int] [] [] 0 .z)) .z)) (cond (Nat.beq k 192) (.p .z (.p (.q [] .z .z) .z)) (.z)))
noncomputable def cs_147:List (Con prog):=[]
noncomputable def cl_147:List (Cpy prog):=[]
noncomputable def cx_147:Cx prog:=cxI at_147 (λk=>false) (cxC cs_147 cl_147) 4
noncomputable def bb_ (a0:hb_) (a1:(List be_)):Option (Bool×Unit) :=
 ((((ag_ (ρ:=(Unit⊕(Bool×Unit))) (λ(v0:(Int×Unit)) =>
 (cond (decide (v0.1<(a1.length:Int)))
 ((at? a1 v0.1).bind λv1 =>
 ((at? a0.2.1 v1.1).bind λv2 =>
 (cond ((v2==v1.2.1)==v1.2.2)
 (some (inr (inr ((decide (0≤v0.1)),()))))
 (some (inl ((w64 (v0.1+1)),()))))))
 (some (inr (inl ()))))) (0,())).bind λv3 =>
 (cc_ v3 (λv4=>(some ((decide (0≤(-1))),())))
 (λv5=>(some v5))))).bind λv6 =>
 (some ((!v6.1),())))
theorem x_147:av_ cx_147 an_147 147 [(.ref ev_),(.list ca_)] [.bool]=λx=>bb_ x.1 x.2.1:=by kernel_rfl
noncomputable def by6:Con prog:=aw_ _ _ 147 [(.ref ev_),(.list ca_)] [.bool] _ x_147
def an_197:An:=(.p .z (.p (.p .z (.lp [.v 4 .int,.v 13 .int] [.v 4 .int] [] 0 (.p .z (.p .z (.j0 [.v 4 .int] .z .z))))) .z))
noncomputable def cs_197:List (Con prog):=[]
noncomputable def cl_197:List (Cpy prog):=[]
noncomputable def cx_197:Cx prog:=cxC cs_197 cl_197
noncomputable def dh_ (a0:hb_) (a1:Int):Option (Int×Unit) :=
 ((ag_ (ρ:=(Int×Unit)) (λ(v0:(Int×(Int×Unit))) =>
 (cond (decide (v0.2.1<(a0.2.2.1.length:Int)))
 ((((at? a0.2.2.1 v0.2.1).bind λv1 =>
 (cond (v1==(w64 ((-2) - a1)))
 (some ((w64 (v0.1+1)),()))
 (some (v0.1,()))))).bind λv2 =>
 (some (inl (v2.1,((w64 (v0.2.1+1)),())))))
 (some (inr (v0.1,()))))) (0,(0,()))).bind λv3 =>
 (some (v3.1,())))
theorem x_197:av_ cx_197 an_197 197 [(.ref ev_),.int] [.int]=λx=>dh_ x.1 x.2.1:=by kernel_rfl
noncomputable def c_197:Con prog:=aw_ _ _ 197 [(.ref ev_),.int] [.int] _ x_197
def an_56:An:=(.p .z (.p .z (.p (.p .z (.lp [.v 3 .str,.v 9 .int] [.v 3 .str] [] 0 .z)) .z)))
noncomputable def cs_56:List (Con prog):=[c_106]
noncomputable def cl_56:List (Cpy prog):=[]
noncomputable def cx_56:Cx prog:=cxC cs_56 cl_56
noncomputable def lb_ (a0:aa_):Option ((List UInt8)×Unit) :=
 ((ag_ (ρ:=((List UInt8)×Unit)) (λ(v0:((List UInt8)×(Int×Unit))) =>
 (cond (decide (v0.2.1<(a0.2.length:Int)))
 ((at? a0.2 v0.2.1).bind λv1 =>
 ((dy_ v1).bind λv2 =>
 ((cat? v2.1 [32]).bind λv3 =>
 ((cat? v0.1 v3).bind λv4 =>
 (some (inl (v4,((w64 (v0.2.1+1)),()))))))))
 (some (inr (v0.1,()))))) ([],(0,()))).bind λv5 =>
 (some (v5.1,())))
theorem x_56:av_ cx_56 an_56 56 [aj_] [.str]=λx=>lb_ x.1:=by kernel_rfl
noncomputable def c_56:Con prog:=aw_ _ _ 56 [aj_] [.str] _ x_56
def an_73:An:=.z
noncomputable def cs_73:List (Con prog):=[]
noncomputable def cl_73:List (Cpy prog):=[]
noncomputable def cx_73:Cx prog:=cxC cs_73 cl_73
noncomputable def ae5 (a0:ae_):Option (Bool×Unit) :=
 (some (true,()))
theorem x_73:av_ cx_73 an_73 73 [cl_] [.bool]=λx=>ae5 x.1:=by kernel_rfl
noncomputable def c_73:Con prog:=aw_ _ _ 73 [cl_] [.bool] _ x_73
def an_70:An:=.z
noncomputable def cs_70:List (Con prog):=[]
noncomputable def cl_70:List (Cpy prog):=[]
noncomputable def cx_70:Cx prog:=cxC cs_70 cl_70
noncomputable def xb_  : Option (af_×Unit) :=
 (some (([[104,97,108,108],[118,97,117,108,116]],([([98,111,120],(0,(2,0))),([100,111,111,114],(0,(2,0)))],([([107,101,121],(0,[(0,(1,false))]))],([(0,(1,[(1,(1,false))]))],([([111,112,101,110],(0,(0,([],([],([(0,1)],([],[]))))))),([116,117,114,110],(0,((-1),([0],([],([(1,1)],([0],[])))))))],([],(1,[]))))))),()))
theorem x_70:av_ cx_70 an_70 70 [] [ap_]=λx=>xb_:=by kernel_rfl
noncomputable def c_70:Con prog:=aw_ _ _ 70 [] [ap_] _ x_70
def an_71:An:=.z
noncomputable def cs_71:List (Con prog):=[]
noncomputable def cl_71:List (Cpy prog):=[]
noncomputable def cx_71:Cx prog:=cxC cs_71 cl_71
noncomputable def cn_ (a0:(List be_)):Option ((List be_)×Unit) :=
 ((push? (α:=be_) [] a0).bind λv0 =>
 (some (v0,())))
theorem x_71:av_ cx_71 an_71 71 [(.list ca_)] [(.list ca_)]=λx=>cn_ x.1:=by kernel_rfl
noncomputable def c_71:Con prog:=aw_ _ _ 71 [(.list ca_)] [(.list ca_)] _ x_71
def an_72:An:=.z
noncomputable def cs_72:List (Con prog):=[]
noncomputable def cl_72:List (Cpy prog):=[]
noncomputable def cx_72:Cx prog:=cxC cs_72 cl_72
noncomputable def dn_ (a0:(List Int)):Option ((List Int)×Unit) :=
 ((push? (α:=Int) [] a0).bind λv0 =>
 (some (v0,())))
theorem x_72:av_ cx_72 an_72 72 [(.list .int)] [(.list .int)]=λx=>dn_ x.1:=by kernel_rfl
noncomputable def c_72:Con prog:=aw_ _ _ 72 [(.list .int)] [(.list .int)] _ x_72
def an_34:An:=.z
noncomputable def cs_34:List (Con prog):=[]
noncomputable def cl_34:List (Cpy prog):=[]
noncomputable def cx_34:Cx prog:=cxC cs_34 cl_34
noncomputable def gn_ (a0:ak_):Option (ak_×Unit) :=
 ((push? (α:=Int) [] a0.2.2.2.2.2.1).bind λv0 =>
 (some ((a0.1,(a0.2.1,(a0.2.2.1,(a0.2.2.2.1,(a0.2.2.2.2.1,(v0,a0.2.2.2.2.2.2)))))),())))
theorem x_34:av_ cx_34 an_34 34 [aq_] [aq_]=λx=>gn_ x.1:=by kernel_rfl
noncomputable def c_34:Con prog:=aw_ _ _ 34 [aq_] [aq_] _ x_34
def an_75:An:=.z
noncomputable def cs_75:List (Con prog):=[]
noncomputable def cl_75:List (Cpy prog):=[]
noncomputable def cx_75:Cx prog:=cxC cs_75 cl_75
noncomputable def ku_ (a0:ae_) (a1:Int):Option (Bool×Unit) :=
 (cond (a0.1.2.1==4)
 (some ((a0.1.2.2==a1),()))
 (some (false,())))
theorem x_75:av_ cx_75 an_75 75 [cl_,.int] [.bool]=λx=>ku_ x.1 x.2.1:=by kernel_rfl
noncomputable def c_75:Con prog:=aw_ _ _ 75 [cl_,.int] [.bool] _ x_75
def an_12:An:=(.p .z (.p .z (.p (.p .z (.ls [.v 5 .int] [] [] 0 (.p .z (.p (.p (.q [] .z .z) .z) .z)))) .z)))
noncomputable def cs_12:List (Con prog):=[]
noncomputable def cl_12:List (Cpy prog):=[]
noncomputable def cx_12:Cx prog:=cxC cs_12 cl_12
noncomputable def fu_ (a0:(List ac_)) (a1:(List ac_)):Option (Bool×Unit) :=
 (cond ((a0.length:Int) != (a1.length:Int))
 (some (false,()))
 ((ag_ (ρ:=(Unit⊕(Bool×Unit))) (λ(v0:(Int×Unit)) =>
 (cond (decide (v0.1<(a0.length:Int)))
 ((at? a0 v0.1).bind λv1 =>
 ((at? a1 v0.1).bind λv2 =>
 (cond (!((v1.1==v2.1)&&((v1.2.1==v2.2.1)&&(v1.2.2==v2.2.2))))
 (some (inr (inr (false,()))))
 (some (inl ((w64 (v0.1+1)),()))))))
 (some (inr (inl ()))))) (0,())).bind λv3 =>
 (cc_ v3 (λv4=>(some (true,())))
 (λv5=>(some v5)))))
theorem x_12:av_ cx_12 an_12 12 [(.list an_),(.list an_)] [.bool]=λx=>fu_ x.1 x.2.1:=by kernel_rfl
noncomputable def c_12:Con prog:=aw_ _ _ 12 [(.list an_),(.list an_)] [.bool] _ x_12
end
section
set_option maxRecDepth 100000
set_option maxHeartbeats 0
def an_119:An:=.z
noncomputable def cs_119:List (Con prog):=[at7]
noncomputable def cl_119:List (Cpy prog):=[]
noncomputable def cx_119:Cx prog:=cxC cs_119 cl_119
noncomputable def gq_ (a0:af_) (a1:Int) (a2:Int):Option (Bool×Unit) :=
 ((br_ a1 0 (w64 ((a0.2.1.length:Int) - 1))).bind λv0 =>
 (cond v0.1
 ((at? a0.2.1 a1).bind λv1 =>
 ((br_ a2 0 (w64 (v1.2.2.1 - 1))).bind λv2 =>
 (some (v2.1,()))))
 (some (false,()))))
theorem x_119:av_ cx_119 an_119 119 [ap_,.int,.int] [.bool]=λx=>gq_ x.1 x.2.1 x.2.2.1:=by kernel_rfl
noncomputable def cm4:Con prog:=aw_ _ _ 119 [ap_,.int,.int] [.bool] _ x_119
def an_165:An:=(.p .z (.p (.p .z (.ls [.v 3 .int] [] [] 0 (.p .z (.p (.j0 [.v 21 .bool] .z .z) .z)))) (.p .z (.p (.p .z (.ls [.v 5 .int] [] [] 2 .z)) .z))))
noncomputable def cs_165:List (Con prog):=[c_207]
noncomputable def cl_165:List (Cpy prog):=[]
noncomputable def cx_165:Cx prog:=cxC cs_165 cl_165
noncomputable def hh_ (a0:(List UInt8)):Option (Bool×Unit) :=
 ((ag_ (ρ:=(Unit⊕(Bool×Unit))) (λ(v0:(Int×Unit)) =>
 (cond (decide (v0.1<(a0.length:Int)))
 ((((at? a0 v0.1).bind λv1 =>
 (cond (decide (((UInt8.toNat v1):Int)<97))
 (some (true,()))
 ((at? a0 v0.1).bind λv2 =>
 (some ((decide (122<((UInt8.toNat v2):Int))),())))))).bind λv3 =>
 (cond v3.1
 (some (inr (inr (false,()))))
 (some (inl ((w64 (v0.1+1)),())))))
 (some (inr (inl ()))))) (0,())).bind λv4 =>
 (cc_ v4 (λv5=>((ag_ (ρ:=(Unit⊕(Bool×Unit))) (λ(v7:(Int×Unit)) =>
 (cond (decide (v7.1<(([[97,116],[115,116,97,116,101,115],[115,116,97,114,116],[103,111,110,101],[105,102],[108,111,99,107],[119,105,116,104],[115,101,116,115],[115,112,101,110,100,115],[98,114,105,110,103,115]]).length:Int)))
 ((at? [[97,116],[115,116,97,116,101,115],[115,116,97,114,116],[103,111,110,101],[105,102],[108,111,99,107],[119,105,116,104],[115,101,116,115],[115,112,101,110,100,115],[98,114,105,110,103,115]] v7.1).bind λv8 =>
 (cond (v8==a0)
 (some (inr (inr (false,()))))
 (some (inl ((w64 (v7.1+1)),())))))
 (some (inr (inl ()))))) (0,())).bind λv9 =>
 (cc_ v9 (λv10=>(some ((!(a0==[])),())))
 (λv11=>(some v11)))))
 (λv6=>(some v6))))
theorem x_165:av_ cx_165 an_165 165 [.str] [.bool]=λx=>hh_ x.1:=by kernel_rfl
noncomputable def c_165:Con prog:=aw_ _ _ 165 [.str] [.bool] _ x_165
def an_116:An:=.z
noncomputable def cs_116:List (Con prog):=[at7]
noncomputable def cl_116:List (Cpy prog):=[]
noncomputable def cx_116:Cx prog:=cxC cs_116 cl_116
noncomputable def ct_ (a0:af_) (a1:Int):Option (Bool×Unit) :=
 ((br_ a1 0 (w64 ((a0.1.length:Int) - 1))).bind λv0 =>
 (some (v0.1,())))
theorem x_116:av_ cx_116 an_116 116 [ap_,.int] [.bool]=λx=>ct_ x.1 x.2.1:=by kernel_rfl
noncomputable def c_116:Con prog:=aw_ _ _ 116 [ap_,.int] [.bool] _ x_116
def an_166:An:=(.p .z (.p (.p .z (.ls [.v 5 .int] [] [] 0 (.p .z (.p (.j0 [.v 37 .bool] (.q [] .z .z) .z) .z)))) .z))
noncomputable def cs_166:List (Con prog):=[at7]
noncomputable def cl_166:List (Cpy prog):=[]
noncomputable def cx_166:Cx prog:=cxC cs_166 cl_166
noncomputable def di_ (a0:af_) (a1:(List Int)):Option (Bool×Unit) :=
 ((ag_ (ρ:=(Unit⊕(Bool×Unit))) (λ(v0:(Int×Unit)) =>
 (cond (decide (v0.1<(a1.length:Int)))
 ((((at? a1 v0.1).bind λv1 =>
 ((br_ v1 0 (w64 ((a0.2.2.1.length:Int) - 1))).bind λv2 =>
 (cond (!v2.1)
 (some (true,()))
 (cond (decide (0<v0.1))
 ((at? a1 v0.1).bind λv3 =>
 ((at? a1 (w64 (v0.1 - 1))).bind λv4 =>
 (some ((decide (v3≤v4)),()))))
 (some (false,()))))))).bind λv5 =>
 (cond v5.1
 (some (inr (inr (false,()))))
 (some (inl ((w64 (v0.1+1)),())))))
 (some (inr (inl ()))))) (0,())).bind λv6 =>
 (cc_ v6 (λv7=>(some (true,())))
 (λv8=>(some v8))))
theorem x_166:av_ cx_166 an_166 166 [ap_,(.list .int)] [.bool]=λx=>di_ x.1 x.2.1:=by kernel_rfl
noncomputable def c_166:Con prog:=aw_ _ _ 166 [ap_,(.list .int)] [.bool] _ x_166
def an_65:An:=(.p .z (.p (.j0 [.v 12 .bool] .z .z) .z))
noncomputable def cs_65:List (Con prog):=[c_120]
noncomputable def cl_65:List (Cpy prog):=[]
noncomputable def cx_65:Cx prog:=cxC cs_65 cl_65
noncomputable def eh_ (a0:ab_):Option (Int×Unit) :=
 ((((bl_ a0.1 1 4).bind λv0 =>
 (cond (!v0.1)
 (some (true,()))
 ((bl_ a0.2 2 10).bind λv1 =>
 (some ((!v1.1),())))))).bind λv2 =>
 (cond v2.1
 (some (10,()))
 (some (0,()))))
theorem x_65:av_ cx_65 an_65 65 [am_] [.int]=λx=>eh_ x.1:=by kernel_rfl
noncomputable def c_65:Con prog:=aw_ _ _ 65 [am_] [.int] _ x_65
def an_121:An:=(.p .z (.p .z (.p (.p .z (.ls [.v 5 .int] [] [] 0 (.p .z (.p (.p (.q [] .z .z) .z) .z)))) .z)))
noncomputable def cs_121:List (Con prog):=[c_120]
noncomputable def cl_121:List (Cpy prog):=[]
noncomputable def cx_121:Cx prog:=cxC cs_121 cl_121
noncomputable def gj_ (a0:ab_) (a1:(List Int)):Option (Bool×Unit) :=
 (cond ((a1.length:Int) != a0.1)
 (some (false,()))
 ((ag_ (ρ:=(Unit⊕(Bool×Unit))) (λ(v0:(Int×Unit)) =>
 (cond (decide (v0.1<(a1.length:Int)))
 ((at? a1 v0.1).bind λv1 =>
 ((bl_ v1 0 (w64 (a0.2 - 1))).bind λv2 =>
 (cond (!v2.1)
 (some (inr (inr (false,()))))
 (some (inl ((w64 (v0.1+1)),()))))))
 (some (inr (inl ()))))) (0,())).bind λv3 =>
 (cc_ v3 (λv4=>(some (true,())))
 (λv5=>(some v5)))))
theorem x_121:av_ cx_121 an_121 121 [am_,(.list .int)] [.bool]=λx=>gj_ x.1 x.2.1:=by kernel_rfl
noncomputable def c_121:Con prog:=aw_ _ _ 121 [am_,(.list .int)] [.bool] _ x_121
def an_208:An:=.z
noncomputable def cs_208:List (Con prog):=[c_232]
noncomputable def cl_208:List (Cpy prog):=[]
noncomputable def cx_208:Cx prog:=cxC cs_208 cl_208
noncomputable def iw_ (a0:ak_) (a1:ak_):Option (Bool×Unit) :=
 (cond (a0.1==a1.1)
 (cond (a0.2.1==a1.2.1)
 (cond (a0.2.2.1==a1.2.2.1)
 (cond (a0.2.2.2.1==a1.2.2.2.1)
 (cond (a0.2.2.2.2.1==a1.2.2.2.2.1)
 (cond (a0.2.2.2.2.2.2==a1.2.2.2.2.2.2)
 ((go_ a0.2.2.2.2.2.1 a1.2.2.2.2.2.1).bind λv0 =>
 (some (v0.1,())))
 (some (false,())))
 (some (false,())))
 (some (false,())))
 (some (false,())))
 (some (false,())))
 (some (false,())))
theorem x_208:av_ cx_208 an_208 208 [aq_,aq_] [.bool]=λx=>iw_ x.1 x.2.1:=by kernel_rfl
noncomputable def c_208:Con prog:=aw_ _ _ 208 [aq_,aq_] [.bool] _ x_208
def an_170:An:=(.p .z (.p .z (.p (.p .z (.lp [.v 6 .int,.v 8 .int] [.v 6 .int] [] 0 (.p .z (.j0 [.v 6 .int] (.p (.q [] .z .z) .z) .z)))) (.p (.p .z (.lp [.v 7 .int,.v 9 .int] [.v 7 .int] [] 2 .z)) .z))))
noncomputable def cs_170:List (Con prog):=[c_169]
noncomputable def cl_170:List (Cpy prog):=[]
noncomputable def cx_170:Cx prog:=cxC cs_170 cl_170
noncomputable def ic_ (a0:(List Int)) (a1:(List Int)):Option (Int×Int×Unit) :=
 ((ag_ (ρ:=(Int×Unit)) (λ(v0:(Int×(Int×Unit))) =>
 (cond (decide (v0.2.1<(a0.length:Int)))
 ((((at? a0 v0.2.1).bind λv1 =>
 ((at? a1 v0.2.1).bind λv2 =>
 (cond (v1==v2)
 (some ((w64 (v0.1+1)),()))
 (some (v0.1,())))))).bind λv3 =>
 (some (inl (v3.1,((w64 (v0.2.1+1)),())))))
 (some (inr (v0.1,()))))) (0,(0,()))).bind λv4 =>
 ((ag_ (ρ:=(Int×Unit)) (λ(v5:(Int×(Int×Unit))) =>
 (cond (decide (v5.2.1<10))
 ((eg_ a0 v5.2.1).bind λv6 =>
 ((eg_ a1 v5.2.1).bind λv7 =>
 (some (inl ((w64 (v5.1+(minI v6.1 v7.1))),((w64 (v5.2.1+1)),()))))))
 (some (inr (v5.1,()))))) (0,(0,()))).bind λv8 =>
 (some (v4.1,((w64 (v8.1 - v4.1)),())))))
theorem x_170:av_ cx_170 an_170 170 [(.list .int),(.list .int)] [.int,.int]=λx=>ic_ x.1 x.2.1:=by kernel_rfl
noncomputable def c_170:Con prog:=aw_ _ _ 170 [(.list .int),(.list .int)] [.int,.int] _ x_170
def an_159:An:=(.p .z (.p .z (.p (.p .z (.ls [.v 7 .int] [] [.o (.c (.s 6) 0) .int,.b (.s 4) [.row .int 3,.row .int 3,.row .int 3]] 0 (.p .z (.p (.p .z (.p (.p .z (.lp [.v 8 .int,.v 9 .int] [.v 8 .int] [] 2 (.p (.j0 [.v 25 .bool] .z .z) (.j0 [.v 8 .int] (.p .z (.j0 [.v 49 .bool] .z .z)) .z)))) .z)) .z)))) .z)))
def at_159:FuncId→An:=λk=>.z
noncomputable def cs_159:List (Con prog):=[c_16]
noncomputable def cl_159:List (Cpy prog):=[]
noncomputable def cx_159:Cx prog:=cxI at_159 (λk=>Nat.beq k 16||false) (cxC cs_159 cl_159) 2
noncomputable def gh_ (a0:af_) (a1:ai_):Option (ai_×Bool×Unit) :=
 ((push? (α:=Int) [] a1.1).bind λv0 =>
 ((push? (α:=Int) [] a1.2.1).bind λv1 =>
 ((push? (α:=Int) [] a1.2.2).bind λv2 =>
 ((ag_ (ρ:=(((List Int)×(((List Int)×((List Int)×((List Int)×Unit)))×Unit))⊕(ai_×(Bool×Unit)))) (λ(v3:(Int×((List Int)×(((List Int)×((List Int)×((List Int)×Unit)))×Unit)))) =>
 (cond (decide (v3.1≤100))
 ((ag_ (ρ:=(Int×Unit)) (λ(v4:(Int×(Int×Unit))) =>
 (((cond (decide (v4.2.1<(a0.2.2.2.2.2.1.length:Int)))
 (some ((decide (v4.1<0)),()))
 (some (false,())))).bind λv5 =>
 (cond v5.1
 ((((at? a0.2.2.2.2.2.1 v4.2.1).bind λv6 =>
 ((((bd_ (v3.2.1,(v1,v2)) v6.1).bind λv7 =>
 (cond v7.1
 ((at? v3.2.1 v6.2.1).bind λv8 =>
 ((at? v3.2.1 v6.2.1).bind λv9 =>
 (some ((v9 != v6.2.2),()))))
 (some (false,()))))).bind λv10 =>
 (cond v10.1
 (some (v4.2.1,()))
 (some (v4.1,())))))).bind λv11 =>
 (some (inl (v11.1,((w64 (v4.2.1+1)),())))))
 (some (inr (v4.1,())))))) ((-1),(0,()))).bind λv12 =>
 (cond (decide (v12.1<0))
 (some (inr (inr ((v3.2.1,(v1,v2)),(true,())))))
 ((at? a0.2.2.2.2.2.1 v12.1).bind λv13 =>
 ((at? a0.2.2.2.2.2.1 v12.1).bind λv14 =>
 ((at? v3.2.1 v13.2.1).bind λv15 =>
 ((at? v3.2.1 v13.2.1).bind λv16 =>
 (some (inl ((w64 (v3.1+1)),((v3.2.1.set v13.2.1.toNat v14.2.2),((v3.2.2.1.1,(v3.2.2.1.2.1,(v3.2.2.1.2.2.1,()))),())))))))))))
 (some (inr (inl (v3.2.1,((v3.2.2.1.1,(v3.2.2.1.2.1,(v3.2.2.1.2.2.1,()))),()))))))) (0,(v0,(([],([],([],()))),())))).bind λv17 =>
 (cc_ v17 (λv18=>(some (([],([],[])),(false,()))))
 (λv19=>(some v19)))))))
theorem x_159:av_ cx_159 an_159 159 [ap_,ar_] [ar_,.bool]=λx=>gh_ x.1 x.2.1:=by kernel_rfl
noncomputable def c_159:Con prog:=aw_ _ _ 159 [ap_,ar_] [ar_,.bool] _ x_159
def an_101:An:=(.p .z (.p .z (.p (.p .z (.lp [.v 6 .int] [] [.o (.c (.s 5) 3) .bool] 0 (.p .z (.p (.p .z (.p .z (.lp [.v 8 .int] [] [.o (.c (.s 5) 3) .bool] 2 (.p .z (.j0 [.o (.c (.s 5) 3) .bool] (.j0 [.v 46 .bool] .z .z) .z))))) .z)))) .z)))
def at_101:FuncId→An:=λk=>.z
noncomputable def cs_101:List (Con prog):=[c_16,c_51]
noncomputable def cl_101:List (Cpy prog):=[]
noncomputable def cx_101:Cx prog:=cxI at_101 (λk=>Nat.beq k 16||Nat.beq k 51||false) (cxC cs_101 cl_101) 2
noncomputable def ik_ (a0:ad_) (a1:aa_):Option (aa_×Unit) :=
 ((fo_ a1.1).bind λv0 =>
 ((push? (α:=Bool) [] a1.2).bind λv1 =>
 ((ag_ (ρ:=((List Bool)×Unit)) (λ(v2:(Int×((List Bool)×Unit))) =>
 (cond (decide (v2.1<(a0.2.2.2.1.length:Int)))
 ((at? a0.2.2.2.1 v2.1).bind λv3 =>
 ((ag_ (ρ:=((List Bool)×Unit)) (λ(v4:(Int×((List Bool)×Unit))) =>
 (cond (decide (v4.1<(v0.1.2.2.length:Int)))
 ((((((at? v0.1.2.2 v4.1).bind λv5 =>
 (cond (v5==v3.2.1)
 ((bd_ v0.1 v3.2.2.2.1).bind λv6 =>
 (some (v6.1,())))
 (some (false,()))))).bind λv7 =>
 (cond v7.1
 ((at? v4.2.1 v2.1).bind λv8 =>
 ((at? v4.2.1 v2.1).bind λv9 =>
 (some ((v4.2.1.set v2.1.toNat true),()))))
 (some (v4.2.1,()))))).bind λv10 =>
 (some (inl ((w64 (v4.1+1)),(v10.1,())))))
 (some (inr (v4.2.1,()))))) (0,(v2.2.1,()))).bind λv11 =>
 (some (inl ((w64 (v2.1+1)),(v11.1,()))))))
 (some (inr (v2.2.1,()))))) (0,(v1,()))).bind λv12 =>
 (some ((v0.1,v12.1),())))))
theorem x_101:av_ cx_101 an_101 101 [ao_,aj_] [aj_]=λx=>ik_ x.1 x.2.1:=by kernel_rfl
noncomputable def c_101:Con prog:=aw_ _ _ 101 [ao_,aj_] [aj_] _ x_101
def an_53:An:=(.p .z (.p .z (.p (.p .z (.lp [.v 3 .str,.v 4 .int] [.v 3 .str] [] 0 .z)) (.p (.p .z (.lp [.v 3 .str,.v 5 .int] [.v 3 .str] [] 2 .z)) (.p (.p .z (.lp [.v 3 .str,.v 6 .int] [.v 3 .str] [] 4 .z)) (.p (.p .z (.lp [.v 3 .str,.v 7 .int] [.v 3 .str] [] 6 (.p .z (.j0 [.v 3 .str] .z .z)))) .z))))))
noncomputable def cs_53:List (Con prog):=[c_102]
noncomputable def cl_53:List (Cpy prog):=[]
noncomputable def cx_53:Cx prog:=cxC cs_53 cl_53
noncomputable def hw_ (a0:aa_):Option ((List UInt8)×Unit) :=
 ((ag_ (ρ:=((List UInt8)×Unit)) (λ(v0:((List UInt8)×(Int×Unit))) =>
 (cond (decide (v0.2.1<(a0.1.1.length:Int)))
 ((at? a0.1.1 v0.2.1).bind λv1 =>
 ((cb_ v1).bind λv2 =>
 ((cat? v0.1 v2.1).bind λv3 =>
 ((cat? v3 [32]).bind λv4 =>
 (some (inl (v4,((w64 (v0.2.1+1)),()))))))))
 (some (inr (v0.1,()))))) ([],(0,()))).bind λv5 =>
 ((ag_ (ρ:=((List UInt8)×Unit)) (λ(v6:((List UInt8)×(Int×Unit))) =>
 (cond (decide (v6.2.1<(a0.1.2.1.length:Int)))
 ((at? a0.1.2.1 v6.2.1).bind λv7 =>
 ((cb_ (w64 (v7+10))).bind λv8 =>
 ((cat? v6.1 v8.1).bind λv9 =>
 ((cat? v9 [32]).bind λv10 =>
 (some (inl (v10,((w64 (v6.2.1+1)),()))))))))
 (some (inr (v6.1,()))))) (v5.1,(0,()))).bind λv11 =>
 ((ag_ (ρ:=((List UInt8)×Unit)) (λ(v12:((List UInt8)×(Int×Unit))) =>
 (cond (decide (v12.2.1<(a0.1.2.2.length:Int)))
 ((at? a0.1.2.2 v12.2.1).bind λv13 =>
 ((cb_ v13).bind λv14 =>
 ((cat? v12.1 v14.1).bind λv15 =>
 ((cat? v15 [32]).bind λv16 =>
 (some (inl (v16,((w64 (v12.2.1+1)),()))))))))
 (some (inr (v12.1,()))))) (v11.1,(0,()))).bind λv17 =>
 ((ag_ (ρ:=((List UInt8)×Unit)) (λ(v18:((List UInt8)×(Int×Unit))) =>
 (cond (decide (v18.2.1<(a0.2.length:Int)))
 ((((at? a0.2 v18.2.1).bind λv19 =>
 (cond v19
 ((cb_ v18.2.1).bind λv20 =>
 ((cat? v18.1 v20.1).bind λv21 =>
 ((cat? v21 [32]).bind λv22 =>
 (some (v22,())))))
 (some (v18.1,()))))).bind λv23 =>
 (some (inl (v23.1,((w64 (v18.2.1+1)),())))))
 (some (inr (v18.1,()))))) (v17.1,(0,()))).bind λv24 =>
 (some (v24.1,()))))))
theorem x_53:av_ cx_53 an_53 53 [aj_] [.str]=λx=>hw_ x.1:=by kernel_rfl
noncomputable def c_53:Con prog:=aw_ _ _ 53 [aj_] [.str] _ x_53
def an_157:An:=(.p .z (.p .z (.p (.q [] .z .z) (.p (.p .z (.p .z (.p (.p (.q [] .z .z) .z) (.p .z (.p (.p (.q [] .z .z) .z) (.p .z (.p .z (.p .z (.p (.p .z (.p .z (.p (.p .z (.ls [.v 10 .int] [] [] 1 .z)) (.p (.p .z (.ls [.v 11 .int] [] [] 3 .z)) .z)))) .z))))))))) .z))))
noncomputable def cs_157:List (Con prog):=[c_16,at7,c_202]
noncomputable def cl_157:List (Cpy prog):=[]
noncomputable def cx_157:Cx prog:=cxC cs_157 cl_157
noncomputable def jg_ (a0:af_) (a1:ai_) (a2:ac_):Option (Bool×Unit) :=
 ((br_ a2.1 0 (w64 (a0.2.2.2.2.2.2.1 - 1))).bind λv0 =>
 (cond (!v0.1)
 (some (false,()))
 ((at? a1.2.2 a2.1).bind λv1 =>
 (cond (a2.2.1==1)
 ((br_ a2.2.2 0 (w64 ((a0.2.2.2.1.length:Int) - 1))).bind λv2 =>
 (cond v2.1
 ((at? a0.2.2.2.1 a2.2.2).bind λv3 =>
 (cond (v3.1==v1)
 ((at? a0.2.2.2.1 a2.2.2).bind λv4 =>
 ((bd_ a1 v4.2.2).bind λv5 =>
 (some (v5.1,()))))
 ((at? a0.2.2.2.1 a2.2.2).bind λv6 =>
 (cond (v6.2.1==v1)
 ((at? a0.2.2.2.1 a2.2.2).bind λv7 =>
 ((bd_ a1 v7.2.2).bind λv8 =>
 (some (v8.1,()))))
 (some (false,()))))))
 (some (false,()))))
 (cond (a2.2.1==2)
 ((br_ a2.2.2 0 (w64 ((a0.2.2.1.length:Int) - 1))).bind λv9 =>
 (cond v9.1
 ((at? a1.2.1 a2.2.2).bind λv10 =>
 (cond (v10==v1)
 ((at? a0.2.2.1 a2.2.2).bind λv11 =>
 ((bd_ a1 v11.2.2).bind λv12 =>
 (cond v12.1
 ((gx_ a1 a2.1).bind λv13 =>
 (some ((decide (v13.1<3)),())))
 (some (false,())))))
 (some (false,()))))
 (some (false,()))))
 (cond (a2.2.1==3)
 ((br_ a2.2.2 0 (w64 ((a0.2.2.1.length:Int) - 1))).bind λv14 =>
 (cond v14.1
 ((at? a1.2.1 a2.2.2).bind λv15 =>
 (some ((v15==(w64 ((-2) - a2.1))),())))
 (some (false,()))))
 (cond (a2.2.1==4)
 ((br_ a2.2.2 0 (w64 ((a0.2.2.2.2.1.length:Int) - 1))).bind λv16 =>
 (cond (!v16.1)
 (some (false,()))
 ((at? a0.2.2.2.2.1 a2.2.2).bind λv17 =>
 ((ag_ (ρ:=(Unit⊕(Bool×Unit))) (λ(v18:(Int×Unit)) =>
 (cond (decide (v18.1<(v17.2.2.2.1.length:Int)))
 ((at? v17.2.2.2.1 v18.1).bind λv19 =>
 ((at? a1.2.1 v19).bind λv20 =>
 (cond (v20 != (w64 ((-2) - a2.1)))
 (some (inr (inr (false,()))))
 (some (inl ((w64 (v18.1+1)),()))))))
 (some (inr (inl ()))))) (0,())).bind λv21 =>
 (cc_ v21 (λv22=>((ag_ (ρ:=(Unit⊕(Bool×Unit))) (λ(v24:(Int×Unit)) =>
 (cond (decide (v24.1<(v17.2.2.2.2.2.2.2.length:Int)))
 ((at? v17.2.2.2.2.2.2.2 v24.1).bind λv25 =>
 ((at? a1.2.1 v25).bind λv26 =>
 (cond (v26 != (-1))
 (some (inr (inr (false,()))))
 (some (inl ((w64 (v24.1+1)),()))))))
 (some (inr (inl ()))))) (0,())).bind λv27 =>
 (cc_ v27 (λv28=>(cond (v17.2.1==v1)
 ((bd_ a1 v17.2.2.2.2.1).bind λv30 =>
 (cond v30.1
 ((gx_ a1 a2.1).bind λv31 =>
 (some ((decide ((w64 ((w64 (v31.1 - (v17.2.2.2.2.2.2.1.length:Int)))+(v17.2.2.2.2.2.2.2.length:Int)))≤3)),())))
 (some (false,()))))
 (some (false,()))))
 (λv29=>(some v29)))))
 (λv23=>(some v23)))))))
 (some (false,())))))))))
theorem x_157:av_ cx_157 an_157 157 [ap_,ar_,an_] [.bool]=λx=>jg_ x.1 x.2.1 x.2.2.1:=by kernel_rfl
noncomputable def c_157:Con prog:=aw_ _ _ 157 [ap_,ar_,an_] [.bool] _ x_157
def an_30:An:=(.p .z (.p (.j0 [.v 27 .bool] .z .z) (.p (.p .z (.ls [.v 3 .int] [] [] 0 (.p .z (.p (.j0 [.v 50 .bool] .z .z) .z)))) (.p (.p .z (.ls [.v 4 .int] [] [] 2 .z)) (.p (.p .z (.ls [.v 5 .int] [] [] 4 (.p .z (.p (.p .z (.j0 [.v 93 .bool] .z .z)) .z)))) .z)))))
noncomputable def cs_30:List (Con prog):=[c_63]
noncomputable def cl_30:List (Cpy prog):=[]
noncomputable def cx_30:Cx prog:=cxC cs_30 cl_30
noncomputable def kf_ (a0:ad_):Option (Bool×Unit) :=
 ((((mt_ a0.1).bind λv0 =>
 (cond v0.1
 (some (true,()))
 (cond (decide (10<(a0.2.1.length:Int)))
 (some (true,()))
 (cond (decide (10<(a0.2.2.1.length:Int)))
 (some (true,()))
 (some ((decide (20<(a0.2.2.2.1.length:Int))),()))))))).bind λv1 =>
 (cond v1.1
 (some (true,()))
 ((ag_ (ρ:=(Unit⊕(Bool×Unit))) (λ(v2:(Int×Unit)) =>
 (cond (decide (v2.1<(a0.2.1.length:Int)))
 ((((at? a0.2.1 v2.1).bind λv3 =>
 (cond (decide (3<v3.1))
 ((at? a0.2.1 v2.1).bind λv4 =>
 (some ((decide (5<v4.2)),())))
 (some (false,()))))).bind λv5 =>
 (cond v5.1
 (some (inr (inr (true,()))))
 (some (inl ((w64 (v2.1+1)),())))))
 (some (inr (inl ()))))) (0,())).bind λv6 =>
 (cc_ v6 (λv7=>((ag_ (ρ:=(Unit⊕(Bool×Unit))) (λ(v9:(Int×Unit)) =>
 (cond (decide (v9.1<(a0.2.2.1.length:Int)))
 ((at? a0.2.2.1 v9.1).bind λv10 =>
 (cond (decide (10<(v10.length:Int)))
 (some (inr (inr (true,()))))
 (some (inl ((w64 (v9.1+1)),())))))
 (some (inr (inl ()))))) (0,())).bind λv11 =>
 (cc_ v11 (λv12=>((ag_ (ρ:=(Unit⊕(Bool×Unit))) (λ(v14:(Int×Unit)) =>
 (cond (decide (v14.1<(a0.2.2.2.1.length:Int)))
 ((at? a0.2.2.2.1 v14.1).bind λv15 =>
 (((cond (decide (100<(v15.1.length:Int)))
 (some (true,()))
 (cond (decide (20<(v15.2.2.2.1.length:Int)))
 (some (true,()))
 (some ((decide (10<(v15.2.2.2.2.2.2.2.2.2.1.length:Int))),()))))).bind λv16 =>
 (cond v16.1
 (some (inr (inr (true,()))))
 (some (inl ((w64 (v14.1+1)),()))))))
 (some (inr (inl ()))))) (0,())).bind λv17 =>
 (cc_ v17 (λv18=>(some (false,())))
 (λv19=>(some v19)))))
 (λv13=>(some v13)))))
 (λv8=>(some v8))))))
theorem x_30:av_ cx_30 an_30 30 [ao_] [.bool]=λx=>kf_ x.1:=by kernel_rfl
noncomputable def c_30:Con prog:=aw_ _ _ 30 [ao_] [.bool] _ x_30
def an_209:An:=.z
noncomputable def cs_209:List (Con prog):=[c_233]
noncomputable def cl_209:List (Cpy prog):=[]
noncomputable def cx_209:Cx prog:=cxC cs_209 cl_209
noncomputable def cz_ (a0:(List (List UInt8))) (a1:(List UInt8)):Option (Bool×Unit) :=
 ((dr_ a0 a1).bind λv0 =>
 (some ((decide (0≤v0.1)),())))
theorem x_209:av_ cx_209 an_209 209 [(.list .str),.str] [.bool]=λx=>cz_ x.1 x.2.1:=by kernel_rfl
noncomputable def c_209:Con prog:=aw_ _ _ 209 [(.list .str),.str] [.bool] _ x_209
def an_135:An:=.z
noncomputable def cs_135:List (Con prog):=[by8]
noncomputable def cl_135:List (Cpy prog):=[]
noncomputable def cx_135:Cx prog:=cxC cs_135 cl_135
noncomputable def ez_ (a0:af_) (a1:Int) (a2:Int):Option (Bool×Unit) :=
 ((bc_ a1 0 (w64 ((a0.2.1.length:Int) - 1))).bind λv0 =>
 (cond v0.1
 ((at? a0.2.1 a1).bind λv1 =>
 ((bc_ a2 0 (w64 (v1.2.2.1 - 1))).bind λv2 =>
 (some (v2.1,()))))
 (some (false,()))))
theorem x_135:av_ cx_135 an_135 135 [ap_,.int,.int] [.bool]=λx=>ez_ x.1 x.2.1 x.2.2.1:=by kernel_rfl
noncomputable def cm3:Con prog:=aw_ _ _ 135 [ap_,.int,.int] [.bool] _ x_135
def an_85:An:=.z
noncomputable def cs_85:List (Con prog):=[c_36]
noncomputable def cl_85:List (Cpy prog):=[]
noncomputable def cx_85:Cx prog:=cxC cs_85 cl_85
noncomputable def bg_ (a0:(List Int)) (a1:Int):Option (Bool×Unit) :=
 ((bs_ a0 a1).bind λv0 =>
 (some ((decide (0≤v0.1)),())))
theorem x_85:av_ cx_85 an_85 85 [(.list .int),.int] [.bool]=λx=>bg_ x.1 x.2.1:=by kernel_rfl
noncomputable def c_85:Con prog:=aw_ _ _ 85 [(.list .int),.int] [.bool] _ x_85
def an_77:An:=(.p .z (.p (.j0 [.v 12 .bool] .z .z) .z))
noncomputable def cs_77:List (Con prog):=[cm2]
noncomputable def cl_77:List (Cpy prog):=[]
noncomputable def cx_77:Cx prog:=cxC cs_77 cl_77
noncomputable def ei_ (a0:ab_):Option (Int×Unit) :=
 ((((bx_ a0.1 1 4).bind λv0 =>
 (cond (!v0.1)
 (some (true,()))
 ((bx_ a0.2 2 10).bind λv1 =>
 (some ((!v1.1),())))))).bind λv2 =>
 (cond v2.1
 (some (10,()))
 (some (0,()))))
theorem x_77:av_ cx_77 an_77 77 [am_] [.int]=λx=>ei_ x.1:=by kernel_rfl
noncomputable def c_77:Con prog:=aw_ _ _ 77 [am_] [.int] _ x_77
def an_220:An:=.z
noncomputable def cs_220:List (Con prog):=[cm2]
noncomputable def cl_220:List (Cpy prog):=[]
noncomputable def cx_220:Cx prog:=cxC cs_220 cl_220
noncomputable def cr_ (a0:ab_) (a1:Int):Option (Bool×Unit) :=
 ((bx_ a1 0 (w64 (a0.2 - 1))).bind λv0 =>
 (some (v0.1,())))
theorem x_220:av_ cx_220 an_220 220 [am_,.int] [.bool]=λx=>cr_ x.1 x.2.1:=by kernel_rfl
noncomputable def c_220:Con prog:=aw_ _ _ 220 [am_,.int] [.bool] _ x_220
def an_236:An:=.z
noncomputable def cs_236:List (Con prog):=[cm2]
noncomputable def cl_236:List (Cpy prog):=[]
noncomputable def cx_236:Cx prog:=cxC cs_236 cl_236
noncomputable def bt_ (a0:ab_) (a1:Int):Option (Bool×Unit) :=
 ((bx_ a1 0 (w64 (a0.1 - 1))).bind λv0 =>
 (some (v0.1,())))
theorem x_236:av_ cx_236 an_236 236 [am_,.int] [.bool]=λx=>bt_ x.1 x.2.1:=by kernel_rfl
noncomputable def c_236:Con prog:=aw_ _ _ 236 [am_,.int] [.bool] _ x_236
def an_222:An:=(.p .z (.p (.p .z (.p .z (.p (.p (.q [] .z .z) .z) (.p .z (.p (.p .z (.p (.p .z (.lp [.v 5 .int,.v 35 .int] [.v 5 .int] [] 1 .z)) .z)) (.p .z (.p (.p (.q [] .z .z) .z) (.p .z (.p (.p (.q [] .z .z) .z) (.p .z (.p (.p .z (.p (.p .z (.lp [.v 8 .int,.v 77 .int] [.v 8 .int] [] 3 (.p .z (.p .z (.j0 [.v 8 .int] .z .z))))) .z)) .z))))))))))) (.p (.q [] .z .z) .z)))
noncomputable def cs_222:List (Con prog):=[c_237]
noncomputable def cl_222:List (Cpy prog):=[]
noncomputable def cx_222:Cx prog:=cxC cs_222 cl_222
noncomputable def mu_ (a0:ak_) (a1:(List Int)):Option (Bool×Unit) :=
 (cond (a0.1==1)
 ((at? a1 a0.2.1).bind λv0 =>
 (some ((v0==a0.2.2.2.1),())))
 (cond (a0.1==2)
 ((sub? a1 a0.2.1 (w64 (a0.2.2.1+1))).bind λv1 =>
 ((ag_ (ρ:=(Int×Unit)) (λ(v2:(Int×(Int×Unit))) =>
 (cond (decide (v2.2.1<(v1.length:Int)))
 ((at? v1 v2.2.1).bind λv3 =>
 (some (inl ((w64 (v2.1+v3)),((w64 (v2.2.1+1)),())))))
 (some (inr (v2.1,()))))) (0,(0,()))).bind λv4 =>
 (some ((v4.1==a0.2.2.2.1),()))))
 (cond (a0.1==3)
 ((at? a1 a0.2.1).bind λv5 =>
 ((at? a1 a0.2.2.1).bind λv6 =>
 (some ((decide (v5<v6)),()))))
 (cond (a0.1==4)
 ((at? a1 a0.2.1).bind λv7 =>
 ((at? a1 a0.2.2.1).bind λv8 =>
 (some ((v7==v8),()))))
 (cond (a0.1==5)
 ((ag_ (ρ:=(Int×Unit)) (λ(v9:(Int×(Int×Unit))) =>
 (cond (decide (v9.2.1<(a1.length:Int)))
 ((((at? a1 v9.2.1).bind λv10 =>
 (cond (v10==a0.2.2.2.1)
 (some ((w64 (v9.1+1)),()))
 (some (v9.1,()))))).bind λv11 =>
 (some (inl (v11.1,((w64 (v9.2.1+1)),())))))
 (some (inr (v9.1,()))))) (0,(0,()))).bind λv12 =>
 (some ((v12.1==a0.2.2.2.2.1),())))
 (cond (a0.1==6)
 ((id_ a1 a0.2.2.2.2.2.1).bind λv13 =>
 (cond (v13.1==a0.2.2.2.1)
 (some ((v13.2.1==a0.2.2.2.2.1),()))
 (some (false,()))))
 ((at? a1 a0.2.1).bind λv14 =>
 ((md v14 a0.2.2.2.1).bind λv15 =>
 (some ((v15==a0.2.2.2.2.1),()))))))))))
theorem x_222:av_ cx_222 an_222 222 [aq_,(.list .int)] [.bool]=λx=>mu_ x.1 x.2.1:=by kernel_rfl
noncomputable def c_222:Con prog:=aw_ _ _ 222 [aq_,(.list .int)] [.bool] _ x_222
def an_80:An:=.z
def at_80:FuncId→An:=λk=>cond (Nat.beq k 143) (.p .z (.j0 [.v 4 .bool] .z .z)) (cond (Nat.beq k 144) (.p .z (.j0 [.v 3 .bool] (.q [] .z .z) .z)) (cond (Nat.beq k 189) (.p .z (.p (.p .z (.ls [.v 8 .int] [] [] 0 .z)) .z)) (.z)))
noncomputable def cs_80:List (Con prog):=[c_81]
noncomputable def cl_80:List (Cpy prog):=[]
noncomputable def cx_80:Cx prog:=cxI at_80 (λk=>Nat.beq k 81||false) (cxC cs_80 cl_80) 4
noncomputable def ld_ (a0:af_) (a1:(List be_)):Option (Bool×Unit) :=
 (cond (decide ((a1.length:Int)≤8))
 ((((ag_ (ρ:=(Unit⊕(Bool×Unit))) (λ(v0:(Int×Unit)) =>
 (cond (decide (v0.1<(a1.length:Int)))
 ((at? a1 v0.1).bind λv1 =>
 ((((bp_ v1.1 0 (w64 ((a0.2.1.length:Int) - 1))).bind λv2 =>
 (cond (!v2.1)
 (some (true,()))
 ((at? a0.2.1 v1.1).bind λv3 =>
 ((bp_ v1.2.1 0 (w64 (v3.2.2.1 - 1))).bind λv4 =>
 (some ((!v4.1),()))))))).bind λv5 =>
 (cond v5.1
 (some (inr (inr ((decide (0≤v0.1)),()))))
 (some (inl ((w64 (v0.1+1)),()))))))
 (some (inr (inl ()))))) (0,())).bind λv6 =>
 (cc_ v6 (λv7=>(some ((decide (0≤(-1))),())))
 (λv8=>(some v8))))).bind λv9 =>
 (some ((!v9.1),())))
 (some (false,())))
theorem x_80:av_ cx_80 an_80 80 [ap_,(.list ca_)] [.bool]=λx=>ld_ x.1 x.2.1:=by kernel_rfl
noncomputable def c_80:Con prog:=aw_ _ _ 80 [ap_,(.list ca_)] [.bool] _ x_80
def an_148:An:=(.p .z (.p (.p (.q [] .z .z) .z) (.p (.q [] .z .z) (.p .z (.p .z (.p .z (.p (.p .z (.p .z (.p (.p (.p (.q [] .z .z) .z) .z) (.p .z (.p (.p (.q [] .z .z) .z) (.p .z (.p (.p (.q [] .z .z) .z) (.p .z (.p (.p (.p (.q [] .z .z) .z) .z) .z))))))))) .z)))))))
def at_148:FuncId→An:=λk=>cond (Nat.beq k 95) (.p .z (.j0 [.v 4 .bool] .z .z)) (cond (Nat.beq k 154) (.p .z (.p (.p .z (.ls [.v 8 .int] [] [] 0 .z)) .z)) (cond (Nat.beq k 194) (.p .z (.p (.q [] .z .z) .z)) (.z)))
noncomputable def cs_148:List (Con prog):=[by8,by6,c_197]
noncomputable def cl_148:List (Cpy prog):=[]
noncomputable def cx_148:Cx prog:=cxI at_148 (λk=>Nat.beq k 126||Nat.beq k 147||Nat.beq k 197||false) (cxC cs_148 cl_148) 7
noncomputable def da_ (a0:hb_) (a1:ac_):Option (Bool×Unit) :=
 ((bc_ a1.1 0 (w64 ((a0.2.2.2.length:Int) - 1))).bind λv0 =>
 (cond (!v0.1)
 (some (false,()))
 ((at? a0.2.2.2 a1.1).bind λv1 =>
 (cond (a1.2.1==1)
 ((bc_ a1.2.2 0 (w64 ((a0.1.2.2.2.1.length:Int) - 1))).bind λv2 =>
 (cond (!v2.1)
 (some (false,()))
 ((at? a0.1.2.2.2.1 a1.2.2).bind λv3 =>
 (cond (v3.1==v1)
 ((bb_ a0 v3.2.2).bind λv4 =>
 (some (v4.1,())))
 (cond (v3.2.1==v1)
 ((bb_ a0 v3.2.2).bind λv5 =>
 (some (v5.1,())))
 (some (false,())))))))
 (cond (a1.2.1==2)
 ((bc_ a1.2.2 0 (w64 ((a0.2.2.1.length:Int) - 1))).bind λv6 =>
 (cond v6.1
 ((at? a0.2.2.1 a1.2.2).bind λv7 =>
 (cond (v7==v1)
 ((at? a0.1.2.2.1 a1.2.2).bind λv8 =>
 ((bb_ a0 v8.2.2).bind λv9 =>
 (cond v9.1
 ((dh_ a0 a1.1).bind λv10 =>
 (some ((decide (v10.1<3)),())))
 (some (false,())))))
 (some (false,()))))
 (some (false,()))))
 (cond (a1.2.1==3)
 ((bc_ a1.2.2 0 (w64 ((a0.2.2.1.length:Int) - 1))).bind λv11 =>
 (cond v11.1
 ((at? a0.2.2.1 a1.2.2).bind λv12 =>
 (some ((v12==(w64 ((-2) - a1.1))),())))
 (some (false,()))))
 (cond (a1.2.1==4)
 ((bc_ a1.2.2 0 (w64 ((a0.1.2.2.2.2.1.length:Int) - 1))).bind λv13 =>
 (cond (!v13.1)
 (some (false,()))
 ((at? a0.1.2.2.2.2.1 a1.2.2).bind λv14 =>
 (cond (v14.2.1==v1)
 ((((ag_ (ρ:=(Unit⊕(Bool×Unit))) (λ(v15:(Int×Unit)) =>
 (cond (decide (v15.1<(v14.2.2.2.1.length:Int)))
 ((at? v14.2.2.2.1 v15.1).bind λv16 =>
 ((at? a0.2.2.1 v16).bind λv17 =>
 (cond (!(v17==(w64 ((-2) - a1.1))))
 (some (inr (inr ((decide (0≤v15.1)),()))))
 (some (inl ((w64 (v15.1+1)),()))))))
 (some (inr (inl ()))))) (0,())).bind λv18 =>
 (cc_ v18 (λv19=>(some ((decide (0≤(-1))),())))
 (λv20=>(some v20))))).bind λv21 =>
 (cond (!v21.1)
 ((bb_ a0 v14.2.2.2.2.1).bind λv22 =>
 (cond v22.1
 ((((ag_ (ρ:=(Unit⊕(Bool×Unit))) (λ(v23:(Int×Unit)) =>
 (cond (decide (v23.1<(v14.2.2.2.2.2.2.2.length:Int)))
 ((at? v14.2.2.2.2.2.2.2 v23.1).bind λv24 =>
 ((at? a0.2.2.1 v24).bind λv25 =>
 (cond (!(v25==(-1)))
 (some (inr (inr ((decide (0≤v23.1)),()))))
 (some (inl ((w64 (v23.1+1)),()))))))
 (some (inr (inl ()))))) (0,())).bind λv26 =>
 (cc_ v26 (λv27=>(some ((decide (0≤(-1))),())))
 (λv28=>(some v28))))).bind λv29 =>
 (cond (!v29.1)
 ((dh_ a0 a1.1).bind λv30 =>
 (some ((decide ((w64 ((w64 (v30.1 - (v14.2.2.2.2.2.2.1.length:Int)))+(v14.2.2.2.2.2.2.2.length:Int)))≤3)),())))
 (some (false,()))))
 (some (false,()))))
 (some (false,()))))
 (some (false,()))))))
 (some (false,())))))))))
theorem x_148:av_ cx_148 an_148 148 [(.ref ev_),an_] [.bool]=λx=>da_ x.1 x.2.1:=by kernel_rfl
noncomputable def c_148:Con prog:=aw_ _ _ 148 [(.ref ev_),an_] [.bool] _ x_148
def an_151:An:=.z
noncomputable def cs_151:List (Con prog):=[c_56,c_198]
noncomputable def cl_151:List (Cpy prog):=[]
noncomputable def cx_151:Cx prog:=cxC cs_151 cl_151
noncomputable def kd_ (a0:aa_):Option ((List UInt8)×Unit) :=
 ((fe_ [a0.1.1,a0.1.2.1,a0.1.2.2]).bind λv0 =>
 ((lb_ a0).bind λv1 =>
 ((cat? v0.1 v1.1).bind λv2 =>
 (some (v2,())))))
theorem x_151:av_ cx_151 an_151 151 [aj_] [.str]=λx=>kd_ x.1:=by kernel_rfl
noncomputable def c_151:Con prog:=aw_ _ _ 151 [aj_] [.str] _ x_151
def an_32:An:=.z
noncomputable def cs_32:List (Con prog):=[c_70]
noncomputable def cl_32:List (Cpy prog):=[]
noncomputable def cx_32:Cx prog:=cxC cs_32 cl_32
noncomputable def xa_  : Option (ad_×Unit) :=
 (some ((([[104,97,108,108],[118,97,117,108,116]],([([98,111,120],(0,(2,0))),([100,111,111,114],(0,(2,0)))],([([107,101,121],(0,[(0,(1,false))]))],([(0,(1,[(1,(1,false))]))],([([111,112,101,110],(0,(0,([],([],([(0,1)],([],[]))))))),([116,117,114,110],(0,((-1),([0],([],([(1,1)],([0],[])))))))],([],(1,[]))))))),([(2,4)],([[3,1]],([([108,101,97,102],(0,(0,([],(2,(0,(1,(4,(0,([],false)))))))))),([98,97,99,107],(0,(0,([(0,(0,false))],(3,(1,(0,(0,(0,([],false)))))))))),([99,97,114,100],(1,((-1),([],(0,(0,(0,(0,(0,([],false))))))))))],1)))),()))
theorem x_32:av_ cx_32 an_32 32 [] [ao_]=λx=>xa_:=by kernel_rfl
noncomputable def c_32:Con prog:=aw_ _ _ 32 [] [ao_] _ x_32
def an_33:An:=(.p .z (.p .z (.p (.p .z (.lp [.v 4 .int] [] [.o (.s 20) op_] 0 .z)) (.p (.p .z (.lp [.v 5 .int] [] [.o (.s 24) ah7] 2 .z)) (.p (.p .z (.lp [.v 6 .int] [] [.o (.s 28) lq_] 4 .z)) (.p (.p .z (.lp [.v 8 .int] [] [.o (.s 32) yg_] 6 .z)) .z))))))
noncomputable def cs_33:List (Con prog):=[c_71,c_72]
noncomputable def cl_33:List (Cpy prog):=[]
noncomputable def cx_33:Cx prog:=cxC cs_33 cl_33
noncomputable def la_ (a0:af_):Option (af_×Unit) :=
 ((push? (α:=(List UInt8)) [] a0.1).bind λv0 =>
 ((push? (α:=gs_) [] a0.2.1).bind λv1 =>
 ((push? (α:=jr_) [] a0.2.2.1).bind λv2 =>
 ((push? (α:=oj_) [] a0.2.2.2.1).bind λv3 =>
 ((push? (α:=cw_) [] a0.2.2.2.2.1).bind λv4 =>
 ((push? (α:=pn_) [] a0.2.2.2.2.2.1).bind λv5 =>
 ((cn_ a0.2.2.2.2.2.2.2).bind λv6 =>
 ((ag_ (ρ:=((List jr_)×Unit)) (λ(v7:(Int×((List jr_)×Unit))) =>
 (cond (decide (v7.1<(v7.2.1.length:Int)))
 ((at? v7.2.1 v7.1).bind λv8 =>
 ((at? v7.2.1 v7.1).bind λv9 =>
 ((cn_ v9.2.2).bind λv10 =>
 ((at? v7.2.1 v7.1).bind λv11 =>
 ((at? v7.2.1 v7.1).bind λv12 =>
 (some (inl ((w64 (v7.1+1)),((v7.2.1.set v7.1.toNat (v12.1,(v12.2.1,v10.1))),())))))))))
 (some (inr (v7.2.1,()))))) (0,(v2,()))).bind λv13 =>
 ((ag_ (ρ:=((List oj_)×Unit)) (λ(v14:(Int×((List oj_)×Unit))) =>
 (cond (decide (v14.1<(v14.2.1.length:Int)))
 ((at? v14.2.1 v14.1).bind λv15 =>
 ((at? v14.2.1 v14.1).bind λv16 =>
 ((cn_ v16.2.2).bind λv17 =>
 ((at? v14.2.1 v14.1).bind λv18 =>
 ((at? v14.2.1 v14.1).bind λv19 =>
 (some (inl ((w64 (v14.1+1)),((v14.2.1.set v14.1.toNat (v19.1,(v19.2.1,v17.1))),())))))))))
 (some (inr (v14.2.1,()))))) (0,(v3,()))).bind λv20 =>
 ((ag_ (ρ:=((List cw_)×Unit)) (λ(v21:(Int×((List cw_)×Unit))) =>
 (cond (decide (v21.1<(v21.2.1.length:Int)))
 ((at? v21.2.1 v21.1).bind λv22 =>
 ((at? v21.2.1 v21.1).bind λv23 =>
 ((dn_ v23.2.2.2.1).bind λv24 =>
 ((dn_ v23.2.2.2.2.2.2.1).bind λv25 =>
 ((dn_ v23.2.2.2.2.2.2.2).bind λv26 =>
 ((cn_ v23.2.2.2.2.1).bind λv27 =>
 ((push? (α:=ab_) [] v23.2.2.2.2.2.1).bind λv28 =>
 ((at? v21.2.1 v21.1).bind λv29 =>
 ((at? v21.2.1 v21.1).bind λv30 =>
 (some (inl ((w64 (v21.1+1)),((v21.2.1.set v21.1.toNat (v23.1,(v23.2.1,(v23.2.2.1,(v24.1,(v27.1,(v28,(v25.1,v26.1)))))))),())))))))))))))
 (some (inr (v21.2.1,()))))) (0,(v4,()))).bind λv31 =>
 ((ag_ (ρ:=((List pn_)×Unit)) (λ(v32:(Int×((List pn_)×Unit))) =>
 (cond (decide (v32.1<(v32.2.1.length:Int)))
 ((at? v32.2.1 v32.1).bind λv33 =>
 ((at? v32.2.1 v32.1).bind λv34 =>
 ((cn_ v34.1).bind λv35 =>
 ((at? v32.2.1 v32.1).bind λv36 =>
 ((at? v32.2.1 v32.1).bind λv37 =>
 (some (inl ((w64 (v32.1+1)),((v32.2.1.set v32.1.toNat (v35.1,v37.2)),())))))))))
 (some (inr (v32.2.1,()))))) (0,(v5,()))).bind λv38 =>
 (some ((v0,(v1,(v13.1,(v20.1,(v31.1,(v38.1,(a0.2.2.2.2.2.2.1,v6.1))))))),())))))))))))))
theorem x_33:av_ cx_33 an_33 33 [ap_] [ap_]=λx=>la_ x.1:=by kernel_rfl
noncomputable def c_33:Con prog:=aw_ _ _ 33 [ap_] [ap_] _ x_33
def an_74:An:=.z
noncomputable def cs_74:List (Con prog):=[c_16]
noncomputable def cl_74:List (Cpy prog):=[]
noncomputable def cx_74:Cx prog:=cxC cs_74 cl_74
noncomputable def gl_ (a0:ad_) (a1:aa_):Option (Bool×Unit) :=
 ((bd_ a1.1 a0.1.2.2.2.2.2.2.2).bind λv0 =>
 (some (v0.1,())))
theorem x_74:av_ cx_74 an_74 74 [ao_,aj_] [.bool]=λx=>gl_ x.1 x.2.1:=by kernel_rfl
noncomputable def c_74:Con prog:=aw_ _ _ 74 [ao_,aj_] [.bool] _ x_74
end
section
set_option maxRecDepth 100000
set_option maxHeartbeats 0
def an_68:An:=(.p .z (.p (.p .z (.ls [.v 5 .int] [] [] 0 (.p .z (.p (.p (.q [] .z .z) .z) .z)))) .z))
noncomputable def cs_68:List (Con prog):=[cm4]
noncomputable def cl_68:List (Cpy prog):=[]
noncomputable def cx_68:Cx prog:=cxC cs_68 cl_68
noncomputable def cu_ (a0:af_) (a1:(List be_)):Option (Bool×Unit) :=
 ((ag_ (ρ:=(Unit⊕(Bool×Unit))) (λ(v0:(Int×Unit)) =>
 (cond (decide (v0.1<(a1.length:Int)))
 ((at? a1 v0.1).bind λv1 =>
 ((at? a1 v0.1).bind λv2 =>
 ((gq_ a0 v1.1 v2.2.1).bind λv3 =>
 (cond (!v3.1)
 (some (inr (inr (false,()))))
 (some (inl ((w64 (v0.1+1)),())))))))
 (some (inr (inl ()))))) (0,())).bind λv4 =>
 (cc_ v4 (λv5=>(some ((decide ((a1.length:Int)≤8)),())))
 (λv6=>(some v6))))
theorem x_68:av_ cx_68 an_68 68 [ap_,(.list ca_)] [.bool]=λx=>cu_ x.1 x.2.1:=by kernel_rfl
noncomputable def c_68:Con prog:=aw_ _ _ 68 [ap_,(.list ca_)] [.bool] _ x_68
def an_114:An:=.z
noncomputable def cs_114:List (Con prog):=[c_165]
noncomputable def cl_114:List (Cpy prog):=[]
noncomputable def cx_114:Cx prog:=cxC cs_114 cl_114
noncomputable def dt_ (a0:(List UInt8)):Option (Bool×Unit) :=
 (cond (decide ((a0.length:Int)≤12))
 ((hh_ a0).bind λv0 =>
 (some (v0.1,())))
 (some (false,())))
theorem x_114:av_ cx_114 an_114 114 [.str] [.bool]=λx=>dt_ x.1:=by kernel_rfl
noncomputable def c_114:Con prog:=aw_ _ _ 114 [.str] [.bool] _ x_114
def an_66:An:=.z
noncomputable def cs_66:List (Con prog):=[c_65,c_121]
noncomputable def cl_66:List (Cpy prog):=[]
noncomputable def cx_66:Cx prog:=cxC cs_66 cl_66
noncomputable def fq_ (a0:ab_) (a1:(List Int)):Option (Int×Unit) :=
 ((eh_ a0).bind λv0 =>
 (cond (v0.1 != 0)
 (some (v0.1,()))
 ((gj_ a0 a1).bind λv1 =>
 (cond (!v1.1)
 (some (12,()))
 (some (0,()))))))
theorem x_66:av_ cx_66 an_66 66 [am_,(.list .int)] [.int]=λx=>fq_ x.1 x.2.1:=by kernel_rfl
noncomputable def c_66:Con prog:=aw_ _ _ 66 [am_,(.list .int)] [.int] _ x_66
def an_168:An:=(.p .z (.p (.q [] .z .z) (.p .z (.p .z (.j0 [.v 8 .bool,.b (.s 7) [.keep,.val .int,.val .int,.val .int,.val .int,.val (.list .int),.keep]] (.p .z (.p .z (.p (.j0 [.v 8 .bool] .z .z) (.p .z (.p (.j0 [.v 8 .bool] .z .z) (.j0 [.v 72 .bool] .z (.p (.j0 [.v 8 .bool] .z .z) (.p .z (.p (.j0 [.v 8 .bool] .z .z) (.p .z (.p (.j0 [.v 8 .bool] .z .z) (.p .z (.p (.j0 [.v 8 .bool] .z .z) .z))))))))))))) .z)))))
noncomputable def cs_168:List (Con prog):=[c_120,c_121,c_208]
noncomputable def cl_168:List (Cpy prog):=[]
noncomputable def cx_168:Cx prog:=cxC cs_168 cl_168
noncomputable def gk_ (a0:ab_) (a1:ak_):Option (Bool×Unit) :=
 ((bl_ a1.2.1 0 (w64 (a0.1 - 1))).bind λv0 =>
 ((bl_ a1.2.2.1 0 (w64 (a0.1 - 1))).bind λv1 =>
 (((cond (a1.1==1)
 (((cond v0.1
 ((bl_ a1.2.2.2.1 0 (w64 (a0.2 - 1))).bind λv2 =>
 (some (v2.1,())))
 (some (false,())))).bind λv3 =>
 (some (v3.1,((a1.2.1,(0,(a1.2.2.2.1,(0,([],()))))),()))))
 (cond (a1.1==2)
 (((cond v0.1
 (cond v1.1
 (cond (decide (a1.2.1≤a1.2.2.1))
 ((bl_ a1.2.2.2.1 0 100).bind λv4 =>
 (some (v4.1,())))
 (some (false,())))
 (some (false,())))
 (some (false,())))).bind λv5 =>
 (some (v5.1,((a1.2.1,(a1.2.2.1,(a1.2.2.2.1,(0,([],()))))),()))))
 (((cond (a1.1==3)
 (some ((a1.1==3),()))
 (some ((a1.1==4),())))).bind λv6 =>
 (cond v6.1
 (((cond v0.1
 (cond v1.1
 (some ((a1.2.1 != a1.2.2.1),()))
 (some (false,())))
 (some (false,())))).bind λv7 =>
 (some (v7.1,((a1.2.1,(a1.2.2.1,(0,(0,([],()))))),()))))
 (cond (a1.1==5)
 ((((bl_ a1.2.2.2.1 0 (w64 (a0.2 - 1))).bind λv8 =>
 (cond v8.1
 ((bl_ a1.2.2.2.2.1 0 a0.1).bind λv9 =>
 (some (v9.1,())))
 (some (false,()))))).bind λv10 =>
 (some (v10.1,((0,(0,(a1.2.2.2.1,(a1.2.2.2.2.1,([],()))))),()))))
 (cond (a1.1==6)
 ((((gj_ a0 a1.2.2.2.2.2.1).bind λv11 =>
 (cond v11.1
 ((bl_ a1.2.2.2.1 0 a0.1).bind λv12 =>
 (cond v12.1
 ((bl_ a1.2.2.2.2.1 0 a0.1).bind λv13 =>
 (some (v13.1,())))
 (some (false,()))))
 (some (false,()))))).bind λv14 =>
 (some (v14.1,((0,(0,(a1.2.2.2.1,(a1.2.2.2.2.1,(a1.2.2.2.2.2.1,()))))),()))))
 (cond (a1.1==7)
 (((cond v0.1
 ((bl_ a1.2.2.2.1 2 10).bind λv15 =>
 (cond v15.1
 ((bl_ a1.2.2.2.2.1 0 (w64 (a1.2.2.2.1 - 1))).bind λv16 =>
 (some (v16.1,())))
 (some (false,()))))
 (some (false,())))).bind λv17 =>
 (some (v17.1,((a1.2.1,(0,(a1.2.2.2.1,(a1.2.2.2.2.1,([],()))))),()))))
 (some (false,((0,(0,(0,(0,([],()))))),()))))))))))).bind λv18 =>
 (cond v18.1
 ((iw_ a1 (a1.1,(v18.2.1.1,(v18.2.1.2.1,(v18.2.1.2.2.1,(v18.2.1.2.2.2.1,(v18.2.1.2.2.2.2.1,a1.2.2.2.2.2.2))))))).bind λv19 =>
 (some (v19.1,())))
 (some (false,()))))))
theorem x_168:av_ cx_168 an_168 168 [am_,aq_] [.bool]=λx=>gk_ x.1 x.2.1:=by kernel_rfl
noncomputable def c_168:Con prog:=aw_ _ _ 168 [am_,aq_] [.bool] _ x_168
def an_124:An:=(.p .z (.p .z (.j0 [.v 5 .bool] (.p .z (.p .z (.p (.q [] .z .z) (.p .z (.p (.p .z (.p (.p .z (.lp [.v 6 .int,.v 7 .int] [.v 6 .int] [] 1 .z)) .z)) (.p .z (.p (.q [] .z .z) (.p .z (.p (.q [] .z .z) (.p .z (.p (.q [] .z .z) (.p .z (.p .z (.p .z (.p (.q [] .z .z) .z))))))))))))))) .z)))
noncomputable def cs_124:List (Con prog):=[c_169,c_170]
noncomputable def cl_124:List (Cpy prog):=[]
noncomputable def cx_124:Cx prog:=cxC cs_124 cl_124
noncomputable def fd_ (a0:ak_) (a1:(List Int)):Option (Bool×Unit) :=
 (((cond (a0.1==1)
 ((at? a1 a0.2.1).bind λv0 =>
 (some ((v0==a0.2.2.2.1),())))
 (cond (a0.1==2)
 ((ag_ (ρ:=(Int×Unit)) (λ(v1:(Int×(Int×Unit))) =>
 (cond (decide (v1.2.1≤a0.2.2.1))
 ((at? a1 v1.2.1).bind λv2 =>
 (some (inl ((w64 (v1.1+v2)),((w64 (v1.2.1+1)),())))))
 (some (inr (v1.1,()))))) (0,(a0.2.1,()))).bind λv3 =>
 (some ((v3.1==a0.2.2.2.1),())))
 (cond (a0.1==3)
 ((at? a1 a0.2.1).bind λv4 =>
 ((at? a1 a0.2.2.1).bind λv5 =>
 (some ((decide (v4<v5)),()))))
 (cond (a0.1==4)
 ((at? a1 a0.2.1).bind λv6 =>
 ((at? a1 a0.2.2.1).bind λv7 =>
 (some ((v6==v7),()))))
 (cond (a0.1==5)
 ((eg_ a1 a0.2.2.2.1).bind λv8 =>
 (some ((v8.1==a0.2.2.2.2.1),())))
 (cond (a0.1==6)
 ((ic_ a1 a0.2.2.2.2.2.1).bind λv9 =>
 (cond (v9.1==a0.2.2.2.1)
 (some ((v9.2.1==a0.2.2.2.2.1),()))
 (some (false,()))))
 (cond (a0.1==7)
 ((at? a1 a0.2.1).bind λv10 =>
 ((md v10 a0.2.2.2.1).bind λv11 =>
 (some ((v11==a0.2.2.2.2.1),()))))
 (some (false,())))))))))).bind λv12 =>
 (some ((v12.1 != a0.2.2.2.2.2.2),())))
theorem x_124:av_ cx_124 an_124 124 [aq_,(.list .int)] [.bool]=λx=>fd_ x.1 x.2.1:=by kernel_rfl
noncomputable def c_124:Con prog:=aw_ _ _ 124 [aq_,(.list .int)] [.bool] _ x_124
def an_103:An:=(.p .z (.p .z (.p (.p .z (.lp [.r 5 an_ 59,.v 6 .int] [.r 5 an_ 59] [] 0 (.p .z (.p (.p .z (.lp [.r 5 an_ 59,.v 7 .int] [.r 5 an_ 59] [] 2 (.p .z (.p (.p .z (.lp [.r 5 an_ 59,.v 8 .int] [.r 5 an_ 59] [] 4 (.p .z (.j0 [.r 5 an_ 59] .z .z)))) .z)))) .z)))) .z)))
noncomputable def cs_103:List (Con prog):=[c_157]
noncomputable def cl_103:List (Cpy prog):=[]
noncomputable def cx_103:Cx prog:=cxC cs_103 cl_103
noncomputable def eo_ (a0:af_) (a1:ai_):Option ((List ac_)×Unit) :=
 ((ag_ (ρ:=((List ac_)×Unit)) (λ(v0:((List ac_)×(Int×Unit))) =>
 (cond (decide (v0.2.1<a0.2.2.2.2.2.2.1))
 ((ag_ (ρ:=((List ac_)×Unit)) (λ(v1:((List ac_)×(Int×Unit))) =>
 (cond (decide (v1.2.1≤4))
 ((ag_ (ρ:=((List ac_)×Unit)) (λ(v2:((List ac_)×(Int×Unit))) =>
 (cond (decide (v2.2.1<24))
 ((((jg_ a0 a1 (v0.2.1,(v1.2.1,v2.2.1))).bind λv3 =>
 (cond v3.1
 ((push? (α:=ac_) v2.1 [(v0.2.1,(v1.2.1,v2.2.1))]).bind λv4 =>
 (some (v4,())))
 (some (v2.1,()))))).bind λv5 =>
 (some (inl (v5.1,((w64 (v2.2.1+1)),())))))
 (some (inr (v2.1,()))))) (v1.1,(0,()))).bind λv6 =>
 (some (inl (v6.1,((w64 (v1.2.1+1)),())))))
 (some (inr (v1.1,()))))) (v0.1,(1,()))).bind λv7 =>
 (some (inl (v7.1,((w64 (v0.2.1+1)),())))))
 (some (inr (v0.1,()))))) ([],(0,()))).bind λv8 =>
 (some (v8.1,())))
theorem x_103:av_ cx_103 an_103 103 [ap_,ar_] [(.list an_)]=λx=>eo_ x.1 x.2.1:=by kernel_rfl
noncomputable def c_103:Con prog:=aw_ _ _ 103 [ap_,ar_] [(.list an_)] _ x_103
def an_105:An:=(.p .z (.p .z (.p (.q [] .z .z) (.j0 [.o (.c (.s 8) 0) .int,.o (.c (.s 8) 1) .int,.o (.c (.s 8) 2) .int] (.p .z (.p .z (.p .z (.p .z (.p .z (.p .z (.p .z (.p .z (.p (.p .z (.p (.p .z (.lp [.v 12 .int] [] [.o (.c (.s 8) 1) .int] 1 .z)) (.p (.p .z (.lp [.v 13 .int] [] [.o (.c (.s 8) 1) .int] 3 .z)) (.p .z (.lp [.v 14 .int] [] [.o (.c (.s 8) 0) .int] 5 .z))))) .z))))))))) .z))))
def at_105:FuncId→An:=λk=>.z
noncomputable def cs_105:List (Con prog):=[c_159]
noncomputable def cl_105:List (Cpy prog):=[]
noncomputable def cx_105:Cx prog:=cxI at_105 (λk=>Nat.beq k 159||false) (cxC cs_105 cl_105) 2
noncomputable def gi_ (a0:af_) (a1:ai_) (a2:ac_):Option (ai_×Bool×Unit) :=
 ((push? (α:=Int) [] a1.1).bind λv0 =>
 ((push? (α:=Int) [] a1.2.1).bind λv1 =>
 ((push? (α:=Int) [] a1.2.2).bind λv2 =>
 ((at? a1.2.2 a2.1).bind λv3 =>
 (((cond (a2.2.1==1)
 ((at? a0.2.2.2.1 a2.2.2).bind λv4 =>
 ((at? a0.2.2.2.1 a2.2.2).bind λv5 =>
 ((at? v2 a2.1).bind λv6 =>
 ((at? v2 a2.1).bind λv7 =>
 (some (v0,(v1,((v2.set a2.1.toNat (w64 ((w64 (v4.1+v5.2.1)) - v3))),()))))))))
 (cond (a2.2.1==2)
 ((at? v1 a2.2.2).bind λv8 =>
 ((at? v1 a2.2.2).bind λv9 =>
 (some (v0,((v1.set a2.2.2.toNat (w64 ((-2) - a2.1))),(v2,()))))))
 (cond (a2.2.1==3)
 ((at? v1 a2.2.2).bind λv10 =>
 ((at? v1 a2.2.2).bind λv11 =>
 (some (v0,((v1.set a2.2.2.toNat v3),(v2,()))))))
 (cond (a2.2.1==4)
 ((at? a0.2.2.2.2.1 a2.2.2).bind λv12 =>
 ((ag_ (ρ:=((List Int)×Unit)) (λ(v13:(Int×((List Int)×Unit))) =>
 (cond (decide (v13.1<(v12.2.2.2.2.2.2.1.length:Int)))
 ((at? v12.2.2.2.2.2.2.1 v13.1).bind λv14 =>
 ((at? v13.2.1 v14).bind λv15 =>
 ((at? v13.2.1 v14).bind λv16 =>
 (some (inl ((w64 (v13.1+1)),((v13.2.1.set v14.toNat (-1)),())))))))
 (some (inr (v13.2.1,()))))) (0,(v1,()))).bind λv17 =>
 ((ag_ (ρ:=((List Int)×Unit)) (λ(v18:(Int×((List Int)×Unit))) =>
 (cond (decide (v18.1<(v12.2.2.2.2.2.2.2.length:Int)))
 ((at? v12.2.2.2.2.2.2.2 v18.1).bind λv19 =>
 ((at? v18.2.1 v19).bind λv20 =>
 ((at? v18.2.1 v19).bind λv21 =>
 (some (inl ((w64 (v18.1+1)),((v18.2.1.set v19.toNat (w64 ((-2) - a2.1))),())))))))
 (some (inr (v18.2.1,()))))) (0,(v17.1,()))).bind λv22 =>
 ((ag_ (ρ:=((List Int)×Unit)) (λ(v23:(Int×((List Int)×Unit))) =>
 (cond (decide (v23.1<(v12.2.2.2.2.2.1.length:Int)))
 ((at? v12.2.2.2.2.2.1 v23.1).bind λv24 =>
 ((at? v12.2.2.2.2.2.1 v23.1).bind λv25 =>
 ((at? v23.2.1 v24.1).bind λv26 =>
 ((at? v23.2.1 v24.1).bind λv27 =>
 (some (inl ((w64 (v23.1+1)),((v23.2.1.set v24.1.toNat v25.2),()))))))))
 (some (inr (v23.2.1,()))))) (0,(v0,()))).bind λv28 =>
 (some (v28.1,(v22.1,(v2,()))))))))
 (some (v0,(v1,(v2,()))))))))).bind λv29 =>
 ((gh_ a0 (v29.1,(v29.2.1,v29.2.2.1))).bind λv30 =>
 (some (v30.1,(v30.2.1,())))))))))
theorem x_105:av_ cx_105 an_105 105 [ap_,ar_,an_] [ar_,.bool]=λx=>gi_ x.1 x.2.1 x.2.2.1:=by kernel_rfl
noncomputable def c_105:Con prog:=aw_ _ _ 105 [ap_,ar_,an_] [ar_,.bool] _ x_105
def an_171:An:=(.p .z (.p (.p .z (.ls [.v 6 .int] [] [] 0 (.p .z (.p .z (.p (.p .z (.j0 [.v 18 .bool] .z .z)) .z))))) .z))
noncomputable def cs_171:List (Con prog):=[c_209]
noncomputable def cl_171:List (Cpy prog):=[]
noncomputable def cx_171:Cx prog:=cxC cs_171 cl_171
noncomputable def ey_ (a0:(List UInt8)):Option (Bool×Unit) :=
 ((ag_ (ρ:=(Unit⊕(Bool×Unit))) (λ(v0:(Int×Unit)) =>
 (cond (decide (v0.1<(a0.length:Int)))
 ((((at? a0 v0.1).bind λv1 =>
 (cond (decide (((UInt8.toNat v1):Int)<97))
 (some (true,()))
 ((at? a0 v0.1).bind λv2 =>
 (some ((decide (122<((UInt8.toNat v2):Int))),())))))).bind λv3 =>
 (cond v3.1
 (some (inr (inr (false,()))))
 (some (inl ((w64 (v0.1+1)),())))))
 (some (inr (inl ()))))) (0,())).bind λv4 =>
 (cc_ v4 (λv5=>(cond (!(a0==[]))
 ((cz_ [[97,116],[115,116,97,116,101,115],[115,116,97,114,116],[103,111,110,101],[105,102],[108,111,99,107],[119,105,116,104],[115,101,116,115],[115,112,101,110,100,115],[98,114,105,110,103,115]] a0).bind λv7 =>
 (some ((!v7.1),())))
 (some (false,()))))
 (λv6=>(some v6))))
theorem x_171:av_ cx_171 an_171 171 [.str] [.bool]=λx=>ey_ x.1:=by kernel_rfl
noncomputable def c_171:Con prog:=aw_ _ _ 171 [.str] [.bool] _ x_171
def an_133:An:=.z
def at_133:FuncId→An:=λk=>cond (Nat.beq k 143) (.p .z (.j0 [.v 4 .bool] .z .z)) (cond (Nat.beq k 189) (.p .z (.p (.p .z (.ls [.v 8 .int] [] [] 0 .z)) .z)) (.z))
noncomputable def cs_133:List (Con prog):=[cm3]
noncomputable def cl_133:List (Cpy prog):=[]
noncomputable def cx_133:Cx prog:=cxI at_133 (λk=>Nat.beq k 135||false) (cxC cs_133 cl_133) 4
noncomputable def ds_ (a0:af_) (a1:(List be_)):Option (Bool×Unit) :=
 (cond (decide ((a1.length:Int)≤8))
 ((((ag_ (ρ:=(Unit⊕(Bool×Unit))) (λ(v0:(Int×Unit)) =>
 (cond (decide (v0.1<(a1.length:Int)))
 ((at? a1 v0.1).bind λv1 =>
 ((ez_ a0 v1.1 v1.2.1).bind λv2 =>
 (cond (!v2.1)
 (some (inr (inr ((decide (0≤v0.1)),()))))
 (some (inl ((w64 (v0.1+1)),()))))))
 (some (inr (inl ()))))) (0,())).bind λv3 =>
 (cc_ v3 (λv4=>(some ((decide (0≤(-1))),())))
 (λv5=>(some v5))))).bind λv6 =>
 (some ((!v6.1),())))
 (some (false,())))
theorem x_133:av_ cx_133 an_133 133 [ap_,(.list ca_)] [.bool]=λx=>ds_ x.1 x.2.1:=by kernel_rfl
noncomputable def c_133:Con prog:=aw_ _ _ 133 [ap_,(.list ca_)] [.bool] _ x_133
def an_185:An:=.z
def at_185:FuncId→An:=λk=>cond (Nat.beq k 95) (.p .z (.j0 [.v 4 .bool] .z .z)) (cond (Nat.beq k 154) (.p .z (.p (.p .z (.ls [.v 8 .int] [] [] 0 .z)) .z)) (.z))
noncomputable def cs_185:List (Con prog):=[c_220]
noncomputable def cl_185:List (Cpy prog):=[]
noncomputable def cx_185:Cx prog:=cxI at_185 (λk=>Nat.beq k 220||false) (cxC cs_185 cl_185) 4
noncomputable def dj_ (a0:ab_) (a1:(List Int)):Option (Bool×Unit) :=
 (cond ((a1.length:Int)==a0.1)
 ((((ag_ (ρ:=(Unit⊕(Bool×Unit))) (λ(v0:(Int×Unit)) =>
 (cond (decide (v0.1<(a1.length:Int)))
 ((at? a1 v0.1).bind λv1 =>
 ((cr_ a0 v1).bind λv2 =>
 (cond (!v2.1)
 (some (inr (inr ((decide (0≤v0.1)),()))))
 (some (inl ((w64 (v0.1+1)),()))))))
 (some (inr (inl ()))))) (0,())).bind λv3 =>
 (cc_ v3 (λv4=>(some ((decide (0≤(-1))),())))
 (λv5=>(some v5))))).bind λv6 =>
 (some ((!v6.1),())))
 (some (false,())))
theorem x_185:av_ cx_185 an_185 185 [am_,(.list .int)] [.bool]=λx=>dj_ x.1 x.2.1:=by kernel_rfl
noncomputable def c_185:Con prog:=aw_ _ _ 185 [am_,(.list .int)] [.bool] _ x_185
def an_188:An:=(.p .z (.p (.q [] .z .z) .z))
noncomputable def cs_188:List (Con prog):=[c_222]
noncomputable def cl_188:List (Cpy prog):=[]
noncomputable def cx_188:Cx prog:=cxC cs_188 cl_188
noncomputable def fv_ (a0:ak_) (a1:(List Int)):Option (Bool×Unit) :=
 ((mu_ a0 a1).bind λv0 =>
 (some ((v0.1 != a0.2.2.2.2.2.2),())))
theorem x_188:av_ cx_188 an_188 188 [aq_,(.list .int)] [.bool]=λx=>fv_ x.1 x.2.1:=by kernel_rfl
noncomputable def c_188:Con prog:=aw_ _ _ 188 [aq_,(.list .int)] [.bool] _ x_188
def an_9:An:=(.p .z (.p .z (.p (.p .z (.lp [.v 4 .int] [] [.b (.s 3) [.keep,.keep,.keep,.keep,.keep,.keep,.keep,.keep,.keep,.row (.list .int) 45,.keep,.keep]] 0 .z)) (.p (.p .z (.lp [.v 5 .int] [] [.o (.s 16) oq_] 2 .z)) .z))))
noncomputable def cs_9:List (Con prog):=[c_33,c_34]
noncomputable def cl_9:List (Cpy prog):=[]
noncomputable def cx_9:Cx prog:=cxC cs_9 cl_9
noncomputable def kz_ (a0:ad_):Option (ad_×Unit) :=
 ((la_ a0.1).bind λv0 =>
 ((push? (α:=ab_) [] a0.2.1).bind λv1 =>
 ((push? (α:=ci_) [] a0.2.2.2.1).bind λv2 =>
 ((ag_ (ρ:=(((List (List Int))×Unit)×Unit)) (λ(v3:(Int×(((List (List Int))×Unit)×Unit))) =>
 (cond (decide (v3.1<(a0.2.2.1.length:Int)))
 ((at? a0.2.2.1 v3.1).bind λv4 =>
 ((push? (α:=Int) [] v4).bind λv5 =>
 ((push? (α:=(List Int)) v3.2.1.1 [v5]).bind λv6 =>
 (some (inl ((w64 (v3.1+1)),((v6,()),())))))))
 (some (inr ((v3.2.1.1,()),()))))) (0,(([],()),()))).bind λv7 =>
 ((ag_ (ρ:=((List ci_)×Unit)) (λ(v8:(Int×((List ci_)×Unit))) =>
 (cond (decide (v8.1<(v8.2.1.length:Int)))
 ((at? v8.2.1 v8.1).bind λv9 =>
 ((at? v8.2.1 v8.1).bind λv10 =>
 ((push? (α:=be_) [] v10.2.2.2.1).bind λv11 =>
 ((at? v8.2.1 v8.1).bind λv12 =>
 ((at? v8.2.1 v8.1).bind λv13 =>
 ((at? (v8.2.1.set v8.1.toNat (v13.1,(v13.2.1,(v13.2.2.1,(v11,v13.2.2.2.2))))) v8.1).bind λv14 =>
 ((at? (v8.2.1.set v8.1.toNat (v13.1,(v13.2.1,(v13.2.2.1,(v11,v13.2.2.2.2))))) v8.1).bind λv15 =>
 ((gn_ v15.2.2.2.2).bind λv16 =>
 ((at? (v8.2.1.set v8.1.toNat (v13.1,(v13.2.1,(v13.2.2.1,(v11,v13.2.2.2.2))))) v8.1).bind λv17 =>
 ((at? (v8.2.1.set v8.1.toNat (v13.1,(v13.2.1,(v13.2.2.1,(v11,v13.2.2.2.2))))) v8.1).bind λv18 =>
 (some (inl ((w64 (v8.1+1)),(((v8.2.1.set v8.1.toNat (v13.1,(v13.2.1,(v13.2.2.1,(v11,v13.2.2.2.2))))).set v8.1.toNat (v18.1,(v18.2.1,(v18.2.2.1,(v18.2.2.2.1,v16.1))))),()))))))))))))))
 (some (inr (v8.2.1,()))))) (0,(v2,()))).bind λv19 =>
 (some ((v0.1,(v1,(v7.1.1,(v19.1,a0.2.2.2.2)))),())))))))
theorem x_9:av_ cx_9 an_9 9 [ao_] [ao_]=λx=>kz_ x.1:=by kernel_rfl
noncomputable def c_9:Con prog:=aw_ _ _ 9 [ao_] [ao_] _ x_9
def an_38:An:=(.p .z (.p .z (.p (.p .z (.lp [.v 8 .int] [] [.o (.s 7) .int] 0 (.p .z (.j0 [.o (.s 7) .int] (.p .z (.p (.q [] .z .z) .z)) .z)))) (.p (.p .z (.lp [.v 9 .int,.v 10 .bool] [] [.o (.s 7) .int] 2 (.p .z (.p (.p .z (.p .z (.lp [.v 10 .bool,.v 11 .int] [.v 10 .bool] [.o (.s 7) .int] 4 (.p .z (.p (.p .z (.lp [.v 10 .bool,.v 12 .int] [.v 10 .bool] [.o (.s 7) .int] 6 (.p (.j0 [.v 60 .bool] .z .z) (.j0 [.v 10 .bool,.o (.s 7) .int] (.p .z (.j0 [.v 84 .bool] .z .z)) .z)))) .z))))) .z)))) .z))))
noncomputable def cs_38:List (Con prog):=[c_74,c_75]
noncomputable def cl_38:List (Cpy prog):=[]
noncomputable def cx_38:Cx prog:=cxC cs_38 cl_38
noncomputable def cq_ (a0:ad_) (a1:cf_) (a2:Int):Option ((List Int)×Unit) :=
 ((mk? (α:=Int) (a1.1.length:Int) 0).bind λv0 =>
 ((ag_ (ρ:=((List Int)×Unit)) (λ(v1:(Int×((List Int)×Unit))) =>
 (cond (decide (v1.1<(v1.2.1.length:Int)))
 ((((at? v1.2.1 v1.1).bind λv2 =>
 ((at? v1.2.1 v1.1).bind λv3 =>
 ((at? a1.1 v1.1).bind λv4 =>
 ((gl_ a0 v4).bind λv5 =>
 (cond v5.1
 ((at? (v1.2.1.set v1.1.toNat (-1)) v1.1).bind λv6 =>
 ((at? (v1.2.1.set v1.1.toNat (-1)) v1.1).bind λv7 =>
 (some (((v1.2.1.set v1.1.toNat (-1)).set v1.1.toNat 0),()))))
 (some ((v1.2.1.set v1.1.toNat (-1)),())))))))).bind λv8 =>
 (some (inl ((w64 (v1.1+1)),(v8.1,())))))
 (some (inr (v1.2.1,()))))) (0,(v0,()))).bind λv9 =>
 ((ag_ (ρ:=((List Int)×Unit)) (λ(v10:(Int×(Bool×((List Int)×Unit)))) =>
 (cond v10.2.1
 ((ag_ (ρ:=(Bool×((List Int)×Unit))) (λ(v11:(Bool×(Int×((List Int)×Unit)))) =>
 (cond (decide (v11.2.1<(v11.2.2.1.length:Int)))
 ((ag_ (ρ:=(Bool×((List Int)×Unit))) (λ(v12:(Bool×(Int×((List Int)×Unit)))) =>
 ((((at? a1.2 v11.2.1).bind λv13 =>
 (cond (decide (v12.2.1<(v13.length:Int)))
 ((at? v12.2.2.1 v11.2.1).bind λv14 =>
 ((at? v12.2.2.1 v11.2.1).bind λv15 =>
 (some ((decide (v15<0)),()))))
 (some (false,()))))).bind λv16 =>
 (cond v16.1
 ((((at? a1.2 v11.2.1).bind λv17 =>
 ((at? v17 v12.2.1).bind λv18 =>
 ((((at? v12.2.2.1 v18.2).bind λv19 =>
 ((at? v12.2.2.1 v18.2).bind λv20 =>
 (cond (v20==(w64 (v10.1 - 1)))
 ((ku_ v18 a2).bind λv21 =>
 (some ((!v21.1),())))
 (some (false,())))))).bind λv22 =>
 (cond v22.1
 ((at? v12.2.2.1 v11.2.1).bind λv23 =>
 ((at? v12.2.2.1 v11.2.1).bind λv24 =>
 (some (true,((v12.2.2.1.set v11.2.1.toNat v10.1),())))))
 (some (v12.1,(v12.2.2.1,())))))))).bind λv25 =>
 (some (inl (v25.1,((w64 (v12.2.1+1)),(v25.2.1,()))))))
 (some (inr (v12.1,(v12.2.2.1,()))))))) (v11.1,(0,(v11.2.2.1,())))).bind λv26 =>
 (some (inl (v26.1,((w64 (v11.2.1+1)),(v26.2.1,()))))))
 (some (inr (v11.1,(v11.2.2.1,())))))) (false,(0,(v10.2.2.1,())))).bind λv27 =>
 (some (inl ((w64 (v10.1+1)),(v27.1,(v27.2.1,()))))))
 (some (inr (v10.2.2.1,()))))) (1,(true,(v9.1,())))).bind λv28 =>
 (some (v28.1,())))))
theorem x_38:av_ cx_38 an_38 38 [ao_,hq_,.int] [(.list .int)]=λx=>cq_ x.1 x.2.1 x.2.2.1:=by kernel_rfl
noncomputable def c_38:Con prog:=aw_ _ _ 38 [ao_,hq_,.int] [(.list .int)] _ x_38
end
section
set_option maxRecDepth 100000
set_option maxHeartbeats 0
def an_118:An:=(.p .z (.p .z (.p (.p .z (.ls [.v 6 .int] [] [] 0 .z)) (.p (.j0 [.v 73 .bool] .z .z) (.p (.p .z (.ls [.v 7 .int] [] [] 2 .z)) (.p (.p .z (.ls [.v 8 .int] [] [] 4 .z)) (.p (.p .z (.ls [.v 9 .int] [] [] 6 (.p .z (.p (.p .z (.p .z (.ls [.v 10 .int] [] [] 8 .z))) .z)))) .z)))))))
noncomputable def cs_118:List (Con prog):=[c_114,c_116,at7,cm4,c_166,c_167]
noncomputable def cl_118:List (Cpy prog):=[]
noncomputable def cx_118:Cx prog:=cxC cs_118 cl_118
noncomputable def mq_ (a0:af_) (a1:Int):Option (Bool×Unit) :=
 ((at? a0.2.2.2.2.1 a1).bind λv0 =>
 ((ag_ (ρ:=(Unit⊕(Bool×Unit))) (λ(v1:(Int×Unit)) =>
 (cond (decide (v1.1<a1))
 ((at? a0.2.2.2.2.1 v1.1).bind λv2 =>
 (cond (v2.1==v0.1)
 (some (inr (inr (false,()))))
 (some (inl ((w64 (v1.1+1)),())))))
 (some (inr (inl ()))))) (0,())).bind λv3 =>
 (cc_ v3 (λv4=>((((dt_ v0.1).bind λv6 =>
 (cond (!v6.1)
 (some (true,()))
 ((ct_ a0 v0.2.1).bind λv7 =>
 (cond (!v7.1)
 (some (true,()))
 ((br_ v0.2.2.1 (-1) 7).bind λv8 =>
 (cond (!v8.1)
 (some (true,()))
 ((di_ a0 v0.2.2.2.1).bind λv9 =>
 (cond (!v9.1)
 (some (true,()))
 ((di_ a0 v0.2.2.2.2.2.2.1).bind λv10 =>
 (cond (!v10.1)
 (some (true,()))
 ((di_ a0 v0.2.2.2.2.2.2.2).bind λv11 =>
 (cond (!v11.1)
 (some (true,()))
 (some ((decide (6<(v0.2.2.2.2.2.1.length:Int))),()))))))))))))))).bind λv12 =>
 (cond v12.1
 (some (false,()))
 ((ag_ (ρ:=(Unit⊕(Bool×Unit))) (λ(v13:(Int×Unit)) =>
 (cond (decide (v13.1<(v0.2.2.2.2.2.2.1.length:Int)))
 ((at? v0.2.2.2.2.2.2.1 v13.1).bind λv14 =>
 ((mb_ v0.2.2.2.1 v14).bind λv15 =>
 (cond (!v15.1)
 (some (inr (inr (false,()))))
 (some (inl ((w64 (v13.1+1)),()))))))
 (some (inr (inl ()))))) (0,())).bind λv16 =>
 (cc_ v16 (λv17=>((ag_ (ρ:=(Unit⊕(Bool×Unit))) (λ(v19:(Int×Unit)) =>
 (cond (decide (v19.1<(v0.2.2.2.2.2.2.2.length:Int)))
 ((at? v0.2.2.2.2.2.2.2 v19.1).bind λv20 =>
 ((mb_ v0.2.2.2.1 v20).bind λv21 =>
 (cond v21.1
 (some (inr (inr (false,()))))
 (some (inl ((w64 (v19.1+1)),()))))))
 (some (inr (inl ()))))) (0,())).bind λv22 =>
 (cc_ v22 (λv23=>((ag_ (ρ:=(Unit⊕(Bool×Unit))) (λ(v25:(Int×Unit)) =>
 (cond (decide (v25.1<(v0.2.2.2.2.2.1.length:Int)))
 ((at? v0.2.2.2.2.2.1 v25.1).bind λv26 =>
 ((at? v0.2.2.2.2.2.1 v25.1).bind λv27 =>
 ((gq_ a0 v26.1 v27.2).bind λv28 =>
 (cond (!v28.1)
 (some (inr (inr (false,()))))
 ((ag_ (ρ:=(Unit⊕((Int×Unit)⊕(Unit⊕(Bool×Unit))))) (λ(v29:(Int×Unit)) =>
 (cond (decide (v29.1<v25.1))
 ((at? v0.2.2.2.2.2.1 v29.1).bind λv30 =>
 ((at? v0.2.2.2.2.2.1 v25.1).bind λv31 =>
 (cond (v30.1==v31.1)
 (some (inr (inr (inr (inr (false,()))))))
 (some (inl ((w64 (v29.1+1)),()))))))
 (some (inr (inl ()))))) (0,())).bind λv32 =>
 (cc_ v32 (λv33=>(some (inl ((w64 (v25.1+1)),()))))
 (λv34=>(some v34))))))))
 (some (inr (inl ()))))) (0,())).bind λv35 =>
 (cc_ v35 (λv36=>(some (true,())))
 (λv37=>(some v37)))))
 (λv24=>(some v24)))))
 (λv18=>(some v18)))))))
 (λv5=>(some v5)))))
theorem x_118:av_ cx_118 an_118 118 [ap_,.int] [.bool]=λx=>mq_ x.1 x.2.1:=by kernel_rfl
noncomputable def c_118:Con prog:=aw_ _ _ 118 [ap_,.int] [.bool] _ x_118
def an_123:An:=.z
noncomputable def cs_123:List (Con prog):=[c_65,c_168]
noncomputable def cl_123:List (Cpy prog):=[]
noncomputable def cx_123:Cx prog:=cxC cs_123 cl_123
noncomputable def fr_ (a0:ab_) (a1:ak_):Option (Int×Unit) :=
 ((eh_ a0).bind λv0 =>
 (cond (v0.1 != 0)
 (some (v0.1,()))
 ((gk_ a0 a1).bind λv1 =>
 (cond (!v1.1)
 (some (11,()))
 (some (0,()))))))
theorem x_123:av_ cx_123 an_123 123 [am_,aq_] [.int]=λx=>fr_ x.1 x.2.1:=by kernel_rfl
noncomputable def c_123:Con prog:=aw_ _ _ 123 [am_,aq_] [.int] _ x_123
def an_240:An:=(.p .z (.p .z (.p .z (.p (.p .z (.ls [.v 6 .int] [] [] 0 (.p .z (.p (.p (.q [] .z .z) .z) .z)))) .z))))
noncomputable def cs_240:List (Con prog):=[c_65,c_168]
noncomputable def cl_240:List (Cpy prog):=[]
noncomputable def cx_240:Cx prog:=cxC cs_240 cl_240
noncomputable def ep_ (a0:ab_) (a1:(List ak_)):Option (Int×Unit) :=
 ((eh_ a0).bind λv0 =>
 (cond (v0.1 != 0)
 (some (v0.1,()))
 (cond (decide (20<(a1.length:Int)))
 (some (2,()))
 ((ag_ (ρ:=(Unit⊕(Int×Unit))) (λ(v1:(Int×Unit)) =>
 (cond (decide (v1.1<(a1.length:Int)))
 ((at? a1 v1.1).bind λv2 =>
 ((gk_ a0 v2).bind λv3 =>
 (cond (!v3.1)
 (some (inr (inr (11,()))))
 (some (inl ((w64 (v1.1+1)),()))))))
 (some (inr (inl ()))))) (0,())).bind λv4 =>
 (cc_ v4 (λv5=>(some (0,())))
 (λv6=>(some v6)))))))
theorem x_240:av_ cx_240 an_240 240 [am_,(.list aq_)] [.int]=λx=>ep_ x.1 x.2.1:=by kernel_rfl
noncomputable def c_240:Con prog:=aw_ _ _ 240 [am_,(.list aq_)] [.int] _ x_240
def an_248:An:=(.p .z (.p (.p .z (.ls [.v 5 .int] [] [] 0 .z)) .z))
noncomputable def cs_248:List (Con prog):=[c_124]
noncomputable def cl_248:List (Cpy prog):=[]
noncomputable def cx_248:Cx prog:=cxC cs_248 cl_248
noncomputable def ji_ (a0:(List ak_)) (a1:(List Int)):Option (Int×Unit) :=
 ((ag_ (ρ:=(Unit⊕(Int×Unit))) (λ(v0:(Int×Unit)) =>
 (cond (decide (v0.1<(a0.length:Int)))
 ((at? a0 v0.1).bind λv1 =>
 ((fd_ v1 a1).bind λv2 =>
 (cond (!v2.1)
 (some (inr (inr (v0.1,()))))
 (some (inl ((w64 (v0.1+1)),()))))))
 (some (inr (inl ()))))) (0,())).bind λv3 =>
 (cc_ v3 (λv4=>(some ((-1),())))
 (λv5=>(some v5))))
theorem x_248:av_ cx_248 an_248 248 [(.list aq_),(.list .int)] [.int]=λx=>ji_ x.1 x.2.1:=by kernel_rfl
noncomputable def c_248:Con prog:=aw_ _ _ 248 [(.list aq_),(.list .int)] [.int] _ x_248
def an_55:An:=.z
noncomputable def cs_55:List (Con prog):=[c_101,c_105]
noncomputable def cl_55:List (Cpy prog):=[]
noncomputable def cx_55:Cx prog:=cxC cs_55 cl_55
noncomputable def ky_ (a0:ad_) (a1:aa_) (a2:ac_):Option (aa_×Unit) :=
 ((gi_ a0.1 a1.1 a2).bind λv0 =>
 ((ik_ a0 (v0.1,a1.2)).bind λv1 =>
 (some (v1.1,()))))
theorem x_55:av_ cx_55 an_55 55 [ao_,aj_,an_] [aj_]=λx=>ky_ x.1 x.2.1 x.2.2.1:=by kernel_rfl
noncomputable def c_55:Con prog:=aw_ _ _ 55 [ao_,aj_,an_] [aj_] _ x_55
def an_134:An:=(.p .z (.p (.j0 [.v 35 .bool] (.q [] .z .z) .z) (.p (.j0 [.v 60 .bool] .z .z) (.p .z (.p .z (.p (.j0 [.v 72 .bool] .z .z) (.p (.p .z (.ls [.v 76 .int] [] [] 0 (.p .z (.p .z (.p (.p .z (.p .z (.j0 [.v 96 .bool] .z .z))) .z))))) .z)))))))
def at_134:FuncId→An:=λk=>cond (Nat.beq k 95) (.p .z (.j0 [.v 4 .bool] .z .z)) (cond (Nat.beq k 154) (.p .z (.p (.p .z (.ls [.v 8 .int] [] [] 0 .z)) .z)) (cond (Nat.beq k 176) (.p .z (.j0 [.v 6 .bool] .z .z)) (cond (Nat.beq k 181) (.p .z (.j0 [.v 4 .bool] .z .z)) (cond (Nat.beq k 216) (.p .z (.j0 [.v 6 .int] .z .z)) (cond (Nat.beq k 217) (.p .z (.p (.p .z (.ls [.v 8 .int] [] [] 0 .z)) .z)) (cond (Nat.beq k 234) (.p .z (.p (.p .z (.ls [.v 8 .int] [] [] 0 .z)) .z)) (cond (Nat.beq k 235) (.p .z (.p (.q [] .z .z) .z)) (.z))))))))
noncomputable def cs_134:List (Con prog):=[c_85,by8,cm3,c_171,c_177,c_178]
noncomputable def cl_134:List (Cpy prog):=[]
noncomputable def cx_134:Cx prog:=cxI at_134 (λk=>Nat.beq k 85||Nat.beq k 126||Nat.beq k 135||Nat.beq k 171||Nat.beq k 177||Nat.beq k 178||false) (cxC cs_134 cl_134) 12
noncomputable def pe_ (a0:af_) (a1:Int) (a2:cw_):Option (Bool×Unit) :=
 ((((sub? a0.2.2.2.2.1 0 a1).bind λv0 =>
 ((((ey_ a2.1).bind λv1 =>
 (cond v1.1
 (cond (decide ((a2.1.length:Int)≤12))
 ((((ag_ (ρ:=(Unit⊕(Int×Unit))) (λ(v2:(Int×Unit)) =>
 (cond (decide (v2.1<(v0.length:Int)))
 ((at? v0 v2.1).bind λv3 =>
 (cond (v3.1==a2.1)
 (some (inr (inr (v2.1,()))))
 (some (inl ((w64 (v2.1+1)),())))))
 (some (inr (inl ()))))) (0,())).bind λv4 =>
 (cc_ v4 (λv5=>(some ((-1),())))
 (λv6=>(some v6))))).bind λv7 =>
 (some ((decide (v7.1<0)),())))
 (some (false,())))
 (some (false,()))))).bind λv8 =>
 (cond (!v8.1)
 (some (true,()))
 ((bc_ a2.2.1 0 (w64 ((a0.1.length:Int) - 1))).bind λv9 =>
 (cond (!v9.1)
 (some (true,()))
 ((bc_ a2.2.2.1 (-1) 7).bind λv10 =>
 (some ((!v10.1),()))))))))).bind λv11 =>
 (cond v11.1
 (some (false,()))
 ((((gw_ a0 a2.2.2.2.1).bind λv12 =>
 (cond (!v12.1)
 (some (true,()))
 ((gw_ a0 a2.2.2.2.2.2.2.1).bind λv13 =>
 (cond (!v13.1)
 (some (true,()))
 ((gw_ a0 a2.2.2.2.2.2.2.2).bind λv14 =>
 (cond (!v14.1)
 (some (true,()))
 (some ((decide (6<(a2.2.2.2.2.2.1.length:Int))),()))))))))).bind λv15 =>
 (cond v15.1
 (some (false,()))
 ((((((ag_ (ρ:=(Unit⊕(Bool×Unit))) (λ(v16:(Int×Unit)) =>
 (cond (decide (v16.1<(a2.2.2.2.2.2.2.1.length:Int)))
 ((at? a2.2.2.2.2.2.2.1 v16.1).bind λv17 =>
 ((bg_ a2.2.2.2.1 v17).bind λv18 =>
 (cond (!v18.1)
 (some (inr (inr ((decide (0≤v16.1)),()))))
 (some (inl ((w64 (v16.1+1)),()))))))
 (some (inr (inl ()))))) (0,())).bind λv19 =>
 (cc_ v19 (λv20=>(some ((decide (0≤(-1))),())))
 (λv21=>(some v21))))).bind λv22 =>
 (cond v22.1
 (some (true,()))
 ((((ag_ (ρ:=(Unit⊕(Bool×Unit))) (λ(v23:(Int×Unit)) =>
 (cond (decide (v23.1<(a2.2.2.2.2.2.2.2.length:Int)))
 ((at? a2.2.2.2.2.2.2.2 v23.1).bind λv24 =>
 ((bg_ a2.2.2.2.1 v24).bind λv25 =>
 (cond v25.1
 (some (inr (inr ((decide (0≤v23.1)),()))))
 (some (inl ((w64 (v23.1+1)),()))))))
 (some (inr (inl ()))))) (0,())).bind λv26 =>
 (cc_ v26 (λv27=>(some ((decide (0≤(-1))),())))
 (λv28=>(some v28))))).bind λv29 =>
 (some (v29.1,())))))).bind λv30 =>
 (cond v30.1
 (some (false,()))
 ((ag_ (ρ:=(Unit⊕(Bool×Unit))) (λ(v31:(Int×Unit)) =>
 (cond (decide (v31.1<(a2.2.2.2.2.2.1.length:Int)))
 ((at? a2.2.2.2.2.2.1 v31.1).bind λv32 =>
 ((sub? a2.2.2.2.2.2.1 0 v31.1).bind λv33 =>
 ((((ag_ (ρ:=(Unit⊕(Bool×Unit))) (λ(v34:(Int×Unit)) =>
 (cond (decide (v34.1<(v33.length:Int)))
 ((at? v33 v34.1).bind λv35 =>
 (cond (v35.1==v32.1)
 (some (inr (inr ((decide (0≤v34.1)),()))))
 (some (inl ((w64 (v34.1+1)),())))))
 (some (inr (inl ()))))) (0,())).bind λv36 =>
 (cc_ v36 (λv37=>(some ((decide (0≤(-1))),())))
 (λv38=>(some v38))))).bind λv39 =>
 ((((ez_ a0 v32.1 v32.2).bind λv40 =>
 (cond (!v40.1)
 (some (true,()))
 (some (v39.1,()))))).bind λv41 =>
 (cond v41.1
 (some (inr (inr (false,()))))
 (some (inl ((w64 (v31.1+1)),()))))))))
 (some (inr (inl ()))))) (0,())).bind λv42 =>
 (cc_ v42 (λv43=>(some (true,())))
 (λv44=>(some v44))))))))))
theorem x_134:av_ cx_134 an_134 134 [ap_,.int,lq_] [.bool]=λx=>pe_ x.1 x.2.1 x.2.2.1:=by kernel_rfl
noncomputable def c_134:Con prog:=aw_ _ _ 134 [ap_,.int,lq_] [.bool] _ x_134
def an_137:An:=.z
def at_137:FuncId→An:=λk=>cond (Nat.beq k 183) (.p .z (.j0 [.v 4 .bool] .z .z)) (cond (Nat.beq k 218) (.p .z (.p (.p .z (.ls [.v 8 .int] [] [] 0 .z)) .z)) (.z))
noncomputable def cs_137:List (Con prog):=[c_77,c_185]
noncomputable def cl_137:List (Cpy prog):=[]
noncomputable def cx_137:Cx prog:=cxI at_137 (λk=>Nat.beq k 77||Nat.beq k 185||false) (cxC cs_137 cl_137) 4
noncomputable def hj_ (a0:ab_) (a1:(List (List Int))):Option (Int×Unit) :=
 ((ei_ a0).bind λv0 =>
 (cond (v0.1 != 0)
 (some (v0.1,()))
 ((((ag_ (ρ:=(Unit⊕(Bool×Unit))) (λ(v1:(Int×Unit)) =>
 (cond (decide (v1.1<(a1.length:Int)))
 ((at? a1 v1.1).bind λv2 =>
 ((dj_ a0 v2).bind λv3 =>
 (cond (!v3.1)
 (some (inr (inr ((decide (0≤v1.1)),()))))
 (some (inl ((w64 (v1.1+1)),()))))))
 (some (inr (inl ()))))) (0,())).bind λv4 =>
 (cc_ v4 (λv5=>(some ((decide (0≤(-1))),())))
 (λv6=>(some v6))))).bind λv7 =>
 (cond v7.1
 (some (12,()))
 (some (0,()))))))
theorem x_137:av_ cx_137 an_137 137 [am_,(.list (.list .int))] [.int]=λx=>hj_ x.1 x.2.1:=by kernel_rfl
noncomputable def c_137:Con prog:=aw_ _ _ 137 [am_,(.list (.list .int))] [.int] _ x_137
def an_221:An:=(.p .z (.p .z (.p .z (.j0 [.v 6 .bool,.b (.s 5) [.keep,.val .int,.val .int,.val .int,.val .int,.val (.list .int),.keep]] (.p .z (.p .z (.p .z (.p .z (.p .z (.j0 [.v 65 .bool] .z .z)))))) .z))))
noncomputable def cs_221:List (Con prog):=[cm2,c_185,c_220,c_236]
noncomputable def cl_221:List (Cpy prog):=[]
noncomputable def cx_221:Cx prog:=cxC cs_221 cl_221
noncomputable def dk_ (a0:ab_) (a1:ak_):Option (Bool×Unit) :=
 (((cond (a1.1==1)
 ((bt_ a0 a1.2.1).bind λv0 =>
 (cond v0.1
 ((cr_ a0 a1.2.2.2.1).bind λv1 =>
 (some (v1.1,((a1.2.1,(0,(a1.2.2.2.1,(0,([],()))))),()))))
 (some (false,((a1.2.1,(0,(a1.2.2.2.1,(0,([],()))))),())))))
 (cond (a1.1==2)
 ((bt_ a0 a1.2.1).bind λv2 =>
 (cond v2.1
 ((bt_ a0 a1.2.2.1).bind λv3 =>
 (cond v3.1
 (cond (decide (a1.2.1≤a1.2.2.1))
 ((bx_ a1.2.2.2.1 0 100).bind λv4 =>
 (some (v4.1,((a1.2.1,(a1.2.2.1,(a1.2.2.2.1,(0,([],()))))),()))))
 (some (false,((a1.2.1,(a1.2.2.1,(a1.2.2.2.1,(0,([],()))))),()))))
 (some (false,((a1.2.1,(a1.2.2.1,(a1.2.2.2.1,(0,([],()))))),())))))
 (some (false,((a1.2.1,(a1.2.2.1,(a1.2.2.2.1,(0,([],()))))),())))))
 (((cond (a1.1==3)
 (some ((a1.1==3),()))
 (some ((a1.1==4),())))).bind λv5 =>
 (cond v5.1
 ((bt_ a0 a1.2.1).bind λv6 =>
 (cond v6.1
 ((bt_ a0 a1.2.2.1).bind λv7 =>
 (cond v7.1
 (some ((a1.2.1 != a1.2.2.1),((a1.2.1,(a1.2.2.1,(0,(0,([],()))))),())))
 (some (false,((a1.2.1,(a1.2.2.1,(0,(0,([],()))))),())))))
 (some (false,((a1.2.1,(a1.2.2.1,(0,(0,([],()))))),())))))
 (cond (a1.1==5)
 ((cr_ a0 a1.2.2.2.1).bind λv8 =>
 (cond v8.1
 ((bx_ a1.2.2.2.2.1 0 a0.1).bind λv9 =>
 (some (v9.1,((0,(0,(a1.2.2.2.1,(a1.2.2.2.2.1,([],()))))),()))))
 (some (false,((0,(0,(a1.2.2.2.1,(a1.2.2.2.2.1,([],()))))),())))))
 (cond (a1.1==6)
 ((bx_ a1.2.2.2.1 0 a0.1).bind λv10 =>
 (cond v10.1
 ((bx_ a1.2.2.2.2.1 0 a0.1).bind λv11 =>
 (cond v11.1
 ((dj_ a0 a1.2.2.2.2.2.1).bind λv12 =>
 (some (v12.1,((0,(0,(a1.2.2.2.1,(a1.2.2.2.2.1,(a1.2.2.2.2.2.1,()))))),()))))
 (some (false,((0,(0,(a1.2.2.2.1,(a1.2.2.2.2.1,(a1.2.2.2.2.2.1,()))))),())))))
 (some (false,((0,(0,(a1.2.2.2.1,(a1.2.2.2.2.1,(a1.2.2.2.2.2.1,()))))),())))))
 (cond (a1.1==7)
 ((bt_ a0 a1.2.1).bind λv13 =>
 (cond v13.1
 ((bx_ a1.2.2.2.1 2 10).bind λv14 =>
 (cond v14.1
 ((bx_ a1.2.2.2.2.1 0 (w64 (a1.2.2.2.1 - 1))).bind λv15 =>
 (some (v15.1,((a1.2.1,(0,(a1.2.2.2.1,(a1.2.2.2.2.1,([],()))))),()))))
 (some (false,((a1.2.1,(0,(a1.2.2.2.1,(a1.2.2.2.2.1,([],()))))),())))))
 (some (false,((a1.2.1,(0,(a1.2.2.2.1,(a1.2.2.2.2.1,([],()))))),())))))
 (some (false,((0,(0,(0,(0,([],()))))),()))))))))))).bind λv16 =>
 (cond v16.1
 (cond (a1.2.1==v16.2.1.1)
 (cond (a1.2.2.1==v16.2.1.2.1)
 (cond (a1.2.2.2.1==v16.2.1.2.2.1)
 (cond (a1.2.2.2.2.1==v16.2.1.2.2.2.1)
 (some (((a1.2.2.2.2.2.1.length:Int)==(v16.2.1.2.2.2.2.1.length:Int)),()))
 (some (false,())))
 (some (false,())))
 (some (false,())))
 (some (false,())))
 (some (false,()))))
theorem x_221:av_ cx_221 an_221 221 [am_,aq_] [.bool]=λx=>dk_ x.1 x.2.1:=by kernel_rfl
noncomputable def c_221:Con prog:=aw_ _ _ 221 [am_,aq_] [.bool] _ x_221
def an_245:An:=.z
def at_245:FuncId→An:=λk=>cond (Nat.beq k 242) (.p .z (.p (.p .z (.ls [.v 8 .int] [] [] 0 .z)) .z)) (.z)
noncomputable def cs_245:List (Con prog):=[c_188]
noncomputable def cl_245:List (Cpy prog):=[]
noncomputable def cx_245:Cx prog:=cxI at_245 (λk=>Nat.beq k 188||false) (cxC cs_245 cl_245) 3
noncomputable def fw_ (a0:(List ak_)) (a1:(List Int)):Option (Int×Unit) :=
 ((ag_ (ρ:=(Unit⊕(Int×Unit))) (λ(v0:(Int×Unit)) =>
 (cond (decide (v0.1<(a0.length:Int)))
 ((at? a0 v0.1).bind λv1 =>
 ((fv_ v1 a1).bind λv2 =>
 (cond (!v2.1)
 (some (inr (inr (v0.1,()))))
 (some (inl ((w64 (v0.1+1)),()))))))
 (some (inr (inl ()))))) (0,())).bind λv3 =>
 (cc_ v3 (λv4=>(some ((-1),())))
 (λv5=>(some v5))))
theorem x_245:av_ cx_245 an_245 245 [(.list aq_),(.list .int)] [.int]=λx=>fw_ x.1 x.2.1:=by kernel_rfl
noncomputable def c_245:Con prog:=aw_ _ _ 245 [(.list aq_),(.list .int)] [.int] _ x_245
end
end Go.Proofs.YtdibamopklkilaaGreatDoor.Rx
namespace Go.Proofs.YtdibamopklkilaaGreatDoor.Rx
open Go Pad Rex Sum
section
def wi (a b c:Int):Bool:=decide (b≤a)&&decide (a≤c)
theorem cg_ {a b c:Int}:wi a b c=true↔b≤a∧a≤c:=by simp [wi]
theorem be2 (a b c:Int):(cond (decide (b≤a)) (some ((decide (a≤c)),())) (some (false,())))=some (wi a b c,()):=by
  unfold wi
  cases decide (b≤a) <;> rfl
theorem dv_ (a b c:Int):bc_ a b c=some (wi a b c,()):=be2 a b c
theorem ht_ (a b c:Int):bp_ a b c=some (wi a b c,()):=be2 a b c
theorem fj_ (a b c:Int):br_ a b c=some (wi a b c,()):=be2 a b c
theorem yl_ (a b c:Int):il_ a b c=some (wi a b c,()):=be2 a b c
theorem beqc {α:Type} [BEq α] [LawfulBEq α] (x y:α):(y==x)=(x==y):=by
  rw [k2_,f3_,f3_]
  exact eq_comm
theorem ha_ {α:Type} [BEq α] [LawfulBEq α] (l:List α) (x:α):l.any (x == ·)=l.contains x:=by
  induction l with
  | nil=>rfl
  | cons y l ih=>simp [List.contains_cons,ih]
theorem cb4 {l:List Int} {x:Int} (hl:Sm l.length):∃ i:Int,bs_ l x=some (i,())∧decide (0≤i)=l.contains x:=by
  unfold bs_
  have h1:=lx_ l (λi y=>cond (x==y) (some (inr ((i:Int),()):Unit⊕(Int×Unit))) none) (λi=>((i:Int),())) (r0:=inl ())
    (body:=λ(v0:(Int×Unit)) =>
     (cond (decide (v0.1<(l.length:Int)))
     ((at? l v0.1).bind λv1 =>
     (cond (x==v1)
     (some (inr (inr (v0.1,()))))
     (some (inl ((w64 (v0.1+1)),())))))
     (some (inr (inl ())))))
    (λi y hy=>by
      have hi:=al_ hy
      simp only [dlt hi,a4_,ah_ hy,a0_,ay_ (show Sm i by omega)]
      cases x==y <;> rfl)
    (by simp only [dnl,a2_])
  rcases zw_ (q:=λy=>x==y) (f:=λi=>(inr ((i:Int),()):Unit⊕(Int×Unit))) l 0 with ⟨h2,h3⟩ | ⟨i,h2,h3⟩
  · refine ⟨-1,e6_ (congrArg (λo=>Option.bind o _) h1) ?_,by rw [← ha_,h3]; rfl⟩
    rw [h2]; rfl
  · refine ⟨i,e6_ (congrArg (λo=>Option.bind o _) h1) ?_,by rw [← ha_,h3]; exact b9_ (by omega)⟩
    rw [h2]; rfl
theorem li_ {l:List Int} {x:Int} (hl:Sm l.length):bg_ l x=some (l.contains x,()):=by
  obtain ⟨i,h1,h2⟩:=cb4 (x:=x) hl
  unfold bg_
  rw [h1,a0_,h2]
theorem an9 {l:List (List UInt8)} {x:List UInt8} (hl:Sm l.length):∃ i:Int,dr_ l x=some (i,())∧decide (0≤i)=l.contains x:=by
  unfold dr_
  rcases zw_ (q:=λy=>x==y) (f:=λi=>(inr ((i:Int),()):Unit⊕(Int×Unit))) l 0 with ⟨h2,h3⟩ | ⟨i,h2,h3⟩
  · refine ⟨-1,bo_ l (λi y=>cond (x==y) (some (inr ((i:Int),()):Unit⊕(Int×Unit))) none) (λi=>((i:Int),())) (r0:=inl ()) (λi y hy => ?_) ?_ ?_,by rw [← ha_,h3]; rfl⟩
    · have hi:=al_ hy
      simp only [dlt hi,a4_,ah_ hy,a0_,ay_ (show Sm i by omega)]
      cases x==y <;> rfl
    · simp only [dnl,a2_]
    · rw [h2]; rfl
  · refine ⟨i,bo_ l (λi y=>cond (x==y) (some (inr ((i:Int),()):Unit⊕(Int×Unit))) none) (λi=>((i:Int),())) (r0:=inl ()) (λi y hy => ?_) ?_ ?_,by rw [← ha_,h3]; exact b9_ (by omega)⟩
    · have hi:=al_ hy
      simp only [dlt hi,a4_,ah_ hy,a0_,ay_ (show Sm i by omega)]
      cases x==y <;> rfl
    · simp only [dnl,a2_]
    · rw [h2]; rfl
theorem xp_ {l:List (List UInt8)} {x:List UInt8} (hl:Sm l.length):cz_ l x=some (l.contains x,()):=by
  obtain ⟨i,h1,h2⟩:=an9 (x:=x) hl
  unfold cz_
  rw [h1,a0_,h2]
theorem ax0 {l:List Int} {x:Int} (hl:Sm l.length):mb_ l x=some (l.contains x,()):=by
  unfold mb_
  refine bo_ l (λi y=>cond (x==y) (some (inr (true,()):Unit⊕(Bool×Unit))) none) (λi=>((i:Int),())) (r0:=inl ()) (λi y hy => ?_) ?_ ?_
  · have hi:=al_ hy
    simp only [dlt hi,a4_,ah_ hy,a0_,ay_ (show Sm i by omega)]
    rw [beqc x y]
    cases x==y <;> rfl
  · simp only [dnl,a2_]
  · rw [hd_ (q:=λy=>x==y),ha_]
    cases l.contains x <;> rfl
def yb_ (c:UInt8):Bool:=decide (97≤(c.toNat:Int))&&decide ((c.toNat:Int)≤122)
def okW (t:List UInt8):Bool:=t.all yb_&&(!(t==[])&&!(reserved.contains t))
def okN (t:List UInt8):Bool:=decide ((t.length:Int)≤12)&&okW t
theorem cj0 (c:UInt8):(cond (decide (((UInt8.toNat c):Int)<97)) (some (true,())) (some ((decide (122<((UInt8.toNat c):Int))),())))=some (!(yb_ c),()):=by
  unfold yb_
  by_cases h1:((UInt8.toNat c):Int)<97
  · rw [b9_ h1,b5_ (by omega:¬ (97:Int)≤(c.toNat:Int))]; rfl
  · rw [b5_ h1,b9_ (by omega:(97:Int)≤(c.toNat:Int))]
    by_cases h2:122<((UInt8.toNat c):Int)
    · rw [b9_ h2,b5_ (by omega:¬ ((UInt8.toNat c):Int)≤122)]; rfl
    · rw [b5_ h2,b9_ (by omega:((UInt8.toNat c):Int)≤122)]; rfl
theorem nw_ {t:List UInt8} (hl:Sm t.length):ag_ (ρ:=(Unit⊕(Bool×Unit))) (λ(v0:(Int×Unit)) =>
 (cond (decide (v0.1<(t.length:Int)))
 ((((at? t v0.1).bind λv1 =>
 (cond (decide (((UInt8.toNat v1):Int)<97))
 (some (true,()))
 ((at? t v0.1).bind λv2 =>
 (some ((decide (122<((UInt8.toNat v2):Int))),())))))).bind λv3 =>
 (cond v3.1
 (some (inr (inr (false,()))))
 (some (inl ((w64 (v0.1+1)),())))))
 (some (inr (inl ()))))) (0,())=some (cond (t.all yb_) (inl ()) (inr (false,()))):=by
  refine e6_ (lx_ t (λi c=>cond (yb_ c) none (some (inr (false,()):Unit⊕(Bool×Unit)))) (λi=>((i:Int),())) (r0:=inl ()) (λi y hy => ?_) ?_) ?_
  · have hi:=al_ hy
    simp only [dlt hi,a4_,ah_ hy,a0_,ay_ (show Sm i by omega),cj0]
    cases yb_ y <;> rfl
  · simp only [dnl,a2_]
  · rw [ja_]
    cases t.all yb_ <;> rfl
theorem bn0 {t:List UInt8} (hl:Sm t.length):ey_ t=some (okW t,()):=by
  unfold ey_
  refine e6_ (congrArg (λo=>Option.bind o _) (nw_ hl)) ?_
  unfold okW
  rw [a0_]
  cases t.all yb_ with
  | false=>rfl
  | true =>
    simp only [a4_,c1_]
    cases t==[] with
    | true=>rfl
    | false =>
      simp only [g3_,a4_,c1_]
      rw [xp_ (by decide),a0_]
      rfl
theorem aa2 {t:List UInt8} (hl:Sm t.length):hh_ t=some (okW t,()):=by
  unfold hh_
  refine e6_ (congrArg (λo=>Option.bind o _) (nw_ hl)) ?_
  unfold okW
  rw [a0_]
  cases t.all yb_ with
  | false=>rfl
  | true =>
    simp only [a4_,c1_]
    refine bo_ reserved (λi y=>cond (t==y) (some (inr (false,()):Unit⊕(Bool×Unit))) none) (λi=>((i:Int),())) (r0:=inl ()) (λi y hy => ?_) ?_ ?_
    · have hi:=al_ hy
      have h10:i<10:=hi
      have hy':=hy
      unfold reserved at hy'
      refine e6_ (congrArg (λc=>cond c _ _) (dlt hi)) ?_
      simp only [a4_,ah_ hy',a0_,ay_ (show Sm i by omega)]
      rw [beqc t y]
      cases t==y <;> rfl
    · rfl
    · rw [hd_ (q:=λy=>t==y),ha_]
      cases reserved.contains t with
      | true=>simp
      | false=>simp
theorem bo8 {t:List UInt8} (hl:Sm t.length):ms_ t=some (okW t,()):=by
  unfold ms_
  have h0:(((cond (t==[]) (some ((t==[]),())) (cond (t==[97,116]) (some ((t==[97,116]),())) (cond (t==[115,116,97,116,101,115]) (some ((t==[115,116,97,116,101,115]),())) (cond (t==[115,116,97,114,116]) (some ((t==[115,116,97,114,116]),()))
     (cond (t==[103,111,110,101]) (some ((t==[103,111,110,101]),())) (cond (t==[105,102]) (some ((t==[105,102]),())) (cond (t==[108,111,99,107]) (some ((t==[108,111,99,107]),())) (cond (t==[119,105,116,104]) (some ((t==[119,105,116,104]),()))
     (cond (t==[115,101,116,115]) (some ((t==[115,101,116,115]),())) (cond (t==[115,112,101,110,100,115]) (some ((t==[115,112,101,110,100,115]),())) (some ((t==[98,114,105,110,103,115]),()))))))))))))):Option (Bool×Unit))=some ((t==[]||reserved.contains t),()):=by
    unfold reserved
    simp only [List.contains_cons,List.contains_nil,g9_]
    cases t==[] with
    | true=>rfl
    | false =>
    cases t==[97,116] with
    | true=>rfl
    | false =>
    cases t==[115,116,97,116,101,115] with
    | true=>rfl
    | false =>
    cases t==[115,116,97,114,116] with
    | true=>rfl
    | false =>
    cases t==[103,111,110,101] with
    | true=>rfl
    | false =>
    cases t==[105,102] with
    | true=>rfl
    | false =>
    cases t==[108,111,99,107] with
    | true=>rfl
    | false =>
    cases t==[119,105,116,104] with
    | true=>rfl
    | false =>
    cases t==[115,101,116,115] with
    | true=>rfl
    | false =>
    cases t==[115,112,101,110,100,115] with
    | true=>rfl
    | false=>rfl
  refine e6_ (congrArg (λo=>Option.bind o _) h0) ?_
  rw [a0_]
  unfold okW
  cases hz:(t==[]||reserved.contains t) with
  | true =>
    have:(!(t==[])&&!(reserved.contains t))=false:=by
      rw [← Bool.not_or,hz]; rfl
    rw [this,g0_]
    rfl
  | false =>
    have:(!(t==[])&&!(reserved.contains t))=true:=by
      rw [← Bool.not_or,hz]; rfl
    rw [this,h0_]
    simp only [a2_]
    refine e6_ (congrArg (λo=>Option.bind o _) (nw_ hl)) ?_
    rw [a0_]
    cases t.all yb_ <;> rfl
theorem jw_ {t:List UInt8} (hl:Sm t.length):dt_ t=some (okN t,()):=by
  unfold dt_ okN
  rw [aa2 hl]
  cases decide ((t.length:Int)≤12) <;> rfl
end
section
def ni_ (things:List gs_) (th n:Int):Bool:=wi th 0 (w64 ((things.length:Int) - 1))&&match at? things th with
  | some t=>wi n 0 (w64 (t.2.2.1 - 1))
  | none=>false
theorem ag5 {α:Type} {l:List α} {i:Int} (hl:Sm l.length) (h:wi i 0 (w64 ((l.length:Int) - 1))=true):∃ x,at? l i=some x:=by
  rw [et_ (by omega) (by omega)] at h
  obtain ⟨h1,h2⟩:=cg_.1 h
  obtain ⟨x,hx⟩:=az_ (l:=l) (i:=i.toNat) (by omega)
  exact ⟨x,by rw [show i=((i.toNat:Nat):Int) by omega]; exact ah_ hx⟩
theorem ow_ {r:af_} (hl:Sm r.2.1.length) (th n:Int):ez_ r th n=some (ni_ r.2.1 th n,()):=by
  unfold ez_ ni_
  rw [dv_,a0_]
  cases h:wi th 0 (w64 ((r.2.1.length:Int) - 1)) with
  | false=>rfl
  | true =>
    obtain ⟨x,hx⟩:=ag5 hl h
    simp only [a4_,hx,a0_,dv_,c1_]
theorem qz_ {r:af_} (hl:Sm r.2.1.length) (th n:Int):gq_ r th n=some (ni_ r.2.1 th n,()):=by
  unfold gq_ ni_
  rw [fj_,a0_]
  cases h:wi th 0 (w64 ((r.2.1.length:Int) - 1)) with
  | false=>rfl
  | true =>
    obtain ⟨x,hx⟩:=ag5 hl h
    simp only [a4_,hx,a0_,fj_,c1_]
def cOk (things:List gs_) (c:List be_):Bool:=decide ((c.length:Int)≤8)&&c.all λl=>ni_ things l.1 l.2.1
theorem td_ {α:Type} (l:List α) (q:α→Bool):(!(l.any λx=>!(q x)))=l.all q:=by
  induction l with
  | nil=>rfl
  | cons x l ih =>
    rw [q4_,List.all_cons,← ih]
    cases q x <;> rfl
theorem jn_ {r:af_} (hl:Sm r.2.1.length) (c:List be_):ds_ r c=some (cOk r.2.1 c,()):=by
  unfold ds_ cOk
  cases h8:decide ((c.length:Int)≤8) with
  | false=>rfl
  | true =>
    have h8:=g6_ h8
    simp only [a4_,c1_]
    refine e6_ (congrArg (λo=>Option.bind o _) (oe_ (show Sm c.length by omega) (λl=>!(ni_ r.2.1 l.1 l.2.1)) (λi y hy => ?_) ?_)) ?_
    · simp only [dlt (al_ hy),a4_,ah_ hy,a0_,ow_ hl]
      cases ni_ r.2.1 y.1 y.2.1 <;> rfl
    · simp only [dnl,a2_]
    · rw [a0_]
      exact congrArg (λb=>some (b,())) (td_ c _)
theorem gu_ {r:af_} (hl:Sm r.2.1.length) {c:List be_} (hc:Sm c.length):cu_ r c=some (cOk r.2.1 c,()):=by
  unfold cu_ cOk
  refine bo_ c (λi l=>cond (ni_ r.2.1 l.1 l.2.1) none (some (inr (false,()):Unit⊕(Bool×Unit)))) (λi=>((i:Int),())) (r0:=inl ()) (λi y hy => ?_) ?_ ?_
  · have hi:=al_ hy
    simp only [dlt hi,a4_,ah_ hy,a0_,ay_ (show Sm i by omega),qz_ hl]
    cases ni_ r.2.1 y.1 y.2.1 <;> rfl
  · simp only [dnl,a2_]
  · rw [ja_ (q:=λl:be_=>ni_ r.2.1 l.1 l.2.1)]
    cases c.all λl=>ni_ r.2.1 l.1 l.2.1 with
    | true=>rw [h0_]; rfl
    | false=>rw [g0_]; rfl
theorem bg6 {r:af_} (hl:Sm r.2.1.length) (c:List be_):ld_ r c=some (cOk r.2.1 c,()):=by
  unfold ld_ cOk
  cases h8:decide ((c.length:Int)≤8) with
  | false=>rfl
  | true =>
    have h8:=g6_ h8
    simp only [a4_,c1_]
    refine e6_ (congrArg (λo=>Option.bind o _) (oe_ (show Sm c.length by omega) (λl=>!(ni_ r.2.1 l.1 l.2.1)) (λi y hy => ?_) ?_)) ?_
    · simp only [dlt (al_ hy),a4_,ah_ hy,a0_,ht_,ni_]
      cases h:wi y.1 0 (w64 ((r.2.1.length:Int) - 1)) with
      | false=>rfl
      | true =>
        obtain ⟨x,hx⟩:=ag5 hl h
        simp only [d8_,a2_,hx,a0_,c1_]
        cases wi y.2.1 0 (w64 (x.2.2.1 - 1)) <;> rfl
    · simp only [dnl,a2_]
    · rw [a0_]
      exact congrArg (λb=>some (b,())) (td_ c _)
end
section
def prv (l:List Int) (i:Nat):Int:=match i with
  | 0=>-1
  | j+1=>(l[j]?).getD 0
def ct3 (np:Nat) (l:List Int) (i:Nat) (x:Int):Bool:=decide (x≤prv l i)||decide ((np:Int)≤x)
def badQ (np:Nat) (l:List Int) (i:Nat) (x:Int):Bool:=!(wi x 0 ((np:Int) - 1))||(decide (0<i)&&decide (x≤prv l i))
def kl_ (np:Nat) (l:List Int):Bool:=(fi_ (λi x=>cond (ct3 np l i x) (some ()) none) 0 l).isNone
theorem vh_ {α ρ:Type} {q:Nat→α→Bool} {r:ρ}:∀ (l:List α) (i:Nat),fi_ (λi x=>cond (q i x) (some r) none) i l=cond (fi_ (λi x=>cond (q i x) (some ()) none) i l).isNone none (some r)
  | [],_=>rfl
  | x::l,i=>by
    unfold fi_
    cases q i x with
    | true=>rfl
    | false=>exact vh_ l (i+1)
theorem zv_ {α:Type} {q:Nat→α→Bool} (l:List α):(fi_ (λi x=>cond (q i x) (some ()) none) 0 l).isNone=true↔∀ i x,l[i]?=some x→q i x=false:=by
  rw [Option.isNone_iff_eq_none,ig_]
  constructor
  · intro h i x hx
    have:=h i x hx
    rw [b0_] at this
    cases hq:q i x with
    | false=>rfl
    | true=>rw [hq] at this; cases this
  · intro h i x hx
    rw [b0_,h i x hx]
    rfl
theorem ct6 (np:Nat) (l:List Int):(fi_ (λi x=>cond (badQ np l i x) (some ()) none) 0 l).isNone=kl_ np l:=by
  rw [k2_]
  unfold kl_
  rw [zv_,zv_]
  constructor
  · intro h i x hx
    have h0:=h i x hx
    unfold badQ at h0
    rw [c2_] at h0
    obtain ⟨h1,h2⟩:=h0
    have h1:wi x 0 ((np:Int) - 1)=true:=by simpa using h1
    obtain ⟨h3,h4⟩:=cg_.1 h1
    unfold ct3
    rw [c2_]
    refine ⟨?_,b5_ (by omega)⟩
    cases i with
    | zero=>exact b5_ (by show ¬ x≤-1; omega)
    | succ j =>
      have:decide (0<j+1)=true:=b9_ (by omega)
      rw [this,c1_] at h2
      exact h2
  · intro h
    have pos:∀ (i:Nat) (x:Int),l[i]?=some x→0≤x∧x<np:=by
      intro i
      induction i with
      | zero =>
        intro x hx
        have h0:=h 0 x hx
        unfold ct3 at h0
        rw [c2_] at h0
        have h1:=d1_ h0.1
        have h2:=d1_ h0.2
        have h1:¬ x≤-1:=h1
        omega
      | succ j ih =>
        intro x hx
        have h0:=h (j+1) x hx
        unfold ct3 at h0
        rw [c2_] at h0
        have h1:=d1_ h0.1
        have h2:=d1_ h0.2
        obtain ⟨y,hy⟩:=az_ (l:=l) (i:=j) (by have:=al_ hx; omega)
        have h3:=ih y hy
        have h1:¬ x≤(l[j]?).getD 0:=h1
        rw [hy] at h1
        have h1:¬ x≤y:=h1
        omega
    intro i x hx
    have h0:=h i x hx
    unfold ct3 at h0
    rw [c2_] at h0
    have hp:=pos i x hx
    unfold badQ
    have:wi x 0 ((np:Int) - 1)=true:=cg_.2 ⟨hp.1,by omega⟩
    rw [this,h0.1,g0_]
    rfl
theorem se_ {r:af_} {l:List Int} (hl:Sm l.length):gw_ r l=some (kl_ r.2.2.1.length l,()):=by
  unfold gw_
  refine bo_ l (λi x=>cond (ct3 r.2.2.1.length l i x) (some (inr (false,()):Unit⊕(Bool×Unit))) none) (λi=>(prv l i,((i:Int),()))) (r0:=inl ()) (λi y hy => ?_) ?_ ?_
  · have hi:=al_ hy
    simp only [dlt hi,a4_,ah_ hy,a0_,ay_ (show Sm i by omega),ct3]
    have hn:prv l (i+1)=y:=by show (l[i]?).getD 0=y; rw [hy]; rfl
    cases decide (y≤prv l i) with
    | true=>rfl
    | false =>
      simp only [a2_,l1_,a0_,hn]
      cases decide ((r.2.2.1.length:Int)≤y) <;> rfl
  · simp only [dnl,a2_]
  · rw [vh_]
    unfold kl_
    cases (fi_ (λi x=>cond (ct3 r.2.2.1.length l i x) (some ()) none) 0 l).isNone <;> rfl
theorem jv_ {r:af_} (hp:Sm r.2.2.1.length) {l:List Int} (hl:Sm l.length):di_ r l=some (kl_ r.2.2.1.length l,()):=by
  unfold di_
  refine bo_ l (λi x=>cond (badQ r.2.2.1.length l i x) (some (inr (false,()):Unit⊕(Bool×Unit))) none) (λi=>((i:Int),())) (r0:=inl ()) (λi y hy => ?_) ?_ ?_
  · have hi:=al_ hy
    rw [show w64 ((r.2.2.1.length:Int) - 1)=(r.2.2.1.length:Int) - 1 from et_ (by omega) (by omega)]
    simp only [dlt hi,a4_,ah_ hy,a0_,ay_ (show Sm i by omega),fj_,badQ]
    cases wi y 0 ((r.2.2.1.length:Int) - 1) with
    | false=>rfl
    | true =>
      simp only [d8_,a2_,l1_]
      cases i with
      | zero=>rfl
      | succ j =>
        obtain ⟨z,hz⟩:=az_ (l:=l) (i:=j) (by omega)
        have e:w64 (((j+1:Nat):Int) - 1)=(j:Int):=by rw [et_ (by omega) (by omega)]; omega
        have hn:prv l (j+1)=z:=by show (l[j]?).getD 0=z; rw [hz]; rfl
        rw [show decide (0<((j+1:Nat):Int))=true from b9_ (by omega),e,ah_ hz,hn,show decide (0<j+1)=true from b9_ (by omega)]
        simp only [a4_,a0_,c1_]
        cases decide (y≤z) <;> rfl
  · simp only [dnl,a2_]
  · rw [vh_,ct6]
    cases kl_ r.2.2.1.length l <;> rfl
end
end Go.Proofs.YtdibamopklkilaaGreatDoor.Rx
namespace Go.Proofs.YtdibamopklkilaaGreatDoor.Rx
open Go Pad Rex Go.Proofs Go.Proofs.Tryz Sum
section
set_option maxRecDepth 100000
set_option maxHeartbeats 0
def an_64:An:=(.p .z (.p (.j0 [.v 46 .bool] .z .z) (.p .z (.p (.p .z (.ls [.v 3 .int] [] [] 0 (.p .z (.p (.j0 [.v 70 .bool] .z .z) .z)))) (.p .z (.p (.p .z (.ls [.r 4 .str 9,.v 5 .int] [] [] 2 (.p .z (.p (.p .z (.p .z (.j0 [.v 118 .bool] .z .z))) .z)))) (.p .z (.p (.p .z (.ls [.r 4 .str 9,.v 7 .int] [] [] 4 (.p .z (.p (.p .z (.p .z (.p (.j0 [.v 156 .bool] .z .z) .z))) .z)))) (.p (.p .z (.ls [.v 9 .int] [] [] 6 (.p .z (.p (.p .z (.p (.j0 [.v 192 .bool] .z .z) .z)) .z)))) (.p (.p .z (.ls [.v 11 .int] [] [] 8 (.p .z (.p (.p .z (.p (.q [] .z .z) .z)) .z)))) (.p (.p .z (.ls [.v 12 .int] [] [] 10 (.p .z (.p (.p (.p (.q [] .z .z) .z) (.p (.q [] .z .z) .z)) .z)))) .z)))))))))))
noncomputable def cs_64:List (Con prog):=[c_68,c_114,c_115,c_116,at7,c_118,cm4]
noncomputable def cl_64:List (Cpy prog):=[]
noncomputable def cx_64:Cx prog:=cxC cs_64 cl_64
noncomputable def fp_ (a0:af_):Option (Int×Unit) :=
 (((cond (decide (8<(a0.1.length:Int)))
 (some (true,()))
 (cond (decide (12<(a0.2.1.length:Int)))
 (some (true,()))
 (cond (decide (10<(a0.2.2.1.length:Int)))
 (some (true,()))
 (cond (decide (16<(a0.2.2.2.1.length:Int)))
 (some (true,()))
 (cond (decide (24<(a0.2.2.2.2.1.length:Int)))
 (some (true,()))
 (some ((decide (12<(a0.2.2.2.2.2.1.length:Int))),())))))))).bind λv0 =>
 (cond v0.1
 (some (2,()))
 (cond ((a0.1.length:Int)==0)
 (some (22,()))
 ((ag_ (ρ:=(Unit⊕(Int×Unit))) (λ(v1:(Int×Unit)) =>
 (cond (decide (v1.1<(a0.1.length:Int)))
 ((((at? a0.1 v1.1).bind λv2 =>
 ((dt_ v2).bind λv3 =>
 (cond (!v3.1)
 (some (true,()))
 ((fn_ a0.1 v1.1).bind λv4 =>
 (some (v4.1,()))))))).bind λv5 =>
 (cond v5.1
 (some (inr (inr (22,()))))
 (some (inl ((w64 (v1.1+1)),())))))
 (some (inr (inl ()))))) (0,())).bind λv6 =>
 (cc_ v6 (λv7=>((ag_ (ρ:=(Unit⊕(Int×Unit))) (λ(v9:((List (List UInt8))×(Int×Unit))) =>
 (cond (decide (v9.2.1<(a0.2.1.length:Int)))
 ((at? a0.2.1 v9.2.1).bind λv10 =>
 ((push? (α:=(List UInt8)) v9.1 [v10.1]).bind λv11 =>
 ((((dt_ v10.1).bind λv12 =>
 (cond (!v12.1)
 (some (true,()))
 ((fn_ v11 v9.2.1).bind λv13 =>
 (cond v13.1
 (some (true,()))
 ((ct_ a0 v10.2.1).bind λv14 =>
 (cond (!v14.1)
 (some (true,()))
 ((br_ v10.2.2.1 2 6).bind λv15 =>
 (cond (!v15.1)
 (some (true,()))
 ((br_ v10.2.2.2 0 (w64 (v10.2.2.1 - 1))).bind λv16 =>
 (some ((!v16.1),())))))))))))).bind λv17 =>
 (cond v17.1
 (some (inr (inr (21,()))))
 (some (inl (v11,((w64 (v9.2.1+1)),()))))))))
 (some (inr (inl ()))))) ([],(0,()))).bind λv18 =>
 (cc_ v18 (λv19=>((ag_ (ρ:=(Unit⊕(Int×Unit))) (λ(v21:((List (List UInt8))×(Int×Unit))) =>
 (cond (decide (v21.2.1<(a0.2.2.1.length:Int)))
 ((at? a0.2.2.1 v21.2.1).bind λv22 =>
 ((push? (α:=(List UInt8)) v21.1 [v22.1]).bind λv23 =>
 ((((dt_ v22.1).bind λv24 =>
 (cond (!v24.1)
 (some (true,()))
 ((fn_ v23 v21.2.1).bind λv25 =>
 (cond v25.1
 (some (true,()))
 (cond (v22.2.1 != (-1))
 ((ct_ a0 v22.2.1).bind λv26 =>
 (some ((!v26.1),())))
 (some (false,())))))))).bind λv27 =>
 (cond v27.1
 (some (inr (inr (24,()))))
 ((cu_ a0 v22.2.2).bind λv28 =>
 (cond (!v28.1)
 (some (inr (inr (25,()))))
 (some (inl (v23,((w64 (v21.2.1+1)),()))))))))))
 (some (inr (inl ()))))) ([],(0,()))).bind λv29 =>
 (cc_ v29 (λv30=>((ag_ (ρ:=(Unit⊕(Int×Unit))) (λ(v32:(Int×Unit)) =>
 (cond (decide (v32.1<(a0.2.2.2.1.length:Int)))
 ((at? a0.2.2.2.1 v32.1).bind λv33 =>
 ((((ct_ a0 v33.1).bind λv34 =>
 (cond (!v34.1)
 (some (true,()))
 ((ct_ a0 v33.2.1).bind λv35 =>
 (cond (!v35.1)
 (some (true,()))
 (some ((v33.1==v33.2.1),()))))))).bind λv36 =>
 (cond v36.1
 (some (inr (inr (23,()))))
 ((cu_ a0 v33.2.2).bind λv37 =>
 (cond (!v37.1)
 (some (inr (inr (25,()))))
 (some (inl ((w64 (v32.1+1)),()))))))))
 (some (inr (inl ()))))) (0,())).bind λv38 =>
 (cc_ v38 (λv39=>((ag_ (ρ:=(Unit⊕(Int×Unit))) (λ(v41:(Int×Unit)) =>
 (cond (decide (v41.1<(a0.2.2.2.2.1.length:Int)))
 ((mq_ a0 v41.1).bind λv42 =>
 (cond (!v42.1)
 (some (inr (inr (26,()))))
 ((at? a0.2.2.2.2.1 v41.1).bind λv43 =>
 ((cu_ a0 v43.2.2.2.2.1).bind λv44 =>
 (cond (!v44.1)
 (some (inr (inr (25,()))))
 (some (inl ((w64 (v41.1+1)),()))))))))
 (some (inr (inl ()))))) (0,())).bind λv45 =>
 (cc_ v45 (λv46=>((ag_ (ρ:=(Unit⊕(Int×Unit))) (λ(v48:(Int×Unit)) =>
 (cond (decide (v48.1<(a0.2.2.2.2.2.1.length:Int)))
 ((at? a0.2.2.2.2.2.1 v48.1).bind λv49 =>
 ((at? a0.2.2.2.2.2.1 v48.1).bind λv50 =>
 ((gq_ a0 v49.2.1 v50.2.2).bind λv51 =>
 (cond (!v51.1)
 (some (inr (inr (27,()))))
 ((at? a0.2.2.2.2.2.1 v48.1).bind λv52 =>
 ((cu_ a0 v52.1).bind λv53 =>
 (cond (!v53.1)
 (some (inr (inr (25,()))))
 (some (inl ((w64 (v48.1+1)),()))))))))))
 (some (inr (inl ()))))) (0,())).bind λv54 =>
 (cc_ v54 (λv55=>((br_ a0.2.2.2.2.2.2.1 1 4).bind λv57 =>
 (cond (!v57.1)
 (some (1,()))
 ((cu_ a0 a0.2.2.2.2.2.2.2).bind λv58 =>
 (cond (!v58.1)
 (some (25,()))
 (some (0,())))))))
 (λv56=>(some v56)))))
 (λv47=>(some v47)))))
 (λv40=>(some v40)))))
 (λv31=>(some v31)))))
 (λv20=>(some v20)))))
 (λv8=>(some v8)))))))
theorem x_64:av_ cx_64 an_64 64 [ap_] [.int]=λx=>fp_ x.1:=by kernel_rfl
noncomputable def c_64:Con prog:=aw_ _ _ 64 [ap_] [.int] _ x_64
def an_67:An:=(.p .z (.p .z (.p (.p .z (.ls [.v 6 .int] [] [] 0 .z)) (.p (.j0 [.v 50 .bool] .z .z) .z))))
noncomputable def cs_67:List (Con prog):=[c_69,c_114,c_122,c_123,c_124]
noncomputable def cl_67:List (Cpy prog):=[]
noncomputable def cx_67:Cx prog:=cxC cs_67 cl_67
noncomputable def jc_ (a0:ad_) (a1:Int):Option (Bool×Unit) :=
 ((at? a0.2.2.2.1 a1).bind λv0 =>
 ((ag_ (ρ:=(Unit⊕(Bool×Unit))) (λ(v1:(Int×Unit)) =>
 (cond (decide (v1.1<a1))
 ((at? a0.2.2.2.1 v1.1).bind λv2 =>
 (cond (v2.1==v0.1)
 (some (inr (inr (false,()))))
 (some (inl ((w64 (v1.1+1)),())))))
 (some (inr (inl ()))))) (0,())).bind λv3 =>
 (cc_ v3 (λv4=>((((dt_ v0.1).bind λv6 =>
 (cond (!v6.1)
 (some (true,()))
 ((il_ v0.2.1 0 (w64 ((a0.1.1.length:Int) - 1))).bind λv7 =>
 (cond (!v7.1)
 (some (true,()))
 ((il_ v0.2.2.1 (-1) (w64 ((a0.2.1.length:Int) - 1))).bind λv8 =>
 (some ((!v8.1),())))))))).bind λv9 =>
 (cond v9.1
 (some (false,()))
 (cond (v0.2.2.1==(-1))
 ((kw_ v0.2.2.2.2).bind λv10 =>
 (some (v10.1,())))
 ((at? a0.2.1 v0.2.2.1).bind λv11 =>
 ((fr_ v11 v0.2.2.2.2).bind λv12 =>
 (cond (v12.1==0)
 ((at? a0.2.2.1 v0.2.2.1).bind λv13 =>
 ((fd_ v0.2.2.2.2 v13).bind λv14 =>
 (some (v14.1,()))))
 (some (false,())))))))))
 (λv5=>(some v5)))))
theorem x_67:av_ cx_67 an_67 67 [ao_,.int] [.bool]=λx=>jc_ x.1 x.2.1:=by kernel_rfl
noncomputable def c_67:Con prog:=aw_ _ _ 67 [ao_,.int] [.bool] _ x_67
def an_241:An:=(.p .z (.p .z (.p (.p .z (.lp [.v 5 .int,.v 6 .int] [.v 5 .int] [] 0 .z)) (.p .z (.p (.p .z (.lp [.r 7 (.list .int) 45,.v 8 .int] [.r 7 (.list .int) 45] [] 2 (.p .z (.j0 [.r 7 (.list .int) 45] (.p .z (.p .z (.p (.p .z (.lp [.v 10 .int,.v 11 .int] [] [.o (.s 9) .int] 4 .z)) .z))) .z)))) .z)))))
noncomputable def cs_241:List (Con prog):=[c_248]
noncomputable def cl_241:List (Cpy prog):=[]
noncomputable def cx_241:Cx prog:=cxC cs_241 cl_241
noncomputable def mr_ (a0:ab_) (a1:(List ak_)):Option ((List (List Int))×Unit) :=
 ((ag_ (ρ:=(Int×Unit)) (λ(v0:(Int×(Int×Unit))) =>
 (cond (decide (v0.2.1<a0.1))
 (some (inl ((w64 (v0.1 * a0.2)),((w64 (v0.2.1+1)),()))))
 (some (inr (v0.1,()))))) (1,(0,()))).bind λv1 =>
 ((ag_ (ρ:=((List (List Int))×Unit)) (λ(v2:((List (List Int))×(Int×Unit))) =>
 (cond (decide (v2.2.1<v1.1))
 ((((mk? (α:=Int) a0.1 0).bind λv3 =>
 ((ag_ (ρ:=((List Int)×Unit)) (λ(v4:(Int×(Int×((List Int)×Unit)))) =>
 (cond (decide (0≤v4.2.1))
 ((md v4.1 a0.2).bind λv5 =>
 ((at? v4.2.2.1 v4.2.1).bind λv6 =>
 ((at? v4.2.2.1 v4.2.1).bind λv7 =>
 ((dv v4.1 a0.2).bind λv8 =>
 (some (inl (v8,((w64 (v4.2.1 - 1)),((v4.2.2.1.set v4.2.1.toNat v5),())))))))))
 (some (inr (v4.2.2.1,()))))) (v2.2.1,((w64 (a0.1 - 1)),(v3,())))).bind λv9 =>
 ((ji_ a1 v9.1).bind λv10 =>
 (cond (decide (v10.1<0))
 ((push? (α:=(List Int)) v2.1 [v9.1]).bind λv11 =>
 (some (v11,())))
 (some (v2.1,()))))))).bind λv12 =>
 (some (inl (v12.1,((w64 (v2.2.1+1)),())))))
 (some (inr (v2.1,()))))) ([],(0,()))).bind λv13 =>
 (some (v13.1,()))))
theorem x_241:av_ cx_241 an_241 241 [am_,(.list aq_)] [(.list (.list .int))]=λx=>mr_ x.1 x.2.1:=by kernel_rfl
noncomputable def c_241:Con prog:=aw_ _ _ 241 [am_,(.list aq_)] [(.list (.list .int))] _ x_241
def an_76:An:=(.p .z (.p (.j0 [.v 49 .bool] .z .z) (.p .z (.p (.p .z (.ls [.v 54 .int] [] [] 0 .z)) (.p .z (.p (.p .z (.ls [.v 74 .int] [] [] 2 (.p .z (.p .z (.p (.p .z (.j0 [.v 108 .bool] .z .z)) .z))))) (.p (.p .z (.ls [.v 113 .int] [] [] 4 (.p .z (.p .z (.p (.p .z (.p (.j0 [.v 137 .bool] .z .z) .z)) .z))))) (.p (.p .z (.ls [.v 147 .int] [] [] 6 (.p .z (.p .z (.p (.p .z (.p (.j0 [.v 169 .bool] .z .z) .z)) .z))))) (.p (.p .z (.ls [.v 179 .int] [] [] 8 .z)) (.p (.p .z (.ls [.v 198 .int] [] [] 10 .z)) .z))))))))))
def at_76:FuncId→An:=λk=>cond (Nat.beq k 127) (.p .z (.j0 [.v 6 .bool] .z .z)) (cond (Nat.beq k 129) (.p .z (.j0 [.v 6 .bool] .z .z)) (cond (Nat.beq k 131) (.p .z (.j0 [.v 6 .bool] .z .z)) (cond (Nat.beq k 172) (.p .z (.j0 [.v 6 .int] .z .z)) (cond (Nat.beq k 173) (.p .z (.j0 [.v 6 .int] .z .z)) (cond (Nat.beq k 174) (.p .z (.j0 [.v 6 .int] .z .z)) (cond (Nat.beq k 210) (.p .z (.p (.p .z (.ls [.v 8 .int] [] [] 0 .z)) .z)) (cond (Nat.beq k 211) (.p .z (.p (.q [] .z .z) .z)) (cond (Nat.beq k 212) (.p .z (.p (.p .z (.ls [.v 8 .int] [] [] 0 .z)) .z)) (cond (Nat.beq k 213) (.p .z (.p (.q [] .z .z) .z)) (cond (Nat.beq k 214) (.p .z (.p (.p .z (.ls [.v 8 .int] [] [] 0 .z)) .z)) (cond (Nat.beq k 215) (.p .z (.p (.q [] .z .z) .z)) (.z))))))))))))
noncomputable def cs_76:List (Con prog):=[by8,c_128,c_130,c_132,c_133,c_134,cm3,c_171]
noncomputable def cl_76:List (Cpy prog):=[]
noncomputable def cx_76:Cx prog:=cxI at_76 (λk=>Nat.beq k 126||Nat.beq k 128||Nat.beq k 130||Nat.beq k 132||Nat.beq k 133||Nat.beq k 134||Nat.beq k 135||Nat.beq k 171||false) (cxC cs_76 cl_76) 12
noncomputable def fb_ (a0:af_):Option (Int×Unit) :=
 (((cond (decide (8<(a0.1.length:Int)))
 (some (true,()))
 (cond (decide (12<(a0.2.1.length:Int)))
 (some (true,()))
 (cond (decide (10<(a0.2.2.1.length:Int)))
 (some (true,()))
 (cond (decide (16<(a0.2.2.2.1.length:Int)))
 (some (true,()))
 (cond (decide (24<(a0.2.2.2.2.1.length:Int)))
 (some (true,()))
 (some ((decide (12<(a0.2.2.2.2.2.1.length:Int))),())))))))).bind λv0 =>
 (cond v0.1
 (some (2,()))
 ((ag_ (ρ:=(Unit⊕(Int×Unit))) (λ(v1:(Int×Unit)) =>
 (cond (decide (v1.1<(a0.1.length:Int)))
 ((at? a0.1 v1.1).bind λv2 =>
 ((sub? a0.1 0 v1.1).bind λv3 =>
 ((((ey_ v2).bind λv4 =>
 (cond v4.1
 (cond (decide ((v2.length:Int)≤12))
 ((((ag_ (ρ:=(Unit⊕(Int×Unit))) (λ(v5:(Int×Unit)) =>
 (cond (decide (v5.1<(v3.length:Int)))
 ((at? v3 v5.1).bind λv6 =>
 (cond (v6==v2)
 (some (inr (inr (v5.1,()))))
 (some (inl ((w64 (v5.1+1)),())))))
 (some (inr (inl ()))))) (0,())).bind λv7 =>
 (cc_ v7 (λv8=>(some ((-1),())))
 (λv9=>(some v9))))).bind λv10 =>
 (some ((decide (v10.1<0)),())))
 (some (false,())))
 (some (false,()))))).bind λv11 =>
 (cond (!v11.1)
 (some (inr (inr (22,()))))
 (some (inl ((w64 (v1.1+1)),())))))))
 (some (inr (inl ()))))) (0,())).bind λv12 =>
 (cc_ v12 (λv13=>(cond ((a0.1.length:Int)==0)
 (some (22,()))
 ((ag_ (ρ:=(Unit⊕(Int×Unit))) (λ(v15:(Int×Unit)) =>
 (cond (decide (v15.1<(a0.2.1.length:Int)))
 ((at? a0.2.1 v15.1).bind λv16 =>
 ((((sub? a0.2.1 0 v15.1).bind λv17 =>
 ((((ey_ v16.1).bind λv18 =>
 (cond v18.1
 (cond (decide ((v16.1.length:Int)≤12))
 ((((ag_ (ρ:=(Unit⊕(Int×Unit))) (λ(v19:(Int×Unit)) =>
 (cond (decide (v19.1<(v17.length:Int)))
 ((at? v17 v19.1).bind λv20 =>
 (cond (v20.1==v16.1)
 (some (inr (inr (v19.1,()))))
 (some (inl ((w64 (v19.1+1)),())))))
 (some (inr (inl ()))))) (0,())).bind λv21 =>
 (cc_ v21 (λv22=>(some ((-1),())))
 (λv23=>(some v23))))).bind λv24 =>
 (some ((decide (v24.1<0)),())))
 (some (false,())))
 (some (false,()))))).bind λv25 =>
 (cond (!v25.1)
 (some (true,()))
 ((bc_ v16.2.1 0 (w64 ((a0.1.length:Int) - 1))).bind λv26 =>
 (cond (!v26.1)
 (some (true,()))
 ((bc_ v16.2.2.1 2 6).bind λv27 =>
 (cond (!v27.1)
 (some (true,()))
 ((bc_ v16.2.2.2 0 (w64 (v16.2.2.1 - 1))).bind λv28 =>
 (some ((!v28.1),()))))))))))).bind λv29 =>
 (cond v29.1
 (some (inr (inr (21,()))))
 (some (inl ((w64 (v15.1+1)),()))))))
 (some (inr (inl ()))))) (0,())).bind λv30 =>
 (cc_ v30 (λv31=>((ag_ (ρ:=(Unit⊕(Int×Unit))) (λ(v33:(Int×Unit)) =>
 (cond (decide (v33.1<(a0.2.2.1.length:Int)))
 ((at? a0.2.2.1 v33.1).bind λv34 =>
 ((((sub? a0.2.2.1 0 v33.1).bind λv35 =>
 ((((ey_ v34.1).bind λv36 =>
 (cond v36.1
 (cond (decide ((v34.1.length:Int)≤12))
 ((((ag_ (ρ:=(Unit⊕(Int×Unit))) (λ(v37:(Int×Unit)) =>
 (cond (decide (v37.1<(v35.length:Int)))
 ((at? v35 v37.1).bind λv38 =>
 (cond (v38.1==v34.1)
 (some (inr (inr (v37.1,()))))
 (some (inl ((w64 (v37.1+1)),())))))
 (some (inr (inl ()))))) (0,())).bind λv39 =>
 (cc_ v39 (λv40=>(some ((-1),())))
 (λv41=>(some v41))))).bind λv42 =>
 (some ((decide (v42.1<0)),())))
 (some (false,())))
 (some (false,()))))).bind λv43 =>
 (cond (!v43.1)
 (some (true,()))
 ((bc_ v34.2.1 0 (w64 ((a0.1.length:Int) - 1))).bind λv44 =>
 (cond (!v44.1)
 (some ((v34.2.1 != (-1)),()))
 (some (false,())))))))).bind λv45 =>
 (cond v45.1
 (some (inr (inr (24,()))))
 ((ds_ a0 v34.2.2).bind λv46 =>
 (cond (!v46.1)
 (some (inr (inr (25,()))))
 (some (inl ((w64 (v33.1+1)),()))))))))
 (some (inr (inl ()))))) (0,())).bind λv47 =>
 (cc_ v47 (λv48=>((ag_ (ρ:=(Unit⊕(Int×Unit))) (λ(v50:(Int×Unit)) =>
 (cond (decide (v50.1<(a0.2.2.2.1.length:Int)))
 ((at? a0.2.2.2.1 v50.1).bind λv51 =>
 ((((bc_ v51.1 0 (w64 ((a0.1.length:Int) - 1))).bind λv52 =>
 (cond (!v52.1)
 (some (true,()))
 ((bc_ v51.2.1 0 (w64 ((a0.1.length:Int) - 1))).bind λv53 =>
 (cond (!v53.1)
 (some (true,()))
 (some ((v51.1==v51.2.1),()))))))).bind λv54 =>
 (cond v54.1
 (some (inr (inr (23,()))))
 ((ds_ a0 v51.2.2).bind λv55 =>
 (cond (!v55.1)
 (some (inr (inr (25,()))))
 (some (inl ((w64 (v50.1+1)),()))))))))
 (some (inr (inl ()))))) (0,())).bind λv56 =>
 (cc_ v56 (λv57=>((ag_ (ρ:=(Unit⊕(Int×Unit))) (λ(v59:(Int×Unit)) =>
 (cond (decide (v59.1<(a0.2.2.2.2.1.length:Int)))
 ((at? a0.2.2.2.2.1 v59.1).bind λv60 =>
 ((pe_ a0 v59.1 v60).bind λv61 =>
 (cond (!v61.1)
 (some (inr (inr (26,()))))
 ((ds_ a0 v60.2.2.2.2.1).bind λv62 =>
 (cond (!v62.1)
 (some (inr (inr (25,()))))
 (some (inl ((w64 (v59.1+1)),()))))))))
 (some (inr (inl ()))))) (0,())).bind λv63 =>
 (cc_ v63 (λv64=>((ag_ (ρ:=(Unit⊕(Int×Unit))) (λ(v66:(Int×Unit)) =>
 (cond (decide (v66.1<(a0.2.2.2.2.2.1.length:Int)))
 ((at? a0.2.2.2.2.2.1 v66.1).bind λv67 =>
 ((ez_ a0 v67.2.1 v67.2.2).bind λv68 =>
 (cond (!v68.1)
 (some (inr (inr (27,()))))
 ((ds_ a0 v67.1).bind λv69 =>
 (cond (!v69.1)
 (some (inr (inr (25,()))))
 (some (inl ((w64 (v66.1+1)),()))))))))
 (some (inr (inl ()))))) (0,())).bind λv70 =>
 (cc_ v70 (λv71=>((bc_ a0.2.2.2.2.2.2.1 1 4).bind λv73 =>
 (cond (!v73.1)
 (some (1,()))
 ((ds_ a0 a0.2.2.2.2.2.2.2).bind λv74 =>
 (cond (!v74.1)
 (some (25,()))
 (some (0,())))))))
 (λv72=>(some v72)))))
 (λv65=>(some v65)))))
 (λv58=>(some v58)))))
 (λv49=>(some v49)))))
 (λv32=>(some v32))))))
 (λv14=>(some v14))))))
theorem x_76:av_ cx_76 an_76 76 [ap_] [.int]=λx=>fb_ x.1:=by kernel_rfl
noncomputable def c_76:Con prog:=aw_ _ _ 76 [ap_] [.int] _ x_76
def an_78:An:=.z
noncomputable def cs_78:List (Con prog):=[c_137]
noncomputable def cl_78:List (Cpy prog):=[]
noncomputable def cx_78:Cx prog:=cxC cs_78 cl_78
noncomputable def eb_ (a0:ab_) (a1:(List Int)):Option (Int×Unit) :=
 ((hj_ a0 [a1]).bind λv0 =>
 (some (v0.1,())))
theorem x_78:av_ cx_78 an_78 78 [am_,(.list .int)] [.int]=λx=>eb_ x.1 x.2.1:=by kernel_rfl
noncomputable def c_78:Con prog:=aw_ _ _ 78 [am_,(.list .int)] [.int] _ x_78
def an_187:An:=.z
noncomputable def cs_187:List (Con prog):=[c_77,c_221]
noncomputable def cl_187:List (Cpy prog):=[]
noncomputable def cx_187:Cx prog:=cxC cs_187 cl_187
noncomputable def fx_ (a0:ab_) (a1:ak_):Option (Int×Unit) :=
 ((ei_ a0).bind λv0 =>
 (cond (v0.1 != 0)
 (some (v0.1,()))
 ((dk_ a0 a1).bind λv1 =>
 (cond (!v1.1)
 (some (11,()))
 (some (0,()))))))
theorem x_187:av_ cx_187 an_187 187 [am_,aq_] [.int]=λx=>fx_ x.1 x.2.1:=by kernel_rfl
noncomputable def c_187:Con prog:=aw_ _ _ 187 [am_,aq_] [.int] _ x_187
def an_205:An:=.z
def at_205:FuncId→An:=λk=>cond (Nat.beq k 229) (.p .z (.j0 [.v 4 .bool] .z .z)) (cond (Nat.beq k 242) (.p .z (.p (.p .z (.ls [.v 8 .int] [] [] 0 .z)) .z)) (.z))
noncomputable def cs_205:List (Con prog):=[c_77,c_221]
noncomputable def cl_205:List (Cpy prog):=[]
noncomputable def cx_205:Cx prog:=cxI at_205 (λk=>Nat.beq k 77||Nat.beq k 221||false) (cxC cs_205 cl_205) 4
noncomputable def es_ (a0:ab_) (a1:(List ak_)):Option (Int×Unit) :=
 ((ei_ a0).bind λv0 =>
 (cond (v0.1 != 0)
 (some (v0.1,()))
 (cond (decide (20<(a1.length:Int)))
 (some (2,()))
 ((((ag_ (ρ:=(Unit⊕(Bool×Unit))) (λ(v1:(Int×Unit)) =>
 (cond (decide (v1.1<(a1.length:Int)))
 ((at? a1 v1.1).bind λv2 =>
 ((dk_ a0 v2).bind λv3 =>
 (cond (!v3.1)
 (some (inr (inr ((decide (0≤v1.1)),()))))
 (some (inl ((w64 (v1.1+1)),()))))))
 (some (inr (inl ()))))) (0,())).bind λv4 =>
 (cc_ v4 (λv5=>(some ((decide (0≤(-1))),())))
 (λv6=>(some v6))))).bind λv7 =>
 (cond v7.1
 (some (11,()))
 (some (0,())))))))
theorem x_205:av_ cx_205 an_205 205 [am_,(.list aq_)] [.int]=λx=>es_ x.1 x.2.1:=by kernel_rfl
noncomputable def c_205:Con prog:=aw_ _ _ 205 [am_,(.list aq_)] [.int] _ x_205
def an_206:An:=(.p .z (.p (.p .z (.rf [4] .z .z)) .z))
def at_206:FuncId→An:=λk=>cond (Nat.beq k 243) (.p .z (.p .z (.rf [2,3] .z .z))) (cond (Nat.beq k 249) (.p .z (.ls [] [] [.y (.c (.y (.s 0) 3) 0),.y (.s 0),.o (.s 3) .int,.b (.y (.c (.y (.s 0) 3) 0) 4) [.val .int]] 0 (.p .z (.p .z (.p (.lp [.v 4 .int] [.v 4 .int] [.o (.s 3) .int] 2 (.p (.j0 [.v 26 .bool] .z .z) .z)) .z))))) (.z))
noncomputable def cs_206:List (Con prog):=[c_245]
noncomputable def cl_206:List (Cpy prog):=[]
noncomputable def cx_206:Cx prog:=cxI at_206 (λk=>Nat.beq k 245||false) (cxC cs_206 cl_206) 9
noncomputable def er_ (a0:ab_) (a1:(List ak_)):Option (Int×Unit) :=
 ((mk? (α:=Int) a0.1 0).bind λv0 =>
 ((ag_ (ρ:=((Unit×(Unit×((List Int)×((Int×Unit)×Unit))))⊕(Int×Unit))) (λ(v1:(Unit×(Unit×((List Int)×((Int×Unit)×Unit))))) =>
 ((fw_ a1 v1.2.2.1).bind λv2 =>
 (cond (decide (v2.1<0))
 ((ag_ (ρ:=(Int×((List Int)×Unit))) (λ(v3:(Int×((List Int)×Unit))) =>
 (((cond (decide (0≤v3.1))
 ((at? v3.2.1 v3.1).bind λv4 =>
 ((at? v3.2.1 v3.1).bind λv5 =>
 (some ((v5==(w64 (a0.2 - 1))),()))))
 (some (false,())))).bind λv6 =>
 (cond v6.1
 ((at? v3.2.1 v3.1).bind λv7 =>
 ((at? v3.2.1 v3.1).bind λv8 =>
 (some (inl ((w64 (v3.1 - 1)),((v3.2.1.set v3.1.toNat 0),()))))))
 (some (inr (v3.1,(v3.2.1,()))))))) ((w64 (a0.1 - 1)),(v1.2.2.1,()))).bind λv9 =>
 (cond (decide (v9.1<0))
 (some (inr (inr ((w64 (v1.2.2.2.1.1+1)),()))))
 ((at? v9.2.1 v9.1).bind λv10 =>
 ((at? v9.2.1 v9.1).bind λv11 =>
 ((at? v9.2.1 v9.1).bind λv12 =>
 ((at? v9.2.1 v9.1).bind λv13 =>
 (some (inl ((),((),((v9.2.1.set v9.1.toNat (w64 (v11+1))),(((w64 (v1.2.2.2.1.1+1)),()),()))))))))))))
 ((ag_ (ρ:=(Int×((List Int)×Unit))) (λ(v14:(Int×((List Int)×Unit))) =>
 (((cond (decide (0≤v14.1))
 ((at? v14.2.1 v14.1).bind λv15 =>
 ((at? v14.2.1 v14.1).bind λv16 =>
 (some ((v16==(w64 (a0.2 - 1))),()))))
 (some (false,())))).bind λv17 =>
 (cond v17.1
 ((at? v14.2.1 v14.1).bind λv18 =>
 ((at? v14.2.1 v14.1).bind λv19 =>
 (some (inl ((w64 (v14.1 - 1)),((v14.2.1.set v14.1.toNat 0),()))))))
 (some (inr (v14.1,(v14.2.1,()))))))) ((w64 (a0.1 - 1)),(v1.2.2.1,()))).bind λv20 =>
 (cond (decide (v20.1<0))
 (some (inr (inr (v1.2.2.2.1.1,()))))
 ((at? v20.2.1 v20.1).bind λv21 =>
 ((at? v20.2.1 v20.1).bind λv22 =>
 ((at? v20.2.1 v20.1).bind λv23 =>
 ((at? v20.2.1 v20.1).bind λv24 =>
 (some (inl ((),((),((v20.2.1.set v20.1.toNat (w64 (v22+1))),((v1.2.2.2.1.1,()),()))))))))))))))) ((),((),(v0,((0,()),()))))).bind λv25 =>
 (cc_ v25 (λv26=>(some (v26.2.2.2.1.1,())))
 (λv27=>(some v27)))))
theorem x_206:av_ cx_206 an_206 206 [am_,(.list aq_)] [.int]=λx=>er_ x.1 x.2.1:=by kernel_rfl
noncomputable def c_206:Con prog:=aw_ _ _ 206 [am_,(.list aq_)] [.int] _ x_206
end
end Go.Proofs.YtdibamopklkilaaGreatDoor.Rx
namespace Go.Proofs.YtdibamopklkilaaGreatDoor.Rx
open Go Pad Rex Sum
section
theorem os_ {α:Type} {l:List α} {i:Nat} (h:i≤l.length):sub? l 0 (i:Int)=some (l.take i):=by
  unfold sub?
  rw [if_pos ⟨n2_ 0,by omega,by omega⟩]
  simp
def twN {α:Type} (nm:α→List UInt8) (l:List α) (i:Nat) (t:List UInt8):Bool:=(l.take i).any λy=>nm y==t
theorem qa_ {l:List (List UInt8)} {i:Nat} {x:List UInt8} (hl:Sm l.length) (hx:l[i]?=some x):fn_ l (i:Int)=some (twN id l i x,()):=by
  have hi:=al_ hx
  have hle:(l.take i).length=i:=by rw [c7_]; omega
  unfold fn_
  refine bo_ (l.take i) (λ_ y=>cond (id y==x) (some (inr (true,()):Unit⊕(Bool×Unit))) none) (λi=>((i:Int),())) (r0:=inl ()) (λk y hy => ?_) ?_ ?_
  · have hk:=al_ hy
    have hy':l[k]?=some y:=by
      rw [j3_] at hy
      split at hy
      · exact hy
      · cases hy
    simp only [dlt (show k<i by omega),a4_,ah_ hy',ah_ hx,a0_,ay_ (show Sm k by omega),id]
    cases y==x <;> rfl
  · rw [hle]
    simp only [dnl,a2_]
  · rw [hd_ (q:=λy=>id y==x)]
    unfold twN
    cases (l.take i).any λy=>id y==x <;> rfl
theorem hs_ {r:af_} (p:Int):ct_ r p=some (wi p 0 (w64 ((r.1.length:Int) - 1)),()):=by
  unfold ct_
  rw [fj_,a0_]
structure SmR (r:af_):Prop where
  pl:Sm r.1.length
  th:Sm r.2.1.length
  pr:Sm r.2.2.1.length
  wy:Sm r.2.2.2.1.length
  ac:Sm r.2.2.2.2.1.length
  au:Sm r.2.2.2.2.2.1.length
  go:Sm r.2.2.2.2.2.2.2.length
  pln:∀ x ∈ r.1,Sm x.length
  thn:∀ x ∈ r.2.1,Sm x.1.length
  prn:∀ x ∈ r.2.2.1,Sm x.1.length∧Sm x.2.2.length
  wyn:∀ x ∈ r.2.2.2.1,Sm x.2.2.length
  acn:∀ x ∈ r.2.2.2.2.1,Sm x.1.length∧Sm x.2.2.2.1.length∧Sm x.2.2.2.2.1.length∧Sm x.2.2.2.2.2.1.length∧Sm x.2.2.2.2.2.2.1.length∧Sm x.2.2.2.2.2.2.2.length
  aun:∀ x ∈ r.2.2.2.2.2.1,Sm x.1.length
theorem ax_ {α:Type} {l:List α} {i:Nat} {x:α} (h:l[i]?=some x):x ∈ l:=b7_ h
def ri_ (r:af_) (p:Int):Bool:=wi p 0 (w64 ((r.1.length:Int) - 1))
def frN {α:Type} (nm:α→List UInt8) (l:List α) (i:Nat) (t:List UInt8):Bool:=okN t&&!(twN nm l i t)
def plOk (r:af_) (i:Nat) (x:List UInt8):Bool:=frN id r.1 i x
def bk4 (r:af_) (i:Nat) (x:gs_):Bool:=frN (·.1) r.2.1 i x.1&&(ri_ r x.2.1&&(wi x.2.2.1 2 6&&wi x.2.2.2 0 (w64 (x.2.2.1 - 1))))
def cg5 (r:af_) (i:Nat) (x:jr_):Bool:=frN (·.1) r.2.2.1 i x.1&&(ri_ r x.2.1||x.2.1==(-1))
def cb8 (r:af_) (x:oj_):Bool:=ri_ r x.1&&(ri_ r x.2.1&&!(x.1==x.2.1))
def rz_ (a:Bool) (e:Int) (b:Bool) (f:Int):Option Int:=cond a (cond b none (some f)) (some e)
def kh_ (a:Bool) (e:Int):Option Int:=cond a none (some e)
def left (o:Option Int):Unit⊕(Int×Unit):=match o with
  | none=>.inl ()
  | some e=>.inr (e,())
theorem ay9 (o:Option Int):(o.map λe=>(inr (e,()):Unit⊕(Int×Unit))).getD (inl ())=left o:=by cases o <;> rfl
theorem bv_ {α:Type} (l:List α) (p:Nat→α→Option Int) {body:(Int×Unit)→Option ((Int×Unit)⊕(Unit⊕(Int×Unit)))} {τ:Type} {K:(Unit⊕(Int×Unit))→Option τ} {x:Option τ}
    (h:∀ (i:Nat) y,l[i]?=some y→body ((i:Int),())=some (match p i y with | none=>.inl (((i+1:Nat):Int),()) | some e=>.inr (.inr (e,())))) (e:body ((l.length:Int),())=some (.inr (.inl ()))) (hk:K (left (fi_ p 0 l))=x) :
    (ag_ body (0,())).bind K=x:=by
  refine bo_ l (λi y=>(p i y).map λe=>(inr (e,()):Unit⊕(Int×Unit))) (λi=>((i:Int),())) (r0:=inl ()) (λi y hy => ?_) e ?_
  · rw [h i y hy]
    cases p i y <;> rfl
  · rw [zu_,ay9]
    exact hk
theorem zh_ {α β:Type} (l:List α) (p:Nat→α→Option Int) (F:Nat→β) {body:(β×(Int×Unit))→Option ((β×(Int×Unit))⊕(Unit⊕(Int×Unit)))} {τ:Type} {K:(Unit⊕(Int×Unit))→Option τ} {x:Option τ} {b0:β} (h0:F 0=b0)
    (h:∀ (i:Nat) y,l[i]?=some y→body (F i,((i:Int),()))=some (match p i y with | none=>.inl (F (i+1),(((i+1:Nat):Int),())) | some e=>.inr (.inr (e,())))) (e:body (F l.length,((l.length:Int),()))=some (.inr (.inl ()))) (hk:K (left (fi_ p 0 l))=x) :
    (ag_ body (b0,(0,()))).bind K=x:=by
  subst h0
  refine bo_ l (λi y=>(p i y).map λe=>(inr (e,()):Unit⊕(Int×Unit))) (λi=>(F i,((i:Int),()))) (r0:=inl ()) (λi y hy => ?_) e ?_
  · rw [h i y hy]
    cases p i y <;> rfl
  · rw [zu_,ay9]
    exact hk
theorem en_ {o:Option Int} {K:Unit→Option (Int×Unit)} {k:Int} (h:K ()=some (k,())):cc_ (left o) K (λy=>some y)=some (o.getD k,()):=by
  cases o with
  | none=>exact h
  | some e=>rfl
end
section
def qu_ (r:af_) (l:List ab_) (i:Nat) (x:ab_):Bool:=ni_ r.2.1 x.1 x.2&&!((l.take i).any λy=>y.1==x.1)
def ue_ (r:af_) (i:Nat) (a:cw_):Bool :=
  frN (·.1) r.2.2.2.2.1 i a.1&&(ri_ r a.2.1&&(wi a.2.2.1 (-1) 7&&(kl_ r.2.2.1.length a.2.2.2.1&&(kl_ r.2.2.1.length a.2.2.2.2.2.2.1&&(kl_ r.2.2.1.length a.2.2.2.2.2.2.2&&(!(decide (6<(a.2.2.2.2.2.1.length:Int)))
    && ((a.2.2.2.2.2.2.1.all λp=>a.2.2.2.1.contains p)&&(!(a.2.2.2.2.2.2.2.any λp=>a.2.2.2.1.contains p)
      && (fi_ (λi x=>cond (qu_ r a.2.2.2.2.2.1 i x) none (some ())) 0 a.2.2.2.2.2.1).isNone))))))))
theorem sc_ {α ρ:Type} {q:Nat→α→Bool} {r:ρ}:∀ (l:List α) (i:Nat),fi_ (λi x=>cond (q i x) none (some r)) i l=cond (fi_ (λi x=>cond (q i x) none (some ())) i l).isNone none (some r)
  | [],_=>rfl
  | x::l,i=>by
    unfold fi_
    cases q i x with
    | false=>rfl
    | true=>exact sc_ l (i+1)
theorem um_ {α:Type} {l:List α} (hl:Sm l.length) (nm:α→List UInt8) {t:List UInt8} (ht:Sm t.length) :
    ((ey_ t).bind λv1=>cond v1.1 (cond (decide ((t.length:Int)≤12)) ((((ag_ (ρ:=Unit⊕(Int×Unit)) (λ(v:Int×Unit)=>cond (decide (v.1<(l.length:Int))) ((at? l v.1).bind λy=>cond (nm y==t) (some (inr (inr (v.1,())))) (some (inl (w64 (v.1+1),())))) (some (inr (inl ())))) (0,())).bind λv=>cc_ v (λ_=>some ((-1:Int),())) (λw=>some w))).bind λv=>some (decide (v.1<0),())) (some (false,()))) (some (false,())))
      = some (okN t&&!(l.any λy=>nm y==t),()):=by
  rw [bn0 ht,a0_]
  obtain ⟨n,h1,h2,_⟩:=if_lt hl (λy=>nm y==t) (body:=λ(v:Int×Unit)=>cond (decide (v.1<(l.length:Int))) ((at? l v.1).bind λy=>cond (nm y==t) (some (inr (inr (v.1,())))) (some (inl (w64 (v.1+1),())))) (some (inr (inl ())))) (λi y hy=>by
    simp only [dlt (al_ hy),a4_,ah_ hy,a0_]
    cases nm y==t <;> rfl) (by simp only [dnl,a2_])
  rw [h1,a0_,h2]
  unfold okN
  cases okW t with
  | false=>rw [g0_,e4_]; rfl
  | true=>cases decide ((t.length:Int)≤12) <;> rfl
theorem vd_ {α:Type} {l:List α} (h:Sm l.length) (i:Nat):Sm (l.take i).length:=by
  rw [c7_]
  exact c5_ (n0_ _ _) h
theorem cf6 {r:af_} (h:SmR r) {i:Nat} {a:cw_} (ha:r.2.2.2.2.1[i]?=some a):pe_ r (i:Int) a=some (ue_ r i a,()):=by
  have hi:=al_ ha
  obtain ⟨s1,s2,s3,s4,s5,s6⟩:=h.acn a (ax_ ha)
  unfold pe_
  refine e6_ (congrArg (λo=>Option.bind o _) (?_:_=some (!(frN (·.1) r.2.2.2.2.1 i a.1&&(ri_ r a.2.1&&wi a.2.2.1 (-1) 7)),()))) ?_
  · rw [os_ (g2_ hi),a0_]
    refine e6_ (congrArg (λo=>Option.bind o _) (um_ (vd_ h.ac i) (·.1) s1)) ?_
    unfold frN twN ri_
    rw [a0_]
    cases okN a.1&&!((r.2.2.2.2.1.take i).any λy=>y.1==a.1) with
    | false=>rfl
    | true =>
      simp only [dv_,a0_]
      cases wi a.2.1 0 (w64 ((r.1.length:Int) - 1)) with
      | false=>rfl
      | true=>rfl
  · rw [a0_]
    unfold ue_
    cases frN (·.1) r.2.2.2.2.1 i a.1 with
    | false=>rfl
    | true =>
    cases ri_ r a.2.1 with
    | false=>rfl
    | true =>
    cases wi a.2.2.1 (-1) 7 with
    | false=>rfl
    | true =>
      simp only [d8_,a2_,c1_,se_ s2,se_ s5,se_ s6,a0_]
      cases kl_ r.2.2.1.length a.2.2.2.1 with
      | false=>rfl
      | true =>
      cases kl_ r.2.2.1.length a.2.2.2.2.2.2.1 with
      | false=>rfl
      | true =>
      cases kl_ r.2.2.1.length a.2.2.2.2.2.2.2 with
      | false=>rfl
      | true =>
      cases h6:decide (6<(a.2.2.2.2.2.1.length:Int)) with
      | true=>rfl
      | false =>
      simp only [d8_,g3_,a2_,c1_,a0_]
      refine e6_ (congrArg (λo=>Option.bind o _) (?_:_=some (!((a.2.2.2.2.2.2.1.all λp=>a.2.2.2.1.contains p)&&!(a.2.2.2.2.2.2.2.any λp=>a.2.2.2.1.contains p)),()))) ?_
      · refine e6_ (congrArg (λo=>Option.bind o _) (oe_ s5 (λp=>!(a.2.2.2.1.contains p)) (λi y hy => ?_) ?_)) ?_
        · simp only [dlt (al_ hy),a4_,ah_ hy,a0_,li_ s2]
          cases a.2.2.2.1.contains y <;> rfl
        · simp only [dnl,a2_]
        rw [a0_,← td_ a.2.2.2.2.2.2.1]
        cases a.2.2.2.2.2.2.1.any λp=>!(a.2.2.2.1.contains p) with
        | true=>rfl
        | false =>
        refine e6_ (congrArg (λo=>Option.bind o _) (oe_ s6 (λp=>a.2.2.2.1.contains p) (λi y hy => ?_) ?_)) ?_
        · simp only [dlt (al_ hy),a4_,ah_ hy,a0_,li_ s2]
          cases a.2.2.2.1.contains y <;> rfl
        · simp only [dnl,a2_]
        cases a.2.2.2.2.2.2.2.any λp=>a.2.2.2.1.contains p <;> rfl
      · rw [a0_]
        cases a.2.2.2.2.2.2.1.all λp=>a.2.2.2.1.contains p with
        | false=>rfl
        | true =>
        cases a.2.2.2.2.2.2.2.any λp=>a.2.2.2.1.contains p with
        | true=>rfl
        | false =>
          simp only [d8_,g3_,a2_,c1_]
          refine bo_ a.2.2.2.2.2.1 (λi x=>cond (qu_ r a.2.2.2.2.2.1 i x) none (some (inr (false,()):Unit⊕(Bool×Unit)))) (λi=>((i:Int),())) (r0:=inl ()) (λk y hy => ?_) ?_ ?_
          · have hk:=al_ hy
            simp only [dlt hk,a4_,ah_ hy,a0_,ay_ (show Sm k by omega),os_ (g2_ hk)]
            refine e6_ (congrArg (λo=>Option.bind o _) (oe_ (vd_ s4 k) (λz=>z.1==y.1) (λn z hz => ?_) ?_)) ?_
            · simp only [dlt (al_ hz),a4_,ah_ hz,a0_]
              cases z.1==y.1 <;> rfl
            · simp only [dnl,a2_]
            · rw [a0_,ow_ h.th]
              unfold qu_
              cases ni_ r.2.1 y.1 y.2 with
              | false=>rfl
              | true =>
                cases (a.2.2.2.2.2.1.take k).any λz=>z.1==y.1 <;> rfl
          · simp only [dnl,a2_]
          · rw [sc_]
            cases (fi_ (λi x=>cond (qu_ r a.2.2.2.2.2.1 i x) none (some ())) 0 a.2.2.2.2.2.1).isNone <;> rfl
end
section
def ac1 (r:af_):Bool:=decide (8<(r.1.length:Int))||(decide (12<(r.2.1.length:Int))||(decide (10<(r.2.2.1.length:Int))||(decide (16<(r.2.2.2.1.length:Int))||(decide (24<(r.2.2.2.2.1.length:Int))||decide (12<(r.2.2.2.2.2.1.length:Int))))))
theorem bs2 (r:af_):(cond (decide (8<(r.1.length:Int)))
 (some (true,()))
 (cond (decide (12<(r.2.1.length:Int)))
 (some (true,()))
 (cond (decide (10<(r.2.2.1.length:Int)))
 (some (true,()))
 (cond (decide (16<(r.2.2.2.1.length:Int)))
 (some (true,()))
 (cond (decide (24<(r.2.2.2.2.1.length:Int)))
 (some (true,()))
 (some ((decide (12<(r.2.2.2.2.2.1.length:Int))),())))))))=some (ac1 r,()):=by
  unfold ac1
  cases decide (8<(r.1.length:Int)) with
  | true=>rfl
  | false =>
  cases decide (12<(r.2.1.length:Int)) with
  | true=>rfl
  | false =>
  cases decide (10<(r.2.2.1.length:Int)) with
  | true=>rfl
  | false =>
  cases decide (16<(r.2.2.2.1.length:Int)) with
  | true=>rfl
  | false =>
  cases decide (24<(r.2.2.2.2.1.length:Int)) with
  | true=>rfl
  | false=>rfl
def db_ (r:af_):Int :=
  cond (ac1 r) 2 ((fi_ (λi x=>kh_ (plOk r i x) 22) 0 r.1).getD
    (cond ((r.1.length:Int)==0) 22 ((fi_ (λi x=>kh_ (bk4 r i x) 21) 0 r.2.1).getD
      ((fi_ (λi x=>rz_ (cg5 r i x) 24 (cOk r.2.1 x.2.2) 25) 0 r.2.2.1).getD
        ((fi_ (λ_ x=>rz_ (cb8 r x) 23 (cOk r.2.1 x.2.2) 25) 0 r.2.2.2.1).getD
          ((fi_ (λi x=>rz_ (ue_ r i x) 26 (cOk r.2.1 x.2.2.2.2.1) 25) 0 r.2.2.2.2.1).getD
            ((fi_ (λ_ x=>rz_ (ni_ r.2.1 x.2.1 x.2.2) 27 (cOk r.2.1 x.1) 25) 0 r.2.2.2.2.2.1).getD
              (cond (wi r.2.2.2.2.2.2.1 1 4) (cond (cOk r.2.1 r.2.2.2.2.2.2.2) 0 25) 1))))))))
theorem sf_ {r:af_} (h:SmR r):fb_ r=some (db_ r,()):=by
  unfold fb_
  refine e6_ (congrArg (λo=>Option.bind o _) (bs2 r)) ?_
  rw [a0_]
  unfold db_
  cases ac1 r with
  | true=>rfl
  | false =>
  simp only [a2_]
  refine bv_ r.1 (λi x=>kh_ (plOk r i x) 22) (λi y hy => ?_) ?_ (en_ ?_)
  · have hi:=al_ hy
    simp only [dlt hi,a4_,ah_ hy,a0_,ay_ (show Sm i from c5_ (g2_ hi) h.pl),os_ (g2_ hi)]
    refine e6_ (congrArg (λo=>Option.bind o _) (um_ (vd_ h.pl i) id (h.pln y (ax_ hy)))) ?_
    unfold kh_ plOk frN twN
    rw [a0_]
    cases okN y&&!((r.1.take i).any λz=>id z==y) <;> rfl
  · simp only [dnl,a2_]
  cases (r.1.length:Int)==0 with
  | true=>rfl
  | false =>
  simp only [a2_]
  refine bv_ r.2.1 (λi x=>kh_ (bk4 r i x) 21) (λi y hy => ?_) ?_ (en_ ?_)
  · have hi:=al_ hy
    simp only [dlt hi,a4_,ah_ hy,a0_,ay_ (show Sm i from c5_ (g2_ hi) h.th),os_ (g2_ hi)]
    refine e6_ (congrArg (λo=>Option.bind o _) (e6_ (congrArg (λo=>Option.bind o _) (um_ (vd_ h.th i) (·.1) (h.thn y (ax_ hy)))) (?_:_=some (!(bk4 r i y),())))) ?_
    · simp only [dv_,a0_]
      unfold bk4 frN twN ri_
      cases okN y.1&&!((r.2.1.take i).any λz=>z.1==y.1) with
      | false=>rfl
      | true =>
        cases wi y.2.1 0 (w64 ((r.1.length:Int) - 1)) with
        | false=>rfl
        | true =>
          cases wi y.2.2.1 2 6 with
          | false=>rfl
          | true=>rfl
    · rw [a0_]
      unfold kh_
      cases bk4 r i y <;> rfl
  · simp only [dnl,a2_]
  refine bv_ r.2.2.1 (λi x=>rz_ (cg5 r i x) 24 (cOk r.2.1 x.2.2) 25) (λi y hy => ?_) ?_ (en_ ?_)
  · have hi:=al_ hy
    simp only [dlt hi,a4_,ah_ hy,a0_,ay_ (show Sm i from c5_ (g2_ hi) h.pr),os_ (g2_ hi)]
    refine e6_ (congrArg (λo=>Option.bind o _) (e6_ (congrArg (λo=>Option.bind o _) (um_ (vd_ h.pr i) (·.1) (h.prn y (ax_ hy)).1)) (?_:_=some (!(cg5 r i y),())))) ?_
    · simp only [dv_,a0_]
      unfold cg5 frN twN ri_
      cases okN y.1&&!((r.2.2.1.take i).any λz=>z.1==y.1) with
      | false=>rfl
      | true =>
        cases wi y.2.1 0 (w64 ((r.1.length:Int) - 1)) with
        | false=>rfl
        | true=>rfl
    · rw [a0_,jn_ h.th,a0_]
      unfold rz_
      cases cg5 r i y with
      | false=>rfl
      | true=>cases cOk r.2.1 y.2.2 <;> rfl
  · simp only [dnl,a2_]
  refine bv_ r.2.2.2.1 (λi x=>rz_ (cb8 r x) 23 (cOk r.2.1 x.2.2) 25) (λi y hy => ?_) ?_ (en_ ?_)
  · have hi:=al_ hy
    simp only [dlt hi,a4_,ah_ hy,a0_,ay_ (show Sm i from c5_ (g2_ hi) h.wy)]
    refine e6_ (congrArg (λo=>Option.bind o _) (?_:_=some (!(cb8 r y),()))) ?_
    · simp only [dv_,a0_]
      unfold cb8 ri_
      cases wi y.1 0 (w64 ((r.1.length:Int) - 1)) with
      | false=>rfl
      | true =>
        cases wi y.2.1 0 (w64 ((r.1.length:Int) - 1)) with
        | false=>rfl
        | true=>simp
    · rw [a0_,jn_ h.th,a0_]
      unfold rz_
      cases cb8 r y with
      | false=>rfl
      | true=>cases cOk r.2.1 y.2.2 <;> rfl
  · simp only [dnl,a2_]
  refine bv_ r.2.2.2.2.1 (λi x=>rz_ (ue_ r i x) 26 (cOk r.2.1 x.2.2.2.2.1) 25) (λi y hy => ?_) ?_ (en_ ?_)
  · have hi:=al_ hy
    simp only [dlt hi,a4_,ah_ hy,a0_,ay_ (show Sm i from c5_ (g2_ hi) h.ac),cf6 h hy,jn_ h.th]
    unfold rz_
    cases ue_ r i y with
    | false=>rfl
    | true=>cases cOk r.2.1 y.2.2.2.2.1 <;> rfl
  · simp only [dnl,a2_]
  refine bv_ r.2.2.2.2.2.1 (λi x=>rz_ (ni_ r.2.1 x.2.1 x.2.2) 27 (cOk r.2.1 x.1) 25) (λi y hy => ?_) ?_ (en_ ?_)
  · have hi:=al_ hy
    simp only [dlt hi,a4_,ah_ hy,a0_,ay_ (show Sm i from c5_ (g2_ hi) h.au),ow_ h.th,jn_ h.th]
    unfold rz_
    cases ni_ r.2.1 y.2.1 y.2.2 with
    | false=>rfl
    | true=>cases cOk r.2.1 y.1 <;> rfl
  · simp only [dnl,a2_]
  rw [dv_,a0_,jn_ h.th,a0_]
  cases wi r.2.2.2.2.2.2.1 1 4 with
  | false=>rfl
  | true=>cases cOk r.2.1 r.2.2.2.2.2.2.2 <;> rfl
end
section
theorem tu_ {α ρ σ τ:Type} (l:List α) (k:Nat) (hk:k≤l.length) (p:Nat→α→Option ρ) (F:Nat→σ) {r0:ρ} {body:σ→Option (σ⊕ρ)} {K:ρ→Option τ} {x:Option τ}
    (h:∀ i x,i<k→l[i]?=some x→body (F i)=some (match p i x with | none=>.inl (F (i+1)) | some r=>.inr r)) (e:body (F k)=some (.inr r0)) (hx:K ((fi_ p 0 (l.take k)).getD r0)=x) :
    (ag_ body (F 0)).bind K=x:=by
  have hle:(l.take k).length=k:=by rw [c7_]; omega
  refine bo_ (l.take k) p F (λi x hx => ?_) (by rw [hle]; exact e) hx
  rw [j3_] at hx
  split at hx
  · exact h i x ‹_› hx
  · cases hx
theorem bn6 {r:af_} (h:SmR r) {i:Nat} {a:cw_} (ha:r.2.2.2.2.1[i]?=some a):mq_ r (i:Int)=some (ue_ r i a,()):=by
  have hi:=al_ ha
  have hac:=h.ac
  obtain ⟨s1,s2,s3,s4,s5,s6⟩:=h.acn a (ax_ ha)
  unfold mq_
  rw [ah_ ha,a0_]
  refine tu_ r.2.2.2.2.1 i (g2_ hi) (λ_ y=>cond (y.1==a.1) (some (inr (false,()):Unit⊕(Bool×Unit))) none) (λi=>((i:Int),())) (r0:=inl ()) (λk y hk hy => ?_) ?_ ?_
  · simp only [dlt hk,a4_,ah_ hy,a0_,ay_ (show Sm k by omega)]
    cases y.1==a.1 <;> rfl
  · simp only [dnl,a2_]
  rw [hd_ (q:=λy:cw_=>y.1==a.1)]
  unfold ue_ frN twN
  cases (r.2.2.2.2.1.take i).any λy=>y.1==a.1 with
  | true=>rw [d8_,g0_,e4_]; rfl
  | false =>
  simp only [a2_,j5_,zn_,g3_,h0_]
  refine e6_ (congrArg (λo=>Option.bind o _) (?_:_=some (!(okN a.1&&(ri_ r a.2.1&&(wi a.2.2.1 (-1) 7&&(kl_ r.2.2.1.length a.2.2.2.1&&(kl_ r.2.2.1.length a.2.2.2.2.2.2.1&&(kl_ r.2.2.1.length a.2.2.2.2.2.2.2&&!(decide (6<(a.2.2.2.2.2.1.length:Int))))))))),()))) ?_
  · simp only [jw_ s1,hs_,fj_,jv_ h.pr s2,jv_ h.pr s5,jv_ h.pr s6,a0_]
    unfold ri_
    cases okN a.1 with
    | false=>rfl
    | true =>
    cases wi a.2.1 0 (w64 ((r.1.length:Int) - 1)) with
    | false=>rfl
    | true =>
    cases wi a.2.2.1 (-1) 7 with
    | false=>rfl
    | true =>
    cases kl_ r.2.2.1.length a.2.2.2.1 with
    | false=>rfl
    | true =>
    cases kl_ r.2.2.1.length a.2.2.2.2.2.2.1 with
    | false=>rfl
    | true =>
    cases kl_ r.2.2.1.length a.2.2.2.2.2.2.2 with
    | false=>rfl
    | true=>simp
  rw [a0_]
  cases okN a.1 with
  | false=>rfl
  | true =>
  cases ri_ r a.2.1 with
  | false=>rfl
  | true =>
  cases wi a.2.2.1 (-1) 7 with
  | false=>rfl
  | true =>
  cases kl_ r.2.2.1.length a.2.2.2.1 with
  | false=>rfl
  | true =>
  cases kl_ r.2.2.1.length a.2.2.2.2.2.2.1 with
  | false=>rfl
  | true =>
  cases kl_ r.2.2.1.length a.2.2.2.2.2.2.2 with
  | false=>rfl
  | true =>
  cases decide (6<(a.2.2.2.2.2.1.length:Int)) with
  | true=>rfl
  | false =>
  simp only [c1_,d8_,g3_,a2_]
  refine bo_ a.2.2.2.2.2.2.1 (λ_ y=>cond (a.2.2.2.1.contains y) none (some (inr (false,()):Unit⊕(Bool×Unit)))) (λi=>((i:Int),())) (r0:=inl ()) (λk y hy => ?_) ?_ ?_
  · have hk:=al_ hy
    simp only [dlt hk,a4_,ah_ hy,a0_,ay_ (show Sm k by omega),ax0 s2]
    cases a.2.2.2.1.contains y <;> rfl
  · simp only [dnl,a2_]
  rw [ja_ (q:=λy=>a.2.2.2.1.contains y)]
  cases a.2.2.2.2.2.2.1.all λy=>a.2.2.2.1.contains y with
  | false=>rfl
  | true =>
  simp only [a4_,j5_,zn_,c1_]
  refine bo_ a.2.2.2.2.2.2.2 (λ_ y=>cond (a.2.2.2.1.contains y) (some (inr (false,()):Unit⊕(Bool×Unit))) none) (λi=>((i:Int),())) (r0:=inl ()) (λk y hy => ?_) ?_ ?_
  · have hk:=al_ hy
    simp only [dlt hk,a4_,ah_ hy,a0_,ay_ (show Sm k by omega),ax0 s2]
    cases a.2.2.2.1.contains y <;> rfl
  · simp only [dnl,a2_]
  rw [hd_ (q:=λy=>a.2.2.2.1.contains y)]
  cases a.2.2.2.2.2.2.2.any λy=>a.2.2.2.1.contains y with
  | true=>rfl
  | false =>
  simp only [a2_,j5_,zn_,g3_,c1_]
  refine bo_ a.2.2.2.2.2.1 (λi x=>cond (qu_ r a.2.2.2.2.2.1 i x) none (some (inr (false,()):Unit⊕(Bool×Unit)))) (λi=>((i:Int),())) (r0:=inl ()) (λk y hy => ?_) ?_ ?_
  · have hk:=al_ hy
    simp only [dlt hk,a4_,ah_ hy,a0_,ay_ (show Sm k by omega),qz_ h.th]
    unfold qu_
    cases ni_ r.2.1 y.1 y.2 with
    | false=>rfl
    | true =>
    simp only [d8_,a2_,c1_]
    refine tu_ a.2.2.2.2.2.1 k (g2_ hk) (λ_ z=>cond (z.1==y.1) (some (inr (inr (inr (false,()))):Unit⊕((Int×Unit)⊕(Unit⊕(Bool×Unit))))) none) (λi=>((i:Int),())) (r0:=inl ()) (λn z hn hz => ?_) ?_ ?_
    · simp only [dlt hn,a4_,ah_ hz,a0_,ay_ (show Sm n by omega)]
      cases z.1==y.1 <;> rfl
    · simp only [dnl,a2_]
    rw [hd_ (q:=λz:ab_=>z.1==y.1)]
    cases (a.2.2.2.2.2.1.take k).any λz=>z.1==y.1 <;> rfl
  · simp only [dnl,a2_]
  rw [sc_]
  cases (fi_ (λi x=>cond (qu_ r a.2.2.2.2.2.1 i x) none (some ())) 0 a.2.2.2.2.2.1).isNone <;> rfl
theorem aj7 {α:Type} {nm:α→List UInt8} {l:List α} (hl:Sm l.length) {i:Nat} {x:α} (hx:l[i]?=some x):push? (α:=List UInt8) ((l.take i).map nm) [nm x]=some ((l.take (i+1)).map nm):=by
  have hi:=al_ hx
  unfold push?
  rw [if_pos (by
    simp only [d4_,c7_,c6_]
    omega)]
  rw [d2_,hx,h6_]
  rfl
theorem bk1 {α:Type} {nm:α→List UInt8} {l:List α} {i:Nat} {t:List UInt8}:twN id ((l.take (i+1)).map nm) i t=twN nm l i t:=by
  unfold twN
  rw [← List.map_take,List.take_take,p3_ (Nat.le_succ i),List.any_map]
  rfl
theorem cq9 {α:Type} {nm:α→List UInt8} {l:List α} {i:Nat} {x:α} (hx:l[i]?=some x):((l.take (i+1)).map nm)[i]?=some (nm x):=by
  rw [d7_,j3_,if_pos (Nat.lt_succ_self i),hx]
  rfl
theorem qb_ {r:af_} (h:SmR r):fp_ r=some (db_ r,()):=by
  unfold fp_
  refine e6_ (congrArg (λo=>Option.bind o _) (bs2 r)) ?_
  rw [a0_]
  unfold db_
  cases ac1 r with
  | true=>rfl
  | false =>
  simp only [a2_]
  cases he:(r.1.length:Int)==0 with
  | true =>
    have:r.1=[]:=by
      have:=f3_.1 he
      exact h8_ (by omega)
    rw [this]
    rfl
  | false =>
  simp only [a2_]
  refine bv_ r.1 (λi x=>kh_ (plOk r i x) 22) (λi y hy => ?_) ?_ (en_ ?_)
  · have hi:=al_ hy
    simp only [dlt hi,a4_,ah_ hy,a0_,ay_ (show Sm i from c5_ (g2_ hi) h.pl),jw_ (h.pln y (ax_ hy)),qa_ h.pl hy]
    unfold kh_ plOk frN
    cases okN y with
    | false=>rfl
    | true=>cases twN id r.1 i y <;> rfl
  · simp only [dnl,a2_]
  refine zh_ r.2.1 (λi x=>kh_ (bk4 r i x) 21) (λi=>(r.2.1.take i).map (·.1)) rfl (λi y hy => ?_) ?_ (en_ ?_)
  · have hi:=al_ hy
    have hs:Sm ((r.2.1.take (i+1)).map (·.1)).length:=by
      rw [d4_,c7_]
      exact c5_ (n0_ _ _) h.th
    simp only [dlt hi,a4_,ah_ hy,a0_,ay_ (show Sm i from c5_ (g2_ hi) h.th),aj7 h.th hy,jw_ (h.thn y (ax_ hy)),qa_ hs (cq9 hy),bk1,hs_,fj_]
    unfold kh_ bk4 frN ri_
    cases okN y.1 with
    | false=>rfl
    | true =>
    cases twN (·.1) r.2.1 i y.1 with
    | true=>rfl
    | false =>
    cases wi y.2.1 0 (w64 ((r.1.length:Int) - 1)) with
    | false=>rfl
    | true =>
    cases wi y.2.2.1 2 6 with
    | false=>rfl
    | true=>cases wi y.2.2.2 0 (w64 (y.2.2.1 - 1)) <;> rfl
  · simp only [dnl,a2_]
  refine zh_ r.2.2.1 (λi x=>rz_ (cg5 r i x) 24 (cOk r.2.1 x.2.2) 25) (λi=>(r.2.2.1.take i).map (·.1)) rfl (λi y hy => ?_) ?_ (en_ ?_)
  · have hi:=al_ hy
    obtain ⟨s1,s2⟩:=h.prn y (ax_ hy)
    have hs:Sm ((r.2.2.1.take (i+1)).map (·.1)).length:=by
      rw [d4_,c7_]
      exact c5_ (n0_ _ _) h.pr
    simp only [dlt hi,a4_,ah_ hy,a0_,ay_ (show Sm i from c5_ (g2_ hi) h.pr),aj7 h.pr hy,jw_ s1,qa_ hs (cq9 hy),bk1,hs_,gu_ h.th s2]
    unfold rz_ cg5 frN ri_
    cases okN y.1 with
    | false=>rfl
    | true =>
    cases twN (·.1) r.2.2.1 i y.1 with
    | true=>rfl
    | false =>
    have e:(y.2.1 != -1) = !(y.2.1==-1):=rfl
    rw [e]
    cases y.2.1==-1 with
    | true =>
      cases wi y.2.1 0 (w64 ((r.1.length:Int) - 1)) <;> cases cOk r.2.1 y.2.2 <;> rfl
    | false =>
      cases wi y.2.1 0 (w64 ((r.1.length:Int) - 1)) <;> cases cOk r.2.1 y.2.2 <;> rfl
  · simp only [dnl,a2_]
  refine bv_ r.2.2.2.1 (λi x=>rz_ (cb8 r x) 23 (cOk r.2.1 x.2.2) 25) (λi y hy => ?_) ?_ (en_ ?_)
  · have hi:=al_ hy
    simp only [dlt hi,a4_,ah_ hy,a0_,ay_ (show Sm i from c5_ (g2_ hi) h.wy),hs_,gu_ h.th (h.wyn y (ax_ hy))]
    unfold rz_ cb8 ri_
    cases wi y.1 0 (w64 ((r.1.length:Int) - 1)) with
    | false=>rfl
    | true =>
    cases wi y.2.1 0 (w64 ((r.1.length:Int) - 1)) with
    | false=>rfl
    | true=>cases y.1==y.2.1 <;> cases cOk r.2.1 y.2.2 <;> rfl
  · simp only [dnl,a2_]
  refine bv_ r.2.2.2.2.1 (λi x=>rz_ (ue_ r i x) 26 (cOk r.2.1 x.2.2.2.2.1) 25) (λi y hy => ?_) ?_ (en_ ?_)
  · have hi:=al_ hy
    simp only [dlt hi,a4_,ah_ hy,a0_,ay_ (show Sm i from c5_ (g2_ hi) h.ac),bn6 h hy,gu_ h.th (h.acn y (ax_ hy)).2.2.1]
    unfold rz_
    cases ue_ r i y with
    | false=>rfl
    | true=>cases cOk r.2.1 y.2.2.2.2.1 <;> rfl
  · simp only [dnl,a2_]
  refine bv_ r.2.2.2.2.2.1 (λi x=>rz_ (ni_ r.2.1 x.2.1 x.2.2) 27 (cOk r.2.1 x.1) 25) (λi y hy => ?_) ?_ (en_ ?_)
  · have hi:=al_ hy
    simp only [dlt hi,a4_,ah_ hy,a0_,ay_ (show Sm i from c5_ (g2_ hi) h.au),qz_ h.th,gu_ h.th (h.aun y (ax_ hy))]
    unfold rz_
    cases ni_ r.2.1 y.2.1 y.2.2 with
    | false=>rfl
    | true=>cases cOk r.2.1 y.1 <;> rfl
  · simp only [dnl,a2_]
  rw [fj_,a0_,gu_ h.th h.go,a0_]
  cases wi r.2.2.2.2.2.2.1 1 4 with
  | false=>rfl
  | true=>cases cOk r.2.1 r.2.2.2.2.2.2.2 <;> rfl
end
section
theorem jb_ {α τ:Type} (l:List α) (hl:Sm l.length) (q:α→Bool) {body:(Int×Unit)→Option ((Int×Unit)⊕(Unit⊕(Bool×Unit)))} {K:(Unit⊕(Bool×Unit))→Option τ} {x:Option τ}
    (h:∀ (i:Nat) y,l[i]?=some y→body ((i:Int),())=some (cond (q y) (.inr (.inr (true,()))) (.inl (w64 ((i:Int)+1),())))) (e:body ((l.length:Int),())=some (.inr (.inl ()))) (hx:K (cond (l.any q) (.inr (true,())) (.inl ()))=x) :
    (ag_ body (0,())).bind K=x:=by
  refine bo_ l (λi y=>cond (q y) (some (inr (true,()):Unit⊕(Bool×Unit))) none) (λi=>((i:Int),())) (r0:=inl ()) (λi y hy => ?_) e ?_
  · have hi:=al_ hy
    rw [h i y hy,ay_ (show Sm i by omega)]
    cases q y <;> rfl
  · rw [hd_ (q:=q)]
    cases hq:l.any q <;> rw [hq] at hx <;> exact hx
theorem hl_ {α:Type} {l:List α} {q:α→Bool} (h:l.any q=false):∀ x ∈ l,q x=false:=by
  intro x hx
  cases hq:q x with
  | false=>rfl
  | true=>rw [k6_.2 ⟨x,hx,hq⟩] at h; cases h
theorem nlt {n:Nat} {k:Int} (h:decide (k<(n:Int))=false) (hk:k≤1000000000):Sm n:=by
  have:=d1_ h
  omega
def ci9 (r:af_):Bool:=decide (12<(r.1.length:Int))||(decide (15<(r.2.1.length:Int))||(decide (14<(r.2.2.1.length:Int))||(decide (20<(r.2.2.2.1.length:Int))||(decide (30<(r.2.2.2.2.1.length:Int))||(decide (15<(r.2.2.2.2.2.1.length:Int))||decide (20<(r.2.2.2.2.2.2.2.length:Int)))))))
theorem ci8 (r:af_):(cond (decide (12<(r.1.length:Int)))
 (some (true,()))
 (cond (decide (15<(r.2.1.length:Int)))
 (some (true,()))
 (cond (decide (14<(r.2.2.1.length:Int)))
 (some (true,()))
 (cond (decide (20<(r.2.2.2.1.length:Int)))
 (some (true,()))
 (cond (decide (30<(r.2.2.2.2.1.length:Int)))
 (some (true,()))
 (cond (decide (15<(r.2.2.2.2.2.1.length:Int)))
 (some (true,()))
 (some ((decide (20<(r.2.2.2.2.2.2.2.length:Int))),()))))))))=some (ci9 r,()):=by
  unfold ci9
  cases decide (12<(r.1.length:Int)) with
  | true=>rfl
  | false =>
  cases decide (15<(r.2.1.length:Int)) with
  | true=>rfl
  | false =>
  cases decide (14<(r.2.2.1.length:Int)) with
  | true=>rfl
  | false =>
  cases decide (20<(r.2.2.2.1.length:Int)) with
  | true=>rfl
  | false =>
  cases decide (30<(r.2.2.2.2.1.length:Int)) with
  | true=>rfl
  | false =>
  cases decide (15<(r.2.2.2.2.2.1.length:Int)) with
  | true=>rfl
  | false=>rfl
theorem bt2 (r:af_):∃ b,mt_ r=some (b,())∧(b=false→SmR r∧r.2.1.length≤15∧r.2.2.2.2.2.2.2.length≤20∧r.2.2.2.2.1.length≤30):=by
  unfold mt_
  have e0:=ci8 r
  cases hm:ci9 r with
  | true =>
    rw [hm] at e0
    exact ⟨true,e6_ (congrArg (λo=>Option.bind o _) e0) rfl,λh=>by cases h⟩
  | false =>
  rw [hm] at e0
  unfold ci9 at hm
  simp only [c2_] at hm
  obtain ⟨h1,h2,h3,h4,h5,h6,h7⟩:=hm
  have l1:=nlt h1 (by decide)
  have l2:=nlt h2 (by decide)
  have l3:=nlt h3 (by decide)
  have l4:=nlt h4 (by decide)
  have l5:=nlt h5 (by decide)
  have l6:=nlt h6 (by decide)
  have l7:=nlt h7 (by decide)
  have b2:=d1_ h2
  have b5:=d1_ h5
  have b7:=d1_ h7
  let qa:cw_→Bool:=λy=>decide (100<(y.1.length:Int))||(decide (20<(y.2.2.2.2.1.length:Int))||(decide (20<(y.2.2.2.1.length:Int))||(decide (20<(y.2.2.2.2.2.1.length:Int))||(decide (20<(y.2.2.2.2.2.2.1.length:Int))||decide (20<(y.2.2.2.2.2.2.2.length:Int))))))
  let b1:=r.1.any λx=>decide (100<(x.length:Int))
  let bt:=r.2.1.any λx=>decide (100<(x.1.length:Int))
  let bp:=r.2.2.1.any λx=>decide (100<(x.1.length:Int))||decide (20<(x.2.2.length:Int))
  let bw:=r.2.2.2.1.any λx=>decide (20<(x.2.2.length:Int))
  let ba:=r.2.2.2.2.1.any qa
  let bo:=r.2.2.2.2.2.1.any λx=>decide (20<(x.1.length:Int))
  refine ⟨b1||(bt||(bp||(bw||(ba||bo)))),?_,?_⟩
  · refine e6_ (congrArg (λo=>Option.bind o _) e0) ?_
    rw [a0_]
    simp only [a2_]
    refine jb_ r.1 l1 (λx=>decide (100<(x.length:Int))) (λi y hy => ?_) ?_ ?_
    · simp only [dlt (al_ hy),a4_,ah_ hy,a0_]
      cases decide (100<(y.length:Int)) <;> rfl
    · simp only [dnl,a2_]
    show cc_ (cond b1 _ _) _ _=_
    cases b1 with
    | true=>rfl
    | false =>
    refine jb_ r.2.1 l2 (λx=>decide (100<(x.1.length:Int))) (λi y hy => ?_) ?_ ?_
    · simp only [dlt (al_ hy),a4_,ah_ hy,a0_]
      cases decide (100<(y.1.length:Int)) <;> rfl
    · simp only [dnl,a2_]
    show cc_ (cond bt _ _) _ _=_
    cases bt with
    | true=>rfl
    | false =>
    refine jb_ r.2.2.1 l3 (λx=>decide (100<(x.1.length:Int))||decide (20<(x.2.2.length:Int))) (λi y hy => ?_) ?_ ?_
    · simp only [dlt (al_ hy),a4_,ah_ hy,a0_]
      cases decide (100<(y.1.length:Int)) with
      | true=>rfl
      | false=>cases decide (20<(y.2.2.length:Int)) <;> rfl
    · simp only [dnl,a2_]
    show cc_ (cond bp _ _) _ _=_
    cases bp with
    | true=>rfl
    | false =>
    refine jb_ r.2.2.2.1 l4 (λx=>decide (20<(x.2.2.length:Int))) (λi y hy => ?_) ?_ ?_
    · simp only [dlt (al_ hy),a4_,ah_ hy,a0_]
      cases decide (20<(y.2.2.length:Int)) <;> rfl
    · simp only [dnl,a2_]
    show cc_ (cond bw _ _) _ _=_
    cases bw with
    | true=>rfl
    | false =>
    refine jb_ r.2.2.2.2.1 l5 qa (λi y hy => ?_) ?_ ?_
    · simp only [dlt (al_ hy),a4_,ah_ hy,a0_,qa]
      cases decide (100<(y.1.length:Int)) with
      | true=>rfl
      | false =>
      cases decide (20<(y.2.2.2.2.1.length:Int)) with
      | true=>rfl
      | false =>
      cases decide (20<(y.2.2.2.1.length:Int)) with
      | true=>rfl
      | false =>
      cases decide (20<(y.2.2.2.2.2.1.length:Int)) with
      | true=>rfl
      | false =>
      cases decide (20<(y.2.2.2.2.2.2.1.length:Int)) with
      | true=>rfl
      | false=>cases decide (20<(y.2.2.2.2.2.2.2.length:Int)) <;> rfl
    · simp only [dnl,a2_]
    show cc_ (cond ba _ _) _ _=_
    cases ba with
    | true=>rfl
    | false =>
    refine jb_ r.2.2.2.2.2.1 l6 (λx=>decide (20<(x.1.length:Int))) (λi y hy => ?_) ?_ ?_
    · simp only [dlt (al_ hy),a4_,ah_ hy,a0_]
      cases decide (20<(y.1.length:Int)) <;> rfl
    · simp only [dnl,a2_]
    show cc_ (cond bo _ _) _ _=_
    cases bo <;> rfl
  · intro hb
    simp only [c2_] at hb
    obtain ⟨g1,g2,g3,g4,g5,g6⟩:=hb
    refine ⟨⟨l1,l2,l3,l4,l5,l6,l7,λx hx=>nlt (hl_ g1 x hx) (by decide),λx hx=>nlt (hl_ g2 x hx) (by decide),λx hx => ?_,λx hx=>nlt (hl_ g4 x hx) (by decide),λx hx => ?_,λx hx=>nlt (hl_ g6 x hx) (by decide)⟩,by omega,by omega,by omega⟩
    · have:=hl_ g3 x hx
      simp only [c2_] at this
      exact ⟨nlt this.1 (by decide),nlt this.2 (by decide)⟩
    · have:=hl_ g5 x hx
      simp only [qa,c2_] at this
      obtain ⟨a1,a2,a3,a4,a5,a6⟩:=this
      exact ⟨nlt a1 (by decide),nlt a3 (by decide),nlt a2 (by decide),nlt a4 (by decide),nlt a5 (by decide),nlt a6 (by decide)⟩
structure SmG (g:ad_):Prop where
  room:SmR g.1
  th:g.1.2.1.length≤15
  go:g.1.2.2.2.2.2.2.2.length≤20
  ac:g.1.2.2.2.2.1.length≤30
  lk:g.2.1.length≤10
  cd:g.2.2.1.length≤10
  nt:g.2.2.2.1.length≤20
  lkn:∀ x ∈ g.2.1,¬ (3<x.1∧5<x.2)
  cdn:∀ x ∈ g.2.2.1,x.length≤10
  ntn:∀ x ∈ g.2.2.2.1,x.1.length≤100∧x.2.2.2.1.length≤20∧x.2.2.2.2.2.2.2.2.2.1.length≤10
theorem bt1 (g:ad_):∃ b,kf_ g=some (b,())∧(b=false→SmG g):=by
  unfold kf_
  obtain ⟨b0,e0,h0⟩:=bt2 g.1
  rw [e0]
  simp only [a0_]
  cases b0 with
  | true=>exact ⟨true,rfl,λh=>by cases h⟩
  | false =>
  obtain ⟨r1,r2,r3,r4⟩:=h0 rfl
  cases h1:decide (10<(g.2.1.length:Int)) with
  | true=>exact ⟨true,rfl,λh=>by cases h⟩
  | false =>
  cases h2:decide (10<(g.2.2.1.length:Int)) with
  | true=>exact ⟨true,rfl,λh=>by cases h⟩
  | false =>
  cases h3:decide (20<(g.2.2.2.1.length:Int)) with
  | true=>exact ⟨true,rfl,λh=>by cases h⟩
  | false =>
  have l1:=nlt h1 (by decide)
  have l2:=nlt h2 (by decide)
  have l3:=nlt h3 (by decide)
  let ql:ab_→Bool:=λy=>decide (3<y.1)&&decide (5<y.2)
  let qn:ci_→Bool:=λy=>decide (100<(y.1.length:Int))||(decide (20<(y.2.2.2.1.length:Int))||decide (10<(y.2.2.2.2.2.2.2.2.2.1.length:Int)))
  let b1:=g.2.1.any ql
  let b2:=g.2.2.1.any λx=>decide (10<(x.length:Int))
  let b3:=g.2.2.2.1.any qn
  refine ⟨b1||(b2||b3),?_,?_⟩
  · simp only [a0_,a2_]
    refine jb_ g.2.1 l1 ql (λi y hy => ?_) ?_ ?_
    · simp only [dlt (al_ hy),a4_,ah_ hy,a0_,ql]
      cases decide (3<y.1) with
      | false=>rfl
      | true=>cases decide (5<y.2) <;> rfl
    · simp only [dnl,a2_]
    show cc_ (cond b1 _ _) _ _=_
    cases b1 with
    | true=>rfl
    | false =>
    refine jb_ g.2.2.1 l2 (λx=>decide (10<(x.length:Int))) (λi y hy => ?_) ?_ ?_
    · simp only [dlt (al_ hy),a4_,ah_ hy,a0_]
      cases decide (10<(y.length:Int)) <;> rfl
    · simp only [dnl,a2_]
    show cc_ (cond b2 _ _) _ _=_
    cases b2 with
    | true=>rfl
    | false =>
    refine jb_ g.2.2.2.1 l3 qn (λi y hy => ?_) ?_ ?_
    · simp only [dlt (al_ hy),a4_,ah_ hy,a0_,qn]
      cases decide (100<(y.1.length:Int)) with
      | true=>rfl
      | false =>
      cases decide (20<(y.2.2.2.1.length:Int)) with
      | true=>rfl
      | false=>cases decide (10<(y.2.2.2.2.2.2.2.2.2.1.length:Int)) <;> rfl
    · simp only [dnl,a2_]
    show cc_ (cond b3 _ _) _ _=_
    cases b3 <;> rfl
  · intro hb
    simp only [c2_] at hb
    obtain ⟨g1,g2,g3⟩:=hb
    have c1:=d1_ h1
    have c2:=d1_ h2
    have c3:=d1_ h3
    refine ⟨r1,r2,r3,r4,by omega,by omega,by omega,λx hx => ?_,λx hx => ?_,λx hx => ?_⟩
    · have:=hl_ g1 x hx
      intro hc
      simp only [ql,b9_ hc.1,b9_ hc.2] at this
      cases this
    · have:=d1_ (hl_ g2 x hx)
      omega
    · have:=hl_ g3 x hx
      simp only [qn,c2_] at this
      have d1:=d1_ this.1
      have d2:=d1_ this.2.1
      have d3:=d1_ this.2.2
      omega
end
end Go.Proofs.YtdibamopklkilaaGreatDoor.Rx
namespace Go.Proofs.YtdibamopklkilaaGreatDoor.Rx
open Go Pad Rex Go.Proofs Go.Proofs.Tryz Sum
section
set_option maxRecDepth 100000
set_option maxHeartbeats 0
def an_31:An:=(.p .z (.p .z (.p .z (.p (.j0 [.v 24 .bool] .z .z) (.p (.p .z (.ls [.v 4 .int] [] [] 0 .z)) (.p .z (.p (.p .z (.ls [.v 6 .int] [] [] 2 (.p .z (.p (.p (.q [] .z .z) .z) .z)))) (.p (.p .z (.ls [.v 7 .int] [] [] 4 (.p .z (.p (.p (.q [] .z .z) .z) .z)))) (.p (.p .z (.ls [.v 8 .int] [] [] 6 (.p .z (.p (.p .z (.p (.q [] .z .z) .z)) .z)))) .z)))))))))
noncomputable def cs_31:List (Con prog):=[c_64,c_65,c_66,c_67,c_68,c_69]
noncomputable def cl_31:List (Cpy prog):=[]
noncomputable def cx_31:Cx prog:=cxC cs_31 cl_31
noncomputable def fm_ (a0:ad_):Option (Int×Unit) :=
 ((fp_ a0.1).bind λv0 =>
 (cond (v0.1 != 0)
 (some (v0.1,()))
 (((cond (decide (8<(a0.2.1.length:Int)))
 (some (true,()))
 (some ((decide (16<(a0.2.2.2.1.length:Int))),())))).bind λv1 =>
 (cond v1.1
 (some (2,()))
 ((ag_ (ρ:=(Unit⊕(Int×Unit))) (λ(v2:(Int×Unit)) =>
 (cond (decide (v2.1<(a0.2.1.length:Int)))
 ((at? a0.2.1 v2.1).bind λv3 =>
 ((eh_ v3).bind λv4 =>
 (cond (v4.1 != 0)
 (some (inr (inr (v4.1,()))))
 (some (inl ((w64 (v2.1+1)),()))))))
 (some (inr (inl ()))))) (0,())).bind λv5 =>
 (cc_ v5 (λv6=>(cond ((a0.2.2.1.length:Int) != (a0.2.1.length:Int))
 (some (12,()))
 ((ag_ (ρ:=(Unit⊕(Int×Unit))) (λ(v8:(Int×Unit)) =>
 (cond (decide (v8.1<(a0.2.2.1.length:Int)))
 ((at? a0.2.1 v8.1).bind λv9 =>
 ((at? a0.2.2.1 v8.1).bind λv10 =>
 ((fq_ v9 v10).bind λv11 =>
 (cond (v11.1 != 0)
 (some (inr (inr (12,()))))
 (some (inl ((w64 (v8.1+1)),())))))))
 (some (inr (inl ()))))) (0,())).bind λv12 =>
 (cc_ v12 (λv13=>((ag_ (ρ:=(Unit⊕(Int×Unit))) (λ(v15:(Int×Unit)) =>
 (cond (decide (v15.1<(a0.1.2.2.2.2.1.length:Int)))
 ((at? a0.1.2.2.2.2.1 v15.1).bind λv16 =>
 (cond (decide ((a0.2.1.length:Int)≤v16.2.2.1))
 (some (inr (inr (26,()))))
 (some (inl ((w64 (v15.1+1)),())))))
 (some (inr (inl ()))))) (0,())).bind λv17 =>
 (cc_ v17 (λv18=>((ag_ (ρ:=(Unit⊕(Int×Unit))) (λ(v20:(Int×Unit)) =>
 (cond (decide (v20.1<(a0.2.2.2.1.length:Int)))
 ((jc_ a0 v20.1).bind λv21 =>
 (cond (!v21.1)
 (some (inr (inr (40,()))))
 ((at? a0.2.2.2.1 v20.1).bind λv22 =>
 ((cu_ a0.1 v22.2.2.2.1).bind λv23 =>
 (cond (!v23.1)
 (some (inr (inr (25,()))))
 (some (inl ((w64 (v20.1+1)),()))))))))
 (some (inr (inl ()))))) (0,())).bind λv24 =>
 (cc_ v24 (λv25=>((il_ a0.2.2.2.2 1 100).bind λv27 =>
 (cond (!v27.1)
 (some (1,()))
 (some (0,())))))
 (λv26=>(some v26)))))
 (λv19=>(some v19)))))
 (λv14=>(some v14))))))
 (λv7=>(some v7))))))))
theorem x_31:av_ cx_31 an_31 31 [ao_] [.int]=λx=>fm_ x.1:=by kernel_rfl
noncomputable def c_31:Con prog:=aw_ _ _ 31 [ao_] [.int] _ x_31
def an_91:An:=(.p .z (.p .z (.p .z (.p (.j0 [.v 38 .bool] .z .z) (.p (.p .z (.ls [.v 6 .int] [] [] 0 (.p .z (.p (.p (.q [] .z .z) .z) .z)))) (.p (.p .z (.ls [.v 7 .int] [] [] 2 (.p .z (.p (.p .z (.j0 [.v 83 .bool] .z .z)) .z)))) (.p (.p .z (.ls [.v 9 .int] [] [] 4 (.p .z (.p (.p (.q [] .z .z) .z) .z)))) .z)))))))
noncomputable def cs_91:List (Con prog):=[c_64,c_116,at7,cm4]
noncomputable def cl_91:List (Cpy prog):=[]
noncomputable def cx_91:Cx prog:=cxC cs_91 cl_91
noncomputable def du_ (a0:af_) (a1:ai_):Option (Int×Unit) :=
 ((fp_ a0).bind λv0 =>
 (cond (v0.1 != 0)
 (some (v0.1,()))
 (((cond ((a1.1.length:Int) != (a0.2.1.length:Int))
 (some (true,()))
 (cond ((a1.2.1.length:Int) != (a0.2.2.1.length:Int))
 (some (true,()))
 (some (((a1.2.2.length:Int) != a0.2.2.2.2.2.2.1),()))))).bind λv1 =>
 (cond v1.1
 (some (28,()))
 ((ag_ (ρ:=(Unit⊕(Int×Unit))) (λ(v2:(Int×Unit)) =>
 (cond (decide (v2.1<(a1.1.length:Int)))
 ((at? a1.1 v2.1).bind λv3 =>
 ((gq_ a0 v2.1 v3).bind λv4 =>
 (cond (!v4.1)
 (some (inr (inr (28,()))))
 (some (inl ((w64 (v2.1+1)),()))))))
 (some (inr (inl ()))))) (0,())).bind λv5 =>
 (cc_ v5 (λv6=>((ag_ (ρ:=(Unit⊕(Int×Unit))) (λ(v8:(Int×Unit)) =>
 (cond (decide (v8.1<(a1.2.1.length:Int)))
 ((at? a1.2.1 v8.1).bind λv9 =>
 ((((ct_ a0 v9).bind λv10 =>
 (cond (!v10.1)
 (cond (v9 != (-1))
 ((br_ v9 (w64 ((w64 ((-2) - a0.2.2.2.2.2.2.1))+1)) (-2)).bind λv11 =>
 (some ((!v11.1),())))
 (some (false,())))
 (some (false,()))))).bind λv12 =>
 (cond v12.1
 (some (inr (inr (28,()))))
 (some (inl ((w64 (v8.1+1)),()))))))
 (some (inr (inl ()))))) (0,())).bind λv13 =>
 (cc_ v13 (λv14=>((ag_ (ρ:=(Unit⊕(Int×Unit))) (λ(v16:(Int×Unit)) =>
 (cond (decide (v16.1<(a1.2.2.length:Int)))
 ((at? a1.2.2 v16.1).bind λv17 =>
 ((ct_ a0 v17).bind λv18 =>
 (cond (!v18.1)
 (some (inr (inr (28,()))))
 (some (inl ((w64 (v16.1+1)),()))))))
 (some (inr (inl ()))))) (0,())).bind λv19 =>
 (cc_ v19 (λv20=>(some (0,())))
 (λv21=>(some v21)))))
 (λv15=>(some v15)))))
 (λv7=>(some v7))))))))
theorem x_91:av_ cx_91 an_91 91 [ap_,ar_] [.int]=λx=>du_ x.1 x.2.1:=by kernel_rfl
noncomputable def c_91:Con prog:=aw_ _ _ 91 [ap_,ar_] [.int] _ x_91
def an_227:An:=.z
noncomputable def cs_227:List (Con prog):=[c_240,c_241]
noncomputable def cl_227:List (Cpy prog):=[]
noncomputable def cx_227:Cx prog:=cxC cs_227 cl_227
noncomputable def jj_ (a0:ab_) (a1:(List ak_)):Option (Int×Int×Unit) :=
 ((ep_ a0 a1).bind λv0 =>
 (cond (v0.1 != 0)
 (some (0,(v0.1,())))
 ((mr_ a0 a1).bind λv1 =>
 (some ((v1.1.length:Int),(0,()))))))
theorem x_227:av_ cx_227 an_227 227 [am_,(.list aq_)] [.int,.int]=λx=>jj_ x.1 x.2.1:=by kernel_rfl
noncomputable def c_227:Con prog:=aw_ _ _ 227 [am_,(.list aq_)] [.int,.int] _ x_227
def an_142:An:=.z
noncomputable def cs_142:List (Con prog):=[c_78,c_187,c_188]
noncomputable def cl_142:List (Cpy prog):=[]
noncomputable def cx_142:Cx prog:=cxC cs_142 cl_142
noncomputable def jl_ (a0:ab_) (a1:ak_) (a2:(List Int)):Option (Bool×Int×Unit) :=
 ((fx_ a0 a1).bind λv0 =>
 (cond (v0.1 != 0)
 (some (false,(v0.1,())))
 ((eb_ a0 a2).bind λv1 =>
 (cond (v1.1 != 0)
 (some (false,(v1.1,())))
 ((fv_ a1 a2).bind λv2 =>
 (some (v2.1,(0,()))))))))
theorem x_142:av_ cx_142 an_142 142 [am_,aq_,(.list .int)] [.bool,.int]=λx=>jl_ x.1 x.2.1 x.2.2.1:=by kernel_rfl
noncomputable def c_142:Con prog:=aw_ _ _ 142 [am_,aq_,(.list .int)] [.bool,.int] _ x_142
def an_40:An:=(.p .z (.p .z (.p .z (.p (.p .z (.lp [.v 23 .int] [] [.b (.s 5) [.row .int 3,.keep,.keep]] 0 .z)) (.p (.p .z (.lp [.v 38 .int] [] [.b (.s 5) [.keep,.row .int 3,.keep]] 2 .z)) .z)))))
def at_40:FuncId→An:=λk=>cond (Nat.beq k 83) (.p .z (.p (.j0 [.v 6 .bool,.o (.c (.s 0) 8) .int] .z .z) .z)) (cond (Nat.beq k 145) (.p .z (.p (.p .z (.ls [.v 4 .int] [] [.o (.c (.s 0) 8) .int] 0 (.p .z (.p .z (.p (.j0 [.v 3 .int] .z .z) .z))))) .z)) (cond (Nat.beq k 190) (.p .z (.p (.p .z (.ls [.v 8 .int] [] [] 0 .z)) .z)) (cond (Nat.beq k 191) (.p .z (.j0 [.v 3 .bool] .z .z)) (.z))))
noncomputable def cs_40:List (Con prog):=[c_76,by6]
noncomputable def cl_40:List (Cpy prog):=[am3]
noncomputable def cx_40:Cx prog:=cxI at_40 (λk=>Nat.beq k 76||Nat.beq k 86||Nat.beq k 147||false) (cxC cs_40 cl_40) 6
noncomputable def ij_ (a0:af_):Option (ai_×Int×Unit) :=
 ((fb_ a0).bind λv0 =>
 (cond (v0.1 != 0)
 (some (([],([],[])),(v0.1,())))
 ((mk? (α:=Int) a0.2.2.2.2.2.2.1 0).bind λv1 =>
 ((ag_ (ρ:=(((List Int)×Unit)×Unit)) (λ(v2:(Int×(((List Int)×Unit)×Unit))) =>
 (cond (decide (v2.1<(a0.2.1.length:Int)))
 ((at? a0.2.1 v2.1).bind λv3 =>
 ((push? (α:=Int) v2.2.1.1 [v3.2.2.2]).bind λv4 =>
 (some (inl ((w64 (v2.1+1)),((v4,()),()))))))
 (some (inr ((v2.2.1.1,()),()))))) (0,(([],()),()))).bind λv5 =>
 ((ag_ (ρ:=(((List Int)×Unit)×Unit)) (λ(v6:(Int×(((List Int)×Unit)×Unit))) =>
 (cond (decide (v6.1<(a0.2.2.1.length:Int)))
 ((at? a0.2.2.1 v6.1).bind λv7 =>
 ((push? (α:=Int) v6.2.1.1 [v7.2.1]).bind λv8 =>
 (some (inl ((w64 (v6.1+1)),((v8,()),()))))))
 (some (inr ((v6.2.1.1,()),()))))) (0,(([],()),()))).bind λv9 =>
 ((push? (α:=Int) [] v5.1.1).bind λv10 =>
 ((push? (α:=Int) [] v9.1.1).bind λv11 =>
 ((push? (α:=Int) [] v1).bind λv12 =>
 ((((ag_ (ρ:=(((List Int)×Unit)⊕(Bool×((List Int)×Unit)))) (λ(v13:(Int×((List Int)×Unit))) =>
 (cond (decide (v13.1<101))
 ((((ag_ (ρ:=(Unit⊕(Int×Unit))) (λ(v14:(Int×Unit)) =>
 (cond (decide (v14.1<(a0.2.2.2.2.2.1.length:Int)))
 ((at? a0.2.2.2.2.2.1 v14.1).bind λv15 =>
 ((((at? v13.2.1 v15.2.1).bind λv16 =>
 ((at? v13.2.1 v15.2.1).bind λv17 =>
 (cond (v17 != v15.2.2)
 ((bb_ (a0,(v13.2.1,(v11,v12))) v15.1).bind λv18 =>
 (some (v18.1,())))
 (some (false,())))))).bind λv19 =>
 (cond v19.1
 (some (inr (inr (v14.1,()))))
 (some (inl ((w64 (v14.1+1)),()))))))
 (some (inr (inl ()))))) (0,())).bind λv20 =>
 (cc_ v20 (λv21=>(some ((-1),())))
 (λv22=>(some v22))))).bind λv23 =>
 (cond (decide (v23.1<0))
 (some (inr (inr ((!true),(v13.2.1,())))))
 ((at? a0.2.2.2.2.2.1 v23.1).bind λv24 =>
 ((at? a0.2.2.2.2.2.1 v23.1).bind λv25 =>
 ((at? v13.2.1 v24.2.1).bind λv26 =>
 ((at? v13.2.1 v24.2.1).bind λv27 =>
 (some (inl ((w64 (v13.1+1)),((v13.2.1.set v24.2.1.toNat v25.2.2),()))))))))))
 (some (inr (inl (v13.2.1,())))))) (0,(v10,()))).bind λv28 =>
 (cc_ v28 (λv29=>(some ((!false),(v29.1,()))))
 (λv30=>(some v30))))).bind λv31 =>
 (cond v31.1
 (some (([],([],[])),(27,())))
 (some ((v31.2.1,(v11,v12)),(0,())))))))))))))
theorem x_40:av_ cx_40 an_40 40 [ap_] [ar_,.int]=λx=>ij_ x.1:=by kernel_rfl
noncomputable def c_40:Con prog:=aw_ _ _ 40 [ap_] [ar_,.int] _ x_40
def an_146:An:=(.p .z (.p .z (.p (.j0 [.v 40 .bool] .z .z) (.p (.p .z (.ls [.v 44 .int] [] [] 0 .z)) (.p (.p .z (.ls [.v 58 .int] [] [] 2 .z)) (.p (.p .z (.ls [.v 77 .int] [] [] 4 .z)) .z))))))
noncomputable def cs_146:List (Con prog):=[c_76,by8,cm3]
noncomputable def cl_146:List (Cpy prog):=[]
noncomputable def cx_146:Cx prog:=cxC cs_146 cl_146
noncomputable def bz_ (a0:af_) (a1:ai_):Option (Int×Unit) :=
 ((fb_ a0).bind λv0 =>
 (cond (v0.1 != 0)
 (some (v0.1,()))
 (((cond ((a1.1.length:Int) != (a0.2.1.length:Int))
 (some (true,()))
 (cond ((a1.2.1.length:Int) != (a0.2.2.1.length:Int))
 (some (true,()))
 (some (((a1.2.2.length:Int) != a0.2.2.2.2.2.2.1),()))))).bind λv1 =>
 (cond v1.1
 (some (28,()))
 ((ag_ (ρ:=(Unit⊕(Int×Unit))) (λ(v2:(Int×Unit)) =>
 (cond (decide (v2.1<(a1.1.length:Int)))
 ((at? a1.1 v2.1).bind λv3 =>
 ((ez_ a0 v2.1 v3).bind λv4 =>
 (cond (!v4.1)
 (some (inr (inr (28,()))))
 (some (inl ((w64 (v2.1+1)),()))))))
 (some (inr (inl ()))))) (0,())).bind λv5 =>
 (cc_ v5 (λv6=>((ag_ (ρ:=(Unit⊕(Int×Unit))) (λ(v8:(Int×Unit)) =>
 (cond (decide (v8.1<(a1.2.1.length:Int)))
 ((at? a1.2.1 v8.1).bind λv9 =>
 ((bc_ v9 (w64 ((w64 ((-2) - a0.2.2.2.2.2.2.1))+1)) (w64 ((a0.1.length:Int) - 1))).bind λv10 =>
 (cond (!v10.1)
 (some (inr (inr (28,()))))
 (some (inl ((w64 (v8.1+1)),()))))))
 (some (inr (inl ()))))) (0,())).bind λv11 =>
 (cc_ v11 (λv12=>((ag_ (ρ:=(Unit⊕(Int×Unit))) (λ(v14:(Int×Unit)) =>
 (cond (decide (v14.1<(a1.2.2.length:Int)))
 ((at? a1.2.2 v14.1).bind λv15 =>
 ((bc_ v15 0 (w64 ((a0.1.length:Int) - 1))).bind λv16 =>
 (cond (!v16.1)
 (some (inr (inr (28,()))))
 (some (inl ((w64 (v14.1+1)),()))))))
 (some (inr (inl ()))))) (0,())).bind λv17 =>
 (cc_ v17 (λv18=>(some (0,())))
 (λv19=>(some v19)))))
 (λv13=>(some v13)))))
 (λv7=>(some v7))))))))
theorem x_146:av_ cx_146 an_146 146 [ap_,ar_] [.int]=λx=>bz_ x.1 x.2.1:=by kernel_rfl
noncomputable def by7:Con prog:=aw_ _ _ 146 [ap_,ar_] [.int] _ x_146
def an_164:An:=.z
noncomputable def cs_164:List (Con prog):=[c_205,c_206]
noncomputable def cl_164:List (Cpy prog):=[]
noncomputable def cx_164:Cx prog:=cxC cs_164 cl_164
noncomputable def cv_ (a0:ab_) (a1:(List ak_)):Option (Int×Int×Unit) :=
 ((es_ a0 a1).bind λv0 =>
 (cond (v0.1 != 0)
 (some (0,(v0.1,())))
 ((er_ a0 a1).bind λv1 =>
 (some (v1.1,(0,()))))))
theorem x_164:av_ cx_164 an_164 164 [am_,(.list aq_)] [.int,.int]=λx=>cv_ x.1 x.2.1:=by kernel_rfl
noncomputable def c_164:Con prog:=aw_ _ _ 164 [am_,(.list aq_)] [.int,.int] _ x_164
end
end Go.Proofs.YtdibamopklkilaaGreatDoor.Rx
namespace Go.Proofs.YtdibamopklkilaaGreatDoor.Rx
open Go Pad Rex Sum
section
theorem ju_ {α ρ:Type} {p:Nat→α→Option ρ} {e:ρ} (h:∀ i x,p i x≠some e):∀ (l:List α) (i:Nat),fi_ p i l≠some e
  | [],_=>by simp [fi_]
  | x::l,i=>by
    unfold fi_
    cases hp:p i x with
    | some r =>
      intro he
      cases he
      exact h i x hp
    | none=>exact ju_ h l (i+1)
theorem gg_ {o:Option Int} {k:Int} (h:o.getD k=0) (hn:o≠some 0):o=none∧k=0:=by
  cases o with
  | none=>exact ⟨rfl,h⟩
  | some e =>
    have:e=0:=h
    subst this
    exact absurd rfl hn
theorem xe_ {a:Bool} {e:Int} (h:e≠0):kh_ a e≠some 0:=by
  unfold kh_
  cases a with
  | true=>simp
  | false=>simpa using h
theorem xd_ {a b:Bool} {e f:Int} (h:e≠0) (k:f≠0):rz_ a e b f≠some 0:=by
  unfold rz_
  cases a with
  | false=>simpa using h
  | true =>
    cases b with
    | true=>simp
    | false=>simpa using k
theorem kg_ {a:Bool} {e:Int} (h:kh_ a e=none):a=true:=by cases a with
  | true=>rfl
  | false=>cases h
theorem ny_ {a b:Bool} {e f:Int} (h:rz_ a e b f=none):a=true∧b=true:=by
  cases a with
  | false=>cases h
  | true=>cases b with
    | true=>exact ⟨rfl,rfl⟩
    | false=>cases h
theorem dg_ {α ρ:Type} {p:Nat→α→Option ρ} {l:List α} (h:fi_ p 0 l=none) {i:Nat} {x:α} (hx:l[i]?=some x):p i x=none:=by
  have:=(ig_ l 0).1 h i x hx
  rwa [b0_] at this
structure OkR (r:af_):Prop where
  many:ac1 r=false
  pl:∀ (i:Nat) x,r.1[i]?=some x→plOk r i x=true
  ne:r.1≠[]
  th:∀ (i:Nat) x,r.2.1[i]?=some x→bk4 r i x=true
  pr:∀ (i:Nat) x,r.2.2.1[i]?=some x→cg5 r i x=true∧cOk r.2.1 x.2.2=true
  wy:∀ (i:Nat) x,r.2.2.2.1[i]?=some x→cb8 r x=true∧cOk r.2.1 x.2.2=true
  ac:∀ (i:Nat) x,r.2.2.2.2.1[i]?=some x→ue_ r i x=true∧cOk r.2.1 x.2.2.2.2.1=true
  au:∀ (i:Nat) x,r.2.2.2.2.2.1[i]?=some x→ni_ r.2.1 x.2.1 x.2.2=true∧cOk r.2.1 x.1=true
  py:wi r.2.2.2.2.2.2.1 1 4=true
  go:cOk r.2.1 r.2.2.2.2.2.2.2=true
theorem bj_ {r:af_} (h:db_ r=0):OkR r:=by
  unfold db_ at h
  cases hm:ac1 r with
  | true=>rw [hm] at h; exact absurd (show (2:Int)=0 from h) (by decide)
  | false =>
  rw [hm] at h
  have h:(fi_ (λi x=>kh_ (plOk r i x) 22) 0 r.1).getD _=0:=h
  obtain ⟨h1,h⟩:=gg_ h (ju_ (λi x=>xe_ (by decide)) _ _)
  cases he:(r.1.length:Int)==0 with
  | true=>rw [he] at h; exact absurd (show (22:Int)=0 from h) (by decide)
  | false =>
  rw [he] at h
  have h:(fi_ (λi x=>kh_ (bk4 r i x) 21) 0 r.2.1).getD _=0:=h
  obtain ⟨h2,h⟩:=gg_ h (ju_ (λi x=>xe_ (by decide)) _ _)
  obtain ⟨h3,h⟩:=gg_ h (ju_ (λi x=>xd_ (by decide) (by decide)) _ _)
  obtain ⟨h4,h⟩:=gg_ h (ju_ (λi x=>xd_ (by decide) (by decide)) _ _)
  obtain ⟨h5,h⟩:=gg_ h (ju_ (λi x=>xd_ (by decide) (by decide)) _ _)
  obtain ⟨h6,h⟩:=gg_ h (ju_ (λi x=>xd_ (by decide) (by decide)) _ _)
  cases h7:wi r.2.2.2.2.2.2.1 1 4 with
  | false=>rw [h7] at h; exact absurd (show (1:Int)=0 from h) (by decide)
  | true =>
  rw [h7] at h
  cases h8:cOk r.2.1 r.2.2.2.2.2.2.2 with
  | false=>rw [h8] at h; exact absurd (show (25:Int)=0 from h) (by decide)
  | true =>
  refine ⟨hm,λi x hx=>kg_ (dg_ h1 hx),λe => ?_,λi x hx=>kg_ (dg_ h2 hx),λi x hx=>ny_ (dg_ h3 hx),λi x hx=>ny_ (dg_ h4 hx),λi x hx=>ny_ (dg_ h5 hx),λi x hx=>ny_ (dg_ h6 hx),h7,h8⟩
  rw [e] at he
  cases he
def inR (r:af_) (p:Int):Bool:=wi p (w64 ((w64 ((-2) - r.2.2.2.2.2.2.1))+1)) (w64 ((r.1.length:Int) - 1))
def ac3 (r:af_) (s:ai_):Bool:=((s.1.length:Int) != (r.2.1.length:Int))||(((s.2.1.length:Int) != (r.2.2.1.length:Int))||((s.2.2.length:Int) != r.2.2.2.2.2.2.1))
def ckS (r:af_) (s:ai_):Int :=
  cond (ac3 r s) 28 ((fi_ (λi n=>kh_ (ni_ r.2.1 (i:Int) n) 28) 0 s.1).getD ((fi_ (λ_ p=>kh_ (inR r p) 28) 0 s.2.1).getD ((fi_ (λ_ p=>kh_ (ri_ r p) 28) 0 s.2.2).getD 0)))
def lm_ (r:af_) (s:ai_):Int:=cond (db_ r != 0) (db_ r) (ckS r s)
theorem bs9 (r:af_) (s:ai_):(cond ((s.1.length:Int) != (r.2.1.length:Int))
 (some (true,()))
 (cond ((s.2.1.length:Int) != (r.2.2.1.length:Int))
 (some (true,()))
 (some (((s.2.2.length:Int) != r.2.2.2.2.2.2.1),()))))=some (ac3 r s,()):=by
  unfold ac3
  cases (s.1.length:Int) != (r.2.1.length:Int) with
  | true=>rfl
  | false =>
  cases (s.2.1.length:Int) != (r.2.2.1.length:Int) with
  | true=>rfl
  | false=>rfl
theorem ay8 {r:af_} {s:ai_} (h:ac3 r s=false):s.1.length=r.2.1.length∧s.2.1.length=r.2.2.1.length∧(s.2.2.length:Int)=r.2.2.2.2.2.2.1:=by
  unfold ac3 at h
  simp only [c2_,bne_eq_false_iff_eq] at h
  omega
theorem ew_ {r:af_} (h:SmR r) (s:ai_):bz_ r s=some (lm_ r s,()):=by
  unfold bz_ lm_
  rw [sf_ h,a0_]
  cases hr:db_ r != 0 with
  | true=>rfl
  | false =>
  have ok:=bj_ (by simpa using hr)
  simp only [a2_]
  refine e6_ (congrArg (λo=>Option.bind o _) (bs9 r s)) ?_
  rw [a0_]
  unfold ckS
  cases hl:ac3 r s with
  | true=>rfl
  | false =>
  obtain ⟨l1,l2,l3⟩:=ay8 hl
  have hp:=cg_.1 ok.py
  have m1:Sm s.1.length:=by rw [l1]; exact h.th
  have m2:Sm s.2.1.length:=by rw [l2]; exact h.pr
  have m3:Sm s.2.2.length:=by show s.2.2.length≤1000000000; omega
  simp only [a2_]
  refine bv_ s.1 (λi n=>kh_ (ni_ r.2.1 (i:Int) n) 28) (λi y hy => ?_) ?_ (en_ ?_)
  · have hi:=al_ hy
    simp only [dlt hi,a4_,ah_ hy,a0_,ay_ (show Sm i by omega),ow_ h.th]
    unfold kh_
    cases ni_ r.2.1 (i:Int) y <;> rfl
  · simp only [dnl,a2_]
  refine bv_ s.2.1 (λ_ p=>kh_ (inR r p) 28) (λi y hy => ?_) ?_ (en_ ?_)
  · have hi:=al_ hy
    simp only [dlt hi,a4_,ah_ hy,a0_,ay_ (show Sm i by omega),dv_]
    unfold kh_ inR
    cases wi y (w64 ((w64 ((-2) - r.2.2.2.2.2.2.1))+1)) (w64 ((r.1.length:Int) - 1)) <;> rfl
  · simp only [dnl,a2_]
  refine bv_ s.2.2 (λ_ p=>kh_ (ri_ r p) 28) (λi y hy => ?_) ?_ (en_ ?_)
  · have hi:=al_ hy
    simp only [dlt hi,a4_,ah_ hy,a0_,ay_ (show Sm i by omega),dv_]
    unfold kh_ ri_
    cases wi y 0 (w64 ((r.1.length:Int) - 1)) <;> rfl
  · simp only [dnl,a2_]
  rfl
theorem cr2 {r:af_} (h:SmR r) (hp:wi r.2.2.2.2.2.2.1 1 4=true) (p:Int):inR r p=(ri_ r p||(p==-1||wi p (w64 ((w64 ((-2) - r.2.2.2.2.2.2.1))+1)) (-2))):=by
  have hp:=cg_.1 hp
  have hpl:=h.pl
  have e1:w64 ((r.1.length:Int) - 1)=(r.1.length:Int) - 1:=et_ (by omega) (by omega)
  have e2:w64 ((-2) - r.2.2.2.2.2.2.1)=(-2) - r.2.2.2.2.2.2.1:=et_ (by omega) (by omega)
  have e3:w64 (((-2) - r.2.2.2.2.2.2.1)+1)=((-2) - r.2.2.2.2.2.2.1)+1:=et_ (by omega) (by omega)
  unfold inR ri_
  rw [e1,e2,e3,k2_]
  simp only [c8_,cg_,f3_]
  omega
theorem mz_ {r:af_} (h:SmR r) (s:ai_):du_ r s=some (lm_ r s,()):=by
  unfold du_ lm_
  rw [qb_ h,a0_]
  cases hr:db_ r != 0 with
  | true=>rfl
  | false =>
  have ok:=bj_ (by simpa using hr)
  simp only [a2_]
  refine e6_ (congrArg (λo=>Option.bind o _) (bs9 r s)) ?_
  rw [a0_]
  unfold ckS
  cases hl:ac3 r s with
  | true=>rfl
  | false =>
  obtain ⟨l1,l2,l3⟩:=ay8 hl
  have hp:=cg_.1 ok.py
  have m1:Sm s.1.length:=by rw [l1]; exact h.th
  have m2:Sm s.2.1.length:=by rw [l2]; exact h.pr
  have m3:Sm s.2.2.length:=by show s.2.2.length≤1000000000; omega
  simp only [a2_]
  refine bv_ s.1 (λi n=>kh_ (ni_ r.2.1 (i:Int) n) 28) (λi y hy => ?_) ?_ (en_ ?_)
  · have hi:=al_ hy
    simp only [dlt hi,a4_,ah_ hy,a0_,ay_ (show Sm i by omega),qz_ h.th]
    unfold kh_
    cases ni_ r.2.1 (i:Int) y <;> rfl
  · simp only [dnl,a2_]
  refine bv_ s.2.1 (λ_ p=>kh_ (inR r p) 28) (λi y hy => ?_) ?_ (en_ ?_)
  · have hi:=al_ hy
    simp only [dlt hi,a4_,ah_ hy,a0_,ay_ (show Sm i by omega),hs_,fj_]
    rw [cr2 h ok.py]
    unfold kh_ ri_
    have e:(y != -1) = !(y==-1):=rfl
    rw [e]
    cases wi y 0 (w64 ((r.1.length:Int) - 1)) with
    | true=>rfl
    | false =>
    cases y==-1 with
    | true=>rfl
    | false=>cases wi y (w64 ((w64 ((-2) - r.2.2.2.2.2.2.1))+1)) (-2) <;> rfl
  · simp only [dnl,a2_]
  refine bv_ s.2.2 (λ_ p=>kh_ (ri_ r p) 28) (λi y hy => ?_) ?_ (en_ ?_)
  · have hi:=al_ hy
    simp only [dlt hi,a4_,ah_ hy,a0_,ay_ (show Sm i by omega),hs_]
    unfold kh_ ri_
    cases wi y 0 (w64 ((r.1.length:Int) - 1)) <;> rfl
  · simp only [dnl,a2_]
  rfl
end
section
def gi (l:List Int) (i:Int):Int:=(at? l i).getD 0
theorem ma_ {l:List Int} {i x:Int} (h:at? l i=some x):gi l i=x:=by unfold gi; rw [h]; rfl
theorem ne_ {l:List Int} {i:Int} (h0:0≤i) (h1:i<l.length):at? l i=some (gi l i):=by
  obtain ⟨x,hx⟩:=az_ (l:=l) (i:=i.toNat) (by omega)
  have:at? l i=some x:=by rw [show i=((i.toNat:Nat):Int) by omega]; exact ah_ hx
  rw [this,ma_ this]
def InC (n:Nat) (c:List be_):Prop:=∀ l ∈ c,0≤l.1∧l.1<n
theorem ru_ {things:List gs_} (hl:Sm things.length) {c:List be_} (h:cOk things c=true):InC things.length c∧c.length≤8:=by
  unfold cOk at h
  rw [a1_] at h
  refine ⟨λl hm => ?_,by have:=g6_ h.1; omega⟩
  have h2:=e9_.1 h.2 l hm
  unfold ni_ at h2
  rw [a1_] at h2
  have:=cg_.1 h2.1
  rw [et_ (by omega) (by omega)] at this
  omega
def cx_ (th:List Int) (c:List be_):Bool:=c.all λl=>!((gi th l.1==l.2.1)==l.2.2)
theorem ca4 {α:Type} (l:List α) (q:α→Bool):(!(l.any q))=l.all λx=>!(q x):=by
  induction l with
  | nil=>rfl
  | cons x l ih =>
    rw [q4_,List.all_cons,← ih]
    cases q x <;> rfl
theorem mf_ {t:hb_} {c:List be_} (hc:Sm c.length) (hi:InC t.2.1.length c):bb_ t c=some (cx_ t.2.1 c,()):=by
  unfold bb_ cx_
  refine e6_ (congrArg (λo=>Option.bind o _) (oe_ hc (λl=>(gi t.2.1 l.1==l.2.1)==l.2.2) (λi y hy => ?_) ?_)) ?_
  · have:=hi y (ax_ hy)
    simp only [dlt (al_ hy),a4_,ah_ hy,ne_ this.1 this.2,a0_]
    cases (gi t.2.1 y.1==y.2.1)==y.2.2 <;> rfl
  · simp only [dnl,a2_]
  · rw [a0_]
    exact congrArg (λb=>some (b,())) (ca4 c _)
theorem he_ {s:ai_} {c:List be_} (hc:Sm c.length) (hi:InC s.1.length c):bd_ s c=some (cx_ s.1 c,()):=by
  unfold bd_ cx_
  refine bo_ c (λi l=>cond ((gi s.1 l.1==l.2.1)==l.2.2) (some (inr (false,()):Unit⊕(Bool×Unit))) none) (λi=>((i:Int),())) (r0:=inl ()) (λi y hy => ?_) ?_ ?_
  · have:=hi y (ax_ hy)
    have hl:=al_ hy
    simp only [dlt hl,a4_,ah_ hy,ne_ this.1 this.2,a0_,ay_ (show Sm i by omega)]
    cases (gi s.1 y.1==y.2.1)==y.2.2 <;> rfl
  · simp only [dnl,a2_]
  · rw [hd_ (q:=λl:be_=>(gi s.1 l.1==l.2.1)==l.2.2),← ca4]
    cases c.any λl=>(gi s.1 l.1==l.2.1)==l.2.2 <;> rfl
end
end Go.Proofs.YtdibamopklkilaaGreatDoor.Rx
namespace Go.Proofs.YtdibamopklkilaaGreatDoor.Rx
open Go Pad Rex Go.Proofs Go.Proofs.Tryz Sum
section
set_option maxRecDepth 100000
set_option maxHeartbeats 0
def an_156:An:=.z
noncomputable def cs_156:List (Con prog):=[c_91,c_159]
noncomputable def cl_156:List (Cpy prog):=[]
noncomputable def cx_156:Cx prog:=cxC cs_156 cl_156
noncomputable def ib_ (a0:af_) (a1:ai_):Option (ai_×Int×Unit) :=
 ((du_ a0 a1).bind λv0 =>
 (cond (v0.1 != 0)
 (some (([],([],[])),(v0.1,())))
 ((gh_ a0 a1).bind λv1 =>
 (cond (!v1.2.1)
 (some (([],([],[])),(27,())))
 (some (v1.1,(0,())))))))
theorem x_156:av_ cx_156 an_156 156 [ap_,ar_] [ar_,.int]=λx=>ib_ x.1 x.2.1:=by kernel_rfl
noncomputable def c_156:Con prog:=aw_ _ _ 156 [ap_,ar_] [ar_,.int] _ x_156
def an_203:An:=(.p .z (.p (.q [] .z .z) .z))
noncomputable def cs_203:List (Con prog):=[c_227,c_228]
noncomputable def cl_203:List (Cpy prog):=[]
noncomputable def cx_203:Cx prog:=cxC cs_203 cl_203
noncomputable def iv_ (a0:ad_) (a1:Int) (a2:(List Int)):Option (Int×Unit) :=
 ((at? a0.2.1 a1).bind λv0 =>
 ((jd_ a0 a2).bind λv1 =>
 ((jj_ v0 v1.1).bind λv2 =>
 (some (v2.1,())))))
theorem x_203:av_ cx_203 an_203 203 [ao_,.int,(.list .int)] [.int]=λx=>iv_ x.1 x.2.1 x.2.2.1:=by kernel_rfl
noncomputable def c_203:Con prog:=aw_ _ _ 203 [ao_,.int,(.list .int)] [.int] _ x_203
def an_79:An:=(.p .z (.p .z (.p (.j0 [.v 49 .bool] .z .z) (.p .z (.p (.q [] .z .z) .z)))))
def at_79:FuncId→An:=λk=>cond (Nat.beq k 138) (.p .z (.j0 [.v 4 .bool] .z .z)) (cond (Nat.beq k 186) (.p .z (.p (.p .z (.ls [.v 8 .int] [] [] 0 .z)) .z)) (.z))
noncomputable def cs_79:List (Con prog):=[c_81,c_140,c_141,c_142]
noncomputable def cl_79:List (Cpy prog):=[]
noncomputable def cx_79:Cx prog:=cxI at_79 (λk=>Nat.beq k 81||Nat.beq k 140||Nat.beq k 141||Nat.beq k 142||false) (cxC cs_79 cl_79) 4
noncomputable def le_ (a0:ad_) (a1:Int) (a2:ci_):Option (Bool×Unit) :=
 ((sub? a0.2.2.2.1 0 a1).bind λv0 =>
 ((((ag_ (ρ:=(Unit⊕(Bool×Unit))) (λ(v1:(Int×Unit)) =>
 (cond (decide (v1.1<(v0.length:Int)))
 ((at? v0 v1.1).bind λv2 =>
 (cond (v2.1==a2.1)
 (some (inr (inr ((decide (0≤v1.1)),()))))
 (some (inl ((w64 (v1.1+1)),())))))
 (some (inr (inl ()))))) (0,())).bind λv3 =>
 (cc_ v3 (λv4=>(some ((decide (0≤(-1))),())))
 (λv5=>(some v5))))).bind λv6 =>
 ((((ms_ a2.1).bind λv7 =>
 (cond (!v7.1)
 (some (true,()))
 (cond (decide (12<(a2.1.length:Int)))
 (some (true,()))
 (cond v6.1
 (some (true,()))
 ((bp_ a2.2.1 0 (w64 ((a0.1.1.length:Int) - 1))).bind λv8 =>
 (cond (!v8.1)
 (some (true,()))
 ((bp_ a2.2.2.1 (-1) (w64 ((a0.2.1.length:Int) - 1))).bind λv9 =>
 (some ((!v9.1),())))))))))).bind λv10 =>
 (cond v10.1
 (some (false,()))
 (cond (decide (a2.2.2.1<0))
 ((ke_ a2.2.2.2.2).bind λv11 =>
 (some (v11.1,())))
 ((at? a0.2.1 a2.2.2.1).bind λv12 =>
 ((at? a0.2.2.1 a2.2.2.1).bind λv13 =>
 ((jl_ v12 a2.2.2.2.2 v13).bind λv14 =>
 (cond (v14.2.1==0)
 (some (v14.1,()))
 (some (false,())))))))))))
theorem x_79:av_ cx_79 an_79 79 [ao_,.int,oq_] [.bool]=λx=>le_ x.1 x.2.1 x.2.2.1:=by kernel_rfl
noncomputable def c_79:Con prog:=aw_ _ _ 79 [ao_,.int,oq_] [.bool] _ x_79
def an_84:An:=.z
def at_84:FuncId→An:=λk=>.z
noncomputable def cs_84:List (Con prog):=[c_133,by7,by6]
noncomputable def cl_84:List (Cpy prog):=[am3]
noncomputable def cx_84:Cx prog:=cxI at_84 (λk=>Nat.beq k 86||Nat.beq k 133||Nat.beq k 146||Nat.beq k 147||false) (cxC cs_84 cl_84) 2
noncomputable def ee_ (a0:af_) (a1:ai_) (a2:(List be_)):Option (Bool×Int×Unit) :=
 ((bz_ a0 a1).bind λv0 =>
 (cond (v0.1 != 0)
 (some (false,(v0.1,())))
 ((ds_ a0 a2).bind λv1 =>
 (cond (!v1.1)
 (some (false,(25,())))
 ((push? (α:=Int) [] a1.1).bind λv2 =>
 ((push? (α:=Int) [] a1.2.1).bind λv3 =>
 ((push? (α:=Int) [] a1.2.2).bind λv4 =>
 ((bb_ (a0,(v2,(v3,v4))) a2).bind λv5 =>
 (some (v5.1,(0,())))))))))))
theorem x_84:av_ cx_84 an_84 84 [ap_,ar_,(.list ca_)] [.bool,.int]=λx=>ee_ x.1 x.2.1 x.2.2.1:=by kernel_rfl
noncomputable def c_84:Con prog:=aw_ _ _ 84 [ap_,ar_,(.list ca_)] [.bool,.int] _ x_84
def an_90:An:=(.p .z (.p .z (.p .z (.p .z (.j0 [.o (.c (.s 9) 8) .int,.o (.c (.s 9) 9) .int,.o (.c (.s 9) 10) .int] .z .z)))))
def at_90:FuncId→An:=λk=>cond (Nat.beq k 83) (.p .z (.p (.j0 [.v 6 .bool,.o (.c (.s 0) 8) .int] .z .z) .z)) (cond (Nat.beq k 145) (.p .z (.p (.p .z (.ls [.v 4 .int] [] [.o (.c (.s 0) 8) .int] 0 (.p .z (.p .z (.p (.j0 [.v 3 .int] .z .z) .z))))) .z)) (cond (Nat.beq k 149) (.p .z (.p .z (.p .z (.p .z (.p .z (.p .z (.p .z (.p .z (.p .z (.p .z (.p (.p .z (.p (.p .z (.lp [.v 96 .int] [] [.o (.c (.s 0) 9) .int] 1 .z)) (.p (.p .z (.lp [.v 111 .int] [] [.o (.c (.s 0) 9) .int] 3 .z)) (.p .z (.lp [.v 127 .int] [] [.o (.c (.s 0) 8) .int] 5 .z))))) .z))))))))))) (cond (Nat.beq k 190) (.p .z (.p (.p .z (.ls [.v 8 .int] [] [] 0 .z)) .z)) (cond (Nat.beq k 191) (.p .z (.j0 [.v 3 .bool] .z .z)) (.z)))))
noncomputable def cs_90:List (Con prog):=[by7,by6,c_148]
noncomputable def cl_90:List (Cpy prog):=[am3]
noncomputable def cx_90:Cx prog:=cxI at_90 (λk=>Nat.beq k 86||Nat.beq k 146||Nat.beq k 147||Nat.beq k 148||false) (cxC cs_90 cl_90) 7
noncomputable def dw_ (a0:af_) (a1:ai_) (a2:ac_):Option (ai_×Int×Unit) :=
 ((bz_ a0 a1).bind λv0 =>
 (cond (v0.1 != 0)
 (some (([],([],[])),(v0.1,())))
 ((push? (α:=Int) [] a1.1).bind λv1 =>
 ((push? (α:=Int) [] a1.2.1).bind λv2 =>
 ((push? (α:=Int) [] a1.2.2).bind λv3 =>
 ((da_ (a0,(v1,(v2,v3))) a2).bind λv4 =>
 (cond (!v4.1)
 (some (([],([],[])),(29,())))
 (((cond (a2.2.1==1)
 ((at? a0.2.2.2.1 a2.2.2).bind λv5 =>
 ((at? v3 a2.1).bind λv6 =>
 ((at? v3 a2.1).bind λv7 =>
 ((at? v3 a2.1).bind λv8 =>
 ((at? v3 a2.1).bind λv9 =>
 (some (v1,(v2,((v3.set a2.1.toNat (w64 ((w64 (v5.1+v5.2.1)) - v7))),())))))))))
 (cond (a2.2.1==2)
 ((at? v2 a2.2.2).bind λv10 =>
 ((at? v2 a2.2.2).bind λv11 =>
 (some (v1,((v2.set a2.2.2.toNat (w64 ((-2) - a2.1))),(v3,()))))))
 (cond (a2.2.1==3)
 ((at? v3 a2.1).bind λv12 =>
 ((at? v3 a2.1).bind λv13 =>
 ((at? v2 a2.2.2).bind λv14 =>
 ((at? v2 a2.2.2).bind λv15 =>
 (some (v1,((v2.set a2.2.2.toNat v13),(v3,()))))))))
 (cond (a2.2.1==4)
 ((at? a0.2.2.2.2.1 a2.2.2).bind λv16 =>
 ((ag_ (ρ:=((List Int)×Unit)) (λ(v17:(Int×((List Int)×Unit))) =>
 (cond (decide (v17.1<(v16.2.2.2.2.2.2.1.length:Int)))
 ((at? v16.2.2.2.2.2.2.1 v17.1).bind λv18 =>
 ((at? v17.2.1 v18).bind λv19 =>
 ((at? v17.2.1 v18).bind λv20 =>
 (some (inl ((w64 (v17.1+1)),((v17.2.1.set v18.toNat (-1)),())))))))
 (some (inr (v17.2.1,()))))) (0,(v2,()))).bind λv21 =>
 ((ag_ (ρ:=((List Int)×Unit)) (λ(v22:(Int×((List Int)×Unit))) =>
 (cond (decide (v22.1<(v16.2.2.2.2.2.2.2.length:Int)))
 ((at? v16.2.2.2.2.2.2.2 v22.1).bind λv23 =>
 ((at? v22.2.1 v23).bind λv24 =>
 ((at? v22.2.1 v23).bind λv25 =>
 (some (inl ((w64 (v22.1+1)),((v22.2.1.set v23.toNat (w64 ((-2) - a2.1))),())))))))
 (some (inr (v22.2.1,()))))) (0,(v21.1,()))).bind λv26 =>
 ((ag_ (ρ:=((List Int)×Unit)) (λ(v27:(Int×((List Int)×Unit))) =>
 (cond (decide (v27.1<(v16.2.2.2.2.2.1.length:Int)))
 ((at? v16.2.2.2.2.2.1 v27.1).bind λv28 =>
 ((at? v27.2.1 v28.1).bind λv29 =>
 ((at? v27.2.1 v28.1).bind λv30 =>
 (some (inl ((w64 (v27.1+1)),((v27.2.1.set v28.1.toNat v28.2),())))))))
 (some (inr (v27.2.1,()))))) (0,(v1,()))).bind λv31 =>
 (some (v31.1,(v26.1,(v3,()))))))))
 (some (v1,(v2,(v3,()))))))))).bind λv32 =>
 ((((ag_ (ρ:=(((List Int)×Unit)⊕(Bool×((List Int)×Unit)))) (λ(v33:(Int×((List Int)×Unit))) =>
 (cond (decide (v33.1<101))
 ((((ag_ (ρ:=(Unit⊕(Int×Unit))) (λ(v34:(Int×Unit)) =>
 (cond (decide (v34.1<(a0.2.2.2.2.2.1.length:Int)))
 ((at? a0.2.2.2.2.2.1 v34.1).bind λv35 =>
 ((((at? v33.2.1 v35.2.1).bind λv36 =>
 ((at? v33.2.1 v35.2.1).bind λv37 =>
 (cond (v37 != v35.2.2)
 ((bb_ (a0,(v33.2.1,(v32.2.1,v32.2.2.1))) v35.1).bind λv38 =>
 (some (v38.1,())))
 (some (false,())))))).bind λv39 =>
 (cond v39.1
 (some (inr (inr (v34.1,()))))
 (some (inl ((w64 (v34.1+1)),()))))))
 (some (inr (inl ()))))) (0,())).bind λv40 =>
 (cc_ v40 (λv41=>(some ((-1),())))
 (λv42=>(some v42))))).bind λv43 =>
 (cond (decide (v43.1<0))
 (some (inr (inr ((!true),(v33.2.1,())))))
 ((at? a0.2.2.2.2.2.1 v43.1).bind λv44 =>
 ((at? a0.2.2.2.2.2.1 v43.1).bind λv45 =>
 ((at? v33.2.1 v44.2.1).bind λv46 =>
 ((at? v33.2.1 v44.2.1).bind λv47 =>
 (some (inl ((w64 (v33.1+1)),((v33.2.1.set v44.2.1.toNat v45.2.2),()))))))))))
 (some (inr (inl (v33.2.1,())))))) (0,(v32.1,()))).bind λv48 =>
 (cc_ v48 (λv49=>(some ((!false),(v49.1,()))))
 (λv50=>(some v50))))).bind λv51 =>
 (cond v51.1
 (some (([],([],[])),(27,())))
 (some ((v51.2.1,(v32.2.1,v32.2.2.1)),(0,())))))))))))))
theorem x_90:av_ cx_90 an_90 90 [ap_,ar_,an_] [ar_,.int]=λx=>dw_ x.1 x.2.1 x.2.2.1:=by kernel_rfl
noncomputable def c_90:Con prog:=aw_ _ _ 90 [ap_,ar_,an_] [ar_,.int] _ x_90
def an_152:An:=(.p .z (.p .z (.p .z (.p (.p .z (.rf [4,7] .z .z)) .z))))
def at_152:FuncId→An:=λk=>cond (Nat.beq k 226) (.p .z (.lp [.v 9 .int] [] [.y (.s 0),.b (.y (.s 0) 4) [.row an_ 59]] 0 (.p .z (.p .z (.p (.p .z (.p .z (.lp [.v 26 .int] [] [.y (.s 0),.b (.y (.s 0) 4) [.row an_ 59]] 2 (.p .z (.p .z (.p (.p .z (.p .z (.lp [.v 32 .int] [] [.y (.s 0),.b (.y (.s 0) 4) [.row an_ 59]] 4 (.p .z (.p .z (.j0 [.y (.s 0),.b (.y (.s 0) 4) [.row an_ 59]] .z .z)))))) .z)))))) .z))))) (.z)
noncomputable def cs_152:List (Con prog):=[by7,c_148]
noncomputable def cl_152:List (Cpy prog):=[am3]
noncomputable def cx_152:Cx prog:=cxI at_152 (λk=>Nat.beq k 86||Nat.beq k 146||Nat.beq k 148||false) (cxC cs_152 cl_152) 6
noncomputable def fa_ (a0:af_) (a1:ai_):Option ((List ac_)×Int×Unit) :=
 ((bz_ a0 a1).bind λv0 =>
 (cond (v0.1 != 0)
 (some ([],(v0.1,())))
 ((push? (α:=Int) [] a1.1).bind λv1 =>
 ((push? (α:=Int) [] a1.2.1).bind λv2 =>
 ((push? (α:=Int) [] a1.2.2).bind λv3 =>
 ((ag_ (ρ:=(Unit×(((List ac_)×Unit)×Unit))) (λ(v4:(Int×(Unit×(((List ac_)×Unit)×Unit)))) =>
 (cond (decide (v4.1<a0.2.2.2.2.2.2.1))
 ((ag_ (ρ:=(Unit×(((List ac_)×Unit)×Unit))) (λ(v5:(Int×(Unit×(((List ac_)×Unit)×Unit)))) =>
 (cond (decide (v5.1<(([0,(a0.2.2.2.1.length:Int),(a0.2.2.1.length:Int),(a0.2.2.1.length:Int),(a0.2.2.2.2.1.length:Int)]).length:Int)))
 ((at? [0,(a0.2.2.2.1.length:Int),(a0.2.2.1.length:Int),(a0.2.2.1.length:Int),(a0.2.2.2.2.1.length:Int)] v5.1).bind λv6 =>
 ((at? [0,(a0.2.2.2.1.length:Int),(a0.2.2.1.length:Int),(a0.2.2.1.length:Int),(a0.2.2.2.2.1.length:Int)] v5.1).bind λv7 =>
 ((ag_ (ρ:=(Unit×(((List ac_)×Unit)×Unit))) (λ(v8:(Int×(Unit×(((List ac_)×Unit)×Unit)))) =>
 (cond (decide (v8.1<v7))
 ((((da_ (a0,(v1,(v2,v3))) (v4.1,(v5.1,v8.1))).bind λv9 =>
 (cond v9.1
 ((push? (α:=ac_) v8.2.2.1.1 [(v4.1,(v5.1,v8.1))]).bind λv10 =>
 (some ((),((v10,()),()))))
 (some ((),((v8.2.2.1.1,()),())))))).bind λv11 =>
 (some (inl ((w64 (v8.1+1)),((),((v11.2.1.1,()),()))))))
 (some (inr ((),((v8.2.2.1.1,()),())))))) (0,((),((v5.2.2.1.1,()),())))).bind λv12 =>
 (some (inl ((w64 (v5.1+1)),((),((v12.2.1.1,()),()))))))))
 (some (inr ((),((v5.2.2.1.1,()),())))))) (0,((),((v4.2.2.1.1,()),())))).bind λv13 =>
 (some (inl ((w64 (v4.1+1)),((),((v13.2.1.1,()),()))))))
 (some (inr ((),((v4.2.2.1.1,()),())))))) (0,((),(([],()),())))).bind λv14 =>
 (some (v14.2.1.1,(0,())))))))))
theorem x_152:av_ cx_152 an_152 152 [ap_,ar_] [(.list an_),.int]=λx=>fa_ x.1 x.2.1:=by kernel_rfl
noncomputable def c_152:Con prog:=aw_ _ _ 152 [ap_,ar_] [(.list an_),.int] _ x_152
noncomputable abbrev pr_:Gb:=⟨Gb.ev,λc p=>cond (Nat.beq c 901810192&&eqS p "room.go:184") true (cond (Nat.beq c 197138433&&eqS p "room.go:183") true (cond (Nat.beq c 130027520&&eqS p "room.go:183") true (Gb.fz c p))),Gb.gd,Gb.gl,λc=>cond (Nat.beq c 901810192) (some ev_) (cond (Nat.beq c 197138433) (some ar_) (cond (Nat.beq c 130027520) (some ap_) (none))),Gb.rw⟩
def an_98:An:=.z
def at_98:FuncId→An:=λk=>.z
noncomputable def cs_98:List (@Con pr_ prog _):=[@cvG instGb pr_ prog _ (λ_=>rfl) (λ_=>rfl) by7,@cvG instGb pr_ prog _ (λ_=>rfl) (λ_=>rfl) by6,@cpCon pr_ prog _ am3]
noncomputable def cx_98:@Cx pr_ prog _:=@cxI pr_ prog _ at_98 (λk=>Nat.beq k 86||Nat.beq k 146||Nat.beq k 147||false) (@cxC pr_ prog _ cs_98 []) 2
noncomputable def hv_ (a0:af_) (a1:ai_):Option (Bool×Int×Unit) :=
 ((bz_ a0 a1).bind λv0 =>
 (cond (v0.1 != 0)
 (some (false,(v0.1,())))
 ((((push? (α:=Int) [] a1.1).bind λv1 =>
 (some (v1,())))).bind λv2 =>
 ((((push? (α:=Int) [] a1.2.1).bind λv3 =>
 (some (v3,())))).bind λv4 =>
 ((((push? (α:=Int) [] a1.2.2).bind λv5 =>
 (some (v5,())))).bind λv6 =>
 ((bb_ (a0,(v2.1,(v4.1,v6.1))) a0.2.2.2.2.2.2.2).bind λv7 =>
 (some (v7.1,(0,())))))))))
theorem x_98:@av_ pr_ prog _ cx_98 an_98 98 [ap_,ar_] [.bool,.int]=λx=>hv_ x.1 x.2.1:=by kernel_rfl
noncomputable def c_98:Con prog:=@cvG pr_ instGb prog _ (λ_=>rfl) (λ_=>rfl) <| @aw_ pr_ prog _ _ _ 98 [ap_,ar_] [.bool,.int] _ x_98
def an_45:An:=.z
noncomputable def cs_45:List (Con prog):=[c_31,c_91]
noncomputable def cl_45:List (Cpy prog):=[]
noncomputable def cx_45:Cx prog:=cxC cs_45 cl_45
noncomputable def fc_ (a0:ad_) (a1:aa_):Option (Int×Unit) :=
 ((fm_ a0).bind λv0 =>
 (cond (v0.1 != 0)
 (some (v0.1,()))
 ((du_ a0.1 a1.1).bind λv1 =>
 (cond (v1.1 != 0)
 (some (v1.1,()))
 (cond ((a1.2.length:Int) != (a0.2.2.2.1.length:Int))
 (some (28,()))
 (some (0,())))))))
theorem x_45:av_ cx_45 an_45 45 [ao_,aj_] [.int]=λx=>fc_ x.1 x.2.1:=by kernel_rfl
noncomputable def c_45:Con prog:=aw_ _ _ 45 [ao_,aj_] [.int] _ x_45
end
section
set_option maxRecDepth 100000
set_option maxHeartbeats 0
def an_100:An:=(.p .z (.p .z (.p .z (.p .z (.p (.p .z (.lp [.v 6 .int] [] [.b (.s 5) [.row .int 3,.keep,.keep]] 0 .z)) (.p (.p .z (.lp [.v 7 .int] [] [.b (.s 5) [.keep,.row .int 3,.keep]] 2 .z)) .z))))))
noncomputable def cs_100:List (Con prog):=[c_64,c_156]
noncomputable def cl_100:List (Cpy prog):=[]
noncomputable def cx_100:Cx prog:=cxC cs_100 cl_100
noncomputable def jh_ (a0:af_):Option (ai_×Int×Unit) :=
 ((fp_ a0).bind λv0 =>
 (cond (v0.1 != 0)
 (some (([],([],[])),(v0.1,())))
 ((mk? (α:=Int) a0.2.2.2.2.2.2.1 0).bind λv1 =>
 ((ag_ (ρ:=(((List Int)×Unit)×Unit)) (λ(v2:(Int×(((List Int)×Unit)×Unit))) =>
 (cond (decide (v2.1<(a0.2.1.length:Int)))
 ((at? a0.2.1 v2.1).bind λv3 =>
 ((push? (α:=Int) v2.2.1.1 [v3.2.2.2]).bind λv4 =>
 (some (inl ((w64 (v2.1+1)),((v4,()),()))))))
 (some (inr ((v2.2.1.1,()),()))))) (0,(([],()),()))).bind λv5 =>
 ((ag_ (ρ:=(((List Int)×Unit)×Unit)) (λ(v6:(Int×(((List Int)×Unit)×Unit))) =>
 (cond (decide (v6.1<(a0.2.2.1.length:Int)))
 ((at? a0.2.2.1 v6.1).bind λv7 =>
 ((push? (α:=Int) v6.2.1.1 [v7.2.1]).bind λv8 =>
 (some (inl ((w64 (v6.1+1)),((v8,()),()))))))
 (some (inr ((v6.2.1.1,()),()))))) (0,(([],()),()))).bind λv9 =>
 ((ib_ a0 (v5.1.1,(v9.1.1,v1))).bind λv10 =>
 (some (v10.1,(v10.2.1,())))))))))
theorem x_100:av_ cx_100 an_100 100 [ap_] [ar_,.int]=λx=>jh_ x.1:=by kernel_rfl
noncomputable def c_100:Con prog:=aw_ _ _ 100 [ap_] [ar_,.int] _ x_100
def an_158:An:=(.p .z (.p (.q [] .z .z) .z))
noncomputable def cs_158:List (Con prog):=[c_203,c_204]
noncomputable def cl_158:List (Cpy prog):=[]
noncomputable def cx_158:Cx prog:=cxC cs_158 cl_158
noncomputable def kx_ (a0:ad_) (a1:aa_) (a2:Int):Option (Bool×Unit) :=
 ((hg_ a0 a1 a2).bind λv0 =>
 ((iv_ a0 a2 v0.1).bind λv1 =>
 (some ((decide (v1.1≤a0.2.2.2.2)),()))))
theorem x_158:av_ cx_158 an_158 158 [ao_,aj_,.int] [.bool]=λx=>kx_ x.1 x.2.1 x.2.2.1:=by kernel_rfl
noncomputable def c_158:Con prog:=aw_ _ _ 158 [ao_,aj_,.int] [.bool] _ x_158
def an_39:An:=(.p .z (.p .z (.p (.j0 [.v 28 .bool] .z .z) (.p (.p .z (.ls [.v 32 .int] [] [] 0 .z)) (.p .z (.p (.p .z (.ls [.v 52 .int] [] [] 2 .z)) (.p (.p .z (.ls [.v 70 .int] [] [] 4 .z)) (.p (.p .z (.ls [.v 84 .int] [] [] 6 .z)) .z))))))))
noncomputable def cs_39:List (Con prog):=[c_76,c_77,c_78,c_79,c_80,c_81]
noncomputable def cl_39:List (Cpy prog):=[]
noncomputable def cx_39:Cx prog:=cxC cs_39 cl_39
noncomputable def gy_ (a0:ad_):Option (Int×Unit) :=
 ((fb_ a0.1).bind λv0 =>
 (cond (v0.1 != 0)
 (some (v0.1,()))
 (((cond (decide (8<(a0.2.1.length:Int)))
 (some (true,()))
 (some ((decide (16<(a0.2.2.2.1.length:Int))),())))).bind λv1 =>
 (cond v1.1
 (some (2,()))
 ((ag_ (ρ:=(Unit⊕(Int×Unit))) (λ(v2:(Int×Unit)) =>
 (cond (decide (v2.1<(a0.2.1.length:Int)))
 ((at? a0.2.1 v2.1).bind λv3 =>
 ((ei_ v3).bind λv4 =>
 (cond (v4.1 != 0)
 (some (inr (inr (v4.1,()))))
 (some (inl ((w64 (v2.1+1)),()))))))
 (some (inr (inl ()))))) (0,())).bind λv5 =>
 (cc_ v5 (λv6=>(cond ((a0.2.2.1.length:Int) != (a0.2.1.length:Int))
 (some (12,()))
 ((ag_ (ρ:=(Unit⊕(Int×Unit))) (λ(v8:(Int×Unit)) =>
 (cond (decide (v8.1<(a0.2.1.length:Int)))
 ((at? a0.2.1 v8.1).bind λv9 =>
 ((at? a0.2.2.1 v8.1).bind λv10 =>
 ((eb_ v9 v10).bind λv11 =>
 (cond (v11.1 != 0)
 (some (inr (inr (12,()))))
 (some (inl ((w64 (v8.1+1)),())))))))
 (some (inr (inl ()))))) (0,())).bind λv12 =>
 (cc_ v12 (λv13=>((ag_ (ρ:=(Unit⊕(Int×Unit))) (λ(v15:(Int×Unit)) =>
 (cond (decide (v15.1<(a0.1.2.2.2.2.1.length:Int)))
 ((at? a0.1.2.2.2.2.1 v15.1).bind λv16 =>
 (cond (decide ((a0.2.1.length:Int)≤v16.2.2.1))
 (some (inr (inr (26,()))))
 (some (inl ((w64 (v15.1+1)),())))))
 (some (inr (inl ()))))) (0,())).bind λv17 =>
 (cc_ v17 (λv18=>((ag_ (ρ:=(Unit⊕(Int×Unit))) (λ(v20:(Int×Unit)) =>
 (cond (decide (v20.1<(a0.2.2.2.1.length:Int)))
 ((at? a0.2.2.2.1 v20.1).bind λv21 =>
 ((le_ a0 v20.1 v21).bind λv22 =>
 (cond (!v22.1)
 (some (inr (inr (40,()))))
 ((ld_ a0.1 v21.2.2.2.1).bind λv23 =>
 (cond (!v23.1)
 (some (inr (inr (25,()))))
 (some (inl ((w64 (v20.1+1)),()))))))))
 (some (inr (inl ()))))) (0,())).bind λv24 =>
 (cc_ v24 (λv25=>((bp_ a0.2.2.2.2 1 100).bind λv27 =>
 (cond (!v27.1)
 (some (1,()))
 (some (0,())))))
 (λv26=>(some v26)))))
 (λv19=>(some v19)))))
 (λv14=>(some v14))))))
 (λv7=>(some v7))))))))
theorem x_39:av_ cx_39 an_39 39 [ao_] [.int]=λx=>gy_ x.1:=by kernel_rfl
noncomputable def c_39:Con prog:=aw_ _ _ 39 [ao_] [.int] _ x_39
def an_15:An:=.z
noncomputable def cs_15:List (Con prog):=[c_45]
noncomputable def cl_15:List (Cpy prog):=[]
noncomputable def cx_15:Cx prog:=cxC cs_15 cl_15
noncomputable def hi_ (a0:ad_) (a1:aa_):Option (Bool×Unit) :=
 ((fc_ a0 a1).bind λv0 =>
 (some ((v0.1==0),())))
theorem x_15:av_ cx_15 an_15 15 [ao_,aj_] [.bool]=λx=>hi_ x.1 x.2.1:=by kernel_rfl
noncomputable def c_15:Con prog:=aw_ _ _ 15 [ao_,aj_] [.bool] _ x_15
end
section
set_option maxRecDepth 100000
set_option maxHeartbeats 0
def an_52:An:=.z
noncomputable def cs_52:List (Con prog):=[c_31,c_100,c_101]
noncomputable def cl_52:List (Cpy prog):=[]
noncomputable def cx_52:Cx prog:=cxC cs_52 cl_52
noncomputable def jf_ (a0:ad_):Option (aa_×Int×Unit) :=
 ((fm_ a0).bind λv0 =>
 (cond (v0.1 != 0)
 (some ((([],([],[])),[]),(v0.1,())))
 ((jh_ a0.1).bind λv1 =>
 (cond (v1.2.1 != 0)
 (some ((([],([],[])),[]),(v1.2.1,())))
 ((mk? (α:=Bool) (a0.2.2.2.1.length:Int) false).bind λv2 =>
 ((ik_ a0 (v1.1,v2)).bind λv3 =>
 (some (v3.1,(0,())))))))))
theorem x_52:av_ cx_52 an_52 52 [ao_] [aj_,.int]=λx=>jf_ x.1:=by kernel_rfl
noncomputable def c_52:Con prog:=aw_ _ _ 52 [ao_] [aj_,.int] _ x_52
def an_104:An:=(.p .z (.p .z (.p .z (.p (.q [] .z .z) .z))))
noncomputable def cs_104:List (Con prog):=[c_105,c_158]
noncomputable def cl_104:List (Cpy prog):=[]
noncomputable def cx_104:Cx prog:=cxC cs_104 cl_104
noncomputable def gm_ (a0:ad_) (a1:aa_) (a2:ac_):Option (Bool×Unit) :=
 ((gi_ a0.1 a1.1 a2).bind λv0 =>
 (cond (!v0.2.1)
 (some (false,()))
 (cond (a2.2.1 != 4)
 (some (true,()))
 ((at? a0.1.2.2.2.2.1 a2.2.2).bind λv1 =>
 (cond (decide (v1.2.2.1<0))
 (some (true,()))
 ((at? a0.1.2.2.2.2.1 a2.2.2).bind λv2 =>
 ((kx_ a0 a1 v2.2.2.1).bind λv3 =>
 (some (v3.1,())))))))))
theorem x_104:av_ cx_104 an_104 104 [ao_,aj_,an_] [.bool]=λx=>gm_ x.1 x.2.1 x.2.2.1:=by kernel_rfl
noncomputable def c_104:Con prog:=aw_ _ _ 104 [ao_,aj_,an_] [.bool] _ x_104
def an_13:An:=.z
def at_13:FuncId→An:=λk=>cond (Nat.beq k 41) (.p .z (.lp [.v 12 .int] [] [.o (.c (.s 0) 15) .bool,.m (.c (.s 0) 16) .int .int] 0 (.p .z (.p .z (.j0 [.o (.c (.s 0) 15) .bool,.m (.c (.s 0) 16) .int .int] (.p .z (.p .z (.j0 [.v 55 .bool] .z .z))) .z))))) (.z)
noncomputable def cs_13:List (Con prog):=[c_39,c_40,c_84,c_85]
noncomputable def cl_13:List (Cpy prog):=[am3,cl7]
noncomputable def cx_13:Cx prog:=cxI at_13 (λk=>Nat.beq k 39||Nat.beq k 40||Nat.beq k 84||Nat.beq k 85||Nat.beq k 86||Nat.beq k 87||false) (cxC cs_13 cl_13) 3
noncomputable def im_ (a0:ad_):Option (aa_×Int×Unit) :=
 ((gy_ a0).bind λv0 =>
 (cond (v0.1 != 0)
 (some ((([],([],[])),[]),(v0.1,())))
 ((ij_ a0.1).bind λv1 =>
 (cond (v1.2.1 != 0)
 (some ((([],([],[])),[]),(v1.2.1,())))
 ((mk? (α:=Bool) (a0.2.2.2.1.length:Int) false).bind λv2 =>
 ((ag_ (ρ:=((List Bool)×((List ab_)×Unit))) (λ(v3:(Int×((List Bool)×((List ab_)×Unit)))) =>
 (cond (decide (v3.1<(a0.2.2.2.1.length:Int)))
 ((((at? a0.2.2.2.1 v3.1).bind λv4 =>
 ((ee_ a0.1 v1.1 v4.2.2.2.1).bind λv5 =>
 (((cond v5.1
 ((bg_ v1.1.2.2 v4.2.1).bind λv6 =>
 (cond v6.1
 ((at? v3.2.1 v3.1).bind λv7 =>
 ((at? v3.2.1 v3.1).bind λv8 =>
 (some ((!v8),()))))
 (some (false,()))))
 (some (false,())))).bind λv9 =>
 (cond v9.1
 ((at? v3.2.1 v3.1).bind λv10 =>
 ((at? v3.2.1 v3.1).bind λv11 =>
 (some ((v3.2.1.set v3.1.toNat true),((xr_ v3.2.2.1 v4.2.2.1),())))))
 (some (v3.2.1,(v3.2.2.1,())))))))).bind λv12 =>
 (some (inl ((w64 (v3.1+1)),(v12.1,(v12.2.1,()))))))
 (some (inr (v3.2.1,(v3.2.2.1,())))))) (0,(v2,([],())))).bind λv13 =>
 ((push? (α:=Int) [] v1.1.1).bind λv14 =>
 ((push? (α:=Int) [] v1.1.2.1).bind λv15 =>
 ((push? (α:=Int) [] v1.1.2.2).bind λv16 =>
 ((push? (α:=Bool) [] v13.1).bind λv17 =>
 (some (((v14,(v15,v16)),v17),(0,())))))))))))))
theorem x_13:av_ cx_13 an_13 13 [ao_] [aj_,.int]=λx=>im_ x.1:=by kernel_rfl
noncomputable def c_13:Con prog:=aw_ _ _ 13 [ao_] [aj_,.int] _ x_13
def an_88:An:=.z
noncomputable def cs_88:List (Con prog):=[c_39,by7]
noncomputable def cl_88:List (Cpy prog):=[]
noncomputable def cx_88:Cx prog:=cxC cs_88 cl_88
noncomputable def df_ (a0:ad_) (a1:aa_):Option (Int×Unit) :=
 ((gy_ a0).bind λv0 =>
 (cond (v0.1 != 0)
 (some (v0.1,()))
 ((bz_ a0.1 a1.1).bind λv1 =>
 (cond (v1.1 != 0)
 (some (v1.1,()))
 (cond ((a1.2.length:Int) != (a0.2.2.2.1.length:Int))
 (some (28,()))
 (some (0,())))))))
theorem x_88:av_ cx_88 an_88 88 [ao_,aj_] [.int]=λx=>df_ x.1 x.2.1:=by kernel_rfl
noncomputable def c_88:Con prog:=aw_ _ _ 88 [ao_,aj_] [.int] _ x_88
end
section
set_option maxRecDepth 100000
set_option maxHeartbeats 0
def an_54:An:=(.p .z (.p .z (.p .z (.p (.p .z (.lp [.r 5 an_ 59,.v 7 .int] [.r 5 an_ 59] [] 0 (.p .z (.j0 [.r 5 an_ 59] (.p (.q [] .z .z) .z) .z)))) .z))))
noncomputable def cs_54:List (Con prog):=[c_103,c_104]
noncomputable def cl_54:List (Cpy prog):=[]
noncomputable def cx_54:Cx prog:=cxC cs_54 cl_54
noncomputable def je_ (a0:ad_) (a1:aa_):Option ((List ac_)×Unit) :=
 ((eo_ a0.1 a1.1).bind λv0 =>
 ((ag_ (ρ:=((List ac_)×Unit)) (λ(v1:((List ac_)×(Int×Unit))) =>
 (cond (decide (v1.2.1<(v0.1.length:Int)))
 ((((at? v0.1 v1.2.1).bind λv2 =>
 ((gm_ a0 a1 v2).bind λv3 =>
 (cond v3.1
 ((at? v0.1 v1.2.1).bind λv4 =>
 ((push? (α:=ac_) v1.1 [v4]).bind λv5 =>
 (some (v5,()))))
 (some (v1.1,())))))).bind λv6 =>
 (some (inl (v6.1,((w64 (v1.2.1+1)),())))))
 (some (inr (v1.1,()))))) ([],(0,()))).bind λv7 =>
 (some (v7.1,()))))
theorem x_54:av_ cx_54 an_54 54 [ao_,aj_] [(.list an_)]=λx=>je_ x.1 x.2.1:=by kernel_rfl
noncomputable def c_54:Con prog:=aw_ _ _ 54 [ao_,aj_] [(.list an_)] _ x_54
def an_17:An:=(.p .z (.p .z (.p .z (.p (.j0 [.v 23 .bool,.o (.c (.s 8) 15) .bool,.m (.c (.s 8) 16) .int .int,.b (.s 8) [.keep,.keep,.keep,.keep,.keep,.keep,.keep,.keep,.keep,.keep,.keep,.keep,.val (.list .int),.val (.list .int),.val (.list .int),.keep,.keep]] .z .z) .z))))
def at_17:FuncId→An:=λk=>cond (Nat.beq k 41) (.p .z (.lp [.v 12 .int] [] [.o (.c (.s 0) 15) .bool,.m (.c (.s 0) 16) .int .int] 0 (.p .z (.p .z (.j0 [.o (.c (.s 0) 15) .bool,.m (.c (.s 0) 16) .int .int] (.p .z (.p .z (.j0 [.v 55 .bool] .z .z))) .z))))) (cond (Nat.beq k 44) (.p .z (.p (.j0 [.v 38 .bool,.m (.c (.s 0) 16) .int .int] .z .z) .z)) (cond (Nat.beq k 89) (.p .z (.p .z (.j0 [.m (.c (.s 0) 16) .int .int] (.p .z (.p (.p .z (.p .z (.j0 [.v 37 .bool] .z .z))) .z)) .z))) (cond (Nat.beq k 162) (.p .z (.p (.p .z (.lp [.r 6 .int 3,.r 7 aq_ 94,.v 13 .int] [.r 6 .int 3,.r 7 aq_ 94] [] 0 (.p .z (.p .z (.j0 [.r 6 .int 3,.r 7 aq_ 94] (.p .z (.j0 [.v 26 .bool] .z .z)) .z))))) .z)) (.z))))
noncomputable def cs_17:List (Con prog):=[c_81,c_84,c_85,c_88,c_90,c_164]
noncomputable def cl_17:List (Cpy prog):=[am3,cl7]
noncomputable def cx_17:Cx prog:=cxI at_17 (λk=>Nat.beq k 81||Nat.beq k 84||Nat.beq k 85||Nat.beq k 86||Nat.beq k 87||Nat.beq k 88||Nat.beq k 90||Nat.beq k 164||false) (cxC cs_17 cl_17) 9
noncomputable def hx_ (a0:ad_) (a1:aa_) (a2:ac_):Option (aa_×Int×Unit) :=
 ((df_ a0 a1).bind λv0 =>
 (cond (v0.1 != 0)
 (cond (v0.1 != 0)
 (some ((([],([],[])),[]),(v0.1,())))
 none)
 ((push? (α:=Bool) [] a1.2).bind λv1 =>
 (((((cond (a2.2.1==4)
 ((bp_ a2.2.2 0 (w64 ((a0.1.2.2.2.2.1.length:Int) - 1))).bind λv2 =>
 (cond v2.1
 ((at? a0.1.2.2.2.2.1 a2.2.2).bind λv3 =>
 (cond (decide (v3.2.2.1<0))
 (some ((!true),([],())))
 ((((ag_ (ρ:=((List Int)×((List ak_)×Unit))) (λ(v4:((List Int)×((List ak_)×(Int×Unit)))) =>
 (cond (decide (v4.2.2.1<(a0.2.2.2.1.length:Int)))
 ((((at? a0.2.2.2.1 v4.2.2.1).bind λv5 =>
 (((cond (v5.2.2.1==v3.2.2.1)
 ((at? v1 v4.2.2.1).bind λv6 =>
 ((at? v1 v4.2.2.1).bind λv7 =>
 (some (v7,()))))
 (some (false,())))).bind λv8 =>
 (cond v8.1
 ((push? (α:=Int) v4.1 [v4.2.2.1]).bind λv9 =>
 ((push? (α:=ak_) v4.2.1 [v5.2.2.2.2]).bind λv10 =>
 (some (v9,(v10,())))))
 (some (v4.1,(v4.2.1,()))))))).bind λv11 =>
 (some (inl (v11.1,(v11.2.1,((w64 (v4.2.2.1+1)),()))))))
 (some (inr (v4.1,(v4.2.1,())))))) ([],([],(0,())))).bind λv12 =>
 ((at? a0.2.1 v3.2.2.1).bind λv13 =>
 ((cv_ v13 v12.2.1).bind λv14 =>
 (((cond (v14.2.1==0)
 (some ((decide (v14.1≤a0.2.2.2.2)),()))
 (some (false,())))).bind λv15 =>
 (cond v15.1
 (some ((ex_ (ex_ [] v3.2.2.1 2) v3.2.2.1 1),()))
 (some ((ex_ [] v3.2.2.1 2),())))))))).bind λv16 =>
 (some ((!((cm_ 0 v16.1 v3.2.2.1)==1)),(v16.1,()))))))
 (some (false,([],())))))
 (some (false,([],()))))).bind λv17 =>
 (cond v17.1
 (some ((!false),(v1,(v17.2.1,((a1.1.1,(a1.1.2.1,(a1.1.2.2,()))),())))))
 ((dw_ a0.1 a1.1 a2).bind λv18 =>
 (cond (v18.2.1 != 0)
 (some ((!false),(v1,(v17.2.1,((a1.1.1,(a1.1.2.1,(a1.1.2.2,()))),())))))
 ((ag_ (ρ:=((List Bool)×((List ab_)×Unit))) (λ(v19:(Int×((List Bool)×((List ab_)×Unit)))) =>
 (cond (decide (v19.1<(a0.2.2.2.1.length:Int)))
 ((((at? a0.2.2.2.1 v19.1).bind λv20 =>
 ((ee_ a0.1 v18.1 v20.2.2.2.1).bind λv21 =>
 (((cond v21.1
 ((bg_ v18.1.2.2 v20.2.1).bind λv22 =>
 (cond v22.1
 ((at? v19.2.1 v19.1).bind λv23 =>
 ((at? v19.2.1 v19.1).bind λv24 =>
 (some ((!v24),()))))
 (some (false,()))))
 (some (false,())))).bind λv25 =>
 (cond v25.1
 ((at? v19.2.1 v19.1).bind λv26 =>
 ((at? v19.2.1 v19.1).bind λv27 =>
 (some ((v19.2.1.set v19.1.toNat true),((xr_ v19.2.2.1 v20.2.2.1),())))))
 (some (v19.2.1,(v19.2.2.1,())))))))).bind λv28 =>
 (some (inl ((w64 (v19.1+1)),(v28.1,(v28.2.1,()))))))
 (some (inr (v19.2.1,(v19.2.2.1,())))))) (0,(v1,(v17.2.1,())))).bind λv29 =>
 (some ((!true),(v29.1,(v29.2.1,((v18.1.1,(v18.1.2.1,(v18.1.2.2,()))),()))))))))))).bind λv30 =>
 (cond v30.1
 (some ((([],([],[])),[]),(29,())))
 ((push? (α:=Int) [] v30.2.2.2.1.1).bind λv31 =>
 ((push? (α:=Int) [] v30.2.2.2.1.2.1).bind λv32 =>
 ((push? (α:=Int) [] v30.2.2.2.1.2.2.1).bind λv33 =>
 ((push? (α:=Bool) [] v30.2.1).bind λv34 =>
 (some (((v31,(v32,v33)),v34),(0,()))))))))))))
theorem x_17:av_ cx_17 an_17 17 [ao_,aj_,an_] [aj_,.int]=λx=>hx_ x.1 x.2.1 x.2.2.1:=by kernel_rfl
noncomputable def c_17:Con prog:=aw_ _ _ 17 [ao_,aj_,an_] [aj_,.int] _ x_17
def an_94:An:=(.p .z (.p .z (.p .z (.p .z (.p .z (.p (.p .z (.lp [.r 4 an_ 59,.v 32 .int] [.r 4 an_ 59] [.m (.c (.s 6) 16) .int .int] 0 (.p .z (.p .z (.j0 [.r 4 an_ 59,.m (.c (.s 6) 16) .int .int] (.p .z (.j0 [.v 39 .bool,.m (.c (.s 6) 16) .int .int] .z .z)) .z))))) .z))))))
def at_94:FuncId→An:=λk=>cond (Nat.beq k 41) (.p .z (.lp [.v 12 .int] [] [.o (.c (.s 0) 15) .bool,.m (.c (.s 0) 16) .int .int] 0 (.p .z (.p .z (.j0 [.o (.c (.s 0) 15) .bool,.m (.c (.s 0) 16) .int .int] (.p .z (.p .z (.j0 [.v 55 .bool] .z .z))) .z))))) (cond (Nat.beq k 44) (.p .z (.p (.j0 [.v 38 .bool,.m (.c (.s 0) 16) .int .int] .z .z) .z)) (cond (Nat.beq k 89) (.p .z (.p .z (.j0 [.m (.c (.s 0) 16) .int .int] (.p .z (.p (.p .z (.p .z (.j0 [.v 37 .bool] .z .z))) .z)) .z))) (cond (Nat.beq k 153) (.p .z (.p .z (.j0 [.m (.c (.s 0) 16) .int .int,.m (.s 23) .int .int] (.j0 [.v 41 .bool] .z (.p (.p .z (.j0 [.m (.c (.s 0) 16) .int .int] .z .z)) .z)) (.p (.j0 [.v 70 .bool,.o (.s 21) .bool,.m (.s 23) .int .int,.b (.s 5) [.keep,.keep,.keep,.keep,.keep,.keep,.keep,.keep,.keep,.keep,.keep,.keep,.val (.list .int),.val (.list .int),.val (.list .int),.keep,.keep]] .z .z) .z)))) (cond (Nat.beq k 162) (.p .z (.p (.p .z (.lp [.r 6 .int 3,.r 7 aq_ 94,.v 13 .int] [.r 6 .int 3,.r 7 aq_ 94] [] 0 (.p .z (.p .z (.j0 [.r 6 .int 3,.r 7 aq_ 94] (.p .z (.j0 [.v 26 .bool] .z .z)) .z))))) .z)) (.z)))))
noncomputable def cs_94:List (Con prog):=[c_81,c_84,c_85,c_88,c_90,c_152,c_164]
noncomputable def cl_94:List (Cpy prog):=[cl7]
noncomputable def cx_94:Cx prog:=cxI at_94 (λk=>Nat.beq k 81||Nat.beq k 84||Nat.beq k 85||Nat.beq k 87||Nat.beq k 88||Nat.beq k 90||Nat.beq k 152||Nat.beq k 164||false) (cxC cs_94 cl_94) 9
noncomputable def pg_ (a0:ad_) (a1:aa_):Option ((List ac_)×Int×Unit) :=
 ((df_ a0 a1).bind λv0 =>
 (cond (v0.1 != 0)
 (cond (v0.1 != 0)
 (some ([],(v0.1,())))
 ((fa_ a0.1 a1.1).bind λv1 =>
 (cond (v1.2.1 != 0)
 (some ([],(v1.2.1,())))
 none)))
 ((push? (α:=Bool) [] a1.2).bind λv2 =>
 ((fa_ a0.1 a1.1).bind λv3 =>
 (cond (v3.2.1 != 0)
 (some ([],(v3.2.1,())))
 ((ag_ (ρ:=((List ac_)×((List ab_)×Unit))) (λ(v4:((List ac_)×(Int×((List ab_)×Unit)))) =>
 (cond (decide (v4.2.1<(v3.1.length:Int)))
 ((((at? v3.1 v4.2.1).bind λv5 =>
 ((((push? (α:=Bool) [] v2).bind λv6 =>
 (((((cond (v5.2.1==4)
 ((bp_ v5.2.2 0 (w64 ((a0.1.2.2.2.2.1.length:Int) - 1))).bind λv7 =>
 (some (v7.1,())))
 (some (false,())))).bind λv8 =>
 (cond v8.1
 ((at? a0.1.2.2.2.2.1 v5.2.2).bind λv9 =>
 (((cond (decide (v9.2.2.1<0))
 (some (v4.2.2.1,()))
 (((cond ((cm_ 0 v4.2.2.1 v9.2.2.1)==0)
 ((ag_ (ρ:=((List Int)×((List ak_)×Unit))) (λ(v10:((List Int)×((List ak_)×(Int×Unit)))) =>
 (cond (decide (v10.2.2.1<(a0.2.2.2.1.length:Int)))
 ((((at? a0.2.2.2.1 v10.2.2.1).bind λv11 =>
 (((cond (v11.2.2.1==v9.2.2.1)
 ((at? v2 v10.2.2.1).bind λv12 =>
 ((at? v2 v10.2.2.1).bind λv13 =>
 (some (v13,()))))
 (some (false,())))).bind λv14 =>
 (cond v14.1
 ((push? (α:=Int) v10.1 [v10.2.2.1]).bind λv15 =>
 ((push? (α:=ak_) v10.2.1 [v11.2.2.2.2]).bind λv16 =>
 (some (v15,(v16,())))))
 (some (v10.1,(v10.2.1,()))))))).bind λv17 =>
 (some (inl (v17.1,(v17.2.1,((w64 (v10.2.2.1+1)),()))))))
 (some (inr (v10.1,(v10.2.1,())))))) ([],([],(0,())))).bind λv18 =>
 ((at? a0.2.1 v9.2.2.1).bind λv19 =>
 ((cv_ v19 v18.2.1).bind λv20 =>
 (((cond (v20.2.1==0)
 (some ((decide (v20.1≤a0.2.2.2.2)),()))
 (some (false,())))).bind λv21 =>
 (cond v21.1
 (some ((ex_ (ex_ v4.2.2.1 v9.2.2.1 2) v9.2.2.1 1),()))
 (some ((ex_ v4.2.2.1 v9.2.2.1 2),())))))))
 (some (v4.2.2.1,())))).bind λv22 =>
 (some (v22.1,()))))).bind λv23 =>
 (some (v23.1,((ex_ [] v9.2.2.1 (cm_ 0 v23.1 v9.2.2.1)),())))))
 (some (v4.2.2.1,([],())))))).bind λv24 =>
 (((((cond (v5.2.1==4)
 ((bp_ v5.2.2 0 (w64 ((a0.1.2.2.2.2.1.length:Int) - 1))).bind λv25 =>
 (cond v25.1
 ((at? a0.1.2.2.2.2.1 v5.2.2).bind λv26 =>
 (cond (decide (v26.2.2.1<0))
 (some ((!true),(v24.2.1,())))
 (((cond ((cm_ 0 v24.2.1 v26.2.2.1)==0)
 ((ag_ (ρ:=((List Int)×((List ak_)×Unit))) (λ(v27:((List Int)×((List ak_)×(Int×Unit)))) =>
 (cond (decide (v27.2.2.1<(a0.2.2.2.1.length:Int)))
 ((((at? a0.2.2.2.1 v27.2.2.1).bind λv28 =>
 (((cond (v28.2.2.1==v26.2.2.1)
 ((at? v6 v27.2.2.1).bind λv29 =>
 ((at? v6 v27.2.2.1).bind λv30 =>
 (some (v30,()))))
 (some (false,())))).bind λv31 =>
 (cond v31.1
 ((push? (α:=Int) v27.1 [v27.2.2.1]).bind λv32 =>
 ((push? (α:=ak_) v27.2.1 [v28.2.2.2.2]).bind λv33 =>
 (some (v32,(v33,())))))
 (some (v27.1,(v27.2.1,()))))))).bind λv34 =>
 (some (inl (v34.1,(v34.2.1,((w64 (v27.2.2.1+1)),()))))))
 (some (inr (v27.1,(v27.2.1,())))))) ([],([],(0,())))).bind λv35 =>
 ((at? a0.2.1 v26.2.2.1).bind λv36 =>
 ((cv_ v36 v35.2.1).bind λv37 =>
 (((cond (v37.2.1==0)
 (some ((decide (v37.1≤a0.2.2.2.2)),()))
 (some (false,())))).bind λv38 =>
 (cond v38.1
 (some ((ex_ (ex_ v24.2.1 v26.2.2.1 2) v26.2.2.1 1),()))
 (some ((ex_ v24.2.1 v26.2.2.1 2),())))))))
 (some (v24.2.1,())))).bind λv39 =>
 (some ((!((cm_ 0 v39.1 v26.2.2.1)==1)),(v39.1,()))))))
 (some (false,(v24.2.1,())))))
 (some (false,(v24.2.1,()))))).bind λv40 =>
 (cond v40.1
 (some ((!false),(v6,(v40.2.1,((a1.1.1,(a1.1.2.1,(a1.1.2.2,()))),())))))
 ((dw_ a0.1 a1.1 v5).bind λv41 =>
 (cond (v41.2.1 != 0)
 (some ((!false),(v6,(v40.2.1,((a1.1.1,(a1.1.2.1,(a1.1.2.2,()))),())))))
 ((ag_ (ρ:=((List Bool)×((List ab_)×Unit))) (λ(v42:(Int×((List Bool)×((List ab_)×Unit)))) =>
 (cond (decide (v42.1<(a0.2.2.2.1.length:Int)))
 ((((at? a0.2.2.2.1 v42.1).bind λv43 =>
 ((ee_ a0.1 v41.1 v43.2.2.2.1).bind λv44 =>
 (((cond v44.1
 ((bg_ v41.1.2.2 v43.2.1).bind λv45 =>
 (cond v45.1
 ((at? v42.2.1 v42.1).bind λv46 =>
 ((at? v42.2.1 v42.1).bind λv47 =>
 (some ((!v47),()))))
 (some (false,()))))
 (some (false,())))).bind λv48 =>
 (cond v48.1
 ((at? v42.2.1 v42.1).bind λv49 =>
 ((at? v42.2.1 v42.1).bind λv50 =>
 (some ((v42.2.1.set v42.1.toNat true),((xr_ v42.2.2.1 v43.2.2.1),())))))
 (some (v42.2.1,(v42.2.2.1,())))))))).bind λv51 =>
 (some (inl ((w64 (v42.1+1)),(v51.1,(v51.2.1,()))))))
 (some (inr (v42.2.1,(v42.2.2.1,())))))) (0,(v6,(v40.2.1,())))).bind λv52 =>
 (some ((!true),(v52.1,(v52.2.1,((v41.1.1,(v41.1.2.1,(v41.1.2.2,()))),()))))))))))).bind λv53 =>
 (cond v53.1
 (some (false,(v24.1,())))
 (some (true,(v24.1,())))))))).bind λv54 =>
 (cond v54.1
 ((push? (α:=ac_) v4.1 [v5]).bind λv55 =>
 (some (v55,(v54.2.1,()))))
 (some (v4.1,(v54.2.1,()))))))).bind λv56 =>
 (some (inl (v56.1,((w64 (v4.2.1+1)),(v56.2.1,()))))))
 (some (inr (v4.1,(v4.2.2.1,())))))) ([],(0,([],())))).bind λv57 =>
 (some (v57.1,(0,())))))))))
theorem x_94:av_ cx_94 an_94 94 [ao_,aj_] [(.list an_),.int]=λx=>pg_ x.1 x.2.1:=by kernel_rfl
noncomputable def c_94:Con prog:=aw_ _ _ 94 [ao_,aj_] [(.list an_),.int] _ x_94
def an_14:An:=(.p .z (.p .z (.p .z (.p .z (.p (.p .z (.ls [.v 28 .int] [] [.o (.c (.s 9) 15) .bool,.m (.c (.s 9) 16) .int .int,.b (.s 6) [.val (.list .int),.val (.list .int),.val (.list .int),.val (.list .bool)],.b (.s 9) [.keep,.keep,.keep,.keep,.keep,.keep,.keep,.keep,.keep,.keep,.keep,.keep,.val (.list .int),.val (.list .int),.val (.list .int),.keep,.keep]] 0 (.p .z (.p .z (.p (.p .z (.j0 [.v 36 .bool,.o (.c (.s 9) 15) .bool,.m (.c (.s 9) 16) .int .int,.b (.s 9) [.keep,.keep,.keep,.keep,.keep,.keep,.keep,.keep,.keep,.keep,.keep,.keep,.val (.list .int),.val (.list .int),.val (.list .int),.keep,.keep]] .z .z)) .z))))) .z)))))
def at_14:FuncId→An:=λk=>cond (Nat.beq k 41) (.p .z (.lp [.v 12 .int] [] [.o (.c (.s 0) 15) .bool,.m (.c (.s 0) 16) .int .int] 0 (.p .z (.p .z (.j0 [.o (.c (.s 0) 15) .bool,.m (.c (.s 0) 16) .int .int] (.p .z (.p .z (.j0 [.v 55 .bool] .z .z))) .z))))) (cond (Nat.beq k 44) (.p .z (.p (.j0 [.v 38 .bool,.m (.c (.s 0) 16) .int .int] .z .z) .z)) (cond (Nat.beq k 89) (.p .z (.p .z (.j0 [.m (.c (.s 0) 16) .int .int] (.p .z (.p (.p .z (.p .z (.j0 [.v 37 .bool] .z .z))) .z)) .z))) (cond (Nat.beq k 162) (.p .z (.p (.p .z (.lp [.r 6 .int 3,.r 7 aq_ 94,.v 13 .int] [.r 6 .int 3,.r 7 aq_ 94] [] 0 (.p .z (.p .z (.j0 [.r 6 .int 3,.r 7 aq_ 94] (.p .z (.j0 [.v 26 .bool] .z .z)) .z))))) .z)) (.z))))
noncomputable def cs_14:List (Con prog):=[c_81,c_84,c_85,c_88,c_90,c_164]
noncomputable def cl_14:List (Cpy prog):=[am3,cl7]
noncomputable def cx_14:Cx prog:=cxI at_14 (λk=>Nat.beq k 81||Nat.beq k 84||Nat.beq k 85||Nat.beq k 86||Nat.beq k 87||Nat.beq k 88||Nat.beq k 90||Nat.beq k 164||false) (cxC cs_14 cl_14) 9
noncomputable def pf_ (a0:ad_) (a1:aa_) (a2:(List ac_)):Option (aa_×Int×Int×Unit) :=
 ((df_ a0 a1).bind λv0 =>
 (cond (v0.1 != 0)
 (cond (v0.1 != 0)
 (some ((([],([],[])),[]),(0,(v0.1,()))))
 (cond (decide (500<(a2.length:Int)))
 (some ((([],([],[])),[]),(0,(2,()))))
 none))
 ((push? (α:=Bool) [] a1.2).bind λv1 =>
 (cond (decide (500<(a2.length:Int)))
 (some ((([],([],[])),[]),(0,(2,()))))
 ((ag_ (ρ:=(((List Bool)×((List ab_)×(((List Int)×((List Int)×((List Int)×((List Bool)×Unit))))×(((List Int)×((List Int)×((List Int)×Unit)))×Unit))))⊕(aa_×(Int×(Int×Unit))))) (λ(v2:(Int×((List Bool)×((List ab_)×(((List Int)×((List Int)×((List Int)×((List Bool)×Unit))))×(((List Int)×((List Int)×((List Int)×Unit)))×Unit)))))) =>
 (cond (decide (v2.1<(a2.length:Int)))
 ((at? a2 v2.1).bind λv3 =>
 (((((cond (v3.2.1==4)
 ((bp_ v3.2.2 0 (w64 ((a0.1.2.2.2.2.1.length:Int) - 1))).bind λv4 =>
 (cond v4.1
 ((at? a0.1.2.2.2.2.1 v3.2.2).bind λv5 =>
 (cond (decide (v5.2.2.1<0))
 (some ((!true),(v2.2.2.1,())))
 (((cond ((cm_ 0 v2.2.2.1 v5.2.2.1)==0)
 ((ag_ (ρ:=((List Int)×((List ak_)×Unit))) (λ(v6:((List Int)×((List ak_)×(Int×Unit)))) =>
 (cond (decide (v6.2.2.1<(a0.2.2.2.1.length:Int)))
 ((((at? a0.2.2.2.1 v6.2.2.1).bind λv7 =>
 (((cond (v7.2.2.1==v5.2.2.1)
 ((at? v2.2.1 v6.2.2.1).bind λv8 =>
 ((at? v2.2.1 v6.2.2.1).bind λv9 =>
 (some (v9,()))))
 (some (false,())))).bind λv10 =>
 (cond v10.1
 ((push? (α:=Int) v6.1 [v6.2.2.1]).bind λv11 =>
 ((push? (α:=ak_) v6.2.1 [v7.2.2.2.2]).bind λv12 =>
 (some (v11,(v12,())))))
 (some (v6.1,(v6.2.1,()))))))).bind λv13 =>
 (some (inl (v13.1,(v13.2.1,((w64 (v6.2.2.1+1)),()))))))
 (some (inr (v6.1,(v6.2.1,())))))) ([],([],(0,())))).bind λv14 =>
 ((at? a0.2.1 v5.2.2.1).bind λv15 =>
 ((cv_ v15 v14.2.1).bind λv16 =>
 (((cond (v16.2.1==0)
 (some ((decide (v16.1≤a0.2.2.2.2)),()))
 (some (false,())))).bind λv17 =>
 (cond v17.1
 (some ((ex_ (ex_ v2.2.2.1 v5.2.2.1 2) v5.2.2.1 1),()))
 (some ((ex_ v2.2.2.1 v5.2.2.1 2),())))))))
 (some (v2.2.2.1,())))).bind λv18 =>
 (some ((!((cm_ 0 v18.1 v5.2.2.1)==1)),(v18.1,()))))))
 (some (false,(v2.2.2.1,())))))
 (some (false,(v2.2.2.1,()))))).bind λv19 =>
 (cond v19.1
 (some ((!false),(v2.2.1,(v19.2.1,((v2.2.2.2.2.1.1,(v2.2.2.2.2.1.2.1,(v2.2.2.2.2.1.2.2.1,()))),())))))
 ((dw_ a0.1 (v2.2.2.2.2.1.1,(v2.2.2.2.2.1.2.1,v2.2.2.2.2.1.2.2.1)) v3).bind λv20 =>
 (cond (v20.2.1 != 0)
 (some ((!false),(v2.2.1,(v19.2.1,((v2.2.2.2.2.1.1,(v2.2.2.2.2.1.2.1,(v2.2.2.2.2.1.2.2.1,()))),())))))
 ((ag_ (ρ:=((List Bool)×((List ab_)×Unit))) (λ(v21:(Int×((List Bool)×((List ab_)×Unit)))) =>
 (cond (decide (v21.1<(a0.2.2.2.1.length:Int)))
 ((((at? a0.2.2.2.1 v21.1).bind λv22 =>
 ((ee_ a0.1 v20.1 v22.2.2.2.1).bind λv23 =>
 (((cond v23.1
 ((bg_ v20.1.2.2 v22.2.1).bind λv24 =>
 (cond v24.1
 ((at? v21.2.1 v21.1).bind λv25 =>
 ((at? v21.2.1 v21.1).bind λv26 =>
 (some ((!v26),()))))
 (some (false,()))))
 (some (false,())))).bind λv27 =>
 (cond v27.1
 ((at? v21.2.1 v21.1).bind λv28 =>
 ((at? v21.2.1 v21.1).bind λv29 =>
 (some ((v21.2.1.set v21.1.toNat true),((xr_ v21.2.2.1 v22.2.2.1),())))))
 (some (v21.2.1,(v21.2.2.1,())))))))).bind λv30 =>
 (some (inl ((w64 (v21.1+1)),(v30.1,(v30.2.1,()))))))
 (some (inr (v21.2.1,(v21.2.2.1,())))))) (0,(v2.2.1,(v19.2.1,())))).bind λv31 =>
 (some ((!true),(v31.1,(v31.2.1,((v20.1.1,(v20.1.2.1,(v20.1.2.2,()))),()))))))))))).bind λv32 =>
 (cond v32.1
 (some (inr (inr ((([],([],[])),[]),(v2.1,(29,()))))))
 (some (inl ((w64 (v2.1+1)),(v32.2.1,(v32.2.2.1,((v2.2.2.2.1.1,(v2.2.2.2.1.2.1,(v2.2.2.2.1.2.2.1,(v2.2.2.2.1.2.2.2.1,())))),((v32.2.2.2.1.1,(v32.2.2.2.1.2.1,(v32.2.2.2.1.2.2.1,()))),()))))))))))
 (some (inr (inl (v2.2.1,(v2.2.2.1,((v2.2.2.2.1.1,(v2.2.2.2.1.2.1,(v2.2.2.2.1.2.2.1,(v2.2.2.2.1.2.2.2.1,())))),((v2.2.2.2.2.1.1,(v2.2.2.2.2.1.2.1,(v2.2.2.2.2.1.2.2.1,()))),()))))))))) (0,(v1,([],(([],([],([],([],())))),((a1.1.1,(a1.1.2.1,(a1.1.2.2,()))),())))))).bind λv33 =>
 (cc_ v33 (λv34=>((push? (α:=Int) [] v34.2.2.2.1.1).bind λv36 =>
 ((push? (α:=Int) [] v34.2.2.2.1.2.1).bind λv37 =>
 ((push? (α:=Int) [] v34.2.2.2.1.2.2.1).bind λv38 =>
 ((push? (α:=Bool) [] v34.1).bind λv39 =>
 (some (((v36,(v37,v38)),v39),(0,(0,())))))))))
 (λv35=>(some v35))))))))
theorem x_14:av_ cx_14 an_14 14 [ao_,aj_,(.list an_)] [aj_,.int,.int]=λx=>pf_ x.1 x.2.1 x.2.2.1:=by kernel_rfl
noncomputable def c_14:Con prog:=aw_ _ _ 14 [ao_,aj_,(.list an_)] [aj_,.int,.int] _ x_14
end
section
set_option maxRecDepth 100000
set_option maxHeartbeats 0
def an_22:An:=(.p .z (.p .z (.p .z (.p .z (.p .z (.p (.p .z (.ls [.v 8 .int] [] [.m (.s 7) .str .int,.b (.s 2) [.val (.list aj_),.val (.list (.list cl_))],.b (.s 6) [.row aj_ 50,.row (.list cl_) 84]] 0 (.p .z (.p (.p .z (.p .z (.p (.p .z (.ls [.r 10 cl_ 86,.v 11 .int] [.r 10 cl_ 86] [.m (.s 7) .str .int,.b (.s 2) [.val (.list aj_),.val (.list (.list cl_))],.b (.s 6) [.row aj_ 50,.keep]] 2 (.p .z (.p (.p .z (.p .z (.js [.v 13 .int,.m (.s 7) .str .int,.b (.s 2) [.val (.list aj_),.val (.list (.list cl_))],.b (.s 6) [.row aj_ 50,.keep]] .z .z))) .z)))) .z))) .z)))) .z))))))
noncomputable def cs_22:List (Con prog):=[c_52,c_53,c_54,c_55]
noncomputable def cl_22:List (Cpy prog):=[]
noncomputable def cx_22:Cx prog:=cxC cs_22 cl_22
noncomputable def ea_ (a0:ad_):Option (cf_×Int×Unit) :=
 ((jf_ a0).bind λv0 =>
 (cond (v0.2.1 != 0)
 (some (([],[]),(v0.2.1,())))
 ((hw_ v0.1).bind λv1 =>
 ((ag_ (ρ:=(((List ((List UInt8)×Int))×(((List aa_)×((List (List ae_))×Unit))×(((List aa_)×((List (List ae_))×Unit))×Unit)))⊕(cf_×(Int×Unit)))) (λ(v2:(Int×((List ((List UInt8)×Int))×(((List aa_)×((List (List ae_))×Unit))×(((List aa_)×((List (List ae_))×Unit))×Unit))))) =>
 (cond (decide (v2.1<(v2.2.2.2.1.1.length:Int)))
 ((at? v2.2.2.2.1.1 v2.1).bind λv3 =>
 ((at? v2.2.2.2.1.1 v2.1).bind λv4 =>
 ((je_ a0 v4).bind λv5 =>
 ((ag_ (ρ:=(((List ae_)×((List ((List UInt8)×Int))×(((List aa_)×((List (List ae_))×Unit))×(((List aa_)×Unit)×Unit))))⊕((Int×((List ((List UInt8)×Int))×(((List aa_)×((List (List ae_))×Unit))×(((List aa_)×((List (List ae_))×Unit))×Unit))))⊕(((List ((List UInt8)×Int))×(((List aa_)×((List (List ae_))×Unit))×(((List aa_)×((List (List ae_))×Unit))×Unit)))⊕(cf_×(Int×Unit)))))) (λ(v6:((List ae_)×(Int×((List ((List UInt8)×Int))×(((List aa_)×((List (List ae_))×Unit))×(((List aa_)×Unit)×Unit)))))) =>
 (cond (decide (v6.2.1<(v5.1.length:Int)))
 ((at? v6.2.2.2.2.1.1 v2.1).bind λv7 =>
 ((at? v6.2.2.2.2.1.1 v2.1).bind λv8 =>
 ((at? v5.1 v6.2.1).bind λv9 =>
 ((ky_ a0 v8 v9).bind λv10 =>
 ((hw_ v10.1).bind λv11 =>
 (((cond (!(yt_ v6.2.2.1 v11.1))
 (cond ((v6.2.2.2.2.1.1.length:Int)==3000)
 (some (inr (inr (inr (inr (inr (([],[]),(2,()))))))))
 ((hw_ v10.1).bind λv12 =>
 ((push? (α:=aa_) v6.2.2.2.2.1.1 [v10.1]).bind λv13 =>
 (some (inl ((v6.2.2.2.2.1.1.length:Int),((ex_ v6.2.2.1 v12.1 (v6.2.2.2.2.1.1.length:Int)),((v6.2.2.2.1.1,(v6.2.2.2.1.2.1,())),((v13,()),())))))))))
 (some (inl ((cm_ 0 v6.2.2.1 v11.1),(v6.2.2.1,((v6.2.2.2.1.1,(v6.2.2.2.1.2.1,())),((v6.2.2.2.2.1.1,()),())))))))).bind λv14 =>
 (cc_ v14 (λv15=>((at? v5.1 v6.2.1).bind λv17 =>
 ((push? (α:=ae_) v6.1 [(v17,v15.1)]).bind λv18 =>
 (some (inl (v18,((w64 (v6.2.1+1)),(v15.2.1,((v15.2.2.1.1,(v15.2.2.1.2.1,())),((v15.2.2.2.1.1,()),()))))))))))
 (λv16=>(some v16)))))))))
 (some (inr (inl (v6.1,(v6.2.2.1,((v6.2.2.2.1.1,(v6.2.2.2.1.2.1,())),((v6.2.2.2.2.1.1,()),()))))))))) ([],(0,(v2.2.1,((v2.2.2.1.1,(v2.2.2.1.2.1,())),((v2.2.2.2.1.1,()),())))))).bind λv19 =>
 (cc_ v19 (λv20=>((push? (α:=(List ae_)) v2.2.2.2.1.2.1 [v20.1]).bind λv22 =>
 (some (inl ((w64 (v2.1+1)),(v20.2.1,((v20.2.2.1.1,(v20.2.2.1.2.1,())),((v20.2.2.2.1.1,(v22,())),()))))))))
 (λv21=>(some v21)))))))
 (some (inr (inl (v2.2.1,((v2.2.2.1.1,(v2.2.2.1.2.1,())),((v2.2.2.2.1.1,(v2.2.2.2.1.2.1,())),())))))))) (0,((ex_ [] v1.1 0),(([],([],())),(([v0.1],([],())),()))))).bind λv23 =>
 (cc_ v23 (λv24=>(some ((v24.2.2.1.1,v24.2.2.1.2.1),(0,()))))
 (λv25=>(some v25)))))))
theorem x_22:av_ cx_22 an_22 22 [ao_] [hq_,.int]=λx=>ea_ x.1:=by kernel_rfl
noncomputable def c_22:Con prog:=aw_ _ _ 22 [ao_] [hq_,.int] _ x_22
def an_47:An:=(.p .z (.p .z (.p .z (.p .z (.j0 [.m (.s 26) .str .int,.b (.s 6) [.row aj_ 50,.keep,.keep]] .z (.p (.p .z (.ls [.v 7 .int] [] [.m (.s 26) .str .int,.b (.s 2) [.val (.list aj_),.val (.list (.list cl_))],.b (.s 6) [.row aj_ 50,.row (.list cl_) 84,.keep]] 0 (.p .z (.p (.p .z (.p .z (.p .z (.p (.p .z (.ls [.r 10 cl_ 86,.v 61 .int] [.r 10 cl_ 86] [.m (.s 26) .str .int,.b (.s 2) [.val (.list aj_),.val (.list (.list cl_))],.b (.s 6) [.row aj_ 50,.keep,.keep]] 2 (.p .z (.p .z (.p (.p .z (.p .z (.p .z (.j0 [.v 15 .int,.v 16 .bool,.m (.s 26) .str .int,.b (.s 6) [.row aj_ 50,.keep,.keep]] .z .z)))) .z))))) .z)))) .z)))) .z))))))
def at_47:FuncId→An:=λk=>.z
noncomputable def cs_47:List (Con prog):=[c_13,c_17,c_94,c_151]
noncomputable def cl_47:List (Cpy prog):=[]
noncomputable def cx_47:Cx prog:=cxI at_47 (λk=>Nat.beq k 13||Nat.beq k 17||Nat.beq k 94||Nat.beq k 151||false) (cxC cs_47 cl_47) 2
noncomputable def dm_ (a0:ad_):Option (cf_×Int×Unit) :=
 ((im_ a0).bind λv0 =>
 (cond (v0.2.1 != 0)
 (some (([],[]),(v0.2.1,())))
 ((((kd_ v0.1).bind λv1 =>
 (some ((ex_ [] v1.1 0),((([]++[v0.1]),()),()))))).bind λv2 =>
 ((ag_ (ρ:=(((List ((List UInt8)×Int))×(((List aa_)×((List (List ae_))×Unit))×(((List aa_)×((List (List ae_))×Unit))×Unit)))⊕(cf_×(Int×Unit)))) (λ(v3:(Int×((List ((List UInt8)×Int))×(((List aa_)×((List (List ae_))×Unit))×(((List aa_)×((List (List ae_))×Unit))×Unit))))) =>
 (cond (decide (v3.1<(v3.2.2.2.1.1.length:Int)))
 ((at? v3.2.2.2.1.1 v3.1).bind λv4 =>
 ((at? v3.2.2.2.1.1 v3.1).bind λv5 =>
 ((pg_ a0 v5).bind λv6 =>
 (cond (v6.2.1 != 0)
 (some (inr (inr (([],[]),(v6.2.1,())))))
 ((ag_ (ρ:=(((List ae_)×((List ((List UInt8)×Int))×(((List aa_)×((List (List ae_))×Unit))×(((List aa_)×Unit)×Unit))))⊕((Int×((List ((List UInt8)×Int))×(((List aa_)×((List (List ae_))×Unit))×(((List aa_)×((List (List ae_))×Unit))×Unit))))⊕(((List ((List UInt8)×Int))×(((List aa_)×((List (List ae_))×Unit))×(((List aa_)×((List (List ae_))×Unit))×Unit)))⊕(cf_×(Int×Unit)))))) (λ(v7:((List ae_)×(Int×((List ((List UInt8)×Int))×(((List aa_)×((List (List ae_))×Unit))×(((List aa_)×Unit)×Unit)))))) =>
 (cond (decide (v7.2.1<(v6.1.length:Int)))
 ((at? v6.1 v7.2.1).bind λv8 =>
 ((at? v7.2.2.2.2.1.1 v3.1).bind λv9 =>
 ((at? v7.2.2.2.2.1.1 v3.1).bind λv10 =>
 ((hx_ a0 v10 v8).bind λv11 =>
 (cond (v11.2.1 != 0)
 (some (inr (inr (inr (inr (([],[]),(v11.2.1,())))))))
 ((((kd_ v11.1).bind λv12 =>
 (cond (yt_ v7.2.2.1 v12.1)
 (some ((cm_ 0 v7.2.2.1 v12.1),(true,(v7.2.2.1,((v7.2.2.2.2.1.1,()),())))))
 (cond ((v7.2.2.2.2.1.1.length:Int)==3000)
 (some (0,(false,(v7.2.2.1,((v7.2.2.2.2.1.1,()),())))))
 ((push? (α:=aa_) v7.2.2.2.2.1.1 [v11.1]).bind λv13 =>
 (some ((v7.2.2.2.2.1.1.length:Int),(true,((ex_ v7.2.2.1 v12.1 (v7.2.2.2.2.1.1.length:Int)),((v13,()),())))))))))).bind λv14 =>
 (cond (!v14.2.1)
 (some (inr (inr (inr (inr (([],[]),(2,())))))))
 ((push? (α:=ae_) v7.1 [(v8,v14.1)]).bind λv15 =>
 (some (inl (v15,((w64 (v7.2.1+1)),(v14.2.2.1,((v7.2.2.2.1.1,(v7.2.2.2.1.2.1,())),((v14.2.2.2.1.1,()),())))))))))))))))
 (some (inr (inl (v7.1,(v7.2.2.1,((v7.2.2.2.1.1,(v7.2.2.2.1.2.1,())),((v7.2.2.2.2.1.1,()),()))))))))) ([],(0,(v3.2.1,((v3.2.2.1.1,(v3.2.2.1.2.1,())),((v3.2.2.2.1.1,()),())))))).bind λv16 =>
 (cc_ v16 (λv17=>((push? (α:=(List ae_)) v3.2.2.2.1.2.1 [v17.1]).bind λv19 =>
 (some (inl ((w64 (v3.1+1)),(v17.2.1,((v17.2.2.1.1,(v17.2.2.1.2.1,())),((v17.2.2.2.1.1,(v19,())),()))))))))
 (λv18=>(some v18))))))))
 (some (inr (inl (v3.2.1,((v3.2.2.1.1,(v3.2.2.1.2.1,())),((v3.2.2.2.1.1,(v3.2.2.2.1.2.1,())),())))))))) (0,(v2.1,(([],([],())),((v2.2.1.1,([],())),()))))).bind λv20 =>
 (cc_ v20 (λv21=>(some ((v21.2.2.1.1,v21.2.2.1.2.1),(0,()))))
 (λv22=>(some v22)))))))
theorem x_47:av_ cx_47 an_47 47 [ao_] [hq_,.int]=λx=>dm_ x.1:=by kernel_rfl
noncomputable def c_47:Con prog:=aw_ _ _ 47 [ao_] [hq_,.int] _ x_47
end
section
set_option maxRecDepth 100000
set_option maxHeartbeats 0
def an_7:An:=(.p .z (.p .z (.p (.j0 [.v 14 .bool] .z .z) (.p (.j0 [.v 61 .bool] .z .z) .z))))
noncomputable def cs_7:List (Con prog):=[c_22,c_30,c_31]
noncomputable def cl_7:List (Cpy prog):=[]
noncomputable def cx_7:Cx prog:=cxC cs_7 cl_7
noncomputable def jk_ (a0:ad_):Option (Bool×Unit) :=
 ((((kf_ a0).bind λv0 =>
 (cond v0.1
 (some (true,()))
 ((fm_ a0).bind λv1 =>
 (some ((v1.1 != 0),())))))).bind λv2 =>
 (cond v2.1
 ((kf_ a0).bind λv3 =>
 (some (v3.1,())))
 (((cond (decide (4<(a0.1.1.length:Int)))
 (some (true,()))
 (cond (decide (4<(a0.1.2.1.length:Int)))
 (some (true,()))
 (cond (decide (3<(a0.1.2.2.1.length:Int)))
 (some (true,()))
 (cond (decide (2<a0.1.2.2.2.2.2.2.1))
 (some (true,()))
 (cond (decide (6<(a0.1.2.2.2.2.1.length:Int)))
 (some (true,()))
 (cond (decide (4<(a0.1.2.2.2.2.2.1.length:Int)))
 (some (true,()))
 (cond (decide (5<(a0.2.2.2.1.length:Int)))
 (some (true,()))
 (some ((decide (3<(a0.2.1.length:Int))),())))))))))).bind λv4 =>
 (cond v4.1
 (some (true,()))
 ((ea_ a0).bind λv5 =>
 (cond (v5.2.1==2)
 (some (true,()))
 (some ((decide (200<(v5.1.1.length:Int))),()))))))))
theorem x_7:av_ cx_7 an_7 7 [ao_] [.bool]=λx=>jk_ x.1:=by kernel_rfl
noncomputable def c_7:Con prog:=aw_ _ _ 7 [ao_] [.bool] _ x_7
def an_18:An:=.z
def at_18:FuncId→An:=λk=>cond (Nat.beq k 46) (.p .z (.p (.p .z (.lp [.a 3 .int 3] [] [.b (.s 2) [.row an_ 59]] 0 (.p .z (.j0 [.o (.s 3) .int,.b (.s 2) [.row an_ 59]] (.p .z (.rf [2,3] .z .z)) .z)))) .z)) (cond (Nat.beq k 49) (.p .z (.p .z (.p .z (.p (.p .z (.lp [.r 8 .int 3,.v 33 .int] [.r 8 .int 3] [.o (.s 27) .int] 0 (.p .z (.p .z (.j0 [.r 8 .int 3,.o (.s 27) .int] (.p .z (.p .z (.j0 [.v 50 .bool] .z .z))) .z))))) (.p .z (.p (.p .z (.lp [.v 69 .int] [] [.g (.s 13) (.list .int)] 2 (.p .z (.p .z (.p (.p .z (.p .z (.lp [.v 76 .int] [] [.g (.s 13) (.list .int)] 4 (.p .z (.p .z (.j0 [.g (.s 13) (.list .int)] .z .z)))))) .z))))) (.q [(.s 13)] (.lp [.r 8 .int 3] [] [.o (.s 27) .int] 6 (.p .z (.p .z (.p .z (.p .z (.lp [.r 8 .int 3,.v 110 .int] [.r 8 .int 3] [.o (.s 27) .int] 8 (.p .z (.p .z (.j0 [.r 8 .int 3,.o (.s 27) .int] .z .z))))))))) .z))))))) (cond (Nat.beq k 150) (.p .z (.ls [.v 15 .int] [] [.o (.y (.s 0) 3) .int,.y (.s 0),.b (.y (.s 0) 2) [.row an_ 59]] 0 (.p .z (.p .z (.p (.p .z (.p (.sp 38 41) .z)) .z))))) (.z)))
noncomputable def cs_18:List (Con prog):=[c_47,c_73,c_98]
noncomputable def cl_18:List (Cpy prog):=[]
noncomputable def cx_18:Cx prog:=cxI at_18 (λk=>Nat.beq k 47||Nat.beq k 73||Nat.beq k 97||Nat.beq k 98||false) (cxR [rp_97] cs_18 cl_18) 8
noncomputable def fs_ (a0:ad_):Option ((List ac_)×Int×Unit) :=
 ((dm_ a0).bind λv0 =>
 (cond (v0.2.1 != 0)
 (cond (v0.2.1 != 0)
 (some ([],(v0.2.1,())))
 none)
 ((dz_ [(-1)] (v0.1.1.length:Int)).bind λv1 =>
 ((ag_ (ρ:=((List Int)×((List Int)×Unit))) (λ(v2:((List Int)×(Int×((List Int)×Unit)))) =>
 (cond (decide (v2.2.1<(v0.1.1.length:Int)))
 ((((at? v0.1.1 v2.2.1).bind λv3 =>
 ((hv_ a0.1 v3.1).bind λv4 =>
 (((cond (v4.2.1==0)
 (some (v4.1,()))
 (some (false,())))).bind λv5 =>
 (cond v5.1
 ((at? v2.2.2.1 v2.2.1).bind λv6 =>
 ((at? v2.2.2.1 v2.2.1).bind λv7 =>
 ((push? (α:=Int) v2.1 [v2.2.1]).bind λv8 =>
 (some (v8,((v2.2.2.1.set v2.2.1.toNat 0),()))))))
 (some (v2.1,(v2.2.2.1,())))))))).bind λv9 =>
 (some (inl (v9.1,((w64 (v2.2.1+1)),(v9.2.1,()))))))
 (some (inr (v2.1,(v2.2.2.1,())))))) ([],(0,(v1,())))).bind λv10 =>
 ((mk? (α:=(List Int)) (v0.1.1.length:Int) []).bind λv11 =>
 ((ag_ (ρ:=((List (List Int))×Unit)) (λ(v12:(Int×((List (List Int))×Unit))) =>
 (cond (decide (v12.1<(v0.1.2.length:Int)))
 ((at? v0.1.2 v12.1).bind λv13 =>
 ((ag_ (ρ:=((List (List Int))×Unit)) (λ(v14:(Int×((List (List Int))×Unit))) =>
 (cond (decide (v14.1<(v13.length:Int)))
 ((((at? v13 v14.1).bind λv15 =>
 ((at? v14.2.1 v15.2).bind λv16 =>
 ((at? v14.2.1 v15.2).bind λv17 =>
 ((push? (α:=Int) v17 [v12.1]).bind λv18 =>
 ((at? v14.2.1 v15.2).bind λv19 =>
 (cond ((v15.2==v15.2)&&true)
 ((at? v14.2.1 v15.2).bind λv20 =>
 (some ((v14.2.1.set v15.2.toNat v18),())))
 none))))))).bind λv21 =>
 (some (inl ((w64 (v14.1+1)),(v21.1,())))))
 (some (inr (v14.2.1,()))))) (0,(v12.2.1,()))).bind λv22 =>
 (some (inl ((w64 (v12.1+1)),(v22.1,()))))))
 (some (inr (v12.2.1,()))))) (0,(v11,()))).bind λv23 =>
 ((ag_ (ρ:=((List Int)×Unit)) (λ(v24:((List Int)×((List Int)×Unit))) =>
 (cond (decide (0<(v24.1.length:Int)))
 ((at? v24.1 0).bind λv25 =>
 ((at? v24.1 0).bind λv26 =>
 ((sub? v24.1 1 (v24.1.length:Int)).bind λv27 =>
 ((at? v23.1 v26).bind λv28 =>
 ((ag_ (ρ:=((List Int)×((List Int)×Unit))) (λ(v29:((List Int)×(Int×((List Int)×Unit)))) =>
 (cond (decide (v29.2.1<(v28.length:Int)))
 ((((at? v28 v29.2.1).bind λv30 =>
 ((at? v29.2.2.1 v30).bind λv31 =>
 ((at? v29.2.2.1 v30).bind λv32 =>
 (cond (decide (v32<0))
 ((at? v29.2.2.1 v26).bind λv33 =>
 ((at? v29.2.2.1 v26).bind λv34 =>
 ((at? v29.2.2.1 v30).bind λv35 =>
 ((at? v29.2.2.1 v30).bind λv36 =>
 ((push? (α:=Int) v29.1 [v30]).bind λv37 =>
 (some (v37,((v29.2.2.1.set v30.toNat (w64 (v34+1))),()))))))))
 (some (v29.1,(v29.2.2.1,())))))))).bind λv38 =>
 (some (inl (v38.1,((w64 (v29.2.1+1)),(v38.2.1,()))))))
 (some (inr (v29.1,(v29.2.2.1,())))))) (v27,(0,(v24.2.1,())))).bind λv39 =>
 (some (inl (v39.1,(v39.2.1,())))))))))
 (some (inr (v24.2.1,()))))) (v10.1,(v10.2.1,()))).bind λv40 =>
 ((at? v40.1 0).bind λv41 =>
 ((at? v40.1 0).bind λv42 =>
 (cond (decide (v42<0))
 (some ([],(50,())))
 ((ag_ (ρ:=(((List ac_)×Unit)×Unit)) (λ(v43:(Int×(((List ac_)×Unit)×Unit))) =>
 ((at? v40.1 v43.1).bind λv44 =>
 ((at? v40.1 v43.1).bind λv45 =>
 (cond (decide (0<v45))
 ((((at? v0.1.2 v43.1).bind λv46 =>
 ((ag_ (ρ:=(((List Int)×(Unit×(((List ac_)×Unit)×Unit)))⊕((List Int)×(((List ac_)×Unit)×Unit)))) (λ(v47:(Int×((List Int)×(Unit×(((List ac_)×Unit)×Unit))))) =>
 (cond (decide (v47.1<(v46.length:Int)))
 ((at? v46 v47.1).bind λv48 =>
 ((at? v40.1 v48.2).bind λv49 =>
 ((at? v40.1 v48.2).bind λv50 =>
 ((at? v40.1 v43.1).bind λv51 =>
 ((at? v40.1 v43.1).bind λv52 =>
 (cond (v50==(w64 (v52 - 1)))
 ((at? v40.1 v43.1).bind λv53 =>
 ((at? v40.1 v43.1).bind λv54 =>
 (cond (decide (0<v54))
 ((push? (α:=ac_) v47.2.2.2.1.1 [v48.1]).bind λv55 =>
 ((at? v47.2.1 0).bind λv56 =>
 (some (inr (inr ((v47.2.1.set (0:Int).toNat v48.2),((v55,()),())))))))
 (some (inl ((w64 (v47.1+1)),(v47.2.1,((),((v47.2.2.2.1.1,()),())))))))))
 (some (inl ((w64 (v47.1+1)),(v47.2.1,((),((v47.2.2.2.1.1,()),()))))))))))))
 (some (inr (inl (v47.2.1,((),((v47.2.2.2.1.1,()),())))))))) (0,([v43.1],((),((v43.2.1.1,()),()))))).bind λv57 =>
 (cc_ v57 (λv58=>(some (v58.1,((v58.2.2.1.1,()),()))))
 (λv59=>(some v59)))))).bind λv60 =>
 ((at? v60.1 0).bind λv61 =>
 (some (inl (v61,((v60.2.1.1,()),()))))))
 (some (inr ((v43.2.1.1,()),()))))))) (0,(([],()),()))).bind λv62 =>
 (some (v62.1.1,(0,()))))))))))))))
theorem x_18:av_ cx_18 an_18 18 [ao_] [(.list an_),.int]=λx=>fs_ x.1:=by kernel_rfl
noncomputable def c_18:Con prog:=aw_ _ _ 18 [ao_] [(.list an_),.int] _ x_18
def an_10:An:=(.p .z (.p .z (.p .z (.p .z (.p .z (.p .z (.p .z (.p (.p .z (.lp [.v 38 .int] [] [.m (.s 7) .int an_,.m (.s 8) .int .int] 0 (.p .z (.p .z (.p (.p .z (.p .z (.lp [.v 45 .int] [] [.m (.s 7) .int an_,.m (.s 8) .int .int] 2 (.p .z (.p .z (.j0 [.m (.s 7) .int an_,.m (.s 8) .int .int] (.p .z (.p .z (.j0 [.v 63 .bool] .z .z))) .z)))))) .z))))) (.p (.lp [.r 2 an_ 59,.v 6 .int] [.r 2 an_ 59] [] 4 .z) .z)))))))))
def at_10:FuncId→An:=λk=>cond (Nat.beq k 37) (.p .z (.lp [.v 2 .int,.v 3 .int] [] [.o (.s 0) an_] 0 .z)) (cond (Nat.beq k 49) (.p .z (.p .z (.p .z (.p (.p .z (.lp [.r 8 .int 3,.v 33 .int] [.r 8 .int 3] [.o (.s 27) .int] 0 (.p .z (.p .z (.j0 [.r 8 .int 3,.o (.s 27) .int] (.p .z (.p .z (.j0 [.v 50 .bool] .z .z))) .z))))) (.p .z (.p (.p .z (.lp [.v 69 .int] [] [.g (.s 13) (.list .int)] 2 (.p .z (.p .z (.p (.p .z (.p .z (.lp [.v 76 .int] [] [.g (.s 13) (.list .int)] 4 (.p .z (.p .z (.j0 [.g (.s 13) (.list .int)] .z .z)))))) .z))))) (.q [(.s 13)] (.lp [.r 8 .int 3] [] [.o (.s 27) .int] 6 (.p .z (.p .z (.p .z (.p .z (.lp [.r 8 .int 3,.v 110 .int] [.r 8 .int 3] [.o (.s 27) .int] 8 (.p .z (.p .z (.j0 [.r 8 .int 3,.o (.s 27) .int] .z .z))))))))) .z))))))) (.z))
noncomputable def cs_10:List (Con prog):=[c_36,c_47,c_73,c_98]
noncomputable def cl_10:List (Cpy prog):=[]
noncomputable def cx_10:Cx prog:=cxI at_10 (λk=>Nat.beq k 36||Nat.beq k 47||Nat.beq k 73||Nat.beq k 97||Nat.beq k 98||false) (cxR [rp_97] cs_10 cl_10) 4
noncomputable def lc_ (a0:ad_):Option ((List ac_)×Bool×Int×Unit) :=
 ((dm_ a0).bind λv0 =>
 (cond (v0.2.1 != 0)
 (cond (v0.2.1 != 0)
 (some ([],(false,(v0.2.1,()))))
 none)
 ((dz_ [(-1)] (v0.1.1.length:Int)).bind λv1 =>
 ((ag_ (ρ:=((List Int)×((List Int)×Unit))) (λ(v2:((List Int)×(Int×((List Int)×Unit)))) =>
 (cond (decide (v2.2.1<(v0.1.1.length:Int)))
 ((((at? v0.1.1 v2.2.1).bind λv3 =>
 ((hv_ a0.1 v3.1).bind λv4 =>
 (((cond (v4.2.1==0)
 (some (v4.1,()))
 (some (false,())))).bind λv5 =>
 (cond v5.1
 ((at? v2.2.2.1 v2.2.1).bind λv6 =>
 ((at? v2.2.2.1 v2.2.1).bind λv7 =>
 ((push? (α:=Int) v2.1 [v2.2.1]).bind λv8 =>
 (some (v8,((v2.2.2.1.set v2.2.1.toNat 0),()))))))
 (some (v2.1,(v2.2.2.1,())))))))).bind λv9 =>
 (some (inl (v9.1,((w64 (v2.2.1+1)),(v9.2.1,()))))))
 (some (inr (v2.1,(v2.2.2.1,())))))) ([],(0,(v1,())))).bind λv10 =>
 ((mk? (α:=(List Int)) (v0.1.1.length:Int) []).bind λv11 =>
 ((ag_ (ρ:=((List (List Int))×Unit)) (λ(v12:(Int×((List (List Int))×Unit))) =>
 (cond (decide (v12.1<(v0.1.2.length:Int)))
 ((at? v0.1.2 v12.1).bind λv13 =>
 ((ag_ (ρ:=((List (List Int))×Unit)) (λ(v14:(Int×((List (List Int))×Unit))) =>
 (cond (decide (v14.1<(v13.length:Int)))
 ((((at? v13 v14.1).bind λv15 =>
 ((at? v14.2.1 v15.2).bind λv16 =>
 ((at? v14.2.1 v15.2).bind λv17 =>
 ((push? (α:=Int) v17 [v12.1]).bind λv18 =>
 ((at? v14.2.1 v15.2).bind λv19 =>
 (cond ((v15.2==v15.2)&&true)
 ((at? v14.2.1 v15.2).bind λv20 =>
 (some ((v14.2.1.set v15.2.toNat v18),())))
 none))))))).bind λv21 =>
 (some (inl ((w64 (v14.1+1)),(v21.1,())))))
 (some (inr (v14.2.1,()))))) (0,(v12.2.1,()))).bind λv22 =>
 (some (inl ((w64 (v12.1+1)),(v22.1,()))))))
 (some (inr (v12.2.1,()))))) (0,(v11,()))).bind λv23 =>
 ((ag_ (ρ:=((List Int)×Unit)) (λ(v24:((List Int)×((List Int)×Unit))) =>
 (cond (decide (0<(v24.1.length:Int)))
 ((at? v24.1 0).bind λv25 =>
 ((at? v24.1 0).bind λv26 =>
 ((sub? v24.1 1 (v24.1.length:Int)).bind λv27 =>
 ((at? v23.1 v26).bind λv28 =>
 ((ag_ (ρ:=((List Int)×((List Int)×Unit))) (λ(v29:((List Int)×(Int×((List Int)×Unit)))) =>
 (cond (decide (v29.2.1<(v28.length:Int)))
 ((((at? v28 v29.2.1).bind λv30 =>
 ((at? v29.2.2.1 v30).bind λv31 =>
 ((at? v29.2.2.1 v30).bind λv32 =>
 (cond (decide (v32<0))
 ((at? v29.2.2.1 v26).bind λv33 =>
 ((at? v29.2.2.1 v26).bind λv34 =>
 ((at? v29.2.2.1 v30).bind λv35 =>
 ((at? v29.2.2.1 v30).bind λv36 =>
 ((push? (α:=Int) v29.1 [v30]).bind λv37 =>
 (some (v37,((v29.2.2.1.set v30.toNat (w64 (v34+1))),()))))))))
 (some (v29.1,(v29.2.2.1,())))))))).bind λv38 =>
 (some (inl (v38.1,((w64 (v29.2.1+1)),(v38.2.1,()))))))
 (some (inr (v29.1,(v29.2.2.1,())))))) (v27,(0,(v24.2.1,())))).bind λv39 =>
 (some (inl (v39.1,(v39.2.1,())))))))))
 (some (inr (v24.2.1,()))))) (v10.1,(v10.2.1,()))).bind λv40 =>
 ((bs_ v40.1 (-1)).bind λv41 =>
 (cond (decide (v41.1<0))
 (some ([],(false,(0,()))))
 ((ag_ (ρ:=((List (Int×ac_))×((List ab_)×Unit))) (λ(v42:(Int×((List (Int×ac_))×((List ab_)×Unit)))) =>
 (cond (decide (v42.1<(v0.1.2.length:Int)))
 ((at? v0.1.2 v42.1).bind λv43 =>
 ((ag_ (ρ:=((List (Int×ac_))×((List ab_)×Unit))) (λ(v44:(Int×((List (Int×ac_))×((List ab_)×Unit)))) =>
 (cond (decide (v44.1<(v43.length:Int)))
 ((((at? v43 v44.1).bind λv45 =>
 (((cond (!(yt_ v44.2.2.1 v45.2))
 (some ((decide (v42.1<v45.2)),()))
 (some (false,())))).bind λv46 =>
 (cond v46.1
 (some ((ex_ v44.2.1 v45.2 v45.1),((ex_ v44.2.2.1 v45.2 v42.1),())))
 (some (v44.2.1,(v44.2.2.1,()))))))).bind λv47 =>
 (some (inl ((w64 (v44.1+1)),(v47.1,(v47.2.1,()))))))
 (some (inr (v44.2.1,(v44.2.2.1,())))))) (0,(v42.2.1,(v42.2.2.1,())))).bind λv48 =>
 (some (inl ((w64 (v42.1+1)),(v48.1,(v48.2.1,())))))))
 (some (inr (v42.2.1,(v42.2.2.1,())))))) (0,([],([],())))).bind λv49 =>
 ((ag_ (ρ:=((List ac_)×Unit)) (λ(v50:((List ac_)×(Int×Unit))) =>
 (cond (decide (0<v50.2.1))
 ((push? (α:=ac_) v50.1 [(cm_ (0,(0,0)) v49.1 v50.2.1)]).bind λv51 =>
 (some (inl (v51,((cm_ 0 v49.2.1 v50.2.1),())))))
 (some (inr (v50.1,()))))) ([],(v41.1,()))).bind λv52 =>
 ((ag_ (ρ:=((List ac_)×Unit)) (λ(v53:(Int×(Int×((List ac_)×Unit)))) =>
 (cond (decide (v53.1<v53.2.1))
 ((at? v53.2.2.1 v53.2.1).bind λv54 =>
 ((at? v53.2.2.1 v53.2.1).bind λv55 =>
 ((at? v53.2.2.1 v53.1).bind λv56 =>
 ((at? v53.2.2.1 v53.1).bind λv57 =>
 ((at? v53.2.2.1 v53.1).bind λv58 =>
 ((at? v53.2.2.1 v53.1).bind λv59 =>
 ((at? (v53.2.2.1.set v53.1.toNat v55) v53.2.1).bind λv60 =>
 ((at? (v53.2.2.1.set v53.1.toNat v55) v53.2.1).bind λv61 =>
 (some (inl ((w64 (v53.1+1)),((w64 (v53.2.1 - 1)),(((v53.2.2.1.set v53.1.toNat v55).set v53.2.1.toNat v57),())))))))))))))
 (some (inr (v53.2.2.1,()))))) (0,((w64 ((v52.1.length:Int) - 1)),(v52.1,())))).bind λv62 =>
 (some (v62.1,(true,(0,()))))))))))))))))
theorem x_10:av_ cx_10 an_10 10 [ao_] [(.list an_),.bool,.int]=λx=>lc_ x.1:=by kernel_rfl
noncomputable def c_10:Con prog:=aw_ _ _ 10 [ao_] [(.list an_),.bool,.int] _ x_10
def an_11:An:=(.p .z (.p .z (.p .z (.p .z (.p .z (.p .z (.p .z (.p (.p .z (.ls [.v 10 .int] [] [.o (.s 8) (.list an_),.o (.s 9) .bool] 0 (.p .z (.p (.p .z (.p .z (.lp [.v 11 .int] [] [.o (.s 8) (.list an_),.o (.s 9) .bool] 2 (.p .z (.j0 [.o (.s 8) (.list an_),.o (.s 9) .bool] .z .z))))) .z)))) .z))))))))
noncomputable def cs_11:List (Con prog):=[c_22,c_38]
noncomputable def cl_11:List (Cpy prog):=[]
noncomputable def cx_11:Cx prog:=cxC cs_11 cl_11
noncomputable def kv_ (a0:ad_):Option ((List ac_)×Bool×Int×Unit) :=
 ((ea_ a0).bind λv0 =>
 (cond (v0.2.1 != 0)
 (some ([],(false,(v0.2.1,()))))
 ((cq_ a0 v0.1 (-1)).bind λv1 =>
 ((mk? (α:=(List ac_)) (v0.1.1.length:Int) []).bind λv2 =>
 ((mk? (α:=Bool) (v0.1.1.length:Int) false).bind λv3 =>
 ((at? v3 0).bind λv4 =>
 ((at? v3 0).bind λv5 =>
 ((ag_ (ρ:=(((List (List ac_))×((List Bool)×Unit))⊕((List ac_)×(Bool×(Int×Unit))))) (λ(v6:(Int×((List (List ac_))×((List Bool)×Unit)))) =>
 (cond (decide (v6.1<(v0.1.1.length:Int)))
 ((at? v1.1 v6.1).bind λv7 =>
 (cond (decide (v7<0))
 ((at? v6.2.1 v6.1).bind λv8 =>
 ((at? v6.2.1 v6.1).bind λv9 =>
 (some (inr (inr (v9,(true,(0,()))))))))
 ((ag_ (ρ:=((List (List ac_))×((List Bool)×Unit))) (λ(v10:(Int×((List (List ac_))×((List Bool)×Unit)))) =>
 ((at? v0.1.2 v6.1).bind λv11 =>
 (cond (decide (v10.1<(v11.length:Int)))
 ((((at? v0.1.2 v6.1).bind λv12 =>
 ((at? v12 v10.1).bind λv13 =>
 ((at? v10.2.2.1 v13.2).bind λv14 =>
 ((at? v10.2.2.1 v13.2).bind λv15 =>
 (cond (!v15)
 ((at? v10.2.2.1 v13.2).bind λv16 =>
 ((at? v10.2.2.1 v13.2).bind λv17 =>
 ((at? v10.2.1 v6.1).bind λv18 =>
 ((at? v10.2.1 v6.1).bind λv19 =>
 ((push? (α:=ac_) [] v19).bind λv20 =>
 ((push? (α:=ac_) v20 [v13.1]).bind λv21 =>
 ((at? v10.2.1 v13.2).bind λv22 =>
 ((at? v10.2.1 v13.2).bind λv23 =>
 (some ((v10.2.1.set v13.2.toNat v21),((v10.2.2.1.set v13.2.toNat true),())))))))))))
 (some (v10.2.1,(v10.2.2.1,()))))))))).bind λv24 =>
 (some (inl ((w64 (v10.1+1)),(v24.1,(v24.2.1,()))))))
 (some (inr (v10.2.1,(v10.2.2.1,()))))))) (0,(v6.2.1,(v6.2.2.1,())))).bind λv25 =>
 (some (inl ((w64 (v6.1+1)),(v25.1,(v25.2.1,()))))))))
 (some (inr (inl (v6.2.1,(v6.2.2.1,()))))))) (0,(v2,((v3.set (0:Int).toNat true),())))).bind λv26 =>
 (cc_ v26 (λv27=>(some ([],(false,(0,())))))
 (λv28=>(some v28)))))))))))
theorem x_11:av_ cx_11 an_11 11 [ao_] [(.list an_),.bool,.int]=λx=>kv_ x.1:=by kernel_rfl
noncomputable def c_11:Con prog:=aw_ _ _ 11 [ao_] [(.list an_),.bool,.int] _ x_11
end
section
set_option maxRecDepth 100000
set_option maxHeartbeats 0
def an_8:An:=.z
noncomputable def cs_8:List (Con prog):=[c_18,c_32]
noncomputable def cl_8:List (Cpy prog):=[]
noncomputable def cx_8:Cx prog:=cxC cs_8 cl_8
noncomputable def ft_  : Option (Bool×Unit) :=
 ((fs_ (([[104,97,108,108],[118,97,117,108,116]],([([98,111,120],(0,(2,0))),([100,111,111,114],(0,(2,0)))],([([107,101,121],(0,[(0,(1,false))]))],([(0,(1,[(1,(1,false))]))],([([111,112,101,110],(0,(0,([],([],([(0,1)],([],[]))))))),([116,117,114,110],(0,((-1),([0],([],([(1,1)],([0],[])))))))],([],(1,[(1,(1,false))]))))))),([(2,4)],([[3,1]],([([108,101,97,102],(0,(0,([],(2,(0,(1,(4,(0,([],false)))))))))),([98,97,99,107],(0,(0,([(0,(0,false))],(3,(1,(0,(0,(0,([],false)))))))))),([99,97,114,100],(1,((-1),([],(0,(0,(0,(0,(0,([],false))))))))))],1))))).bind λv0 =>
 (cond (v0.2.1==0)
 (cond ((v0.1.length:Int)==3)
 ((at? v0.1 0).bind λv1 =>
 (cond ((v1.1==0)&&((v1.2.1==4)&&(v1.2.2==0)))
 ((at? v0.1 1).bind λv2 =>
 (cond (v2.2.1==2)
 ((at? v0.1 2).bind λv3 =>
 (some ((v3.2.2==1),())))
 (some (false,()))))
 (some (false,()))))
 (some (false,())))
 (some (false,()))))
theorem x_8:av_ cx_8 an_8 8 [] [.bool]=λx=>ft_:=by kernel_rfl
noncomputable def c_8:Con prog:=aw_ _ _ 8 [] [.bool] _ x_8
end
section
set_option maxRecDepth 100000
set_option maxHeartbeats 0
def an_3:An:=(.p .z (.p (.j0 [.v 26 .bool] .z .z) (.p .z (.p .z (.p .z (.p (.j0 [.v 55 .bool] .z .z) (.p (.j0 [.v 61 .bool] .z .z) (.p .z (.p .z (.p (.j0 [.v 87 .bool] .z .z) (.p (.p .z (.ls [.v 17 .int] [] [.b (.s 14) [.val (.list .int),.val (.list .int),.val (.list .int),.val (.list .bool)]] 0 (.p .z (.js [.b (.s 14) [.val (.list .int),.val (.list .int),.val (.list .int),.val (.list .bool)]] (.p .z (.p .z (.p (.j0 [.v 117 .bool] .z .z) .z))) .z)))) .z)))))))))))
noncomputable def cs_3:List (Con prog):=[c_7,c_8,c_9,c_10,c_11,c_12,c_13,c_14,c_15,c_16,c_17]
noncomputable def cl_3:List (Cpy prog):=[]
noncomputable def cx_3:Cx prog:=cxC cs_3 cl_3
noncomputable def hy_ (a0:ad_) (a1:(List ac_)):Option (Bool×Unit) :=
 ((((jk_ a0).bind λv0 =>
 (cond v0.1
 (some (true,()))
 (some ((decide (30<(a1.length:Int))),()))))).bind λv1 =>
 (cond v1.1
 ((ft_).bind λv2 =>
 (some (v2.1,())))
 ((kz_ a0).bind λv3 =>
 ((lc_ v3.1).bind λv4 =>
 ((kv_ a0).bind λv5 =>
 ((((fu_ v4.1 v5.1).bind λv6 =>
 (cond (!v6.1)
 (some (true,()))
 (cond (v4.2.1 != v5.2.1)
 (some (true,()))
 (some ((v4.2.2.1 != v5.2.2.1),())))))).bind λv7 =>
 (cond v7.1
 (some (false,()))
 (((cond (v4.2.2.1 != 0)
 (some (true,()))
 (some ((!v4.2.1),())))).bind λv8 =>
 (cond v8.1
 ((ft_).bind λv9 =>
 (some (v9.1,())))
 ((im_ v3.1).bind λv10 =>
 ((pf_ v3.1 v10.1 v4.1).bind λv11 =>
 (((cond (v10.2.1 != 0)
 (some (true,()))
 (cond (v11.2.2.1 != 0)
 (some (true,()))
 ((hi_ a0 v11.1).bind λv12 =>
 (some ((!v12.1),())))))).bind λv13 =>
 (cond v13.1
 (some (false,()))
 ((ag_ (ρ:=((((List Int)×((List Int)×((List Int)×((List Bool)×Unit))))×Unit)⊕(Bool×Unit))) (λ(v14:(Int×(((List Int)×((List Int)×((List Int)×((List Bool)×Unit))))×Unit))) =>
 (cond (decide (v14.1<(a1.length:Int)))
 ((((bd_ (v14.2.1.1,(v14.2.1.2.1,v14.2.1.2.2.1)) a0.1.2.2.2.2.2.2.2).bind λv15 =>
 (cond v15.1
 (some (inr (inr (inr (false,())))))
 ((at? a1 v14.1).bind λv16 =>
 ((hx_ v3.1 ((v14.2.1.1,(v14.2.1.2.1,v14.2.1.2.2.1)),v14.2.1.2.2.2.1) v16).bind λv17 =>
 (((cond (v17.2.1==0)
 ((hi_ a0 v17.1).bind λv18 =>
 (some ((!v18.1),())))
 (some (false,())))).bind λv19 =>
 (cond v19.1
 (some (inr (inr (inr (false,())))))
 (cond (v17.2.1==0)
 (some (inl ((v17.1.1.1,(v17.1.1.2.1,(v17.1.1.2.2,(v17.1.2,())))),())))
 (some (inl ((v14.2.1.1,(v14.2.1.2.1,(v14.2.1.2.2.1,(v14.2.1.2.2.2.1,())))),()))))))))))).bind λv20 =>
 (cc_ v20 (λv21=>(some (inl ((w64 (v14.1+1)),((v21.1.1,(v21.1.2.1,(v21.1.2.2.1,(v21.1.2.2.2.1,())))),())))))
 (λv22=>(some v22))))
 (some (inr (inl ((v14.2.1.1,(v14.2.1.2.1,(v14.2.1.2.2.1,(v14.2.1.2.2.2.1,())))),())))))) (0,((v11.1.1.1,(v11.1.1.2.1,(v11.1.1.2.2,(v11.1.2,())))),()))).bind λv23 =>
 (cc_ v23 (λv24=>((bd_ (v24.1.1,(v24.1.2.1,v24.1.2.2.1)) a0.1.2.2.2.2.2.2.2).bind λv26 =>
 (cond (!v26.1)
 ((ft_).bind λv27 =>
 (some (v27.1,())))
 (some (false,())))))
 (λv25=>(some v25)))))))))))))))))
theorem x_3:av_ cx_3 an_3 3 [ao_,(.list an_)] [.bool]=λx=>hy_ x.1 x.2.1:=by kernel_rfl
noncomputable def c_3:Con prog:=aw_ _ _ 3 [ao_,(.list an_)] [.bool] _ x_3
end
end Go.Proofs.YtdibamopklkilaaGreatDoor.Rx
