/- A part of the proof: what the functions of the program compute, shown over the model. -/
import Derived.Test.YtdibamopklkilaaGreatDoorPart3
set_option linter.unusedSectionVars false
set_option linter.unusedVariables false
set_option linter.unusedSimpArgs false
namespace Go.Proofs.YtdibamopklkilaaGreatDoor.Rx
open Go Pad Rex Go.Proofs Sum
section
set_option maxRecDepth 100000
set_option maxHeartbeats 400000
def ivs (l:List Int):List Value:=l.map λn=>.int .i64 n
def an2 (m n:Nat) (a:Int):List Int:=List.replicate n a++List.replicate (m - n) 0
theorem ax1 {P:Program} {n d:Nat} {ro:Option Nat} {f:Pad.Fr} {w:World} {K:Pad.Fr→World→Prop} {ty T E B:TypeId} {pos:String} {af:Array Edge} {gd:Option (Nat×Bool)} {x y:Operand} {S:PH} {O:List HP} {g o dl dc sl sc:Nat} {ad:Addr} {cs:Array Value} {ys:List Value}
    (hd:Nat.blt d n=true) (hT:P.underlying T=some (.slice E)) (hs:(P.info? E).map (·.size)=some 1) (hx:Pad.ev f x = .slice (some ⟨g,o,none⟩) dl dc) (hy:Pad.ev f y = .slice (some ad) sl sc) (hI:Inv w S (kr_ g B cs::O))
    (hn:ys.length=Nat.min sl dl) (hsrc:∀ j v,ys[j]?=some v→w.cell? (ad.add j)=some v) (hfit:o+ys.length≤cs.size) (h1:∀ v ∈ ys,v.oneCell'=true)
    (k:∀ w',Inv w' S (kr_ g B (cs.toList.take o++ys++cs.toList.drop (o+ys.length)).toArray::O)→K (upd f d (.int .i64 (ys.length:Nat))) w') :
    OP P n ro ⟨some d,.call ⟨.builtin .copy,#[x,y],#[T,T]⟩,ty,pos,af,gd⟩ f w K:=by
  have h:=run_copy_row (P:=P) w T T ty E g o dl dc ad sl sc cs B ys hT hs hI.blk hn hsrc hfit h1
  exact ef_ hd (by simp [execOp,resolve,invoke,builtin,hx,hy,h,Result.andThen]; rfl) (k _ hI.setRow)
theorem cg2 {P:Program} {n d:Nat} {ro:Option Nat} {f:Pad.Fr} {w:World} {K:Pad.Fr→World→Prop} {ty T E:TypeId} {pos:String} {af:Array Edge} {gd:Option (Nat×Bool)} {x y:Operand} {dl dc sl sc:Nat} {ap ad:Option Addr}
    (hd:Nat.blt d n=true) (hT:P.underlying T=some (.slice E)) (hs:(P.info? E).map (·.size)=some 1) (hx:Pad.ev f x = .slice ap dl dc) (hy:Pad.ev f y = .slice ad sl sc)
    (hn:Nat.min sl dl=0) (k:K (upd f d (.int .i64 0)) w) :
    OP P n ro ⟨some d,.call ⟨.builtin .copy,#[x,y],#[T,T]⟩,ty,pos,af,gd⟩ f w K:=by
  have h:=run_copy_none (P:=P) w T T ty E ap ad dl dc sl sc hT hs hn
  exact ef_ hd (by simp [execOp,resolve,invoke,builtin,hx,hy,h,Result.andThen]; rfl) k
theorem op_make {n d:Nat} {ro:Option Nat} {f:Pad.Fr} {w:World} {K:Pad.Fr→World→Prop} {ty:TypeId} {pos:String} {af:Array Edge} {gd:Option (Nat×Bool)} {x y:Operand} {S:PH} {O:List HP} {m:Nat}
    (hd:Nat.blt d n=true) (hx:Pad.ev f x = .int .i64 m) (hy:Pad.ev f y = .int .i64 m) (hm:m≤2147483648) (hI:Inv w S O)
    (k:∀ g w',Inv w' S (kr_ g 3 (ivs (List.replicate m 0)).toArray::O)→K (upd f d (.slice (some ⟨g,0,none⟩) m m)) w') :
    OP Tryz.prog n ro ⟨some d,.makeSlice 45 x y,ty,pos,af,gd⟩ f w K:=by
  obtain ⟨bytes,zv,⟨ei,hE⟩,hb,hr⟩:=ks_ (show qr_ Tryz.prog 3 .int=some (0:Int) by kernel_rfl)
  have hzv:zv = .int .i64 0:=lv_ (hr S)
  have hbb:(ei.bytes:Int) * (m:Int)≤281474976710656:=by
    have h1:(ei.bytes:Int)≤65536:=by rw [hE.hb]; omega
    have h2:(ei.bytes:Int) * (m:Int)≤65536 * 2147483648:=Int.mul_le_mul h1 (by omega) (by omega) (by omega)
    omega
  have h:=run_make (P:=Tryz.prog) w 45 3 ei zv Tryz.underlying45 hE.hi hE.hz .i64 .i64 m m (by omega) (m7_ _) hbb (by omega)
  have hsz:ei.size=1:=hE.hs
  have hc:madeCells zv.cells ((m:Int).toNat * ei.size)=(ivs (List.replicate m 0)).toArray:=by
    have h2:=ny_ zv.cells m
    have h3:zv.cells.size=1:=by rw [hzv]; rfl
    rw [h3] at h2
    rw [hsz,c2_]
    apply Array.toList_inj.1
    rw [h2,hzv]
    simp [Value.cells,ivs]
  rw [hc] at h
  exact ef_ hd (by rw [c2_] at h; simp [execOp,Sem.run_bind,hx,hy,h,Result.andThen]) (k _ _ (hI.alloc 3 _))
theorem cb_155:el_ Tryz.prog 155:=⟨_,Tryz.func155,rfl,by kernel_rfl⟩
theorem cc0 {m:Nat} (h:m≤2147483648):wu64 (m:Int)=(m:Int):=by
  unfold wu64 IntKind.wrap
  simp [IntKind.signed,IntKind.bits]
  omega
theorem in3:(Tryz.prog.info? 3).map (·.size)=some 1:=by kernel_rfl
theorem bt2 {m n q:Nat} {a:Int} (h:n+q≤m):(ivs (an2 m n a)).take n++ivs (List.replicate q a)++(ivs (an2 m n a)).drop (n+q)=ivs (an2 m (n+q) a):=by
  unfold ivs an2
  rw [← List.map_take,← List.map_drop,← i5_,← i5_]
  congr 1
  have h1:(List.replicate n a++List.replicate (m - n) (0:Int)).take n=List.replicate n a:=by
    rw [List.take_append_of_le_length (by simp),g6_ (by simp)]
  have h2:(List.replicate n a++List.replicate (m - n) (0:Int)).drop (n+q)=List.replicate (m - (n+q)) 0:=by
    rw [List.drop_append,List.drop_of_length_le (by simp)]
    simp
    omega
  rw [h1,h2,List.replicate_append_replicate]
theorem ivs_len (l:List Int):(ivs l).length=l.length:=by simp [ivs]
theorem ce2 {m n:Nat} {a:Int} (h:n≤m):(an2 m n a).length=m:=by simp [an2]; omega
theorem rowR_at {m n j:Nat} {a:Int} (h:j<n):(ivs (an2 m n a))[j]?=some (.int .i64 a):=by
  unfold ivs an2
  rw [d8_,b4_ (by simpa using h),j6_,if_pos h]
  rfl
theorem ivs_one {l:List Int}:∀ v ∈ ivs l,v.oneCell'=true:=by
  intro v hv
  obtain ⟨n,_,rfl⟩:=d9_.1 hv
  rfl
theorem sl_l {f:Pad.Fr} {w:World} {d m n g:Nat} {x y:Operand} {ty:TypeId} {pos:String} {af:Array Edge} {gd:Option (Nat×Bool)} (hx:Pad.ev f x = .slice (some ⟨g,0,none⟩) m m) (hy:Pad.ev f y = .int .i64 n) (h:n<m) :
    (execOp (Pad.ev f) ⟨some d,.slice 45 x (some y) none none,ty,pos,af,gd⟩).run Tryz.prog w = .ok (.value (.slice (some ⟨g,n,none⟩) (m - n) (m - n))) w:=by
  have:=cn7 (P:=Tryz.prog) (w:=w) (T:=45) (E:=3) (a:=some ⟨g,0,none⟩) (len:=m) (cap:=m) (lo:=(n:Int)) Tryz.underlying45 sh3' (by omega) (by omega)
  have hne:¬ m=n:=by omega
  have e:(⟨g,0,none⟩:Addr).add (n * 1)=⟨g,n,none⟩:=by rw [Nat.mul_one,ga_,b0_]
  simp only [sliced,hne,i0_,g3_,c2_,e] at this
  simp [execOp,hx,hy,this,Result.andThen]
theorem sl_h {f:Pad.Fr} {w:World} {d m n g:Nat} {x y:Operand} {ty:TypeId} {pos:String} {af:Array Edge} {gd:Option (Nat×Bool)} (hx:Pad.ev f x = .slice (some ⟨g,0,none⟩) m m) (hy:Pad.ev f y = .int .i64 n) (h:n<m) :
    (execOp (Pad.ev f) ⟨some d,.slice 45 x none (some y) none,ty,pos,af,gd⟩).run Tryz.prog w = .ok (.value (.slice (some ⟨g,0,none⟩) n m)) w:=by
  have:=cn8 (P:=Tryz.prog) (w:=w) (T:=45) (E:=3) (a:=some ⟨g,0,none⟩) (len:=m) (cap:=m) (hi:=(n:Int)) Tryz.underlying45 sh3' (by omega) (by omega)
  have hne:¬ m=0:=by omega
  simp [sliced,hne,Addr.add] at this
  simp [execOp,hx,hy,this,Result.andThen]
theorem op_uI {n d:Nat} {ro:Option Nat} {f:Pad.Fr} {w:World} {K:Pad.Fr→World→Prop} {ty:TypeId} {pos:String} {af:Array Edge} {gd:Option (Nat×Bool)} {x:Operand} {m:Nat} (hd:Nat.blt d n=true) (hx:Pad.ev f x = .int .u64 (m:Int)) (hm:m≤2147483648)
    (k:K (upd f d (.int .i64 (m:Int))) w):OP Tryz.prog n ro ⟨some d,.convert 221 3 x,ty,pos,af,gd⟩ f w K:=by
  have h64:IntKind.i64.wrap (m:Int)=m:=by rw [IntKind.wrap_i64]; omega
  exact ef_ hd (by simp [execOp,hx,convert,run_underlying Tryz.underlying221,run_underlying Tryz.underlying3,Conv.intToInt,h64]) k
theorem av9 {S:PH}:∀ (l:List Int),@RepL Int Ty.int.enc S (ivs l) l
  | []=>rfl
  | a::l=>⟨[.int .i64 a],ivs l,rfl,rfl,av9 l⟩
def RI (m g:Nat) (a:Int) (S:PH) (Fr:List HP) (k:Nat) (f:Pad.Fr) (w:World):Prop :=
  k≤m∧(0<m→0<k)∧∃ S',S.Le S'∧Inv w S' (kr_ g 3 (ivs (an2 m k a)).toArray::Fr)∧f 7 = .slice (some ⟨g,0,none⟩) m m∧f 8 = .int .i64 (k:Int)∧f.ds=[]
theorem ce6 {w:World} {S:PH} {Fr:List HP} {v:Value} {m:Nat} {a:Int} (hI:Inv w S Fr) (hr:RVt (.list .int) S v [a]) (hm:m≤2147483648) :
    Calls Tryz.prog 97 [v,.int .i64 (m:Int)].toArray w λe w'=>∃ u S',e = .returned u∧S.Le S'∧Inv w' S' (@Row Int Ty.int.enc 3 u (List.replicate m a)::Fr):=by
  obtain ⟨a0,cap0,hv2,_,hmax,hnil,hrow⟩:=@hs_ Int Ty.int.enc S v [a] hr
  obtain ⟨ad,rfl⟩:∃ ad,a0=some ad:=by
    cases a0 with
    | none=>have:=(hnil rfl).1; simp at this
    | some ad=>exact ⟨ad,rfl⟩
  refine qo_ (n:=48) Tryz.func97 rfl rfl rfl ?_
  refine bn_ (bh_ (wa_ (v:=sn) rfl rfl (ea_ ?_)))
  refine bn_ (bn_ (bh_ (wm_ (v:=.int .i64 m) rfl rfl (wo_ (ym_ (a:=(m:Int)) (b:=0) rfl rfl rfl (ea_ ?_))))))
  refine jw_ rfl (b9_ (by omega)) (mf_ ?_)
  refine bn_ (bh_ (wm_ (v:=v) rfl rfl (wo_ (ax0 rfl Tryz.underlying45 hv2 ?_))))
  refine wo_ (co1 (a:=1) rfl rfl Tryz.underlying3 Tryz.underlying221 (wm_ (v:=.int .i64 m) rfl rfl (wo_ (co1 (a:=(m:Int)) rfl rfl Tryz.underlying3 Tryz.underlying221 ?_))))
  rw [cc0 hm,show wu64 1=((1:Nat):Int) from rfl]
  refine wo_ (aw9 (vs:=[.int .u64 ((1:Nat):Int),.int .u64 (m:Int)]) rfl cb_155 rfl (args2 rfl rfl) (sh_Mul 1 m (by omega) (by omega) w) λe w2 he => ?_)
  obtain ⟨rfl,rfl⟩:=he
  rw [show (1 * m / 18446744073709551616:Nat)=0 by omega,show (1 * m % 18446744073709551616:Nat)=m by omega]
  refine ⟨_,rfl,?_⟩
  refine wm_ (v:=.tuple #[.int .u64 ((0:Nat):Int),.int .u64 (m:Int)]) rfl rfl (wo_ (yn_ (v:=.int .u64 ((0:Nat):Int)) rfl rfl rfl (wo_ (yn_ (v:=.int .u64 (m:Int)) rfl rfl rfl (wa_ (v:=.int .u64 ((0:Nat):Int)) rfl rfl (wa_ (v:=.int .u64 (m:Int)) rfl rfl (ea_ ?_)))))))
  refine bn_ (bn_ (bh_ (wm_ (v:=.int .u64 ((0:Nat):Int)) rfl rfl (wo_ (co2 (a:=((0:Nat):Int)) (b:=0) rfl rfl rfl (wm_ (v:=.bool false) rfl rfl (wk_ rfl rfl rfl (mn_ (v:=.int .u64 (m:Int)) rfl rfl (wk_ rfl rfl rfl (co2 (a:=(m:Int)) (b:=9223372036854775807) rfl rfl rfl ?_))))))))))
  have hdf:decide ((9223372036854775807:Int)<(m:Int))=false:=b9_ (by omega)
  rw [hdf]
  refine wo_ (bo7 (b:=.bool false) rfl rfl rfl rfl (ea_ (jw_ rfl rfl (mf_ ?_))))
  refine bn_ (bh_ (wm_ (v:=.int .u64 (m:Int)) rfl rfl (wo_ (op_uI (m:=m) rfl rfl hm ?_))))
  refine wo_ (op_make (m:=m) rfl rfl rfl hm hI λg w3 I3=>wa_ (v:=.slice (some ⟨g,0,none⟩) m m) rfl rfl (ea_ ?_))
  have hcell:w3.cell? ad=some (.int .i64 a):=by
    obtain ⟨es,h1,h2⟩:=hrow ad rfl 0 a rfl
    have h1:es=[.int .i64 a]:=h1
    have h3:=PH.cell_in I3.in_ (h2 0 (.int .i64 a) (by rw [h1]; rfl))
    simpa [Addr.add] using h3
  have hl3:(ivs (List.replicate m (0:Int))).length=m:=by simp [ivs]
  refine bn_ (an6 (λf w'=>∃ k,RI m g a S Fr k f w') ?_ ?_)
  · refine bh_ (wm_ (v:=.slice (some ⟨g,0,none⟩) m m) rfl rfl (wm_ (v:=v) rfl rfl ?_))
    by_cases h0:m=0
    · subst h0
      refine wo_ (cg2 (dl:=0) (dc:=0) (sl:=1) (sc:=cap0) rfl Tryz.underlying45 in3 rfl hv2 rfl (wa_ (v:=.int .i64 0) rfl rfl (ea_ ?_)))
      exact ⟨0,c6_ _,λh=>h,S,lr,I3,rfl,rfl,rfl⟩
    · refine wo_ (ax1 (g:=g) (o:=0) (dl:=m) (dc:=m) (sl:=1) (sc:=cap0) (ad:=ad) (ys:=[.int .i64 a]) rfl Tryz.underlying45 in3 rfl hv2 I3 ?_ ?_ ?_ ?_ λw4 I4=>wa_ (v:=.int .i64 1) rfl rfl (ea_ ?_))
      · show 1=Nat.min 1 m
        exact (Nat.min_eq_left (by omega)).symm
      · intro j u hj
        cases j with
        | zero =>
          obtain rfl:=a6_ hj
          simpa [Addr.add] using hcell
        | succ j=>simp at hj
      · simp [hl3]
        omega
      · intro u hu
        simp at hu
        subst hu
        rfl
      · refine ⟨1,by omega,λ_=>by omega,S,lr,?_,rfl,rfl,rfl⟩
        have:=bt2 (m:=m) (n:=0) (q:=1) (a:=a) (by omega)
        have e0:an2 m 0 a=List.replicate m 0:=by simp [an2]
        rw [e0] at this
        rw [← this]
        exact I4
  · rintro f w4 ⟨k0,hk0⟩
    refine bn_ (gf_ (ux_ (I:=λk f w'=>RI m g a S Fr k f w') (λk=>m - k) k0 hk0 ?_))
    rintro k f w5 ⟨r1,r2,S5,le5,r3,r4,r5,r6⟩
    refine bn_ (bn_ (bh_ (wm_ rfl r5 (wm_ rfl r4 (wo_ (ax0 rfl Tryz.underlying45 rfl (wo_ (ym_ rfl rfl rfl (ea_ ?_)))))))))
    by_cases hkm:k<m
    · refine ni_ rfl (len_t hkm) (mf_ ?_)
      refine gf_ (wp_draw (sps:=[spV 38 [] 0 (.int .i64 k),spV 39 [] 1 (.slice (some ⟨g,0,none⟩) m m),spV 40 [] 2 (.int .i64 k),spV 41 [1,2] 3 (.slice (some ⟨g,k,none⟩) (m - k) (m - k)),spV 42 [] 4 (.slice (some ⟨g,0,none⟩) m m),spV 43 [] 5 (.int .i64 k),
        spV 44 [4,5] 6 (.slice (some ⟨g,0,none⟩) k m),⟨some 45,[1,2,3,4,5,6],[7],λvs _=>fr0 vs 0 = .int .i64 (Nat.min k (m - k):Nat),[],[0],[1],λ_ h=>h⟩,spV 46 [0,1,2,3,4,5,6,7] 8 (.int .i64 ((k+Nat.min k (m - k):Nat):Int)),spV 8 (lrg 9) 9 (.int .i64 ((k+Nat.min k (m - k):Nat):Int))])
        (tks:=[⟨none,some 7,[],λ_=>kr_ g 3 (ivs (an2 m k a)).toArray⟩,⟨some 7,none,[],λ_=>kr_ g 3 (ivs (an2 m (k+Nat.min k (m - k)) a)).toArray⟩]) (O:=Fr) rfl (by kernel_rfl) r3
        ⟨ob_ rfl λl A K I=>mn_ rfl ((K 8 (wg_ rfl)).trans r5) (fo I),ob_ rfl λl A K I=>mn_ rfl ((K 7 (wg_ rfl)).trans r4) (fo I),ob_ rfl λl A K I=>mn_ rfl ((K 8 (wg_ rfl)).trans r5) (fo I),
          ob_ rfl λl A K I=>ef_ rfl (sl_l (A.v 0 rfl) (A.v 1 rfl) hkm) (fo I),ob_ rfl λl A K I=>mn_ rfl ((K 7 (wg_ rfl)).trans r4) (fo I),ob_ rfl λl A K I=>mn_ rfl ((K 8 (wg_ rfl)).trans r5) (fo I),
          ob_ rfl λl A K I=>ef_ rfl (sl_h (A.v 0 rfl) (A.v 1 rfl) hkm) (fo I),?_,?_,ob_ rfl λl A K I=>nr_ rfl (A.v 8 rfl) (fo I),trivial⟩ ?_)
      · intro vs f w_ U X le A K I
        have hq:Nat.min k (m - k)≤k∧k+Nat.min k (m - k)≤m:=⟨Nat.min_le_left _ _,by have:Nat.min k (m - k)≤m - k:=m4_ _ _; omega⟩
        refine pl_ rfl (ax1 (g:=g) (o:=k) (dl:=m - k) (dc:=m - k) (sl:=k) (sc:=m) (ad:=⟨g,0,none⟩) (ys:=ivs (List.replicate (Nat.min k (m - k)) a)) rfl Tryz.underlying45 in3 (A.v 2 rfl) (A.v 5 rfl) I (by simp [ivs]) ?_ ?_ ivs_one λw6 I6 => ?_)
        · intro j u hj
          have hj2:j<Nat.min k (m - k):=by
            have:=(a3_.1 hj).1
            simpa [ivs] using this
          have e:u = .int .i64 a:=by
            unfold ivs at hj
            rw [d8_,j6_,if_pos hj2] at hj
            exact (a6_ hj).symm
          rw [ga_,b0_,I.cell,e]
          have:=rowR_at (m:=m) (n:=k) (j:=j) (a:=a) (by omega)
          simpa using this
        · have:(ivs (an2 m k a)).toArray.size=m:=by simp [ivs_len,ce2 r1]
          rw [this]
          simpa [ivs] using hq.2
        · have el:(ivs (List.replicate (Nat.min k (m - k)) a)).length=Nat.min k (m - k):=by simp [ivs]
          have e:=bt2 (m:=m) (n:=k) (q:=Nat.min k (m - k)) (a:=a) hq.2
          rw [el] at I6
          refine ⟨_,U,rfl,lr,by rw [el]; rfl,?_⟩
          show Inv w6 U (kr_ g 3 (ivs (an2 m (k+Nat.min k (m - k)) a)).toArray::_)
          rw [← e]
          exact I6
      · intro vs f w_ U X le A K I
        have hq:k+Nat.min k (m - k)≤m:=by
          have:Nat.min k (m - k)≤m - k:=m4_ _ _
          omega
        have e:w64 ((k:Int)+(Nat.min k (m - k):Nat))=((k+Nat.min k (m - k):Nat):Int):=by
          rw [kt_ (by omega) (by omega)]
          rfl
        refine pl_ rfl (bo9 rfl (A.v 0 rfl) (A.v 7 rfl) ?_)
        rw [e]
        exact fo I
      · intro vs f6 w6 S6 ds6 le6 hF hK hI6
        have hq:0<Nat.min k (m - k)∧k+Nat.min k (m - k)≤m:=by
          have h1:Nat.min k (m - k)≤m - k:=m4_ _ _
          refine ⟨Nat.lt_min.2 ⟨r2 (by omega),by omega⟩,by omega⟩
        have e8:f6 8 = .int .i64 ((k+Nat.min k (m - k):Nat):Int):=hF.v 9 rfl
        have e7:f6 7 = .slice (some ⟨g,0,none⟩) m m:=(hK 7 (ci5 rfl)).trans r4
        exact ⟨k+Nat.min k (m - k),by omega,hq.2,λ_=>by omega,S6,le5.trans le6,hI6,e7,e8,ds6.trans r6⟩
    · refine jw_ rfl (b9_ (by omega)) (uf_ ?_)
      obtain rfl:k=m:=by omega
      refine bn_ (bh_ (wm_ rfl r4 (wa_ (v:=.slice (some ⟨g,0,none⟩) k k) rfl rfl (ea_ (uw_ ⟨r6,.slice (some ⟨g,0,none⟩) k k,res1 rfl rfl,_,S5,rfl,le5,?_⟩)))))
      refine Inv.shut (A:=@Row Int Ty.int.enc 3 _ (List.replicate k a)) r3 (.inr ⟨g,k,[],ivs (List.replicate k a),[],by simp,by simp [an2],av9 _,by simp,by simp only [maxLen]; omega,by simp⟩)
noncomputable def cu_ (a0:List Int) (a1:Int):Option (List Int):=match a0 with
  | [a]=>mk? a1 a
  | _=>none
noncomputable def rp_97:Rpt Tryz.prog:=⟨97,[.list .int,.int],.int,3,λx=>cu_ x.1 x.2.1,λ{w S Fr hv vs x r} hG hI ha hF=>by
  obtain ⟨l,c,u⟩:=x
  match vs,ha with
  | [v1,v2],⟨h1,h2,_⟩ =>
    have hF:cu_ l c=some r:=hF
    match l,hF,h1 with
    | [a],hF,h1 =>
      obtain ⟨c0,c1,rfl⟩:=ab0 (show mk? c a=some r from hF)
      obtain ⟨m,rfl⟩:=l4_ c0
      obtain rfl:v2 = .int .i64 (m:Int):=lv_ (S:=S) (qi_ (hv:=hv) (t:=.int) h2)
      have hr:RVt (.list .int) S v1 [a]:=qi_ (hv:=hv) h1
      rw [c2_]
      refine (ce6 hI hr (by omega)).mono λe w' he => ?_
      obtain ⟨u,S',h3,h4,h5⟩:=he
      exact ⟨u,S',h3,h4,h5⟩⟩
end
section
set_option maxRecDepth 100000
set_option maxHeartbeats 0
theorem cz_86:qr_ Tryz.prog 3 .int=some (show Int from 0):=by kernel_rfl
theorem ce_86:Rex.elemOf Tryz.prog 45=some 3:=by kernel_rfl
noncomputable def al3:Cpy Tryz.prog:=⟨86,.int,3,λhc hI h=>bb8 Tryz.func86 rfl rfl rfl ce_86 cz_86 rfl hc hI h⟩
theorem cz_87:qr_ Tryz.prog 4 .bool=some (show Bool from false):=by kernel_rfl
theorem ce_87:Rex.elemOf Tryz.prog 48=some 4:=by kernel_rfl
noncomputable def ck2:Cpy Tryz.prog:=⟨87,.bool,4,λhc hI h=>bb8 Tryz.func87 rfl rfl rfl ce_87 cz_87 rfl hc hI h⟩
end
section
set_option maxRecDepth 100000
set_option maxHeartbeats 0
def an_117:An:=.z
noncomputable def cs_117:List (Con Tryz.prog):=[]
noncomputable def cl_117:List (Cpy Tryz.prog):=[]
noncomputable def cx_117:Cx Tryz.prog:=cxC cs_117 cl_117
noncomputable def bq_ (a0:Int) (a1:Int) (a2:Int):Option (Bool×Unit) :=
 (cond (decide (a1≤a0))
 (some ((decide (a0≤a2)),()))
 (some (false,())))
theorem x_117:av_ cx_117 an_117 117 [.int,.int,.int] [.bool]=λx=>bq_ x.1 x.2.1 x.2.2.1:=by kernel_rfl
noncomputable def as7:Con Tryz.prog:=aw_ _ _ 117 [.int,.int,.int] [.bool] _ x_117
def an_207:An:=.z
noncomputable def cs_207:List (Con Tryz.prog):=[]
noncomputable def cl_207:List (Cpy Tryz.prog):=[]
noncomputable def cx_207:Cx Tryz.prog:=cxC cs_207 cl_207
noncomputable def ad5  : Option ((List (List UInt8))×Unit) :=
 (some ([[97,116],[115,116,97,116,101,115],[115,116,97,114,116],[103,111,110,101],[105,102],[108,111,99,107],[119,105,116,104],[115,101,116,115],[115,112,101,110,100,115],[98,114,105,110,103,115]],()))
theorem x_207:av_ cx_207 an_207 207 [] [(.list .str)]=λx=>ad5:=by kernel_rfl
noncomputable def c_207:Con Tryz.prog:=aw_ _ _ 207 [] [(.list .str)] _ x_207
def an_115:An:=(.p .z (.p (.p .z (.ls [.v 5 .int] [] [] 0 (.p .z (.p (.p (.q [] .z .z) .z) .z)))) .z))
noncomputable def cs_115:List (Con Tryz.prog):=[]
noncomputable def cl_115:List (Cpy Tryz.prog):=[]
noncomputable def cx_115:Cx Tryz.prog:=cxC cs_115 cl_115
noncomputable def fr_ (a0:(List (List UInt8))) (a1:Int):Option (Bool×Unit) :=
 ((ag_ (ρ:=(Unit⊕(Bool×Unit))) (λ(v0:(Int×Unit)) =>
 (cond (decide (v0.1<a1))
 ((at? a0 v0.1).bind λv1 =>
 ((at? a0 a1).bind λv2 =>
 (cond (v1==v2)
 (some (inr (inr (true,()))))
 (some (inl ((w64 (v0.1+1)),()))))))
 (some (inr (inl ()))))) (0,())).bind λv3 =>
 (ca_ v3 (λv4=>(some (false,())))
 (λv5=>(some v5))))
theorem x_115:av_ cx_115 an_115 115 [(.list .str),.int] [.bool]=λx=>fr_ x.1 x.2.1:=by kernel_rfl
noncomputable def c_115:Con Tryz.prog:=aw_ _ _ 115 [(.list .str),.int] [.bool] _ x_115
def an_167:An:=(.p .z (.p (.p .z (.ls [.v 5 .int] [] [] 0 .z)) .z))
noncomputable def cs_167:List (Con Tryz.prog):=[]
noncomputable def cl_167:List (Cpy Tryz.prog):=[]
noncomputable def cx_167:Cx Tryz.prog:=cxC cs_167 cl_167
noncomputable def mc_ (a0:(List Int)) (a1:Int):Option (Bool×Unit) :=
 ((ag_ (ρ:=(Unit⊕(Bool×Unit))) (λ(v0:(Int×Unit)) =>
 (cond (decide (v0.1<(a0.length:Int)))
 ((at? a0 v0.1).bind λv1 =>
 (cond (v1==a1)
 (some (inr (inr (true,()))))
 (some (inl ((w64 (v0.1+1)),())))))
 (some (inr (inl ()))))) (0,())).bind λv2 =>
 (ca_ v2 (λv3=>(some (false,())))
 (λv4=>(some v4))))
theorem x_167:av_ cx_167 an_167 167 [(.list .int),.int] [.bool]=λx=>mc_ x.1 x.2.1:=by kernel_rfl
noncomputable def c_167:Con Tryz.prog:=aw_ _ _ 167 [(.list .int),.int] [.bool] _ x_167
def an_120:An:=.z
noncomputable def cs_120:List (Con Tryz.prog):=[]
noncomputable def cl_120:List (Cpy Tryz.prog):=[]
noncomputable def cx_120:Cx Tryz.prog:=cxC cs_120 cl_120
noncomputable def bl_ (a0:Int) (a1:Int) (a2:Int):Option (Bool×Unit) :=
 (cond (decide (a1≤a0))
 (some ((decide (a0≤a2)),()))
 (some (false,())))
theorem x_120:av_ cx_120 an_120 120 [.int,.int,.int] [.bool]=λx=>bl_ x.1 x.2.1 x.2.2.1:=by kernel_rfl
noncomputable def c_120:Con Tryz.prog:=aw_ _ _ 120 [.int,.int,.int] [.bool] _ x_120
def an_69:An:=.z
noncomputable def cs_69:List (Con Tryz.prog):=[]
noncomputable def cl_69:List (Cpy Tryz.prog):=[]
noncomputable def cx_69:Cx Tryz.prog:=cxC cs_69 cl_69
noncomputable def im_ (a0:Int) (a1:Int) (a2:Int):Option (Bool×Unit) :=
 (cond (decide (a1≤a0))
 (some ((decide (a0≤a2)),()))
 (some (false,())))
theorem x_69:av_ cx_69 an_69 69 [.int,.int,.int] [.bool]=λx=>im_ x.1 x.2.1 x.2.2.1:=by kernel_rfl
noncomputable def c_69:Con Tryz.prog:=aw_ _ _ 69 [.int,.int,.int] [.bool] _ x_69
def an_122:An:=.z
noncomputable def cs_122:List (Con Tryz.prog):=[]
noncomputable def cl_122:List (Cpy Tryz.prog):=[]
noncomputable def cx_122:Cx Tryz.prog:=cxC cs_122 cl_122
noncomputable def ky_ (a0:ak_):Option (Bool×Unit) :=
 (cond (a0.1==0)
 (cond (a0.2.1==0)
 (cond (a0.2.2.1==0)
 (cond (a0.2.2.2.1==0)
 (cond (a0.2.2.2.2.1==0)
 (cond ((a0.2.2.2.2.2.1.length:Int)==0)
 (some ((!a0.2.2.2.2.2.2),()))
 (some (false,())))
 (some (false,())))
 (some (false,())))
 (some (false,())))
 (some (false,())))
 (some (false,())))
theorem x_122:av_ cx_122 an_122 122 [ap_] [.bool]=λx=>ky_ x.1:=by kernel_rfl
noncomputable def c_122:Con Tryz.prog:=aw_ _ _ 122 [ap_] [.bool] _ x_122
def an_232:An:=(.p .z (.p .z (.p (.p .z (.ls [.v 5 .int] [] [] 0 (.p .z (.p (.p (.q [] .z .z) .z) .z)))) .z)))
noncomputable def cs_232:List (Con Tryz.prog):=[]
noncomputable def cl_232:List (Cpy Tryz.prog):=[]
noncomputable def cx_232:Cx Tryz.prog:=cxC cs_232 cl_232
noncomputable def gq_ (a0:(List Int)) (a1:(List Int)):Option (Bool×Unit) :=
 (cond ((a0.length:Int) != (a1.length:Int))
 (some (false,()))
 ((ag_ (ρ:=(Unit⊕(Bool×Unit))) (λ(v0:(Int×Unit)) =>
 (cond (decide (v0.1<(a0.length:Int)))
 ((at? a0 v0.1).bind λv1 =>
 ((at? a1 v0.1).bind λv2 =>
 (cond (v1 != v2)
 (some (inr (inr (false,()))))
 (some (inl ((w64 (v0.1+1)),()))))))
 (some (inr (inl ()))))) (0,())).bind λv3 =>
 (ca_ v3 (λv4=>(some (true,())))
 (λv5=>(some v5)))))
theorem x_232:av_ cx_232 an_232 232 [(.list .int),(.list .int)] [.bool]=λx=>gq_ x.1 x.2.1:=by kernel_rfl
noncomputable def c_232:Con Tryz.prog:=aw_ _ _ 232 [(.list .int),(.list .int)] [.bool] _ x_232
def an_169:An:=(.p .z (.p .z (.p (.p .z (.lp [.v 5 .int,.v 6 .int] [.v 5 .int] [] 0 (.p .z (.j0 [.v 5 .int] .z .z)))) .z)))
noncomputable def cs_169:List (Con Tryz.prog):=[]
noncomputable def cl_169:List (Cpy Tryz.prog):=[]
noncomputable def cx_169:Cx Tryz.prog:=cxC cs_169 cl_169
noncomputable def ei_ (a0:(List Int)) (a1:Int):Option (Int×Unit) :=
 ((ag_ (ρ:=(Int×Unit)) (λ(v0:(Int×(Int×Unit))) =>
 (cond (decide (v0.2.1<(a0.length:Int)))
 ((((at? a0 v0.2.1).bind λv1 =>
 (cond (v1==a1)
 (some ((w64 (v0.1+1)),()))
 (some (v0.1,()))))).bind λv2 =>
 (some (inl (v2.1,((w64 (v0.2.1+1)),())))))
 (some (inr (v0.1,()))))) (0,(0,()))).bind λv3 =>
 (some (v3.1,())))
theorem x_169:av_ cx_169 an_169 169 [(.list .int),.int] [.int]=λx=>ei_ x.1 x.2.1:=by kernel_rfl
noncomputable def c_169:Con Tryz.prog:=aw_ _ _ 169 [(.list .int),.int] [.int] _ x_169
def an_16:An:=(.p .z (.p (.p .z (.ls [.v 5 .int] [] [] 0 (.p .z (.p (.p (.q [] .z .z) .z) .z)))) .z))
noncomputable def cs_16:List (Con Tryz.prog):=[]
noncomputable def cl_16:List (Cpy Tryz.prog):=[]
noncomputable def cx_16:Cx Tryz.prog:=cxC cs_16 cl_16
noncomputable def ba_ (a0:ai_) (a1:(List be_)):Option (Bool×Unit) :=
 ((ag_ (ρ:=(Unit⊕(Bool×Unit))) (λ(v0:(Int×Unit)) =>
 (cond (decide (v0.1<(a1.length:Int)))
 ((at? a1 v0.1).bind λv1 =>
 ((at? a0.1 v1.1).bind λv2 =>
 ((at? a1 v0.1).bind λv3 =>
 ((at? a1 v0.1).bind λv4 =>
 (cond ((v2==v3.2.1)==v4.2.2)
 (some (inr (inr (false,()))))
 (some (inl ((w64 (v0.1+1)),()))))))))
 (some (inr (inl ()))))) (0,())).bind λv5 =>
 (ca_ v5 (λv6=>(some (true,())))
 (λv7=>(some v7))))
theorem x_16:av_ cx_16 an_16 16 [ar_,(.list bz_)] [.bool]=λx=>ba_ x.1 x.2.1:=by kernel_rfl
noncomputable def c_16:Con Tryz.prog:=aw_ _ _ 16 [ar_,(.list bz_)] [.bool] _ x_16
def an_51:An:=.z
noncomputable def cs_51:List (Con Tryz.prog):=[]
noncomputable def cl_51:List (Cpy Tryz.prog):=[]
noncomputable def cx_51:Cx Tryz.prog:=cxC cs_51 cl_51
noncomputable def ec_ (a0:ai_):Option (ai_×Unit) :=
 ((push? (α:=Int) [] a0.1).bind λv0 =>
 ((push? (α:=Int) [] a0.2.1).bind λv1 =>
 ((push? (α:=Int) [] a0.2.2).bind λv2 =>
 (some ((v0,(v1,v2)),())))))
theorem x_51:av_ cx_51 an_51 51 [ar_] [ar_]=λx=>ec_ x.1:=by kernel_rfl
noncomputable def c_51:Con Tryz.prog:=aw_ _ _ 51 [ar_] [ar_] _ x_51
def an_102:An:=.z
noncomputable def cs_102 (f:List (Con Tryz.prog)):List (Con Tryz.prog):=f++[]
noncomputable def cl_102:List (Cpy Tryz.prog):=[]
noncomputable def cx_102 (f:List (Con Tryz.prog)):Cx Tryz.prog:=cxC (cs_102 f) cl_102
noncomputable def g_102 (cc_:Int→Option ((List UInt8)×Unit)) (a0:Int):Option ((List UInt8)×Unit) :=
 ((sub? [48,49,50,51,52,53,54,55,56,57] (Int.tmod a0 10) (w64 ((Int.tmod a0 10)+1))).bind λv0 =>
 (cond (decide (a0<10))
 (some (v0,()))
 ((cc_ (w64 (Int.tdiv a0 10))).bind λv1 =>
 ((cat? v1.1 v0).bind λv2 =>
 (some (v2,()))))))
theorem xr_102:(λ(F:Int→Option ((List UInt8)×Unit)) (h:ca7 Tryz.prog 102 [.int] [.str] (λx=>F x.1))=>av_ (cx_102 [cnv 102 [.int] [.str] _ h]) an_102 102 [.int] [.str])=λF h x=>g_102 F x.1:=by kernel_rfl
noncomputable def dq_:Nat→Int→Option ((List UInt8)×Unit)
  | 0=>λ_=>none
  | n+1=>g_102 (dq_ n)
theorem co3:∀ n,ca7 Tryz.prog 102 [.int] [.str] (λx=>dq_ n x.1)
  | 0=>λ_ _ _ h=>(by cases h)
  | n+1=>λhG hI ha h=>(aw_ _ _ 102 [.int] [.str] _ (congrFun (congrFun xr_102 (dq_ n)) (co3 n))).ok hG hI ha h
noncomputable def cc_ (a0:Int):Option ((List UInt8)×Unit):=dq_ 20 a0
noncomputable def c_102:Con Tryz.prog:=cnv 102 [.int] [.str] (λx=>cc_ x.1) (co3 20)
def an_202:An:=(.p .z (.p .z (.p (.p .z (.lp [.v 5 .int,.v 6 .int] [.v 5 .int] [] 0 (.p .z (.j0 [.v 5 .int] .z .z)))) .z)))
noncomputable def cs_202:List (Con Tryz.prog):=[]
noncomputable def cl_202:List (Cpy Tryz.prog):=[]
noncomputable def cx_202:Cx Tryz.prog:=cxC cs_202 cl_202
noncomputable def gz_ (a0:ai_) (a1:Int):Option (Int×Unit) :=
 ((ag_ (ρ:=(Int×Unit)) (λ(v0:(Int×(Int×Unit))) =>
 (cond (decide (v0.2.1<(a0.2.1.length:Int)))
 ((((at? a0.2.1 v0.2.1).bind λv1 =>
 (cond (v1==(w64 ((-2) - a1)))
 (some ((w64 (v0.1+1)),()))
 (some (v0.1,()))))).bind λv2 =>
 (some (inl (v2.1,((w64 (v0.2.1+1)),())))))
 (some (inr (v0.1,()))))) (0,(0,()))).bind λv3 =>
 (some (v3.1,())))
theorem x_202:av_ cx_202 an_202 202 [ar_,.int] [.int]=λx=>gz_ x.1 x.2.1:=by kernel_rfl
noncomputable def c_202:Con Tryz.prog:=aw_ _ _ 202 [ar_,.int] [.int] _ x_202
def an_228:An:=(.p .z (.p .z (.p (.p .z (.lp [.r 5 ap_ 94,.v 6 .int] [.r 5 ap_ 94] [] 0 .z)) .z)))
noncomputable def cs_228:List (Con Tryz.prog):=[]
noncomputable def cl_228:List (Cpy Tryz.prog):=[]
noncomputable def cx_228:Cx Tryz.prog:=cxC cs_228 cl_228
noncomputable def jg_ (a0:ac_) (a1:(List Int)):Option ((List ak_)×Unit) :=
 ((ag_ (ρ:=((List ak_)×Unit)) (λ(v0:((List ak_)×(Int×Unit))) =>
 (cond (decide (v0.2.1<(a1.length:Int)))
 ((at? a1 v0.2.1).bind λv1 =>
 ((at? a0.2.2.2.1 v1).bind λv2 =>
 ((push? (α:=ak_) v0.1 [v2.2.2.2.2]).bind λv3 =>
 (some (inl (v3,((w64 (v0.2.1+1)),())))))))
 (some (inr (v0.1,()))))) ([],(0,()))).bind λv4 =>
 (some (v4.1,())))
theorem x_228:av_ cx_228 an_228 228 [an_,(.list .int)] [(.list ap_)]=λx=>jg_ x.1 x.2.1:=by kernel_rfl
noncomputable def c_228:Con Tryz.prog:=aw_ _ _ 228 [an_,(.list .int)] [(.list ap_)] _ x_228
def an_204:An:=(.p .z (.p .z (.p (.p .z (.lp [.r 7 .int 3,.v 8 .int] [.r 7 .int 3] [] 0 (.p .z (.j0 [.r 7 .int 3] (.j0 [.v 30 .bool] .z .z) .z)))) .z)))
noncomputable def cs_204:List (Con Tryz.prog):=[]
noncomputable def cl_204:List (Cpy Tryz.prog):=[]
noncomputable def cx_204:Cx Tryz.prog:=cxC cs_204 cl_204
noncomputable def hj_ (a0:ac_) (a1:aa_) (a2:Int):Option ((List Int)×Unit) :=
 ((ag_ (ρ:=((List Int)×Unit)) (λ(v0:((List Int)×(Int×Unit))) =>
 (cond (decide (v0.2.1<(a0.2.2.2.1.length:Int)))
 ((((((at? a1.2 v0.2.1).bind λv1 =>
 (cond v1
 ((at? a0.2.2.2.1 v0.2.1).bind λv2 =>
 (some ((v2.2.2.1==a2),())))
 (some (false,()))))).bind λv3 =>
 (cond v3.1
 ((push? (α:=Int) v0.1 [v0.2.1]).bind λv4 =>
 (some (v4,())))
 (some (v0.1,()))))).bind λv5 =>
 (some (inl (v5.1,((w64 (v0.2.1+1)),())))))
 (some (inr (v0.1,()))))) ([],(0,()))).bind λv6 =>
 (some (v6.1,())))
theorem x_204:av_ cx_204 an_204 204 [an_,aj_,.int] [(.list .int)]=λx=>hj_ x.1 x.2.1 x.2.2.1:=by kernel_rfl
noncomputable def c_204:Con Tryz.prog:=aw_ _ _ 204 [an_,aj_,.int] [(.list .int)] _ x_204
def an_63:An:=(.p .z (.p (.j0 [.v 49 .bool] .z .z) (.p (.p .z (.ls [.v 3 .int] [] [] 0 .z)) (.p (.p .z (.ls [.v 4 .int] [] [] 2 .z)) (.p (.p .z (.ls [.v 5 .int] [] [] 4 (.p .z (.p (.j0 [.v 103 .bool] .z .z) .z)))) (.p (.p .z (.ls [.v 6 .int] [] [] 6 .z)) (.p (.p .z (.ls [.v 7 .int] [] [] 8 (.p .z (.p (.p .z (.j0 [.v 164 .bool] .z .z)) .z)))) (.p (.p .z (.ls [.v 9 .int] [] [] 10 .z)) .z))))))))
noncomputable def cs_63:List (Con Tryz.prog):=[]
noncomputable def cl_63:List (Cpy Tryz.prog):=[]
noncomputable def cx_63:Cx Tryz.prog:=cxC cs_63 cl_63
noncomputable def mw_ (a0:af_):Option (Bool×Unit) :=
 (((cond (decide (12<(a0.1.length:Int)))
 (some (true,()))
 (cond (decide (15<(a0.2.1.length:Int)))
 (some (true,()))
 (cond (decide (14<(a0.2.2.1.length:Int)))
 (some (true,()))
 (cond (decide (20<(a0.2.2.2.1.length:Int)))
 (some (true,()))
 (cond (decide (30<(a0.2.2.2.2.1.length:Int)))
 (some (true,()))
 (cond (decide (15<(a0.2.2.2.2.2.1.length:Int)))
 (some (true,()))
 (some ((decide (20<(a0.2.2.2.2.2.2.2.length:Int))),()))))))))).bind λv0 =>
 (cond v0.1
 (some (true,()))
 ((ag_ (ρ:=(Unit⊕(Bool×Unit))) (λ(v1:(Int×Unit)) =>
 (cond (decide (v1.1<(a0.1.length:Int)))
 ((at? a0.1 v1.1).bind λv2 =>
 (cond (decide (100<(v2.length:Int)))
 (some (inr (inr (true,()))))
 (some (inl ((w64 (v1.1+1)),())))))
 (some (inr (inl ()))))) (0,())).bind λv3 =>
 (ca_ v3 (λv4=>((ag_ (ρ:=(Unit⊕(Bool×Unit))) (λ(v6:(Int×Unit)) =>
 (cond (decide (v6.1<(a0.2.1.length:Int)))
 ((at? a0.2.1 v6.1).bind λv7 =>
 (cond (decide (100<(v7.1.length:Int)))
 (some (inr (inr (true,()))))
 (some (inl ((w64 (v6.1+1)),())))))
 (some (inr (inl ()))))) (0,())).bind λv8 =>
 (ca_ v8 (λv9=>((ag_ (ρ:=(Unit⊕(Bool×Unit))) (λ(v11:(Int×Unit)) =>
 (cond (decide (v11.1<(a0.2.2.1.length:Int)))
 ((((at? a0.2.2.1 v11.1).bind λv12 =>
 (cond (decide (100<(v12.1.length:Int)))
 (some (true,()))
 ((at? a0.2.2.1 v11.1).bind λv13 =>
 (some ((decide (20<(v13.2.2.length:Int))),())))))).bind λv14 =>
 (cond v14.1
 (some (inr (inr (true,()))))
 (some (inl ((w64 (v11.1+1)),())))))
 (some (inr (inl ()))))) (0,())).bind λv15 =>
 (ca_ v15 (λv16=>((ag_ (ρ:=(Unit⊕(Bool×Unit))) (λ(v18:(Int×Unit)) =>
 (cond (decide (v18.1<(a0.2.2.2.1.length:Int)))
 ((at? a0.2.2.2.1 v18.1).bind λv19 =>
 (cond (decide (20<(v19.2.2.length:Int)))
 (some (inr (inr (true,()))))
 (some (inl ((w64 (v18.1+1)),())))))
 (some (inr (inl ()))))) (0,())).bind λv20 =>
 (ca_ v20 (λv21=>((ag_ (ρ:=(Unit⊕(Bool×Unit))) (λ(v23:(Int×Unit)) =>
 (cond (decide (v23.1<(a0.2.2.2.2.1.length:Int)))
 ((at? a0.2.2.2.2.1 v23.1).bind λv24 =>
 (((cond (decide (100<(v24.1.length:Int)))
 (some (true,()))
 (cond (decide (20<(v24.2.2.2.2.1.length:Int)))
 (some (true,()))
 (cond (decide (20<(v24.2.2.2.1.length:Int)))
 (some (true,()))
 (cond (decide (20<(v24.2.2.2.2.2.1.length:Int)))
 (some (true,()))
 (cond (decide (20<(v24.2.2.2.2.2.2.1.length:Int)))
 (some (true,()))
 (some ((decide (20<(v24.2.2.2.2.2.2.2.length:Int))),())))))))).bind λv25 =>
 (cond v25.1
 (some (inr (inr (true,()))))
 (some (inl ((w64 (v23.1+1)),()))))))
 (some (inr (inl ()))))) (0,())).bind λv26 =>
 (ca_ v26 (λv27=>((ag_ (ρ:=(Unit⊕(Bool×Unit))) (λ(v29:(Int×Unit)) =>
 (cond (decide (v29.1<(a0.2.2.2.2.2.1.length:Int)))
 ((at? a0.2.2.2.2.2.1 v29.1).bind λv30 =>
 (cond (decide (20<(v30.1.length:Int)))
 (some (inr (inr (true,()))))
 (some (inl ((w64 (v29.1+1)),())))))
 (some (inr (inl ()))))) (0,())).bind λv31 =>
 (ca_ v31 (λv32=>(some (false,())))
 (λv33=>(some v33)))))
 (λv28=>(some v28)))))
 (λv22=>(some v22)))))
 (λv17=>(some v17)))))
 (λv10=>(some v10)))))
 (λv5=>(some v5))))))
theorem x_63:av_ cx_63 an_63 63 [ao_] [.bool]=λx=>mw_ x.1:=by kernel_rfl
noncomputable def c_63:Con Tryz.prog:=aw_ _ _ 63 [ao_] [.bool] _ x_63
def an_126:An:=.z
noncomputable def cs_126:List (Con Tryz.prog):=[]
noncomputable def cl_126:List (Cpy Tryz.prog):=[]
noncomputable def cx_126:Cx Tryz.prog:=cxC cs_126 cl_126
noncomputable def bd_ (a0:Int) (a1:Int) (a2:Int):Option (Bool×Unit) :=
 (cond (decide (a1≤a0))
 (some ((decide (a0≤a2)),()))
 (some (false,())))
theorem x_126:av_ cx_126 an_126 126 [.int,.int,.int] [.bool]=λx=>bd_ x.1 x.2.1 x.2.2.1:=by kernel_rfl
noncomputable def bx6:Con Tryz.prog:=aw_ _ _ 126 [.int,.int,.int] [.bool] _ x_126
def an_233:An:=(.p .z (.p (.p .z (.ls [.v 8 .int] [] [] 0 .z)) .z))
noncomputable def cs_233:List (Con Tryz.prog):=[]
noncomputable def cl_233:List (Cpy Tryz.prog):=[]
noncomputable def cx_233:Cx Tryz.prog:=cxC cs_233 cl_233
noncomputable def ds_ (a0:(List (List UInt8))) (a1:(List UInt8)):Option (Int×Unit) :=
 ((ag_ (ρ:=(Unit⊕(Int×Unit))) (λ(v0:(Int×Unit)) =>
 (cond (decide (v0.1<(a0.length:Int)))
 ((at? a0 v0.1).bind λv1 =>
 (cond (a1==v1)
 (some (inr (inr (v0.1,()))))
 (some (inl ((w64 (v0.1+1)),())))))
 (some (inr (inl ()))))) (0,())).bind λv2 =>
 (ca_ v2 (λv3=>(some ((-1),())))
 (λv4=>(some v4))))
theorem x_233:av_ cx_233 an_233 233 [(.list .str),.str] [.int]=λx=>ds_ x.1 x.2.1:=by kernel_rfl
noncomputable def c_233:Con Tryz.prog:=aw_ _ _ 233 [(.list .str),.str] [.int] _ x_233
def an_128:An:=.z
noncomputable def cs_128:List (Con Tryz.prog):=[]
noncomputable def cl_128:List (Cpy Tryz.prog):=[]
noncomputable def cx_128:Cx Tryz.prog:=cxC cs_128 cl_128
noncomputable def ub_ (a0:(List UInt8)):Option ((List UInt8)×Unit) :=
 (some (a0,()))
theorem x_128:av_ cx_128 an_128 128 [.str] [.str]=λx=>ub_ x.1:=by kernel_rfl
noncomputable def c_128:Con Tryz.prog:=aw_ _ _ 128 [.str] [.str] _ x_128
def an_130:An:=.z
noncomputable def cs_130:List (Con Tryz.prog):=[]
noncomputable def cl_130:List (Cpy Tryz.prog):=[]
noncomputable def cx_130:Cx Tryz.prog:=cxC cs_130 cl_130
noncomputable def ua_ (a0:gv_):Option ((List UInt8)×Unit) :=
 (some (a0.1,()))
theorem x_130:av_ cx_130 an_130 130 [px_] [.str]=λx=>ua_ x.1:=by kernel_rfl
noncomputable def c_130:Con Tryz.prog:=aw_ _ _ 130 [px_] [.str] _ x_130
def an_132:An:=.z
noncomputable def cs_132:List (Con Tryz.prog):=[]
noncomputable def cl_132:List (Cpy Tryz.prog):=[]
noncomputable def cx_132:Cx Tryz.prog:=cxC cs_132 cl_132
noncomputable def wy_ (a0:jv_):Option ((List UInt8)×Unit) :=
 (some (a0.1,()))
theorem x_132:av_ cx_132 an_132 132 [ou_] [.str]=λx=>wy_ x.1:=by kernel_rfl
noncomputable def c_132:Con Tryz.prog:=aw_ _ _ 132 [ou_] [.str] _ x_132
def an_177:An:=.z
noncomputable def cs_177:List (Con Tryz.prog):=[]
noncomputable def cl_177:List (Cpy Tryz.prog):=[]
noncomputable def cx_177:Cx Tryz.prog:=cxC cs_177 cl_177
noncomputable def ya_ (a0:cv_):Option ((List UInt8)×Unit) :=
 (some (a0.1,()))
theorem x_177:av_ cx_177 an_177 177 [lt_] [.str]=λx=>ya_ x.1:=by kernel_rfl
noncomputable def c_177:Con Tryz.prog:=aw_ _ _ 177 [lt_] [.str] _ x_177
def an_178:An:=(.p .z (.p .z (.p (.p .z (.ls [.v 5 .int,.v 10 .int] [] [] 0 (.p .z (.p .z (.p (.p .z (.p (.j0 [.v 23 .bool] .z .z) .z)) .z))))) .z)))
noncomputable def cs_178:List (Con Tryz.prog):=[]
noncomputable def cl_178:List (Cpy Tryz.prog):=[]
noncomputable def cx_178:Cx Tryz.prog:=cxC cs_178 cl_178
noncomputable def gy_ (a0:af_) (a1:(List Int)):Option (Bool×Unit) :=
 ((ag_ (ρ:=(Unit⊕(Bool×Unit))) (λ(v0:(Int×(Int×Unit))) =>
 (cond (decide (v0.2.1<(a1.length:Int)))
 ((at? a1 v0.2.1).bind λv1 =>
 (((cond (decide (v1≤v0.1))
 (some (true,()))
 (some ((decide ((a0.2.2.1.length:Int)≤v1)),())))).bind λv2 =>
 (cond v2.1
 (some (inr (inr (false,()))))
 (some (inl (v1,((w64 (v0.2.1+1)),())))))))
 (some (inr (inl ()))))) ((-1),(0,()))).bind λv3 =>
 (ca_ v3 (λv4=>(some (true,())))
 (λv5=>(some v5))))
theorem x_178:av_ cx_178 an_178 178 [ao_,(.list .int)] [.bool]=λx=>gy_ x.1 x.2.1:=by kernel_rfl
noncomputable def c_178:Con Tryz.prog:=aw_ _ _ 178 [ao_,(.list .int)] [.bool] _ x_178
def an_36:An:=(.p .z (.p (.p .z (.ls [.v 8 .int] [] [] 0 .z)) .z))
noncomputable def cs_36:List (Con Tryz.prog):=[]
noncomputable def cl_36:List (Cpy Tryz.prog):=[]
noncomputable def cx_36:Cx Tryz.prog:=cxC cs_36 cl_36
noncomputable def er_ (a0:(List Int)) (a1:Int):Option (Int×Unit) :=
 ((ag_ (ρ:=(Unit⊕(Int×Unit))) (λ(v0:(Int×Unit)) =>
 (cond (decide (v0.1<(a0.length:Int)))
 ((at? a0 v0.1).bind λv1 =>
 (cond (a1==v1)
 (some (inr (inr (v0.1,()))))
 (some (inl ((w64 (v0.1+1)),())))))
 (some (inr (inl ()))))) (0,())).bind λv2 =>
 (ca_ v2 (λv3=>(some ((-1),())))
 (λv4=>(some v4))))
theorem x_36:av_ cx_36 an_36 36 [(.list .int),.int] [.int]=λx=>er_ x.1 x.2.1:=by kernel_rfl
noncomputable def c_36:Con Tryz.prog:=aw_ _ _ 36 [(.list .int),.int] [.int] _ x_36
def an_136:An:=.z
noncomputable def cs_136:List (Con Tryz.prog):=[]
noncomputable def cl_136:List (Cpy Tryz.prog):=[]
noncomputable def cx_136:Cx Tryz.prog:=cxC cs_136 cl_136
noncomputable def bw_ (a0:Int) (a1:Int) (a2:Int):Option (Bool×Unit) :=
 (cond (decide (a1≤a0))
 (some ((decide (a0≤a2)),()))
 (some (false,())))
theorem x_136:av_ cx_136 an_136 136 [.int,.int,.int] [.bool]=λx=>bw_ x.1 x.2.1 x.2.2.1:=by kernel_rfl
noncomputable def ck7:Con Tryz.prog:=aw_ _ _ 136 [.int,.int,.int] [.bool] _ x_136
def an_81:An:=.z
noncomputable def cs_81:List (Con Tryz.prog):=[]
noncomputable def cl_81:List (Cpy Tryz.prog):=[]
noncomputable def cx_81:Cx Tryz.prog:=cxC cs_81 cl_81
noncomputable def bp_ (a0:Int) (a1:Int) (a2:Int):Option (Bool×Unit) :=
 (cond (decide (a1≤a0))
 (some ((decide (a0≤a2)),()))
 (some (false,())))
theorem x_81:av_ cx_81 an_81 81 [.int,.int,.int] [.bool]=λx=>bp_ x.1 x.2.1 x.2.2.1:=by kernel_rfl
noncomputable def c_81:Con Tryz.prog:=aw_ _ _ 81 [.int,.int,.int] [.bool] _ x_81
def an_140:An:=(.p .z (.p (.p .z (.j0 [.v 5 .bool] .z .z)) (.p (.p .z (.ls [.v 19 .int] [] [] 1 (.p .z (.p .z (.p (.p .z (.j0 [.v 31 .bool] .z .z)) .z))))) .z)))
noncomputable def cs_140:List (Con Tryz.prog):=[]
noncomputable def cl_140:List (Cpy Tryz.prog):=[]
noncomputable def cx_140:Cx Tryz.prog:=cxC cs_140 cl_140
noncomputable def mv_ (a0:(List UInt8)):Option (Bool×Unit) :=
 (((cond (a0==[])
 (some ((a0==[]),()))
 (cond (a0==[97,116])
 (some ((a0==[97,116]),()))
 (cond (a0==[115,116,97,116,101,115])
 (some ((a0==[115,116,97,116,101,115]),()))
 (cond (a0==[115,116,97,114,116])
 (some ((a0==[115,116,97,114,116]),()))
 (cond (a0==[103,111,110,101])
 (some ((a0==[103,111,110,101]),()))
 (cond (a0==[105,102])
 (some ((a0==[105,102]),()))
 (cond (a0==[108,111,99,107])
 (some ((a0==[108,111,99,107]),()))
 (cond (a0==[119,105,116,104])
 (some ((a0==[119,105,116,104]),()))
 (cond (a0==[115,101,116,115])
 (some ((a0==[115,101,116,115]),()))
 (cond (a0==[115,112,101,110,100,115])
 (some ((a0==[115,112,101,110,100,115]),()))
 (some ((a0==[98,114,105,110,103,115]),()))))))))))))).bind λv0 =>
 (cond v0.1
 (some (false,()))
 ((ag_ (ρ:=(Unit⊕(Bool×Unit))) (λ(v1:(Int×Unit)) =>
 (cond (decide (v1.1<(a0.length:Int)))
 ((((at? a0 v1.1).bind λv2 =>
 (cond (decide (((UInt8.toNat v2):Int)<97))
 (some (true,()))
 ((at? a0 v1.1).bind λv3 =>
 (some ((decide (122<((UInt8.toNat v3):Int))),())))))).bind λv4 =>
 (cond v4.1
 (some (inr (inr (false,()))))
 (some (inl ((w64 (v1.1+1)),())))))
 (some (inr (inl ()))))) (0,())).bind λv5 =>
 (ca_ v5 (λv6=>(some (true,())))
 (λv7=>(some v7))))))
theorem x_140:av_ cx_140 an_140 140 [.str] [.bool]=λx=>mv_ x.1:=by kernel_rfl
noncomputable def c_140:Con Tryz.prog:=aw_ _ _ 140 [.str] [.bool] _ x_140
def an_141:An:=.z
noncomputable def cs_141:List (Con Tryz.prog):=[]
noncomputable def cl_141:List (Cpy Tryz.prog):=[]
noncomputable def cx_141:Cx Tryz.prog:=cxC cs_141 cl_141
noncomputable def kh_ (a0:ak_):Option (Bool×Unit) :=
 (cond (a0.1==0)
 (cond (a0.2.1==0)
 (cond (a0.2.2.1==0)
 (cond (a0.2.2.2.1==0)
 (cond (a0.2.2.2.2.1==0)
 (cond ((a0.2.2.2.2.2.1.length:Int)==0)
 (some ((!a0.2.2.2.2.2.2),()))
 (some (false,())))
 (some (false,())))
 (some (false,())))
 (some (false,())))
 (some (false,())))
 (some (false,())))
theorem x_141:av_ cx_141 an_141 141 [ap_] [.bool]=λx=>kh_ x.1:=by kernel_rfl
noncomputable def c_141:Con Tryz.prog:=aw_ _ _ 141 [ap_] [.bool] _ x_141
def an_237:An:=(.p .z (.p .z (.p (.p .z (.lp [.v 4 .int,.v 13 .int] [.v 4 .int] [.o (.s 6) .int,.o (.s 7) .int] 0 (.p .z (.p .z (.p (.p .z (.j0 [.v 4 .int] .z .z)) .z))))) (.p (.p .z (.lp [.v 5 .int,.v 40 .int] [.v 5 .int] [] 2 .z)) .z))))
noncomputable def cs_237:List (Con Tryz.prog):=[]
noncomputable def cl_237:List (Cpy Tryz.prog):=[]
noncomputable def cx_237:Cx Tryz.prog:=cxC cs_237 cl_237
noncomputable def ie_ (a0:(List Int)) (a1:(List Int)):Option (Int×Int×Unit) :=
 ((ag_ (ρ:=(Int×((List Int)×((List Int)×Unit)))) (λ(v0:(Int×(Int×((List Int)×((List Int)×Unit))))) =>
 (cond (decide (v0.2.1<(a0.length:Int)))
 ((at? a0 v0.2.1).bind λv1 =>
 ((((at? a1 v0.2.1).bind λv2 =>
 (cond (v1==v2)
 (some ((w64 (v0.1+1)),()))
 (some (v0.1,()))))).bind λv3 =>
 (cond (decide (v1<(10:Int)))
 ((at? v0.2.2.1 v1).bind λv4 =>
 ((at? v0.2.2.1 v1).bind λv5 =>
 (cond (decide (v1<(10:Int)))
 ((at? v0.2.2.1 v1).bind λv6 =>
 ((at? v0.2.2.1 v1).bind λv7 =>
 ((at? a1 v0.2.1).bind λv8 =>
 (cond (decide (v8<(10:Int)))
 ((at? v0.2.2.2.1 v8).bind λv9 =>
 ((at? v0.2.2.2.1 v8).bind λv10 =>
 (cond (decide (v8<(10:Int)))
 ((at? v0.2.2.2.1 v8).bind λv11 =>
 ((at? v0.2.2.2.1 v8).bind λv12 =>
 (some (inl (v3.1,((w64 (v0.2.1+1)),((v0.2.2.1.set v1.toNat (w64 (v5+1))),((v0.2.2.2.1.set v8.toNat (w64 (v10+1))),()))))))))
 none)))
 none))))
 none)))
 none)))
 (some (inr (v0.1,(v0.2.2.1,(v0.2.2.2.1,()))))))) (0,(0,([0,0,0,0,0,0,0,0,0,0],([0,0,0,0,0,0,0,0,0,0],()))))).bind λv13 =>
 ((ag_ (ρ:=(Int×Unit)) (λ(v14:(Int×(Int×Unit))) =>
 (cond (decide (v14.2.1<10))
 (cond (decide (v14.2.1<(10:Int)))
 ((at? v13.2.1 v14.2.1).bind λv15 =>
 ((at? v13.2.1 v14.2.1).bind λv16 =>
 (cond (decide (v14.2.1<(10:Int)))
 ((at? v13.2.2.1 v14.2.1).bind λv17 =>
 ((at? v13.2.2.1 v14.2.1).bind λv18 =>
 (some (inl ((w64 (v14.1+(minI v16 v18))),((w64 (v14.2.1+1)),()))))))
 none)))
 none)
 (some (inr (v14.1,()))))) (0,(0,()))).bind λv19 =>
 (some (v13.1,((w64 (v19.1 - v13.1)),())))))
theorem x_237:av_ cx_237 an_237 237 [(.list .int),(.list .int)] [.int,.int]=λx=>ie_ x.1 x.2.1:=by kernel_rfl
noncomputable def c_237:Con Tryz.prog:=aw_ _ _ 237 [(.list .int),(.list .int)] [.int,.int] _ x_237
def an_147:An:=.z
def at_147:FuncId→An:=λk=>cond (Nat.beq k 143) (.p .z (.j0 [.v 4 .bool] .z .z)) (cond (Nat.beq k 189) (.p .z (.p (.p .z (.ls [.v 8 .int] [] [] 0 .z)) .z)) (cond (Nat.beq k 192) (.p .z (.p (.q [] .z .z) .z)) (.z)))
noncomputable def cs_147:List (Con Tryz.prog):=[]
noncomputable def cl_147:List (Cpy Tryz.prog):=[]
noncomputable def cx_147:Cx Tryz.prog:=cxI at_147 (λk=>false) (cxC cs_147 cl_147) 4
noncomputable def bb_ (a0:hd_) (a1:(List be_)):Option (Bool×Unit) :=
 ((((ag_ (ρ:=(Unit⊕(Bool×Unit))) (λ(v0:(Int×Unit)) =>
 (cond (decide (v0.1<(a1.length:Int)))
 ((at? a1 v0.1).bind λv1 =>
 ((at? a0.2.1 v1.1).bind λv2 =>
 (cond ((v2==v1.2.1)==v1.2.2)
 (some (inr (inr ((decide (0≤v0.1)),()))))
 (some (inl ((w64 (v0.1+1)),()))))))
 (some (inr (inl ()))))) (0,())).bind λv3 =>
 (ca_ v3 (λv4=>(some ((decide (0≤(-1))),())))
 (λv5=>(some v5))))).bind λv6 =>
 (some ((!v6.1),())))
theorem x_147:av_ cx_147 an_147 147 [(.ref ey_),(.list bz_)] [.bool]=λx=>bb_ x.1 x.2.1:=by kernel_rfl
noncomputable def bx4:Con Tryz.prog:=aw_ _ _ 147 [(.ref ey_),(.list bz_)] [.bool] _ x_147
def an_197:An:=(.p .z (.p (.p .z (.lp [.v 4 .int,.v 13 .int] [.v 4 .int] [] 0 (.p .z (.p .z (.j0 [.v 4 .int] .z .z))))) .z))
noncomputable def cs_197:List (Con Tryz.prog):=[]
noncomputable def cl_197:List (Cpy Tryz.prog):=[]
noncomputable def cx_197:Cx Tryz.prog:=cxC cs_197 cl_197
noncomputable def dj_ (a0:hd_) (a1:Int):Option (Int×Unit) :=
 ((ag_ (ρ:=(Int×Unit)) (λ(v0:(Int×(Int×Unit))) =>
 (cond (decide (v0.2.1<(a0.2.2.1.length:Int)))
 ((((at? a0.2.2.1 v0.2.1).bind λv1 =>
 (cond (v1==(w64 ((-2) - a1)))
 (some ((w64 (v0.1+1)),()))
 (some (v0.1,()))))).bind λv2 =>
 (some (inl (v2.1,((w64 (v0.2.1+1)),())))))
 (some (inr (v0.1,()))))) (0,(0,()))).bind λv3 =>
 (some (v3.1,())))
theorem x_197:av_ cx_197 an_197 197 [(.ref ey_),.int] [.int]=λx=>dj_ x.1 x.2.1:=by kernel_rfl
noncomputable def c_197:Con Tryz.prog:=aw_ _ _ 197 [(.ref ey_),.int] [.int] _ x_197
def an_56:An:=(.p .z (.p .z (.p (.p .z (.lp [.v 3 .str,.v 9 .int] [.v 3 .str] [] 0 .z)) .z)))
noncomputable def cs_56:List (Con Tryz.prog):=[c_106]
noncomputable def cl_56:List (Cpy Tryz.prog):=[]
noncomputable def cx_56:Cx Tryz.prog:=cxC cs_56 cl_56
noncomputable def ld_ (a0:aa_):Option ((List UInt8)×Unit) :=
 ((ag_ (ρ:=((List UInt8)×Unit)) (λ(v0:((List UInt8)×(Int×Unit))) =>
 (cond (decide (v0.2.1<(a0.2.length:Int)))
 ((at? a0.2 v0.2.1).bind λv1 =>
 ((eb_ v1).bind λv2 =>
 ((cat? v2.1 [32]).bind λv3 =>
 ((cat? v0.1 v3).bind λv4 =>
 (some (inl (v4,((w64 (v0.2.1+1)),()))))))))
 (some (inr (v0.1,()))))) ([],(0,()))).bind λv5 =>
 (some (v5.1,())))
theorem x_56:av_ cx_56 an_56 56 [aj_] [.str]=λx=>ld_ x.1:=by kernel_rfl
noncomputable def c_56:Con Tryz.prog:=aw_ _ _ 56 [aj_] [.str] _ x_56
def an_73:An:=.z
noncomputable def cs_73:List (Con Tryz.prog):=[]
noncomputable def cl_73:List (Cpy Tryz.prog):=[]
noncomputable def cx_73:Cx Tryz.prog:=cxC cs_73 cl_73
noncomputable def ad6 (a0:ae_):Option (Bool×Unit) :=
 (some (true,()))
theorem x_73:av_ cx_73 an_73 73 [cw_] [.bool]=λx=>ad6 x.1:=by kernel_rfl
noncomputable def c_73:Con Tryz.prog:=aw_ _ _ 73 [cw_] [.bool] _ x_73
def an_70:An:=.z
noncomputable def cs_70:List (Con Tryz.prog):=[]
noncomputable def cl_70:List (Cpy Tryz.prog):=[]
noncomputable def cx_70:Cx Tryz.prog:=cxC cs_70 cl_70
noncomputable def xa_  : Option (af_×Unit) :=
 (some (([[104,97,108,108],[118,97,117,108,116]],([([98,111,120],(0,(2,0))),([100,111,111,114],(0,(2,0)))],([([107,101,121],(0,[(0,(1,false))]))],([(0,(1,[(1,(1,false))]))],([([111,112,101,110],(0,(0,([],([],([(0,1)],([],[]))))))),([116,117,114,110],(0,((-1),([0],([],([(1,1)],([0],[])))))))],([],(1,[]))))))),()))
theorem x_70:av_ cx_70 an_70 70 [] [ao_]=λx=>xa_:=by kernel_rfl
noncomputable def c_70:Con Tryz.prog:=aw_ _ _ 70 [] [ao_] _ x_70
def an_71:An:=.z
noncomputable def cs_71:List (Con Tryz.prog):=[]
noncomputable def cl_71:List (Cpy Tryz.prog):=[]
noncomputable def cx_71:Cx Tryz.prog:=cxC cs_71 cl_71
noncomputable def cl_ (a0:(List be_)):Option ((List be_)×Unit) :=
 ((push? (α:=be_) [] a0).bind λv0 =>
 (some (v0,())))
theorem x_71:av_ cx_71 an_71 71 [(.list bz_)] [(.list bz_)]=λx=>cl_ x.1:=by kernel_rfl
noncomputable def c_71:Con Tryz.prog:=aw_ _ _ 71 [(.list bz_)] [(.list bz_)] _ x_71
def an_72:An:=.z
noncomputable def cs_72:List (Con Tryz.prog):=[]
noncomputable def cl_72:List (Cpy Tryz.prog):=[]
noncomputable def cx_72:Cx Tryz.prog:=cxC cs_72 cl_72
noncomputable def dp_ (a0:(List Int)):Option ((List Int)×Unit) :=
 ((push? (α:=Int) [] a0).bind λv0 =>
 (some (v0,())))
theorem x_72:av_ cx_72 an_72 72 [(.list .int)] [(.list .int)]=λx=>dp_ x.1:=by kernel_rfl
noncomputable def c_72:Con Tryz.prog:=aw_ _ _ 72 [(.list .int)] [(.list .int)] _ x_72
def an_34:An:=.z
noncomputable def cs_34:List (Con Tryz.prog):=[]
noncomputable def cl_34:List (Cpy Tryz.prog):=[]
noncomputable def cx_34:Cx Tryz.prog:=cxC cs_34 cl_34
noncomputable def gp_ (a0:ak_):Option (ak_×Unit) :=
 ((push? (α:=Int) [] a0.2.2.2.2.2.1).bind λv0 =>
 (some ((a0.1,(a0.2.1,(a0.2.2.1,(a0.2.2.2.1,(a0.2.2.2.2.1,(v0,a0.2.2.2.2.2.2)))))),())))
theorem x_34:av_ cx_34 an_34 34 [ap_] [ap_]=λx=>gp_ x.1:=by kernel_rfl
noncomputable def c_34:Con Tryz.prog:=aw_ _ _ 34 [ap_] [ap_] _ x_34
noncomputable def od_ (a0:ae_) (a1:Int):Option (Bool×Unit) :=
 (cond (a0.1.2.1==4)
 (some ((a0.1.2.2==a1),()))
 (some (false,())))
def an_48:An:=.z
def at_48:FuncId→An:=λk=>cond (Nat.beq k 95) (.p .z (.j0 [.v 4 .bool] .z .z)) (cond (Nat.beq k 96) (.p .z (.j0 [.v 3 .bool] .z .z)) (cond (Nat.beq k 154) (.p .z (.p (.p .z (.ls [.v 8 .int] [] [] 0 .z)) .z)) (.z)))
noncomputable def cs_48:List (Con Tryz.prog):=[]
noncomputable def cl_48:List (Cpy Tryz.prog):=[]
noncomputable def cx_48:Cx Tryz.prog:=cxI at_48 (λk=>false) (cxC cs_48 cl_48) 4
noncomputable def io_ (a0:ac_) (a1:(List Int)):Option (Bool×Unit) :=
 ((((ag_ (ρ:=(Unit⊕(Bool×Unit))) (λ(v0:(Int×Unit)) =>
 (cond (decide (v0.1<(a1.length:Int)))
 ((at? a1 v0.1).bind λv1 =>
 (((cond (decide (v1<0))
 (some (true,()))
 (some ((decide ((a0.1.2.2.2.2.1.length:Int)≤v1)),())))).bind λv2 =>
 (cond v2.1
 (some (inr (inr ((decide (0≤v0.1)),()))))
 (some (inl ((w64 (v0.1+1)),()))))))
 (some (inr (inl ()))))) (0,())).bind λv3 =>
 (ca_ v3 (λv4=>(some ((decide (0≤(-1))),())))
 (λv5=>(some v5))))).bind λv6 =>
 (some ((!v6.1),())))
theorem x_48:av_ cx_48 an_48 48 [an_,(.list .int)] [.bool]=λx=>io_ x.1 x.2.1:=by kernel_rfl
noncomputable def c_48:Con Tryz.prog:=aw_ _ _ 48 [an_,(.list .int)] [.bool] _ x_48
end
section
set_option maxRecDepth 100000
set_option maxHeartbeats 0
def an_119:An:=.z
noncomputable def cs_119:List (Con Tryz.prog):=[as7]
noncomputable def cl_119:List (Cpy Tryz.prog):=[]
noncomputable def cx_119:Cx Tryz.prog:=cxC cs_119 cl_119
noncomputable def gt_ (a0:af_) (a1:Int) (a2:Int):Option (Bool×Unit) :=
 ((bq_ a1 0 (w64 ((a0.2.1.length:Int) - 1))).bind λv0 =>
 (cond v0.1
 ((at? a0.2.1 a1).bind λv1 =>
 ((bq_ a2 0 (w64 (v1.2.2.1 - 1))).bind λv2 =>
 (some (v2.1,()))))
 (some (false,()))))
theorem x_119:av_ cx_119 an_119 119 [ao_,.int,.int] [.bool]=λx=>gt_ x.1 x.2.1 x.2.2.1:=by kernel_rfl
noncomputable def ck9:Con Tryz.prog:=aw_ _ _ 119 [ao_,.int,.int] [.bool] _ x_119
def an_165:An:=(.p .z (.p (.p .z (.ls [.v 3 .int] [] [] 0 (.p .z (.p (.j0 [.v 21 .bool] .z .z) .z)))) (.p .z (.p (.p .z (.ls [.v 5 .int] [] [] 2 .z)) .z))))
noncomputable def cs_165:List (Con Tryz.prog):=[c_207]
noncomputable def cl_165:List (Cpy Tryz.prog):=[]
noncomputable def cx_165:Cx Tryz.prog:=cxC cs_165 cl_165
noncomputable def hk_ (a0:(List UInt8)):Option (Bool×Unit) :=
 ((ag_ (ρ:=(Unit⊕(Bool×Unit))) (λ(v0:(Int×Unit)) =>
 (cond (decide (v0.1<(a0.length:Int)))
 ((((at? a0 v0.1).bind λv1 =>
 (cond (decide (((UInt8.toNat v1):Int)<97))
 (some (true,()))
 ((at? a0 v0.1).bind λv2 =>
 (some ((decide (122<((UInt8.toNat v2):Int))),())))))).bind λv3 =>
 (cond v3.1
 (some (inr (inr (false,()))))
 (some (inl ((w64 (v0.1+1)),())))))
 (some (inr (inl ()))))) (0,())).bind λv4 =>
 (ca_ v4 (λv5=>((ag_ (ρ:=(Unit⊕(Bool×Unit))) (λ(v7:(Int×Unit)) =>
 (cond (decide (v7.1<(([[97,116],[115,116,97,116,101,115],[115,116,97,114,116],[103,111,110,101],[105,102],[108,111,99,107],[119,105,116,104],[115,101,116,115],[115,112,101,110,100,115],[98,114,105,110,103,115]]).length:Int)))
 ((at? [[97,116],[115,116,97,116,101,115],[115,116,97,114,116],[103,111,110,101],[105,102],[108,111,99,107],[119,105,116,104],[115,101,116,115],[115,112,101,110,100,115],[98,114,105,110,103,115]] v7.1).bind λv8 =>
 (cond (v8==a0)
 (some (inr (inr (false,()))))
 (some (inl ((w64 (v7.1+1)),())))))
 (some (inr (inl ()))))) (0,())).bind λv9 =>
 (ca_ v9 (λv10=>(some ((!(a0==[])),())))
 (λv11=>(some v11)))))
 (λv6=>(some v6))))
theorem x_165:av_ cx_165 an_165 165 [.str] [.bool]=λx=>hk_ x.1:=by kernel_rfl
noncomputable def c_165:Con Tryz.prog:=aw_ _ _ 165 [.str] [.bool] _ x_165
def an_116:An:=.z
noncomputable def cs_116:List (Con Tryz.prog):=[as7]
noncomputable def cl_116:List (Cpy Tryz.prog):=[]
noncomputable def cx_116:Cx Tryz.prog:=cxC cs_116 cl_116
noncomputable def cr_ (a0:af_) (a1:Int):Option (Bool×Unit) :=
 ((bq_ a1 0 (w64 ((a0.1.length:Int) - 1))).bind λv0 =>
 (some (v0.1,())))
theorem x_116:av_ cx_116 an_116 116 [ao_,.int] [.bool]=λx=>cr_ x.1 x.2.1:=by kernel_rfl
noncomputable def c_116:Con Tryz.prog:=aw_ _ _ 116 [ao_,.int] [.bool] _ x_116
def an_166:An:=(.p .z (.p (.p .z (.ls [.v 5 .int] [] [] 0 (.p .z (.p (.j0 [.v 37 .bool] (.q [] .z .z) .z) .z)))) .z))
noncomputable def cs_166:List (Con Tryz.prog):=[as7]
noncomputable def cl_166:List (Cpy Tryz.prog):=[]
noncomputable def cx_166:Cx Tryz.prog:=cxC cs_166 cl_166
noncomputable def dk_ (a0:af_) (a1:(List Int)):Option (Bool×Unit) :=
 ((ag_ (ρ:=(Unit⊕(Bool×Unit))) (λ(v0:(Int×Unit)) =>
 (cond (decide (v0.1<(a1.length:Int)))
 ((((at? a1 v0.1).bind λv1 =>
 ((bq_ v1 0 (w64 ((a0.2.2.1.length:Int) - 1))).bind λv2 =>
 (cond (!v2.1)
 (some (true,()))
 (cond (decide (0<v0.1))
 ((at? a1 v0.1).bind λv3 =>
 ((at? a1 (w64 (v0.1 - 1))).bind λv4 =>
 (some ((decide (v3≤v4)),()))))
 (some (false,()))))))).bind λv5 =>
 (cond v5.1
 (some (inr (inr (false,()))))
 (some (inl ((w64 (v0.1+1)),())))))
 (some (inr (inl ()))))) (0,())).bind λv6 =>
 (ca_ v6 (λv7=>(some (true,())))
 (λv8=>(some v8))))
theorem x_166:av_ cx_166 an_166 166 [ao_,(.list .int)] [.bool]=λx=>dk_ x.1 x.2.1:=by kernel_rfl
noncomputable def c_166:Con Tryz.prog:=aw_ _ _ 166 [ao_,(.list .int)] [.bool] _ x_166
def an_65:An:=(.p .z (.p (.j0 [.v 12 .bool] .z .z) .z))
noncomputable def cs_65:List (Con Tryz.prog):=[c_120]
noncomputable def cl_65:List (Cpy Tryz.prog):=[]
noncomputable def cx_65:Cx Tryz.prog:=cxC cs_65 cl_65
noncomputable def ej_ (a0:ab_):Option (Int×Unit) :=
 ((((bl_ a0.1 1 4).bind λv0 =>
 (cond (!v0.1)
 (some (true,()))
 ((bl_ a0.2 2 10).bind λv1 =>
 (some ((!v1.1),())))))).bind λv2 =>
 (cond v2.1
 (some (10,()))
 (some (0,()))))
theorem x_65:av_ cx_65 an_65 65 [am_] [.int]=λx=>ej_ x.1:=by kernel_rfl
noncomputable def c_65:Con Tryz.prog:=aw_ _ _ 65 [am_] [.int] _ x_65
def an_121:An:=(.p .z (.p .z (.p (.p .z (.ls [.v 5 .int] [] [] 0 (.p .z (.p (.p (.q [] .z .z) .z) .z)))) .z)))
noncomputable def cs_121:List (Con Tryz.prog):=[c_120]
noncomputable def cl_121:List (Cpy Tryz.prog):=[]
noncomputable def cx_121:Cx Tryz.prog:=cxC cs_121 cl_121
noncomputable def gl_ (a0:ab_) (a1:(List Int)):Option (Bool×Unit) :=
 (cond ((a1.length:Int) != a0.1)
 (some (false,()))
 ((ag_ (ρ:=(Unit⊕(Bool×Unit))) (λ(v0:(Int×Unit)) =>
 (cond (decide (v0.1<(a1.length:Int)))
 ((at? a1 v0.1).bind λv1 =>
 ((bl_ v1 0 (w64 (a0.2 - 1))).bind λv2 =>
 (cond (!v2.1)
 (some (inr (inr (false,()))))
 (some (inl ((w64 (v0.1+1)),()))))))
 (some (inr (inl ()))))) (0,())).bind λv3 =>
 (ca_ v3 (λv4=>(some (true,())))
 (λv5=>(some v5)))))
theorem x_121:av_ cx_121 an_121 121 [am_,(.list .int)] [.bool]=λx=>gl_ x.1 x.2.1:=by kernel_rfl
noncomputable def c_121:Con Tryz.prog:=aw_ _ _ 121 [am_,(.list .int)] [.bool] _ x_121
def an_208:An:=.z
noncomputable def cs_208:List (Con Tryz.prog):=[c_232]
noncomputable def cl_208:List (Cpy Tryz.prog):=[]
noncomputable def cx_208:Cx Tryz.prog:=cxC cs_208 cl_208
noncomputable def iz_ (a0:ak_) (a1:ak_):Option (Bool×Unit) :=
 (cond (a0.1==a1.1)
 (cond (a0.2.1==a1.2.1)
 (cond (a0.2.2.1==a1.2.2.1)
 (cond (a0.2.2.2.1==a1.2.2.2.1)
 (cond (a0.2.2.2.2.1==a1.2.2.2.2.1)
 (cond (a0.2.2.2.2.2.2==a1.2.2.2.2.2.2)
 ((gq_ a0.2.2.2.2.2.1 a1.2.2.2.2.2.1).bind λv0 =>
 (some (v0.1,())))
 (some (false,())))
 (some (false,())))
 (some (false,())))
 (some (false,())))
 (some (false,())))
 (some (false,())))
theorem x_208:av_ cx_208 an_208 208 [ap_,ap_] [.bool]=λx=>iz_ x.1 x.2.1:=by kernel_rfl
noncomputable def c_208:Con Tryz.prog:=aw_ _ _ 208 [ap_,ap_] [.bool] _ x_208
def an_170:An:=(.p .z (.p .z (.p (.p .z (.lp [.v 6 .int,.v 8 .int] [.v 6 .int] [] 0 (.p .z (.j0 [.v 6 .int] (.p (.q [] .z .z) .z) .z)))) (.p (.p .z (.lp [.v 7 .int,.v 9 .int] [.v 7 .int] [] 2 .z)) .z))))
noncomputable def cs_170:List (Con Tryz.prog):=[c_169]
noncomputable def cl_170:List (Cpy Tryz.prog):=[]
noncomputable def cx_170:Cx Tryz.prog:=cxC cs_170 cl_170
noncomputable def ic_ (a0:(List Int)) (a1:(List Int)):Option (Int×Int×Unit) :=
 ((ag_ (ρ:=(Int×Unit)) (λ(v0:(Int×(Int×Unit))) =>
 (cond (decide (v0.2.1<(a0.length:Int)))
 ((((at? a0 v0.2.1).bind λv1 =>
 ((at? a1 v0.2.1).bind λv2 =>
 (cond (v1==v2)
 (some ((w64 (v0.1+1)),()))
 (some (v0.1,())))))).bind λv3 =>
 (some (inl (v3.1,((w64 (v0.2.1+1)),())))))
 (some (inr (v0.1,()))))) (0,(0,()))).bind λv4 =>
 ((ag_ (ρ:=(Int×Unit)) (λ(v5:(Int×(Int×Unit))) =>
 (cond (decide (v5.2.1<10))
 ((ei_ a0 v5.2.1).bind λv6 =>
 ((ei_ a1 v5.2.1).bind λv7 =>
 (some (inl ((w64 (v5.1+(minI v6.1 v7.1))),((w64 (v5.2.1+1)),()))))))
 (some (inr (v5.1,()))))) (0,(0,()))).bind λv8 =>
 (some (v4.1,((w64 (v8.1 - v4.1)),())))))
theorem x_170:av_ cx_170 an_170 170 [(.list .int),(.list .int)] [.int,.int]=λx=>ic_ x.1 x.2.1:=by kernel_rfl
noncomputable def c_170:Con Tryz.prog:=aw_ _ _ 170 [(.list .int),(.list .int)] [.int,.int] _ x_170
def an_159:An:=(.p .z (.p .z (.p (.p .z (.ls [.v 7 .int] [] [.o (.c (.s 6) 0) .int,.b (.s 4) [.row .int 3,.row .int 3,.row .int 3]] 0 (.p .z (.p (.p .z (.p (.p .z (.lp [.v 8 .int,.v 9 .int] [.v 8 .int] [] 2 (.p (.j0 [.v 25 .bool] .z .z) (.j0 [.v 8 .int] (.p .z (.j0 [.v 49 .bool] .z .z)) .z)))) .z)) .z)))) .z)))
def at_159:FuncId→An:=λk=>.z
noncomputable def cs_159:List (Con Tryz.prog):=[c_16]
noncomputable def cl_159:List (Cpy Tryz.prog):=[]
noncomputable def cx_159:Cx Tryz.prog:=cxI at_159 (λk=>Nat.beq k 16||false) (cxC cs_159 cl_159) 2
noncomputable def gj_ (a0:af_) (a1:ai_):Option (ai_×Bool×Unit) :=
 ((push? (α:=Int) [] a1.1).bind λv0 =>
 ((push? (α:=Int) [] a1.2.1).bind λv1 =>
 ((push? (α:=Int) [] a1.2.2).bind λv2 =>
 ((ag_ (ρ:=(((List Int)×(((List Int)×((List Int)×((List Int)×Unit)))×Unit))⊕(ai_×(Bool×Unit)))) (λ(v3:(Int×((List Int)×(((List Int)×((List Int)×((List Int)×Unit)))×Unit)))) =>
 (cond (decide (v3.1≤100))
 ((ag_ (ρ:=(Int×Unit)) (λ(v4:(Int×(Int×Unit))) =>
 (((cond (decide (v4.2.1<(a0.2.2.2.2.2.1.length:Int)))
 (some ((decide (v4.1<0)),()))
 (some (false,())))).bind λv5 =>
 (cond v5.1
 ((((at? a0.2.2.2.2.2.1 v4.2.1).bind λv6 =>
 ((((ba_ (v3.2.1,(v1,v2)) v6.1).bind λv7 =>
 (cond v7.1
 ((at? v3.2.1 v6.2.1).bind λv8 =>
 ((at? v3.2.1 v6.2.1).bind λv9 =>
 (some ((v9 != v6.2.2),()))))
 (some (false,()))))).bind λv10 =>
 (cond v10.1
 (some (v4.2.1,()))
 (some (v4.1,())))))).bind λv11 =>
 (some (inl (v11.1,((w64 (v4.2.1+1)),())))))
 (some (inr (v4.1,())))))) ((-1),(0,()))).bind λv12 =>
 (cond (decide (v12.1<0))
 (some (inr (inr ((v3.2.1,(v1,v2)),(true,())))))
 ((at? a0.2.2.2.2.2.1 v12.1).bind λv13 =>
 ((at? a0.2.2.2.2.2.1 v12.1).bind λv14 =>
 ((at? v3.2.1 v13.2.1).bind λv15 =>
 ((at? v3.2.1 v13.2.1).bind λv16 =>
 (some (inl ((w64 (v3.1+1)),((v3.2.1.set v13.2.1.toNat v14.2.2),((v3.2.2.1.1,(v3.2.2.1.2.1,(v3.2.2.1.2.2.1,()))),())))))))))))
 (some (inr (inl (v3.2.1,((v3.2.2.1.1,(v3.2.2.1.2.1,(v3.2.2.1.2.2.1,()))),()))))))) (0,(v0,(([],([],([],()))),())))).bind λv17 =>
 (ca_ v17 (λv18=>(some (([],([],[])),(false,()))))
 (λv19=>(some v19)))))))
theorem x_159:av_ cx_159 an_159 159 [ao_,ar_] [ar_,.bool]=λx=>gj_ x.1 x.2.1:=by kernel_rfl
noncomputable def c_159:Con Tryz.prog:=aw_ _ _ 159 [ao_,ar_] [ar_,.bool] _ x_159
def an_21:An:=.z
noncomputable def cs_21:List (Con Tryz.prog):=[c_51]
noncomputable def cl_21:List (Cpy Tryz.prog):=[]
noncomputable def cx_21:Cx Tryz.prog:=cxC cs_21 cl_21
noncomputable def db_ (a0:aa_):Option (aa_×Unit) :=
 ((ec_ a0.1).bind λv0 =>
 ((push? (α:=Bool) [] a0.2).bind λv1 =>
 (some ((v0.1,v1),()))))
theorem x_21:av_ cx_21 an_21 21 [aj_] [aj_]=λx=>db_ x.1:=by kernel_rfl
noncomputable def c_21:Con Tryz.prog:=aw_ _ _ 21 [aj_] [aj_] _ x_21
def an_101:An:=(.p .z (.p .z (.p (.p .z (.lp [.v 6 .int] [] [.o (.c (.s 5) 3) .bool] 0 (.p .z (.p (.p .z (.p .z (.lp [.v 8 .int] [] [.o (.c (.s 5) 3) .bool] 2 (.p .z (.j0 [.o (.c (.s 5) 3) .bool] (.j0 [.v 46 .bool] .z .z) .z))))) .z)))) .z)))
def at_101:FuncId→An:=λk=>.z
noncomputable def cs_101:List (Con Tryz.prog):=[c_16,c_51]
noncomputable def cl_101:List (Cpy Tryz.prog):=[]
noncomputable def cx_101:Cx Tryz.prog:=cxI at_101 (λk=>Nat.beq k 16||Nat.beq k 51||false) (cxC cs_101 cl_101) 2
noncomputable def il_ (a0:ac_) (a1:aa_):Option (aa_×Unit) :=
 ((ec_ a1.1).bind λv0 =>
 ((push? (α:=Bool) [] a1.2).bind λv1 =>
 ((ag_ (ρ:=((List Bool)×Unit)) (λ(v2:(Int×((List Bool)×Unit))) =>
 (cond (decide (v2.1<(a0.2.2.2.1.length:Int)))
 ((at? a0.2.2.2.1 v2.1).bind λv3 =>
 ((ag_ (ρ:=((List Bool)×Unit)) (λ(v4:(Int×((List Bool)×Unit))) =>
 (cond (decide (v4.1<(v0.1.2.2.length:Int)))
 ((((((at? v0.1.2.2 v4.1).bind λv5 =>
 (cond (v5==v3.2.1)
 ((ba_ v0.1 v3.2.2.2.1).bind λv6 =>
 (some (v6.1,())))
 (some (false,()))))).bind λv7 =>
 (cond v7.1
 ((at? v4.2.1 v2.1).bind λv8 =>
 ((at? v4.2.1 v2.1).bind λv9 =>
 (some ((v4.2.1.set v2.1.toNat true),()))))
 (some (v4.2.1,()))))).bind λv10 =>
 (some (inl ((w64 (v4.1+1)),(v10.1,())))))
 (some (inr (v4.2.1,()))))) (0,(v2.2.1,()))).bind λv11 =>
 (some (inl ((w64 (v2.1+1)),(v11.1,()))))))
 (some (inr (v2.2.1,()))))) (0,(v1,()))).bind λv12 =>
 (some ((v0.1,v12.1),())))))
theorem x_101:av_ cx_101 an_101 101 [an_,aj_] [aj_]=λx=>il_ x.1 x.2.1:=by kernel_rfl
noncomputable def c_101:Con Tryz.prog:=aw_ _ _ 101 [an_,aj_] [aj_] _ x_101
def an_53:An:=(.p .z (.p .z (.p (.p .z (.lp [.v 3 .str,.v 4 .int] [.v 3 .str] [] 0 .z)) (.p (.p .z (.lp [.v 3 .str,.v 5 .int] [.v 3 .str] [] 2 .z)) (.p (.p .z (.lp [.v 3 .str,.v 6 .int] [.v 3 .str] [] 4 .z)) (.p (.p .z (.lp [.v 3 .str,.v 7 .int] [.v 3 .str] [] 6 (.p .z (.j0 [.v 3 .str] .z .z)))) .z))))))
noncomputable def cs_53:List (Con Tryz.prog):=[c_102]
noncomputable def cl_53:List (Cpy Tryz.prog):=[]
noncomputable def cx_53:Cx Tryz.prog:=cxC cs_53 cl_53
noncomputable def hw_ (a0:aa_):Option ((List UInt8)×Unit) :=
 ((ag_ (ρ:=((List UInt8)×Unit)) (λ(v0:((List UInt8)×(Int×Unit))) =>
 (cond (decide (v0.2.1<(a0.1.1.length:Int)))
 ((at? a0.1.1 v0.2.1).bind λv1 =>
 ((cc_ v1).bind λv2 =>
 ((cat? v0.1 v2.1).bind λv3 =>
 ((cat? v3 [32]).bind λv4 =>
 (some (inl (v4,((w64 (v0.2.1+1)),()))))))))
 (some (inr (v0.1,()))))) ([],(0,()))).bind λv5 =>
 ((ag_ (ρ:=((List UInt8)×Unit)) (λ(v6:((List UInt8)×(Int×Unit))) =>
 (cond (decide (v6.2.1<(a0.1.2.1.length:Int)))
 ((at? a0.1.2.1 v6.2.1).bind λv7 =>
 ((cc_ (w64 (v7+10))).bind λv8 =>
 ((cat? v6.1 v8.1).bind λv9 =>
 ((cat? v9 [32]).bind λv10 =>
 (some (inl (v10,((w64 (v6.2.1+1)),()))))))))
 (some (inr (v6.1,()))))) (v5.1,(0,()))).bind λv11 =>
 ((ag_ (ρ:=((List UInt8)×Unit)) (λ(v12:((List UInt8)×(Int×Unit))) =>
 (cond (decide (v12.2.1<(a0.1.2.2.length:Int)))
 ((at? a0.1.2.2 v12.2.1).bind λv13 =>
 ((cc_ v13).bind λv14 =>
 ((cat? v12.1 v14.1).bind λv15 =>
 ((cat? v15 [32]).bind λv16 =>
 (some (inl (v16,((w64 (v12.2.1+1)),()))))))))
 (some (inr (v12.1,()))))) (v11.1,(0,()))).bind λv17 =>
 ((ag_ (ρ:=((List UInt8)×Unit)) (λ(v18:((List UInt8)×(Int×Unit))) =>
 (cond (decide (v18.2.1<(a0.2.length:Int)))
 ((((at? a0.2 v18.2.1).bind λv19 =>
 (cond v19
 ((cc_ v18.2.1).bind λv20 =>
 ((cat? v18.1 v20.1).bind λv21 =>
 ((cat? v21 [32]).bind λv22 =>
 (some (v22,())))))
 (some (v18.1,()))))).bind λv23 =>
 (some (inl (v23.1,((w64 (v18.2.1+1)),())))))
 (some (inr (v18.1,()))))) (v17.1,(0,()))).bind λv24 =>
 (some (v24.1,()))))))
theorem x_53:av_ cx_53 an_53 53 [aj_] [.str]=λx=>hw_ x.1:=by kernel_rfl
noncomputable def c_53:Con Tryz.prog:=aw_ _ _ 53 [aj_] [.str] _ x_53
def an_157:An:=(.p .z (.p .z (.p (.q [] .z .z) (.p (.p .z (.p .z (.p (.p (.q [] .z .z) .z) (.p .z (.p (.p (.q [] .z .z) .z) (.p .z (.p .z (.p .z (.p (.p .z (.p .z (.p (.p .z (.ls [.v 10 .int] [] [] 1 .z)) (.p (.p .z (.ls [.v 11 .int] [] [] 3 .z)) .z)))) .z))))))))) .z))))
noncomputable def cs_157:List (Con Tryz.prog):=[c_16,as7,c_202]
noncomputable def cl_157:List (Cpy Tryz.prog):=[]
noncomputable def cx_157:Cx Tryz.prog:=cxC cs_157 cl_157
noncomputable def jj_ (a0:af_) (a1:ai_) (a2:ad_):Option (Bool×Unit) :=
 ((bq_ a2.1 0 (w64 (a0.2.2.2.2.2.2.1 - 1))).bind λv0 =>
 (cond (!v0.1)
 (some (false,()))
 ((at? a1.2.2 a2.1).bind λv1 =>
 (cond (a2.2.1==1)
 ((bq_ a2.2.2 0 (w64 ((a0.2.2.2.1.length:Int) - 1))).bind λv2 =>
 (cond v2.1
 ((at? a0.2.2.2.1 a2.2.2).bind λv3 =>
 (cond (v3.1==v1)
 ((at? a0.2.2.2.1 a2.2.2).bind λv4 =>
 ((ba_ a1 v4.2.2).bind λv5 =>
 (some (v5.1,()))))
 ((at? a0.2.2.2.1 a2.2.2).bind λv6 =>
 (cond (v6.2.1==v1)
 ((at? a0.2.2.2.1 a2.2.2).bind λv7 =>
 ((ba_ a1 v7.2.2).bind λv8 =>
 (some (v8.1,()))))
 (some (false,()))))))
 (some (false,()))))
 (cond (a2.2.1==2)
 ((bq_ a2.2.2 0 (w64 ((a0.2.2.1.length:Int) - 1))).bind λv9 =>
 (cond v9.1
 ((at? a1.2.1 a2.2.2).bind λv10 =>
 (cond (v10==v1)
 ((at? a0.2.2.1 a2.2.2).bind λv11 =>
 ((ba_ a1 v11.2.2).bind λv12 =>
 (cond v12.1
 ((gz_ a1 a2.1).bind λv13 =>
 (some ((decide (v13.1<3)),())))
 (some (false,())))))
 (some (false,()))))
 (some (false,()))))
 (cond (a2.2.1==3)
 ((bq_ a2.2.2 0 (w64 ((a0.2.2.1.length:Int) - 1))).bind λv14 =>
 (cond v14.1
 ((at? a1.2.1 a2.2.2).bind λv15 =>
 (some ((v15==(w64 ((-2) - a2.1))),())))
 (some (false,()))))
 (cond (a2.2.1==4)
 ((bq_ a2.2.2 0 (w64 ((a0.2.2.2.2.1.length:Int) - 1))).bind λv16 =>
 (cond (!v16.1)
 (some (false,()))
 ((at? a0.2.2.2.2.1 a2.2.2).bind λv17 =>
 ((ag_ (ρ:=(Unit⊕(Bool×Unit))) (λ(v18:(Int×Unit)) =>
 (cond (decide (v18.1<(v17.2.2.2.1.length:Int)))
 ((at? v17.2.2.2.1 v18.1).bind λv19 =>
 ((at? a1.2.1 v19).bind λv20 =>
 (cond (v20 != (w64 ((-2) - a2.1)))
 (some (inr (inr (false,()))))
 (some (inl ((w64 (v18.1+1)),()))))))
 (some (inr (inl ()))))) (0,())).bind λv21 =>
 (ca_ v21 (λv22=>((ag_ (ρ:=(Unit⊕(Bool×Unit))) (λ(v24:(Int×Unit)) =>
 (cond (decide (v24.1<(v17.2.2.2.2.2.2.2.length:Int)))
 ((at? v17.2.2.2.2.2.2.2 v24.1).bind λv25 =>
 ((at? a1.2.1 v25).bind λv26 =>
 (cond (v26 != (-1))
 (some (inr (inr (false,()))))
 (some (inl ((w64 (v24.1+1)),()))))))
 (some (inr (inl ()))))) (0,())).bind λv27 =>
 (ca_ v27 (λv28=>(cond (v17.2.1==v1)
 ((ba_ a1 v17.2.2.2.2.1).bind λv30 =>
 (cond v30.1
 ((gz_ a1 a2.1).bind λv31 =>
 (some ((decide ((w64 ((w64 (v31.1 - (v17.2.2.2.2.2.2.1.length:Int)))+(v17.2.2.2.2.2.2.2.length:Int)))≤3)),())))
 (some (false,()))))
 (some (false,()))))
 (λv29=>(some v29)))))
 (λv23=>(some v23)))))))
 (some (false,())))))))))
theorem x_157:av_ cx_157 an_157 157 [ao_,ar_,aq_] [.bool]=λx=>jj_ x.1 x.2.1 x.2.2.1:=by kernel_rfl
noncomputable def c_157:Con Tryz.prog:=aw_ _ _ 157 [ao_,ar_,aq_] [.bool] _ x_157
def an_30:An:=(.p .z (.p (.j0 [.v 27 .bool] .z .z) (.p (.p .z (.ls [.v 3 .int] [] [] 0 (.p .z (.p (.j0 [.v 50 .bool] .z .z) .z)))) (.p (.p .z (.ls [.v 4 .int] [] [] 2 .z)) (.p (.p .z (.ls [.v 5 .int] [] [] 4 (.p .z (.p (.p .z (.j0 [.v 93 .bool] .z .z)) .z)))) .z)))))
noncomputable def cs_30:List (Con Tryz.prog):=[c_63]
noncomputable def cl_30:List (Cpy Tryz.prog):=[]
noncomputable def cx_30:Cx Tryz.prog:=cxC cs_30 cl_30
noncomputable def ki_ (a0:ac_):Option (Bool×Unit) :=
 ((((mw_ a0.1).bind λv0 =>
 (cond v0.1
 (some (true,()))
 (cond (decide (10<(a0.2.1.length:Int)))
 (some (true,()))
 (cond (decide (10<(a0.2.2.1.length:Int)))
 (some (true,()))
 (some ((decide (20<(a0.2.2.2.1.length:Int))),()))))))).bind λv1 =>
 (cond v1.1
 (some (true,()))
 ((ag_ (ρ:=(Unit⊕(Bool×Unit))) (λ(v2:(Int×Unit)) =>
 (cond (decide (v2.1<(a0.2.1.length:Int)))
 ((((at? a0.2.1 v2.1).bind λv3 =>
 (cond (decide (3<v3.1))
 ((at? a0.2.1 v2.1).bind λv4 =>
 (some ((decide (5<v4.2)),())))
 (some (false,()))))).bind λv5 =>
 (cond v5.1
 (some (inr (inr (true,()))))
 (some (inl ((w64 (v2.1+1)),())))))
 (some (inr (inl ()))))) (0,())).bind λv6 =>
 (ca_ v6 (λv7=>((ag_ (ρ:=(Unit⊕(Bool×Unit))) (λ(v9:(Int×Unit)) =>
 (cond (decide (v9.1<(a0.2.2.1.length:Int)))
 ((at? a0.2.2.1 v9.1).bind λv10 =>
 (cond (decide (10<(v10.length:Int)))
 (some (inr (inr (true,()))))
 (some (inl ((w64 (v9.1+1)),())))))
 (some (inr (inl ()))))) (0,())).bind λv11 =>
 (ca_ v11 (λv12=>((ag_ (ρ:=(Unit⊕(Bool×Unit))) (λ(v14:(Int×Unit)) =>
 (cond (decide (v14.1<(a0.2.2.2.1.length:Int)))
 ((at? a0.2.2.2.1 v14.1).bind λv15 =>
 (((cond (decide (100<(v15.1.length:Int)))
 (some (true,()))
 (cond (decide (20<(v15.2.2.2.1.length:Int)))
 (some (true,()))
 (some ((decide (10<(v15.2.2.2.2.2.2.2.2.2.1.length:Int))),()))))).bind λv16 =>
 (cond v16.1
 (some (inr (inr (true,()))))
 (some (inl ((w64 (v14.1+1)),()))))))
 (some (inr (inl ()))))) (0,())).bind λv17 =>
 (ca_ v17 (λv18=>(some (false,())))
 (λv19=>(some v19)))))
 (λv13=>(some v13)))))
 (λv8=>(some v8))))))
theorem x_30:av_ cx_30 an_30 30 [an_] [.bool]=λx=>ki_ x.1:=by kernel_rfl
noncomputable def c_30:Con Tryz.prog:=aw_ _ _ 30 [an_] [.bool] _ x_30
def an_209:An:=.z
noncomputable def cs_209:List (Con Tryz.prog):=[c_233]
noncomputable def cl_209:List (Cpy Tryz.prog):=[]
noncomputable def cx_209:Cx Tryz.prog:=cxC cs_209 cl_209
noncomputable def cy_ (a0:(List (List UInt8))) (a1:(List UInt8)):Option (Bool×Unit) :=
 ((ds_ a0 a1).bind λv0 =>
 (some ((decide (0≤v0.1)),())))
theorem x_209:av_ cx_209 an_209 209 [(.list .str),.str] [.bool]=λx=>cy_ x.1 x.2.1:=by kernel_rfl
noncomputable def c_209:Con Tryz.prog:=aw_ _ _ 209 [(.list .str),.str] [.bool] _ x_209
def an_135:An:=.z
noncomputable def cs_135:List (Con Tryz.prog):=[bx6]
noncomputable def cl_135:List (Cpy Tryz.prog):=[]
noncomputable def cx_135:Cx Tryz.prog:=cxC cs_135 cl_135
noncomputable def fb_ (a0:af_) (a1:Int) (a2:Int):Option (Bool×Unit) :=
 ((bd_ a1 0 (w64 ((a0.2.1.length:Int) - 1))).bind λv0 =>
 (cond v0.1
 ((at? a0.2.1 a1).bind λv1 =>
 ((bd_ a2 0 (w64 (v1.2.2.1 - 1))).bind λv2 =>
 (some (v2.1,()))))
 (some (false,()))))
theorem x_135:av_ cx_135 an_135 135 [ao_,.int,.int] [.bool]=λx=>fb_ x.1 x.2.1 x.2.2.1:=by kernel_rfl
noncomputable def ck8:Con Tryz.prog:=aw_ _ _ 135 [ao_,.int,.int] [.bool] _ x_135
def an_85:An:=.z
noncomputable def cs_85:List (Con Tryz.prog):=[c_36]
noncomputable def cl_85:List (Cpy Tryz.prog):=[]
noncomputable def cx_85:Cx Tryz.prog:=cxC cs_85 cl_85
noncomputable def bg_ (a0:(List Int)) (a1:Int):Option (Bool×Unit) :=
 ((er_ a0 a1).bind λv0 =>
 (some ((decide (0≤v0.1)),())))
theorem x_85:av_ cx_85 an_85 85 [(.list .int),.int] [.bool]=λx=>bg_ x.1 x.2.1:=by kernel_rfl
noncomputable def c_85:Con Tryz.prog:=aw_ _ _ 85 [(.list .int),.int] [.bool] _ x_85
def an_77:An:=(.p .z (.p (.j0 [.v 12 .bool] .z .z) .z))
noncomputable def cs_77:List (Con Tryz.prog):=[ck7]
noncomputable def cl_77:List (Cpy Tryz.prog):=[]
noncomputable def cx_77:Cx Tryz.prog:=cxC cs_77 cl_77
noncomputable def ek_ (a0:ab_):Option (Int×Unit) :=
 ((((bw_ a0.1 1 4).bind λv0 =>
 (cond (!v0.1)
 (some (true,()))
 ((bw_ a0.2 2 10).bind λv1 =>
 (some ((!v1.1),())))))).bind λv2 =>
 (cond v2.1
 (some (10,()))
 (some (0,()))))
theorem x_77:av_ cx_77 an_77 77 [am_] [.int]=λx=>ek_ x.1:=by kernel_rfl
noncomputable def c_77:Con Tryz.prog:=aw_ _ _ 77 [am_] [.int] _ x_77
def an_220:An:=.z
noncomputable def cs_220:List (Con Tryz.prog):=[ck7]
noncomputable def cl_220:List (Cpy Tryz.prog):=[]
noncomputable def cx_220:Cx Tryz.prog:=cxC cs_220 cl_220
noncomputable def co_ (a0:ab_) (a1:Int):Option (Bool×Unit) :=
 ((bw_ a1 0 (w64 (a0.2 - 1))).bind λv0 =>
 (some (v0.1,())))
theorem x_220:av_ cx_220 an_220 220 [am_,.int] [.bool]=λx=>co_ x.1 x.2.1:=by kernel_rfl
noncomputable def c_220:Con Tryz.prog:=aw_ _ _ 220 [am_,.int] [.bool] _ x_220
def an_236:An:=.z
noncomputable def cs_236:List (Con Tryz.prog):=[ck7]
noncomputable def cl_236:List (Cpy Tryz.prog):=[]
noncomputable def cx_236:Cx Tryz.prog:=cxC cs_236 cl_236
noncomputable def br_ (a0:ab_) (a1:Int):Option (Bool×Unit) :=
 ((bw_ a1 0 (w64 (a0.1 - 1))).bind λv0 =>
 (some (v0.1,())))
theorem x_236:av_ cx_236 an_236 236 [am_,.int] [.bool]=λx=>br_ x.1 x.2.1:=by kernel_rfl
noncomputable def c_236:Con Tryz.prog:=aw_ _ _ 236 [am_,.int] [.bool] _ x_236
def an_222:An:=(.p .z (.p (.p .z (.p .z (.p (.p (.q [] .z .z) .z) (.p .z (.p (.p .z (.p (.p .z (.lp [.v 5 .int,.v 35 .int] [.v 5 .int] [] 1 .z)) .z)) (.p .z (.p (.p (.q [] .z .z) .z) (.p .z (.p (.p (.q [] .z .z) .z) (.p .z (.p (.p .z (.p (.p .z (.lp [.v 8 .int,.v 77 .int] [.v 8 .int] [] 3 (.p .z (.p .z (.j0 [.v 8 .int] .z .z))))) .z)) .z))))))))))) (.p (.q [] .z .z) .z)))
noncomputable def cs_222:List (Con Tryz.prog):=[c_237]
noncomputable def cl_222:List (Cpy Tryz.prog):=[]
noncomputable def cx_222:Cx Tryz.prog:=cxC cs_222 cl_222
noncomputable def mx_ (a0:ak_) (a1:(List Int)):Option (Bool×Unit) :=
 (cond (a0.1==1)
 ((at? a1 a0.2.1).bind λv0 =>
 (some ((v0==a0.2.2.2.1),())))
 (cond (a0.1==2)
 ((sub? a1 a0.2.1 (w64 (a0.2.2.1+1))).bind λv1 =>
 ((ag_ (ρ:=(Int×Unit)) (λ(v2:(Int×(Int×Unit))) =>
 (cond (decide (v2.2.1<(v1.length:Int)))
 ((at? v1 v2.2.1).bind λv3 =>
 (some (inl ((w64 (v2.1+v3)),((w64 (v2.2.1+1)),())))))
 (some (inr (v2.1,()))))) (0,(0,()))).bind λv4 =>
 (some ((v4.1==a0.2.2.2.1),()))))
 (cond (a0.1==3)
 ((at? a1 a0.2.1).bind λv5 =>
 ((at? a1 a0.2.2.1).bind λv6 =>
 (some ((decide (v5<v6)),()))))
 (cond (a0.1==4)
 ((at? a1 a0.2.1).bind λv7 =>
 ((at? a1 a0.2.2.1).bind λv8 =>
 (some ((v7==v8),()))))
 (cond (a0.1==5)
 ((ag_ (ρ:=(Int×Unit)) (λ(v9:(Int×(Int×Unit))) =>
 (cond (decide (v9.2.1<(a1.length:Int)))
 ((((at? a1 v9.2.1).bind λv10 =>
 (cond (v10==a0.2.2.2.1)
 (some ((w64 (v9.1+1)),()))
 (some (v9.1,()))))).bind λv11 =>
 (some (inl (v11.1,((w64 (v9.2.1+1)),())))))
 (some (inr (v9.1,()))))) (0,(0,()))).bind λv12 =>
 (some ((v12.1==a0.2.2.2.2.1),())))
 (cond (a0.1==6)
 ((ie_ a1 a0.2.2.2.2.2.1).bind λv13 =>
 (cond (v13.1==a0.2.2.2.1)
 (some ((v13.2.1==a0.2.2.2.2.1),()))
 (some (false,()))))
 ((at? a1 a0.2.1).bind λv14 =>
 ((md v14 a0.2.2.2.1).bind λv15 =>
 (some ((v15==a0.2.2.2.2.1),()))))))))))
theorem x_222:av_ cx_222 an_222 222 [ap_,(.list .int)] [.bool]=λx=>mx_ x.1 x.2.1:=by kernel_rfl
noncomputable def c_222:Con Tryz.prog:=aw_ _ _ 222 [ap_,(.list .int)] [.bool] _ x_222
def an_80:An:=.z
def at_80:FuncId→An:=λk=>cond (Nat.beq k 143) (.p .z (.j0 [.v 4 .bool] .z .z)) (cond (Nat.beq k 144) (.p .z (.j0 [.v 3 .bool] (.q [] .z .z) .z)) (cond (Nat.beq k 189) (.p .z (.p (.p .z (.ls [.v 8 .int] [] [] 0 .z)) .z)) (.z)))
noncomputable def cs_80:List (Con Tryz.prog):=[c_81]
noncomputable def cl_80:List (Cpy Tryz.prog):=[]
noncomputable def cx_80:Cx Tryz.prog:=cxI at_80 (λk=>Nat.beq k 81||false) (cxC cs_80 cl_80) 4
noncomputable def le_ (a0:af_) (a1:(List be_)):Option (Bool×Unit) :=
 (cond (decide ((a1.length:Int)≤8))
 ((((ag_ (ρ:=(Unit⊕(Bool×Unit))) (λ(v0:(Int×Unit)) =>
 (cond (decide (v0.1<(a1.length:Int)))
 ((at? a1 v0.1).bind λv1 =>
 ((((bp_ v1.1 0 (w64 ((a0.2.1.length:Int) - 1))).bind λv2 =>
 (cond (!v2.1)
 (some (true,()))
 ((at? a0.2.1 v1.1).bind λv3 =>
 ((bp_ v1.2.1 0 (w64 (v3.2.2.1 - 1))).bind λv4 =>
 (some ((!v4.1),()))))))).bind λv5 =>
 (cond v5.1
 (some (inr (inr ((decide (0≤v0.1)),()))))
 (some (inl ((w64 (v0.1+1)),()))))))
 (some (inr (inl ()))))) (0,())).bind λv6 =>
 (ca_ v6 (λv7=>(some ((decide (0≤(-1))),())))
 (λv8=>(some v8))))).bind λv9 =>
 (some ((!v9.1),())))
 (some (false,())))
theorem x_80:av_ cx_80 an_80 80 [ao_,(.list bz_)] [.bool]=λx=>le_ x.1 x.2.1:=by kernel_rfl
noncomputable def c_80:Con Tryz.prog:=aw_ _ _ 80 [ao_,(.list bz_)] [.bool] _ x_80
def an_148:An:=(.p .z (.p (.p (.q [] .z .z) .z) (.p (.q [] .z .z) (.p .z (.p .z (.p .z (.p (.p .z (.p .z (.p (.p (.p (.q [] .z .z) .z) .z) (.p .z (.p (.p (.q [] .z .z) .z) (.p .z (.p (.p (.q [] .z .z) .z) (.p .z (.p (.p (.p (.q [] .z .z) .z) .z) .z))))))))) .z)))))))
def at_148:FuncId→An:=λk=>cond (Nat.beq k 95) (.p .z (.j0 [.v 4 .bool] .z .z)) (cond (Nat.beq k 154) (.p .z (.p (.p .z (.ls [.v 8 .int] [] [] 0 .z)) .z)) (cond (Nat.beq k 194) (.p .z (.p (.q [] .z .z) .z)) (.z)))
noncomputable def cs_148:List (Con Tryz.prog):=[bx6,bx4,c_197]
noncomputable def cl_148:List (Cpy Tryz.prog):=[]
noncomputable def cx_148:Cx Tryz.prog:=cxI at_148 (λk=>Nat.beq k 126||Nat.beq k 147||Nat.beq k 197||false) (cxC cs_148 cl_148) 7
noncomputable def cz_ (a0:hd_) (a1:ad_):Option (Bool×Unit) :=
 ((bd_ a1.1 0 (w64 ((a0.2.2.2.length:Int) - 1))).bind λv0 =>
 (cond (!v0.1)
 (some (false,()))
 ((at? a0.2.2.2 a1.1).bind λv1 =>
 (cond (a1.2.1==1)
 ((bd_ a1.2.2 0 (w64 ((a0.1.2.2.2.1.length:Int) - 1))).bind λv2 =>
 (cond (!v2.1)
 (some (false,()))
 ((at? a0.1.2.2.2.1 a1.2.2).bind λv3 =>
 (cond (v3.1==v1)
 ((bb_ a0 v3.2.2).bind λv4 =>
 (some (v4.1,())))
 (cond (v3.2.1==v1)
 ((bb_ a0 v3.2.2).bind λv5 =>
 (some (v5.1,())))
 (some (false,())))))))
 (cond (a1.2.1==2)
 ((bd_ a1.2.2 0 (w64 ((a0.2.2.1.length:Int) - 1))).bind λv6 =>
 (cond v6.1
 ((at? a0.2.2.1 a1.2.2).bind λv7 =>
 (cond (v7==v1)
 ((at? a0.1.2.2.1 a1.2.2).bind λv8 =>
 ((bb_ a0 v8.2.2).bind λv9 =>
 (cond v9.1
 ((dj_ a0 a1.1).bind λv10 =>
 (some ((decide (v10.1<3)),())))
 (some (false,())))))
 (some (false,()))))
 (some (false,()))))
 (cond (a1.2.1==3)
 ((bd_ a1.2.2 0 (w64 ((a0.2.2.1.length:Int) - 1))).bind λv11 =>
 (cond v11.1
 ((at? a0.2.2.1 a1.2.2).bind λv12 =>
 (some ((v12==(w64 ((-2) - a1.1))),())))
 (some (false,()))))
 (cond (a1.2.1==4)
 ((bd_ a1.2.2 0 (w64 ((a0.1.2.2.2.2.1.length:Int) - 1))).bind λv13 =>
 (cond (!v13.1)
 (some (false,()))
 ((at? a0.1.2.2.2.2.1 a1.2.2).bind λv14 =>
 (cond (v14.2.1==v1)
 ((((ag_ (ρ:=(Unit⊕(Bool×Unit))) (λ(v15:(Int×Unit)) =>
 (cond (decide (v15.1<(v14.2.2.2.1.length:Int)))
 ((at? v14.2.2.2.1 v15.1).bind λv16 =>
 ((at? a0.2.2.1 v16).bind λv17 =>
 (cond (!(v17==(w64 ((-2) - a1.1))))
 (some (inr (inr ((decide (0≤v15.1)),()))))
 (some (inl ((w64 (v15.1+1)),()))))))
 (some (inr (inl ()))))) (0,())).bind λv18 =>
 (ca_ v18 (λv19=>(some ((decide (0≤(-1))),())))
 (λv20=>(some v20))))).bind λv21 =>
 (cond (!v21.1)
 ((bb_ a0 v14.2.2.2.2.1).bind λv22 =>
 (cond v22.1
 ((((ag_ (ρ:=(Unit⊕(Bool×Unit))) (λ(v23:(Int×Unit)) =>
 (cond (decide (v23.1<(v14.2.2.2.2.2.2.2.length:Int)))
 ((at? v14.2.2.2.2.2.2.2 v23.1).bind λv24 =>
 ((at? a0.2.2.1 v24).bind λv25 =>
 (cond (!(v25==(-1)))
 (some (inr (inr ((decide (0≤v23.1)),()))))
 (some (inl ((w64 (v23.1+1)),()))))))
 (some (inr (inl ()))))) (0,())).bind λv26 =>
 (ca_ v26 (λv27=>(some ((decide (0≤(-1))),())))
 (λv28=>(some v28))))).bind λv29 =>
 (cond (!v29.1)
 ((dj_ a0 a1.1).bind λv30 =>
 (some ((decide ((w64 ((w64 (v30.1 - (v14.2.2.2.2.2.2.1.length:Int)))+(v14.2.2.2.2.2.2.2.length:Int)))≤3)),())))
 (some (false,()))))
 (some (false,()))))
 (some (false,()))))
 (some (false,()))))))
 (some (false,())))))))))
theorem x_148:av_ cx_148 an_148 148 [(.ref ey_),aq_] [.bool]=λx=>cz_ x.1 x.2.1:=by kernel_rfl
noncomputable def c_148:Con Tryz.prog:=aw_ _ _ 148 [(.ref ey_),aq_] [.bool] _ x_148
def an_151:An:=.z
noncomputable def cs_151:List (Con Tryz.prog):=[c_56,c_198]
noncomputable def cl_151:List (Cpy Tryz.prog):=[]
noncomputable def cx_151:Cx Tryz.prog:=cxC cs_151 cl_151
noncomputable def kg_ (a0:aa_):Option ((List UInt8)×Unit) :=
 ((fi_ [a0.1.1,a0.1.2.1,a0.1.2.2]).bind λv0 =>
 ((ld_ a0).bind λv1 =>
 ((cat? v0.1 v1.1).bind λv2 =>
 (some (v2,())))))
theorem x_151:av_ cx_151 an_151 151 [aj_] [.str]=λx=>kg_ x.1:=by kernel_rfl
noncomputable def c_151:Con Tryz.prog:=aw_ _ _ 151 [aj_] [.str] _ x_151
def an_32:An:=.z
noncomputable def cs_32:List (Con Tryz.prog):=[c_70]
noncomputable def cl_32:List (Cpy Tryz.prog):=[]
noncomputable def cx_32:Cx Tryz.prog:=cxC cs_32 cl_32
noncomputable def wz_  : Option (ac_×Unit) :=
 (some ((([[104,97,108,108],[118,97,117,108,116]],([([98,111,120],(0,(2,0))),([100,111,111,114],(0,(2,0)))],([([107,101,121],(0,[(0,(1,false))]))],([(0,(1,[(1,(1,false))]))],([([111,112,101,110],(0,(0,([],([],([(0,1)],([],[]))))))),([116,117,114,110],(0,((-1),([0],([],([(1,1)],([0],[])))))))],([],(1,[]))))))),([(2,4)],([[3,1]],([([108,101,97,102],(0,(0,([],(2,(0,(1,(4,(0,([],false)))))))))),([98,97,99,107],(0,(0,([(0,(0,false))],(3,(1,(0,(0,(0,([],false)))))))))),([99,97,114,100],(1,((-1),([],(0,(0,(0,(0,(0,([],false))))))))))],1)))),()))
theorem x_32:av_ cx_32 an_32 32 [] [an_]=λx=>wz_:=by kernel_rfl
noncomputable def c_32:Con Tryz.prog:=aw_ _ _ 32 [] [an_] _ x_32
def an_33:An:=(.p .z (.p .z (.p (.p .z (.lp [.v 4 .int] [] [.o (.s 20) ou_] 0 .z)) (.p (.p .z (.lp [.v 5 .int] [] [.o (.s 24) ag7] 2 .z)) (.p (.p .z (.lp [.v 6 .int] [] [.o (.s 28) lt_] 4 .z)) (.p (.p .z (.lp [.v 8 .int] [] [.o (.s 32) yd_] 6 .z)) .z))))))
noncomputable def cs_33:List (Con Tryz.prog):=[c_71,c_72]
noncomputable def cl_33:List (Cpy Tryz.prog):=[]
noncomputable def cx_33:Cx Tryz.prog:=cxC cs_33 cl_33
noncomputable def lc_ (a0:af_):Option (af_×Unit) :=
 ((push? (α:=(List UInt8)) [] a0.1).bind λv0 =>
 ((push? (α:=gv_) [] a0.2.1).bind λv1 =>
 ((push? (α:=jv_) [] a0.2.2.1).bind λv2 =>
 ((push? (α:=on_) [] a0.2.2.2.1).bind λv3 =>
 ((push? (α:=cv_) [] a0.2.2.2.2.1).bind λv4 =>
 ((push? (α:=pq_) [] a0.2.2.2.2.2.1).bind λv5 =>
 ((cl_ a0.2.2.2.2.2.2.2).bind λv6 =>
 ((ag_ (ρ:=((List jv_)×Unit)) (λ(v7:(Int×((List jv_)×Unit))) =>
 (cond (decide (v7.1<(v7.2.1.length:Int)))
 ((at? v7.2.1 v7.1).bind λv8 =>
 ((at? v7.2.1 v7.1).bind λv9 =>
 ((cl_ v9.2.2).bind λv10 =>
 ((at? v7.2.1 v7.1).bind λv11 =>
 ((at? v7.2.1 v7.1).bind λv12 =>
 (some (inl ((w64 (v7.1+1)),((v7.2.1.set v7.1.toNat (v12.1,(v12.2.1,v10.1))),())))))))))
 (some (inr (v7.2.1,()))))) (0,(v2,()))).bind λv13 =>
 ((ag_ (ρ:=((List on_)×Unit)) (λ(v14:(Int×((List on_)×Unit))) =>
 (cond (decide (v14.1<(v14.2.1.length:Int)))
 ((at? v14.2.1 v14.1).bind λv15 =>
 ((at? v14.2.1 v14.1).bind λv16 =>
 ((cl_ v16.2.2).bind λv17 =>
 ((at? v14.2.1 v14.1).bind λv18 =>
 ((at? v14.2.1 v14.1).bind λv19 =>
 (some (inl ((w64 (v14.1+1)),((v14.2.1.set v14.1.toNat (v19.1,(v19.2.1,v17.1))),())))))))))
 (some (inr (v14.2.1,()))))) (0,(v3,()))).bind λv20 =>
 ((ag_ (ρ:=((List cv_)×Unit)) (λ(v21:(Int×((List cv_)×Unit))) =>
 (cond (decide (v21.1<(v21.2.1.length:Int)))
 ((at? v21.2.1 v21.1).bind λv22 =>
 ((at? v21.2.1 v21.1).bind λv23 =>
 ((dp_ v23.2.2.2.1).bind λv24 =>
 ((dp_ v23.2.2.2.2.2.2.1).bind λv25 =>
 ((dp_ v23.2.2.2.2.2.2.2).bind λv26 =>
 ((cl_ v23.2.2.2.2.1).bind λv27 =>
 ((push? (α:=ab_) [] v23.2.2.2.2.2.1).bind λv28 =>
 ((at? v21.2.1 v21.1).bind λv29 =>
 ((at? v21.2.1 v21.1).bind λv30 =>
 (some (inl ((w64 (v21.1+1)),((v21.2.1.set v21.1.toNat (v23.1,(v23.2.1,(v23.2.2.1,(v24.1,(v27.1,(v28,(v25.1,v26.1)))))))),())))))))))))))
 (some (inr (v21.2.1,()))))) (0,(v4,()))).bind λv31 =>
 ((ag_ (ρ:=((List pq_)×Unit)) (λ(v32:(Int×((List pq_)×Unit))) =>
 (cond (decide (v32.1<(v32.2.1.length:Int)))
 ((at? v32.2.1 v32.1).bind λv33 =>
 ((at? v32.2.1 v32.1).bind λv34 =>
 ((cl_ v34.1).bind λv35 =>
 ((at? v32.2.1 v32.1).bind λv36 =>
 ((at? v32.2.1 v32.1).bind λv37 =>
 (some (inl ((w64 (v32.1+1)),((v32.2.1.set v32.1.toNat (v35.1,v37.2)),())))))))))
 (some (inr (v32.2.1,()))))) (0,(v5,()))).bind λv38 =>
 (some ((v0,(v1,(v13.1,(v20.1,(v31.1,(v38.1,(a0.2.2.2.2.2.2.1,v6.1))))))),())))))))))))))
theorem x_33:av_ cx_33 an_33 33 [ao_] [ao_]=λx=>lc_ x.1:=by kernel_rfl
noncomputable def c_33:Con Tryz.prog:=aw_ _ _ 33 [ao_] [ao_] _ x_33
noncomputable def ix_ (a0:ac_) (a1:aa_):Option (Bool×Unit) :=
 ((ba_ a1.1 a0.1.2.2.2.2.2.2.2).bind λv0 =>
 (some (v0.1,())))
end
section
set_option maxRecDepth 100000
set_option maxHeartbeats 0
def an_68:An:=(.p .z (.p (.p .z (.ls [.v 5 .int] [] [] 0 (.p .z (.p (.p (.q [] .z .z) .z) .z)))) .z))
noncomputable def cs_68:List (Con Tryz.prog):=[ck9]
noncomputable def cl_68:List (Cpy Tryz.prog):=[]
noncomputable def cx_68:Cx Tryz.prog:=cxC cs_68 cl_68
noncomputable def cs_ (a0:af_) (a1:(List be_)):Option (Bool×Unit) :=
 ((ag_ (ρ:=(Unit⊕(Bool×Unit))) (λ(v0:(Int×Unit)) =>
 (cond (decide (v0.1<(a1.length:Int)))
 ((at? a1 v0.1).bind λv1 =>
 ((at? a1 v0.1).bind λv2 =>
 ((gt_ a0 v1.1 v2.2.1).bind λv3 =>
 (cond (!v3.1)
 (some (inr (inr (false,()))))
 (some (inl ((w64 (v0.1+1)),())))))))
 (some (inr (inl ()))))) (0,())).bind λv4 =>
 (ca_ v4 (λv5=>(some ((decide ((a1.length:Int)≤8)),())))
 (λv6=>(some v6))))
theorem x_68:av_ cx_68 an_68 68 [ao_,(.list bz_)] [.bool]=λx=>cs_ x.1 x.2.1:=by kernel_rfl
noncomputable def c_68:Con Tryz.prog:=aw_ _ _ 68 [ao_,(.list bz_)] [.bool] _ x_68
def an_114:An:=.z
noncomputable def cs_114:List (Con Tryz.prog):=[c_165]
noncomputable def cl_114:List (Cpy Tryz.prog):=[]
noncomputable def cx_114:Cx Tryz.prog:=cxC cs_114 cl_114
noncomputable def du_ (a0:(List UInt8)):Option (Bool×Unit) :=
 (cond (decide ((a0.length:Int)≤12))
 ((hk_ a0).bind λv0 =>
 (some (v0.1,())))
 (some (false,())))
theorem x_114:av_ cx_114 an_114 114 [.str] [.bool]=λx=>du_ x.1:=by kernel_rfl
noncomputable def c_114:Con Tryz.prog:=aw_ _ _ 114 [.str] [.bool] _ x_114
def an_66:An:=.z
noncomputable def cs_66:List (Con Tryz.prog):=[c_65,c_121]
noncomputable def cl_66:List (Cpy Tryz.prog):=[]
noncomputable def cx_66:Cx Tryz.prog:=cxC cs_66 cl_66
noncomputable def ft_ (a0:ab_) (a1:(List Int)):Option (Int×Unit) :=
 ((ej_ a0).bind λv0 =>
 (cond (v0.1 != 0)
 (some (v0.1,()))
 ((gl_ a0 a1).bind λv1 =>
 (cond (!v1.1)
 (some (12,()))
 (some (0,()))))))
theorem x_66:av_ cx_66 an_66 66 [am_,(.list .int)] [.int]=λx=>ft_ x.1 x.2.1:=by kernel_rfl
noncomputable def c_66:Con Tryz.prog:=aw_ _ _ 66 [am_,(.list .int)] [.int] _ x_66
def an_168:An:=(.p .z (.p (.q [] .z .z) (.p .z (.p .z (.j0 [.v 8 .bool,.b (.s 7) [.keep,.val .int,.val .int,.val .int,.val .int,.val (.list .int),.keep]] (.p .z (.p .z (.p (.j0 [.v 8 .bool] .z .z) (.p .z (.p (.j0 [.v 8 .bool] .z .z) (.j0 [.v 72 .bool] .z (.p (.j0 [.v 8 .bool] .z .z) (.p .z (.p (.j0 [.v 8 .bool] .z .z) (.p .z (.p (.j0 [.v 8 .bool] .z .z) (.p .z (.p (.j0 [.v 8 .bool] .z .z) .z))))))))))))) .z)))))
noncomputable def cs_168:List (Con Tryz.prog):=[c_120,c_121,c_208]
noncomputable def cl_168:List (Cpy Tryz.prog):=[]
noncomputable def cx_168:Cx Tryz.prog:=cxC cs_168 cl_168
noncomputable def gm_ (a0:ab_) (a1:ak_):Option (Bool×Unit) :=
 ((bl_ a1.2.1 0 (w64 (a0.1 - 1))).bind λv0 =>
 ((bl_ a1.2.2.1 0 (w64 (a0.1 - 1))).bind λv1 =>
 (((cond (a1.1==1)
 (((cond v0.1
 ((bl_ a1.2.2.2.1 0 (w64 (a0.2 - 1))).bind λv2 =>
 (some (v2.1,())))
 (some (false,())))).bind λv3 =>
 (some (v3.1,((a1.2.1,(0,(a1.2.2.2.1,(0,([],()))))),()))))
 (cond (a1.1==2)
 (((cond v0.1
 (cond v1.1
 (cond (decide (a1.2.1≤a1.2.2.1))
 ((bl_ a1.2.2.2.1 0 100).bind λv4 =>
 (some (v4.1,())))
 (some (false,())))
 (some (false,())))
 (some (false,())))).bind λv5 =>
 (some (v5.1,((a1.2.1,(a1.2.2.1,(a1.2.2.2.1,(0,([],()))))),()))))
 (((cond (a1.1==3)
 (some ((a1.1==3),()))
 (some ((a1.1==4),())))).bind λv6 =>
 (cond v6.1
 (((cond v0.1
 (cond v1.1
 (some ((a1.2.1 != a1.2.2.1),()))
 (some (false,())))
 (some (false,())))).bind λv7 =>
 (some (v7.1,((a1.2.1,(a1.2.2.1,(0,(0,([],()))))),()))))
 (cond (a1.1==5)
 ((((bl_ a1.2.2.2.1 0 (w64 (a0.2 - 1))).bind λv8 =>
 (cond v8.1
 ((bl_ a1.2.2.2.2.1 0 a0.1).bind λv9 =>
 (some (v9.1,())))
 (some (false,()))))).bind λv10 =>
 (some (v10.1,((0,(0,(a1.2.2.2.1,(a1.2.2.2.2.1,([],()))))),()))))
 (cond (a1.1==6)
 ((((gl_ a0 a1.2.2.2.2.2.1).bind λv11 =>
 (cond v11.1
 ((bl_ a1.2.2.2.1 0 a0.1).bind λv12 =>
 (cond v12.1
 ((bl_ a1.2.2.2.2.1 0 a0.1).bind λv13 =>
 (some (v13.1,())))
 (some (false,()))))
 (some (false,()))))).bind λv14 =>
 (some (v14.1,((0,(0,(a1.2.2.2.1,(a1.2.2.2.2.1,(a1.2.2.2.2.2.1,()))))),()))))
 (cond (a1.1==7)
 (((cond v0.1
 ((bl_ a1.2.2.2.1 2 10).bind λv15 =>
 (cond v15.1
 ((bl_ a1.2.2.2.2.1 0 (w64 (a1.2.2.2.1 - 1))).bind λv16 =>
 (some (v16.1,())))
 (some (false,()))))
 (some (false,())))).bind λv17 =>
 (some (v17.1,((a1.2.1,(0,(a1.2.2.2.1,(a1.2.2.2.2.1,([],()))))),()))))
 (some (false,((0,(0,(0,(0,([],()))))),()))))))))))).bind λv18 =>
 (cond v18.1
 ((iz_ a1 (a1.1,(v18.2.1.1,(v18.2.1.2.1,(v18.2.1.2.2.1,(v18.2.1.2.2.2.1,(v18.2.1.2.2.2.2.1,a1.2.2.2.2.2.2))))))).bind λv19 =>
 (some (v19.1,())))
 (some (false,()))))))
theorem x_168:av_ cx_168 an_168 168 [am_,ap_] [.bool]=λx=>gm_ x.1 x.2.1:=by kernel_rfl
noncomputable def c_168:Con Tryz.prog:=aw_ _ _ 168 [am_,ap_] [.bool] _ x_168
def an_124:An:=(.p .z (.p .z (.j0 [.v 5 .bool] (.p .z (.p .z (.p (.q [] .z .z) (.p .z (.p (.p .z (.p (.p .z (.lp [.v 6 .int,.v 7 .int] [.v 6 .int] [] 1 .z)) .z)) (.p .z (.p (.q [] .z .z) (.p .z (.p (.q [] .z .z) (.p .z (.p (.q [] .z .z) (.p .z (.p .z (.p .z (.p (.q [] .z .z) .z))))))))))))))) .z)))
noncomputable def cs_124:List (Con Tryz.prog):=[c_169,c_170]
noncomputable def cl_124:List (Cpy Tryz.prog):=[]
noncomputable def cx_124:Cx Tryz.prog:=cxC cs_124 cl_124
noncomputable def fh_ (a0:ak_) (a1:(List Int)):Option (Bool×Unit) :=
 (((cond (a0.1==1)
 ((at? a1 a0.2.1).bind λv0 =>
 (some ((v0==a0.2.2.2.1),())))
 (cond (a0.1==2)
 ((ag_ (ρ:=(Int×Unit)) (λ(v1:(Int×(Int×Unit))) =>
 (cond (decide (v1.2.1≤a0.2.2.1))
 ((at? a1 v1.2.1).bind λv2 =>
 (some (inl ((w64 (v1.1+v2)),((w64 (v1.2.1+1)),())))))
 (some (inr (v1.1,()))))) (0,(a0.2.1,()))).bind λv3 =>
 (some ((v3.1==a0.2.2.2.1),())))
 (cond (a0.1==3)
 ((at? a1 a0.2.1).bind λv4 =>
 ((at? a1 a0.2.2.1).bind λv5 =>
 (some ((decide (v4<v5)),()))))
 (cond (a0.1==4)
 ((at? a1 a0.2.1).bind λv6 =>
 ((at? a1 a0.2.2.1).bind λv7 =>
 (some ((v6==v7),()))))
 (cond (a0.1==5)
 ((ei_ a1 a0.2.2.2.1).bind λv8 =>
 (some ((v8.1==a0.2.2.2.2.1),())))
 (cond (a0.1==6)
 ((ic_ a1 a0.2.2.2.2.2.1).bind λv9 =>
 (cond (v9.1==a0.2.2.2.1)
 (some ((v9.2.1==a0.2.2.2.2.1),()))
 (some (false,()))))
 (cond (a0.1==7)
 ((at? a1 a0.2.1).bind λv10 =>
 ((md v10 a0.2.2.2.1).bind λv11 =>
 (some ((v11==a0.2.2.2.2.1),()))))
 (some (false,())))))))))).bind λv12 =>
 (some ((v12.1 != a0.2.2.2.2.2.2),())))
theorem x_124:av_ cx_124 an_124 124 [ap_,(.list .int)] [.bool]=λx=>fh_ x.1 x.2.1:=by kernel_rfl
noncomputable def c_124:Con Tryz.prog:=aw_ _ _ 124 [ap_,(.list .int)] [.bool] _ x_124
def an_103:An:=(.p .z (.p .z (.p (.p .z (.lp [.r 5 aq_ 59,.v 6 .int] [.r 5 aq_ 59] [] 0 (.p .z (.p (.p .z (.lp [.r 5 aq_ 59,.v 7 .int] [.r 5 aq_ 59] [] 2 (.p .z (.p (.p .z (.lp [.r 5 aq_ 59,.v 8 .int] [.r 5 aq_ 59] [] 4 (.p .z (.j0 [.r 5 aq_ 59] .z .z)))) .z)))) .z)))) .z)))
noncomputable def cs_103:List (Con Tryz.prog):=[c_157]
noncomputable def cl_103:List (Cpy Tryz.prog):=[]
noncomputable def cx_103:Cx Tryz.prog:=cxC cs_103 cl_103
noncomputable def es_ (a0:af_) (a1:ai_):Option ((List ad_)×Unit) :=
 ((ag_ (ρ:=((List ad_)×Unit)) (λ(v0:((List ad_)×(Int×Unit))) =>
 (cond (decide (v0.2.1<a0.2.2.2.2.2.2.1))
 ((ag_ (ρ:=((List ad_)×Unit)) (λ(v1:((List ad_)×(Int×Unit))) =>
 (cond (decide (v1.2.1≤4))
 ((ag_ (ρ:=((List ad_)×Unit)) (λ(v2:((List ad_)×(Int×Unit))) =>
 (cond (decide (v2.2.1<24))
 ((((jj_ a0 a1 (v0.2.1,(v1.2.1,v2.2.1))).bind λv3 =>
 (cond v3.1
 ((push? (α:=ad_) v2.1 [(v0.2.1,(v1.2.1,v2.2.1))]).bind λv4 =>
 (some (v4,())))
 (some (v2.1,()))))).bind λv5 =>
 (some (inl (v5.1,((w64 (v2.2.1+1)),())))))
 (some (inr (v2.1,()))))) (v1.1,(0,()))).bind λv6 =>
 (some (inl (v6.1,((w64 (v1.2.1+1)),())))))
 (some (inr (v1.1,()))))) (v0.1,(1,()))).bind λv7 =>
 (some (inl (v7.1,((w64 (v0.2.1+1)),())))))
 (some (inr (v0.1,()))))) ([],(0,()))).bind λv8 =>
 (some (v8.1,())))
theorem x_103:av_ cx_103 an_103 103 [ao_,ar_] [(.list aq_)]=λx=>es_ x.1 x.2.1:=by kernel_rfl
noncomputable def c_103:Con Tryz.prog:=aw_ _ _ 103 [ao_,ar_] [(.list aq_)] _ x_103
def an_105:An:=(.p .z (.p .z (.p (.q [] .z .z) (.j0 [.o (.c (.s 8) 0) .int,.o (.c (.s 8) 1) .int,.o (.c (.s 8) 2) .int] (.p .z (.p .z (.p .z (.p .z (.p .z (.p .z (.p .z (.p .z (.p (.p .z (.p (.p .z (.lp [.v 12 .int] [] [.o (.c (.s 8) 1) .int] 1 .z)) (.p (.p .z (.lp [.v 13 .int] [] [.o (.c (.s 8) 1) .int] 3 .z)) (.p .z (.lp [.v 14 .int] [] [.o (.c (.s 8) 0) .int] 5 .z))))) .z))))))))) .z))))
def at_105:FuncId→An:=λk=>.z
noncomputable def cs_105:List (Con Tryz.prog):=[c_159]
noncomputable def cl_105:List (Cpy Tryz.prog):=[]
noncomputable def cx_105:Cx Tryz.prog:=cxI at_105 (λk=>Nat.beq k 159||false) (cxC cs_105 cl_105) 2
noncomputable def gk_ (a0:af_) (a1:ai_) (a2:ad_):Option (ai_×Bool×Unit) :=
 ((push? (α:=Int) [] a1.1).bind λv0 =>
 ((push? (α:=Int) [] a1.2.1).bind λv1 =>
 ((push? (α:=Int) [] a1.2.2).bind λv2 =>
 ((at? a1.2.2 a2.1).bind λv3 =>
 (((cond (a2.2.1==1)
 ((at? a0.2.2.2.1 a2.2.2).bind λv4 =>
 ((at? a0.2.2.2.1 a2.2.2).bind λv5 =>
 ((at? v2 a2.1).bind λv6 =>
 ((at? v2 a2.1).bind λv7 =>
 (some (v0,(v1,((v2.set a2.1.toNat (w64 ((w64 (v4.1+v5.2.1)) - v3))),()))))))))
 (cond (a2.2.1==2)
 ((at? v1 a2.2.2).bind λv8 =>
 ((at? v1 a2.2.2).bind λv9 =>
 (some (v0,((v1.set a2.2.2.toNat (w64 ((-2) - a2.1))),(v2,()))))))
 (cond (a2.2.1==3)
 ((at? v1 a2.2.2).bind λv10 =>
 ((at? v1 a2.2.2).bind λv11 =>
 (some (v0,((v1.set a2.2.2.toNat v3),(v2,()))))))
 (cond (a2.2.1==4)
 ((at? a0.2.2.2.2.1 a2.2.2).bind λv12 =>
 ((ag_ (ρ:=((List Int)×Unit)) (λ(v13:(Int×((List Int)×Unit))) =>
 (cond (decide (v13.1<(v12.2.2.2.2.2.2.1.length:Int)))
 ((at? v12.2.2.2.2.2.2.1 v13.1).bind λv14 =>
 ((at? v13.2.1 v14).bind λv15 =>
 ((at? v13.2.1 v14).bind λv16 =>
 (some (inl ((w64 (v13.1+1)),((v13.2.1.set v14.toNat (-1)),())))))))
 (some (inr (v13.2.1,()))))) (0,(v1,()))).bind λv17 =>
 ((ag_ (ρ:=((List Int)×Unit)) (λ(v18:(Int×((List Int)×Unit))) =>
 (cond (decide (v18.1<(v12.2.2.2.2.2.2.2.length:Int)))
 ((at? v12.2.2.2.2.2.2.2 v18.1).bind λv19 =>
 ((at? v18.2.1 v19).bind λv20 =>
 ((at? v18.2.1 v19).bind λv21 =>
 (some (inl ((w64 (v18.1+1)),((v18.2.1.set v19.toNat (w64 ((-2) - a2.1))),())))))))
 (some (inr (v18.2.1,()))))) (0,(v17.1,()))).bind λv22 =>
 ((ag_ (ρ:=((List Int)×Unit)) (λ(v23:(Int×((List Int)×Unit))) =>
 (cond (decide (v23.1<(v12.2.2.2.2.2.1.length:Int)))
 ((at? v12.2.2.2.2.2.1 v23.1).bind λv24 =>
 ((at? v12.2.2.2.2.2.1 v23.1).bind λv25 =>
 ((at? v23.2.1 v24.1).bind λv26 =>
 ((at? v23.2.1 v24.1).bind λv27 =>
 (some (inl ((w64 (v23.1+1)),((v23.2.1.set v24.1.toNat v25.2),()))))))))
 (some (inr (v23.2.1,()))))) (0,(v0,()))).bind λv28 =>
 (some (v28.1,(v22.1,(v2,()))))))))
 (some (v0,(v1,(v2,()))))))))).bind λv29 =>
 ((gj_ a0 (v29.1,(v29.2.1,v29.2.2.1))).bind λv30 =>
 (some (v30.1,(v30.2.1,())))))))))
theorem x_105:av_ cx_105 an_105 105 [ao_,ar_,aq_] [ar_,.bool]=λx=>gk_ x.1 x.2.1 x.2.2.1:=by kernel_rfl
noncomputable def c_105:Con Tryz.prog:=aw_ _ _ 105 [ao_,ar_,aq_] [ar_,.bool] _ x_105
def an_171:An:=(.p .z (.p (.p .z (.ls [.v 6 .int] [] [] 0 (.p .z (.p .z (.p (.p .z (.j0 [.v 18 .bool] .z .z)) .z))))) .z))
noncomputable def cs_171:List (Con Tryz.prog):=[c_209]
noncomputable def cl_171:List (Cpy Tryz.prog):=[]
noncomputable def cx_171:Cx Tryz.prog:=cxC cs_171 cl_171
noncomputable def fa_ (a0:(List UInt8)):Option (Bool×Unit) :=
 ((ag_ (ρ:=(Unit⊕(Bool×Unit))) (λ(v0:(Int×Unit)) =>
 (cond (decide (v0.1<(a0.length:Int)))
 ((((at? a0 v0.1).bind λv1 =>
 (cond (decide (((UInt8.toNat v1):Int)<97))
 (some (true,()))
 ((at? a0 v0.1).bind λv2 =>
 (some ((decide (122<((UInt8.toNat v2):Int))),())))))).bind λv3 =>
 (cond v3.1
 (some (inr (inr (false,()))))
 (some (inl ((w64 (v0.1+1)),())))))
 (some (inr (inl ()))))) (0,())).bind λv4 =>
 (ca_ v4 (λv5=>(cond (!(a0==[]))
 ((cy_ [[97,116],[115,116,97,116,101,115],[115,116,97,114,116],[103,111,110,101],[105,102],[108,111,99,107],[119,105,116,104],[115,101,116,115],[115,112,101,110,100,115],[98,114,105,110,103,115]] a0).bind λv7 =>
 (some ((!v7.1),())))
 (some (false,()))))
 (λv6=>(some v6))))
theorem x_171:av_ cx_171 an_171 171 [.str] [.bool]=λx=>fa_ x.1:=by kernel_rfl
noncomputable def c_171:Con Tryz.prog:=aw_ _ _ 171 [.str] [.bool] _ x_171
def an_133:An:=.z
def at_133:FuncId→An:=λk=>cond (Nat.beq k 143) (.p .z (.j0 [.v 4 .bool] .z .z)) (cond (Nat.beq k 189) (.p .z (.p (.p .z (.ls [.v 8 .int] [] [] 0 .z)) .z)) (.z))
noncomputable def cs_133:List (Con Tryz.prog):=[ck8]
noncomputable def cl_133:List (Cpy Tryz.prog):=[]
noncomputable def cx_133:Cx Tryz.prog:=cxI at_133 (λk=>Nat.beq k 135||false) (cxC cs_133 cl_133) 4
noncomputable def dt_ (a0:af_) (a1:(List be_)):Option (Bool×Unit) :=
 (cond (decide ((a1.length:Int)≤8))
 ((((ag_ (ρ:=(Unit⊕(Bool×Unit))) (λ(v0:(Int×Unit)) =>
 (cond (decide (v0.1<(a1.length:Int)))
 ((at? a1 v0.1).bind λv1 =>
 ((fb_ a0 v1.1 v1.2.1).bind λv2 =>
 (cond (!v2.1)
 (some (inr (inr ((decide (0≤v0.1)),()))))
 (some (inl ((w64 (v0.1+1)),()))))))
 (some (inr (inl ()))))) (0,())).bind λv3 =>
 (ca_ v3 (λv4=>(some ((decide (0≤(-1))),())))
 (λv5=>(some v5))))).bind λv6 =>
 (some ((!v6.1),())))
 (some (false,())))
theorem x_133:av_ cx_133 an_133 133 [ao_,(.list bz_)] [.bool]=λx=>dt_ x.1 x.2.1:=by kernel_rfl
noncomputable def c_133:Con Tryz.prog:=aw_ _ _ 133 [ao_,(.list bz_)] [.bool] _ x_133
def an_185:An:=.z
def at_185:FuncId→An:=λk=>cond (Nat.beq k 95) (.p .z (.j0 [.v 4 .bool] .z .z)) (cond (Nat.beq k 154) (.p .z (.p (.p .z (.ls [.v 8 .int] [] [] 0 .z)) .z)) (.z))
noncomputable def cs_185:List (Con Tryz.prog):=[c_220]
noncomputable def cl_185:List (Cpy Tryz.prog):=[]
noncomputable def cx_185:Cx Tryz.prog:=cxI at_185 (λk=>Nat.beq k 220||false) (cxC cs_185 cl_185) 4
noncomputable def dl_ (a0:ab_) (a1:(List Int)):Option (Bool×Unit) :=
 (cond ((a1.length:Int)==a0.1)
 ((((ag_ (ρ:=(Unit⊕(Bool×Unit))) (λ(v0:(Int×Unit)) =>
 (cond (decide (v0.1<(a1.length:Int)))
 ((at? a1 v0.1).bind λv1 =>
 ((co_ a0 v1).bind λv2 =>
 (cond (!v2.1)
 (some (inr (inr ((decide (0≤v0.1)),()))))
 (some (inl ((w64 (v0.1+1)),()))))))
 (some (inr (inl ()))))) (0,())).bind λv3 =>
 (ca_ v3 (λv4=>(some ((decide (0≤(-1))),())))
 (λv5=>(some v5))))).bind λv6 =>
 (some ((!v6.1),())))
 (some (false,())))
theorem x_185:av_ cx_185 an_185 185 [am_,(.list .int)] [.bool]=λx=>dl_ x.1 x.2.1:=by kernel_rfl
noncomputable def c_185:Con Tryz.prog:=aw_ _ _ 185 [am_,(.list .int)] [.bool] _ x_185
def an_188:An:=(.p .z (.p (.q [] .z .z) .z))
noncomputable def cs_188:List (Con Tryz.prog):=[c_222]
noncomputable def cl_188:List (Cpy Tryz.prog):=[]
noncomputable def cx_188:Cx Tryz.prog:=cxC cs_188 cl_188
noncomputable def fw_ (a0:ak_) (a1:(List Int)):Option (Bool×Unit) :=
 ((mx_ a0 a1).bind λv0 =>
 (some ((v0.1 != a0.2.2.2.2.2.2),())))
theorem x_188:av_ cx_188 an_188 188 [ap_,(.list .int)] [.bool]=λx=>fw_ x.1 x.2.1:=by kernel_rfl
noncomputable def c_188:Con Tryz.prog:=aw_ _ _ 188 [ap_,(.list .int)] [.bool] _ x_188
def an_9:An:=(.p .z (.p .z (.p (.p .z (.lp [.v 4 .int] [] [.b (.s 3) [.keep,.keep,.keep,.keep,.keep,.keep,.keep,.keep,.keep,.row (.list .int) 45,.keep,.keep]] 0 .z)) (.p (.p .z (.lp [.v 5 .int] [] [.o (.s 16) ov_] 2 .z)) .z))))
noncomputable def cs_9:List (Con Tryz.prog):=[c_33,c_34]
noncomputable def cl_9:List (Cpy Tryz.prog):=[]
noncomputable def cx_9:Cx Tryz.prog:=cxC cs_9 cl_9
noncomputable def lb_ (a0:ac_):Option (ac_×Unit) :=
 ((lc_ a0.1).bind λv0 =>
 ((push? (α:=ab_) [] a0.2.1).bind λv1 =>
 ((push? (α:=ch_) [] a0.2.2.2.1).bind λv2 =>
 ((ag_ (ρ:=(((List (List Int))×Unit)×Unit)) (λ(v3:(Int×(((List (List Int))×Unit)×Unit))) =>
 (cond (decide (v3.1<(a0.2.2.1.length:Int)))
 ((at? a0.2.2.1 v3.1).bind λv4 =>
 ((push? (α:=Int) [] v4).bind λv5 =>
 ((push? (α:=(List Int)) v3.2.1.1 [v5]).bind λv6 =>
 (some (inl ((w64 (v3.1+1)),((v6,()),())))))))
 (some (inr ((v3.2.1.1,()),()))))) (0,(([],()),()))).bind λv7 =>
 ((ag_ (ρ:=((List ch_)×Unit)) (λ(v8:(Int×((List ch_)×Unit))) =>
 (cond (decide (v8.1<(v8.2.1.length:Int)))
 ((at? v8.2.1 v8.1).bind λv9 =>
 ((at? v8.2.1 v8.1).bind λv10 =>
 ((push? (α:=be_) [] v10.2.2.2.1).bind λv11 =>
 ((at? v8.2.1 v8.1).bind λv12 =>
 ((at? v8.2.1 v8.1).bind λv13 =>
 ((at? (v8.2.1.set v8.1.toNat (v13.1,(v13.2.1,(v13.2.2.1,(v11,v13.2.2.2.2))))) v8.1).bind λv14 =>
 ((at? (v8.2.1.set v8.1.toNat (v13.1,(v13.2.1,(v13.2.2.1,(v11,v13.2.2.2.2))))) v8.1).bind λv15 =>
 ((gp_ v15.2.2.2.2).bind λv16 =>
 ((at? (v8.2.1.set v8.1.toNat (v13.1,(v13.2.1,(v13.2.2.1,(v11,v13.2.2.2.2))))) v8.1).bind λv17 =>
 ((at? (v8.2.1.set v8.1.toNat (v13.1,(v13.2.1,(v13.2.2.1,(v11,v13.2.2.2.2))))) v8.1).bind λv18 =>
 (some (inl ((w64 (v8.1+1)),(((v8.2.1.set v8.1.toNat (v13.1,(v13.2.1,(v13.2.2.1,(v11,v13.2.2.2.2))))).set v8.1.toNat (v18.1,(v18.2.1,(v18.2.2.1,(v18.2.2.2.1,v16.1))))),()))))))))))))))
 (some (inr (v8.2.1,()))))) (0,(v2,()))).bind λv19 =>
 (some ((v0.1,(v1,(v7.1.1,(v19.1,a0.2.2.2.2)))),())))))))
theorem x_9:av_ cx_9 an_9 9 [an_] [an_]=λx=>lb_ x.1:=by kernel_rfl
noncomputable def c_9:Con Tryz.prog:=aw_ _ _ 9 [an_] [an_] _ x_9
noncomputable def hx_ (a0:ac_) (a1:cf_) (a2:Int):Option ((List Int)×Unit) :=
 ((mk? (α:=Int) (a1.1.length:Int) 0).bind λv0 =>
 ((ag_ (ρ:=((List Int)×Unit)) (λ(v1:(Int×((List Int)×Unit))) =>
 (cond (decide (v1.1<(v1.2.1.length:Int)))
 ((((at? v1.2.1 v1.1).bind λv2 =>
 ((at? v1.2.1 v1.1).bind λv3 =>
 ((at? a1.1 v1.1).bind λv4 =>
 ((ix_ a0 v4).bind λv5 =>
 (cond v5.1
 ((at? (v1.2.1.set v1.1.toNat (-1)) v1.1).bind λv6 =>
 ((at? (v1.2.1.set v1.1.toNat (-1)) v1.1).bind λv7 =>
 (some (((v1.2.1.set v1.1.toNat (-1)).set v1.1.toNat 0),()))))
 (some ((v1.2.1.set v1.1.toNat (-1)),())))))))).bind λv8 =>
 (some (inl ((w64 (v1.1+1)),(v8.1,())))))
 (some (inr (v1.2.1,()))))) (0,(v0,()))).bind λv9 =>
 ((ag_ (ρ:=((List Int)×Unit)) (λ(v10:(Int×(Bool×((List Int)×Unit)))) =>
 (cond v10.2.1
 ((ag_ (ρ:=(Bool×((List Int)×Unit))) (λ(v11:(Bool×(Int×((List Int)×Unit)))) =>
 (cond (decide (v11.2.1<(v11.2.2.1.length:Int)))
 ((ag_ (ρ:=(Bool×((List Int)×Unit))) (λ(v12:(Bool×(Int×((List Int)×Unit)))) =>
 ((((at? a1.2 v11.2.1).bind λv13 =>
 (cond (decide (v12.2.1<(v13.length:Int)))
 ((at? v12.2.2.1 v11.2.1).bind λv14 =>
 ((at? v12.2.2.1 v11.2.1).bind λv15 =>
 (some ((decide (v15<0)),()))))
 (some (false,()))))).bind λv16 =>
 (cond v16.1
 ((((at? a1.2 v11.2.1).bind λv17 =>
 ((at? v17 v12.2.1).bind λv18 =>
 ((((at? v12.2.2.1 v18.2).bind λv19 =>
 ((at? v12.2.2.1 v18.2).bind λv20 =>
 (cond (v20==(w64 (v10.1 - 1)))
 ((od_ v18 a2).bind λv21 =>
 (some ((!v21.1),())))
 (some (false,())))))).bind λv22 =>
 (cond v22.1
 ((at? v12.2.2.1 v11.2.1).bind λv23 =>
 ((at? v12.2.2.1 v11.2.1).bind λv24 =>
 (some (true,((v12.2.2.1.set v11.2.1.toNat v10.1),())))))
 (some (v12.1,(v12.2.2.1,())))))))).bind λv25 =>
 (some (inl (v25.1,((w64 (v12.2.1+1)),(v25.2.1,()))))))
 (some (inr (v12.1,(v12.2.2.1,()))))))) (v11.1,(0,(v11.2.2.1,())))).bind λv26 =>
 (some (inl (v26.1,((w64 (v11.2.1+1)),(v26.2.1,()))))))
 (some (inr (v11.1,(v11.2.2.1,())))))) (false,(0,(v10.2.2.1,())))).bind λv27 =>
 (some (inl ((w64 (v10.1+1)),(v27.1,(v27.2.1,()))))))
 (some (inr (v10.2.2.1,()))))) (1,(true,(v9.1,())))).bind λv28 =>
 (some (v28.1,())))))
end
section
set_option maxRecDepth 100000
set_option maxHeartbeats 0
def an_118:An:=(.p .z (.p .z (.p (.p .z (.ls [.v 6 .int] [] [] 0 .z)) (.p (.j0 [.v 73 .bool] .z .z) (.p (.p .z (.ls [.v 7 .int] [] [] 2 .z)) (.p (.p .z (.ls [.v 8 .int] [] [] 4 .z)) (.p (.p .z (.ls [.v 9 .int] [] [] 6 (.p .z (.p (.p .z (.p .z (.ls [.v 10 .int] [] [] 8 .z))) .z)))) .z)))))))
noncomputable def cs_118:List (Con Tryz.prog):=[c_114,c_116,as7,ck9,c_166,c_167]
noncomputable def cl_118:List (Cpy Tryz.prog):=[]
noncomputable def cx_118:Cx Tryz.prog:=cxC cs_118 cl_118
noncomputable def mt_ (a0:af_) (a1:Int):Option (Bool×Unit) :=
 ((at? a0.2.2.2.2.1 a1).bind λv0 =>
 ((ag_ (ρ:=(Unit⊕(Bool×Unit))) (λ(v1:(Int×Unit)) =>
 (cond (decide (v1.1<a1))
 ((at? a0.2.2.2.2.1 v1.1).bind λv2 =>
 (cond (v2.1==v0.1)
 (some (inr (inr (false,()))))
 (some (inl ((w64 (v1.1+1)),())))))
 (some (inr (inl ()))))) (0,())).bind λv3 =>
 (ca_ v3 (λv4=>((((du_ v0.1).bind λv6 =>
 (cond (!v6.1)
 (some (true,()))
 ((cr_ a0 v0.2.1).bind λv7 =>
 (cond (!v7.1)
 (some (true,()))
 ((bq_ v0.2.2.1 (-1) 7).bind λv8 =>
 (cond (!v8.1)
 (some (true,()))
 ((dk_ a0 v0.2.2.2.1).bind λv9 =>
 (cond (!v9.1)
 (some (true,()))
 ((dk_ a0 v0.2.2.2.2.2.2.1).bind λv10 =>
 (cond (!v10.1)
 (some (true,()))
 ((dk_ a0 v0.2.2.2.2.2.2.2).bind λv11 =>
 (cond (!v11.1)
 (some (true,()))
 (some ((decide (6<(v0.2.2.2.2.2.1.length:Int))),()))))))))))))))).bind λv12 =>
 (cond v12.1
 (some (false,()))
 ((ag_ (ρ:=(Unit⊕(Bool×Unit))) (λ(v13:(Int×Unit)) =>
 (cond (decide (v13.1<(v0.2.2.2.2.2.2.1.length:Int)))
 ((at? v0.2.2.2.2.2.2.1 v13.1).bind λv14 =>
 ((mc_ v0.2.2.2.1 v14).bind λv15 =>
 (cond (!v15.1)
 (some (inr (inr (false,()))))
 (some (inl ((w64 (v13.1+1)),()))))))
 (some (inr (inl ()))))) (0,())).bind λv16 =>
 (ca_ v16 (λv17=>((ag_ (ρ:=(Unit⊕(Bool×Unit))) (λ(v19:(Int×Unit)) =>
 (cond (decide (v19.1<(v0.2.2.2.2.2.2.2.length:Int)))
 ((at? v0.2.2.2.2.2.2.2 v19.1).bind λv20 =>
 ((mc_ v0.2.2.2.1 v20).bind λv21 =>
 (cond v21.1
 (some (inr (inr (false,()))))
 (some (inl ((w64 (v19.1+1)),()))))))
 (some (inr (inl ()))))) (0,())).bind λv22 =>
 (ca_ v22 (λv23=>((ag_ (ρ:=(Unit⊕(Bool×Unit))) (λ(v25:(Int×Unit)) =>
 (cond (decide (v25.1<(v0.2.2.2.2.2.1.length:Int)))
 ((at? v0.2.2.2.2.2.1 v25.1).bind λv26 =>
 ((at? v0.2.2.2.2.2.1 v25.1).bind λv27 =>
 ((gt_ a0 v26.1 v27.2).bind λv28 =>
 (cond (!v28.1)
 (some (inr (inr (false,()))))
 ((ag_ (ρ:=(Unit⊕((Int×Unit)⊕(Unit⊕(Bool×Unit))))) (λ(v29:(Int×Unit)) =>
 (cond (decide (v29.1<v25.1))
 ((at? v0.2.2.2.2.2.1 v29.1).bind λv30 =>
 ((at? v0.2.2.2.2.2.1 v25.1).bind λv31 =>
 (cond (v30.1==v31.1)
 (some (inr (inr (inr (inr (false,()))))))
 (some (inl ((w64 (v29.1+1)),()))))))
 (some (inr (inl ()))))) (0,())).bind λv32 =>
 (ca_ v32 (λv33=>(some (inl ((w64 (v25.1+1)),()))))
 (λv34=>(some v34))))))))
 (some (inr (inl ()))))) (0,())).bind λv35 =>
 (ca_ v35 (λv36=>(some (true,())))
 (λv37=>(some v37)))))
 (λv24=>(some v24)))))
 (λv18=>(some v18)))))))
 (λv5=>(some v5)))))
theorem x_118:av_ cx_118 an_118 118 [ao_,.int] [.bool]=λx=>mt_ x.1 x.2.1:=by kernel_rfl
noncomputable def c_118:Con Tryz.prog:=aw_ _ _ 118 [ao_,.int] [.bool] _ x_118
def an_123:An:=.z
noncomputable def cs_123:List (Con Tryz.prog):=[c_65,c_168]
noncomputable def cl_123:List (Cpy Tryz.prog):=[]
noncomputable def cx_123:Cx Tryz.prog:=cxC cs_123 cl_123
noncomputable def fu_ (a0:ab_) (a1:ak_):Option (Int×Unit) :=
 ((ej_ a0).bind λv0 =>
 (cond (v0.1 != 0)
 (some (v0.1,()))
 ((gm_ a0 a1).bind λv1 =>
 (cond (!v1.1)
 (some (11,()))
 (some (0,()))))))
theorem x_123:av_ cx_123 an_123 123 [am_,ap_] [.int]=λx=>fu_ x.1 x.2.1:=by kernel_rfl
noncomputable def c_123:Con Tryz.prog:=aw_ _ _ 123 [am_,ap_] [.int] _ x_123
def an_240:An:=(.p .z (.p .z (.p .z (.p (.p .z (.ls [.v 6 .int] [] [] 0 (.p .z (.p (.p (.q [] .z .z) .z) .z)))) .z))))
noncomputable def cs_240:List (Con Tryz.prog):=[c_65,c_168]
noncomputable def cl_240:List (Cpy Tryz.prog):=[]
noncomputable def cx_240:Cx Tryz.prog:=cxC cs_240 cl_240
noncomputable def et_ (a0:ab_) (a1:(List ak_)):Option (Int×Unit) :=
 ((ej_ a0).bind λv0 =>
 (cond (v0.1 != 0)
 (some (v0.1,()))
 (cond (decide (20<(a1.length:Int)))
 (some (2,()))
 ((ag_ (ρ:=(Unit⊕(Int×Unit))) (λ(v1:(Int×Unit)) =>
 (cond (decide (v1.1<(a1.length:Int)))
 ((at? a1 v1.1).bind λv2 =>
 ((gm_ a0 v2).bind λv3 =>
 (cond (!v3.1)
 (some (inr (inr (11,()))))
 (some (inl ((w64 (v1.1+1)),()))))))
 (some (inr (inl ()))))) (0,())).bind λv4 =>
 (ca_ v4 (λv5=>(some (0,())))
 (λv6=>(some v6)))))))
theorem x_240:av_ cx_240 an_240 240 [am_,(.list ap_)] [.int]=λx=>et_ x.1 x.2.1:=by kernel_rfl
noncomputable def c_240:Con Tryz.prog:=aw_ _ _ 240 [am_,(.list ap_)] [.int] _ x_240
def an_248:An:=(.p .z (.p (.p .z (.ls [.v 5 .int] [] [] 0 .z)) .z))
noncomputable def cs_248:List (Con Tryz.prog):=[c_124]
noncomputable def cl_248:List (Cpy Tryz.prog):=[]
noncomputable def cx_248:Cx Tryz.prog:=cxC cs_248 cl_248
noncomputable def jl_ (a0:(List ak_)) (a1:(List Int)):Option (Int×Unit) :=
 ((ag_ (ρ:=(Unit⊕(Int×Unit))) (λ(v0:(Int×Unit)) =>
 (cond (decide (v0.1<(a0.length:Int)))
 ((at? a0 v0.1).bind λv1 =>
 ((fh_ v1 a1).bind λv2 =>
 (cond (!v2.1)
 (some (inr (inr (v0.1,()))))
 (some (inl ((w64 (v0.1+1)),()))))))
 (some (inr (inl ()))))) (0,())).bind λv3 =>
 (ca_ v3 (λv4=>(some ((-1),())))
 (λv5=>(some v5))))
theorem x_248:av_ cx_248 an_248 248 [(.list ap_),(.list .int)] [.int]=λx=>jl_ x.1 x.2.1:=by kernel_rfl
noncomputable def c_248:Con Tryz.prog:=aw_ _ _ 248 [(.list ap_),(.list .int)] [.int] _ x_248
def an_55:An:=.z
noncomputable def cs_55:List (Con Tryz.prog):=[c_101,c_105]
noncomputable def cl_55:List (Cpy Tryz.prog):=[]
noncomputable def cx_55:Cx Tryz.prog:=cxC cs_55 cl_55
noncomputable def la_ (a0:ac_) (a1:aa_) (a2:ad_):Option (aa_×Unit) :=
 ((gk_ a0.1 a1.1 a2).bind λv0 =>
 ((il_ a0 (v0.1,a1.2)).bind λv1 =>
 (some (v1.1,()))))
theorem x_55:av_ cx_55 an_55 55 [an_,aj_,aq_] [aj_]=λx=>la_ x.1 x.2.1 x.2.2.1:=by kernel_rfl
noncomputable def c_55:Con Tryz.prog:=aw_ _ _ 55 [an_,aj_,aq_] [aj_] _ x_55
def an_134:An:=(.p .z (.p (.j0 [.v 35 .bool] (.q [] .z .z) .z) (.p (.j0 [.v 60 .bool] .z .z) (.p .z (.p .z (.p (.j0 [.v 72 .bool] .z .z) (.p (.p .z (.ls [.v 76 .int] [] [] 0 (.p .z (.p .z (.p (.p .z (.p .z (.j0 [.v 96 .bool] .z .z))) .z))))) .z)))))))
def at_134:FuncId→An:=λk=>cond (Nat.beq k 95) (.p .z (.j0 [.v 4 .bool] .z .z)) (cond (Nat.beq k 154) (.p .z (.p (.p .z (.ls [.v 8 .int] [] [] 0 .z)) .z)) (cond (Nat.beq k 176) (.p .z (.j0 [.v 6 .bool] .z .z)) (cond (Nat.beq k 181) (.p .z (.j0 [.v 4 .bool] .z .z)) (cond (Nat.beq k 216) (.p .z (.j0 [.v 6 .int] .z .z)) (cond (Nat.beq k 217) (.p .z (.p (.p .z (.ls [.v 8 .int] [] [] 0 .z)) .z)) (cond (Nat.beq k 234) (.p .z (.p (.p .z (.ls [.v 8 .int] [] [] 0 .z)) .z)) (cond (Nat.beq k 235) (.p .z (.p (.q [] .z .z) .z)) (.z))))))))
noncomputable def cs_134:List (Con Tryz.prog):=[c_85,bx6,ck8,c_171,c_177,c_178]
noncomputable def cl_134:List (Cpy Tryz.prog):=[]
noncomputable def cx_134:Cx Tryz.prog:=cxI at_134 (λk=>Nat.beq k 85||Nat.beq k 126||Nat.beq k 135||Nat.beq k 171||Nat.beq k 177||Nat.beq k 178||false) (cxC cs_134 cl_134) 12
noncomputable def pi_ (a0:af_) (a1:Int) (a2:cv_):Option (Bool×Unit) :=
 ((((sub? a0.2.2.2.2.1 0 a1).bind λv0 =>
 ((((fa_ a2.1).bind λv1 =>
 (cond v1.1
 (cond (decide ((a2.1.length:Int)≤12))
 ((((ag_ (ρ:=(Unit⊕(Int×Unit))) (λ(v2:(Int×Unit)) =>
 (cond (decide (v2.1<(v0.length:Int)))
 ((at? v0 v2.1).bind λv3 =>
 (cond (v3.1==a2.1)
 (some (inr (inr (v2.1,()))))
 (some (inl ((w64 (v2.1+1)),())))))
 (some (inr (inl ()))))) (0,())).bind λv4 =>
 (ca_ v4 (λv5=>(some ((-1),())))
 (λv6=>(some v6))))).bind λv7 =>
 (some ((decide (v7.1<0)),())))
 (some (false,())))
 (some (false,()))))).bind λv8 =>
 (cond (!v8.1)
 (some (true,()))
 ((bd_ a2.2.1 0 (w64 ((a0.1.length:Int) - 1))).bind λv9 =>
 (cond (!v9.1)
 (some (true,()))
 ((bd_ a2.2.2.1 (-1) 7).bind λv10 =>
 (some ((!v10.1),()))))))))).bind λv11 =>
 (cond v11.1
 (some (false,()))
 ((((gy_ a0 a2.2.2.2.1).bind λv12 =>
 (cond (!v12.1)
 (some (true,()))
 ((gy_ a0 a2.2.2.2.2.2.2.1).bind λv13 =>
 (cond (!v13.1)
 (some (true,()))
 ((gy_ a0 a2.2.2.2.2.2.2.2).bind λv14 =>
 (cond (!v14.1)
 (some (true,()))
 (some ((decide (6<(a2.2.2.2.2.2.1.length:Int))),()))))))))).bind λv15 =>
 (cond v15.1
 (some (false,()))
 ((((((ag_ (ρ:=(Unit⊕(Bool×Unit))) (λ(v16:(Int×Unit)) =>
 (cond (decide (v16.1<(a2.2.2.2.2.2.2.1.length:Int)))
 ((at? a2.2.2.2.2.2.2.1 v16.1).bind λv17 =>
 ((bg_ a2.2.2.2.1 v17).bind λv18 =>
 (cond (!v18.1)
 (some (inr (inr ((decide (0≤v16.1)),()))))
 (some (inl ((w64 (v16.1+1)),()))))))
 (some (inr (inl ()))))) (0,())).bind λv19 =>
 (ca_ v19 (λv20=>(some ((decide (0≤(-1))),())))
 (λv21=>(some v21))))).bind λv22 =>
 (cond v22.1
 (some (true,()))
 ((((ag_ (ρ:=(Unit⊕(Bool×Unit))) (λ(v23:(Int×Unit)) =>
 (cond (decide (v23.1<(a2.2.2.2.2.2.2.2.length:Int)))
 ((at? a2.2.2.2.2.2.2.2 v23.1).bind λv24 =>
 ((bg_ a2.2.2.2.1 v24).bind λv25 =>
 (cond v25.1
 (some (inr (inr ((decide (0≤v23.1)),()))))
 (some (inl ((w64 (v23.1+1)),()))))))
 (some (inr (inl ()))))) (0,())).bind λv26 =>
 (ca_ v26 (λv27=>(some ((decide (0≤(-1))),())))
 (λv28=>(some v28))))).bind λv29 =>
 (some (v29.1,())))))).bind λv30 =>
 (cond v30.1
 (some (false,()))
 ((ag_ (ρ:=(Unit⊕(Bool×Unit))) (λ(v31:(Int×Unit)) =>
 (cond (decide (v31.1<(a2.2.2.2.2.2.1.length:Int)))
 ((at? a2.2.2.2.2.2.1 v31.1).bind λv32 =>
 ((sub? a2.2.2.2.2.2.1 0 v31.1).bind λv33 =>
 ((((ag_ (ρ:=(Unit⊕(Bool×Unit))) (λ(v34:(Int×Unit)) =>
 (cond (decide (v34.1<(v33.length:Int)))
 ((at? v33 v34.1).bind λv35 =>
 (cond (v35.1==v32.1)
 (some (inr (inr ((decide (0≤v34.1)),()))))
 (some (inl ((w64 (v34.1+1)),())))))
 (some (inr (inl ()))))) (0,())).bind λv36 =>
 (ca_ v36 (λv37=>(some ((decide (0≤(-1))),())))
 (λv38=>(some v38))))).bind λv39 =>
 ((((fb_ a0 v32.1 v32.2).bind λv40 =>
 (cond (!v40.1)
 (some (true,()))
 (some (v39.1,()))))).bind λv41 =>
 (cond v41.1
 (some (inr (inr (false,()))))
 (some (inl ((w64 (v31.1+1)),()))))))))
 (some (inr (inl ()))))) (0,())).bind λv42 =>
 (ca_ v42 (λv43=>(some (true,())))
 (λv44=>(some v44))))))))))
theorem x_134:av_ cx_134 an_134 134 [ao_,.int,lt_] [.bool]=λx=>pi_ x.1 x.2.1 x.2.2.1:=by kernel_rfl
noncomputable def c_134:Con Tryz.prog:=aw_ _ _ 134 [ao_,.int,lt_] [.bool] _ x_134
def an_137:An:=.z
def at_137:FuncId→An:=λk=>cond (Nat.beq k 183) (.p .z (.j0 [.v 4 .bool] .z .z)) (cond (Nat.beq k 218) (.p .z (.p (.p .z (.ls [.v 8 .int] [] [] 0 .z)) .z)) (.z))
noncomputable def cs_137:List (Con Tryz.prog):=[c_77,c_185]
noncomputable def cl_137:List (Cpy Tryz.prog):=[]
noncomputable def cx_137:Cx Tryz.prog:=cxI at_137 (λk=>Nat.beq k 77||Nat.beq k 185||false) (cxC cs_137 cl_137) 4
noncomputable def hl_ (a0:ab_) (a1:(List (List Int))):Option (Int×Unit) :=
 ((ek_ a0).bind λv0 =>
 (cond (v0.1 != 0)
 (some (v0.1,()))
 ((((ag_ (ρ:=(Unit⊕(Bool×Unit))) (λ(v1:(Int×Unit)) =>
 (cond (decide (v1.1<(a1.length:Int)))
 ((at? a1 v1.1).bind λv2 =>
 ((dl_ a0 v2).bind λv3 =>
 (cond (!v3.1)
 (some (inr (inr ((decide (0≤v1.1)),()))))
 (some (inl ((w64 (v1.1+1)),()))))))
 (some (inr (inl ()))))) (0,())).bind λv4 =>
 (ca_ v4 (λv5=>(some ((decide (0≤(-1))),())))
 (λv6=>(some v6))))).bind λv7 =>
 (cond v7.1
 (some (12,()))
 (some (0,()))))))
theorem x_137:av_ cx_137 an_137 137 [am_,(.list (.list .int))] [.int]=λx=>hl_ x.1 x.2.1:=by kernel_rfl
noncomputable def c_137:Con Tryz.prog:=aw_ _ _ 137 [am_,(.list (.list .int))] [.int] _ x_137
def an_221:An:=(.p .z (.p .z (.p .z (.j0 [.v 6 .bool,.b (.s 5) [.keep,.val .int,.val .int,.val .int,.val .int,.val (.list .int),.keep]] (.p .z (.p .z (.p .z (.p .z (.p .z (.j0 [.v 65 .bool] .z .z)))))) .z))))
noncomputable def cs_221:List (Con Tryz.prog):=[ck7,c_185,c_220,c_236]
noncomputable def cl_221:List (Cpy Tryz.prog):=[]
noncomputable def cx_221:Cx Tryz.prog:=cxC cs_221 cl_221
noncomputable def dm_ (a0:ab_) (a1:ak_):Option (Bool×Unit) :=
 (((cond (a1.1==1)
 ((br_ a0 a1.2.1).bind λv0 =>
 (cond v0.1
 ((co_ a0 a1.2.2.2.1).bind λv1 =>
 (some (v1.1,((a1.2.1,(0,(a1.2.2.2.1,(0,([],()))))),()))))
 (some (false,((a1.2.1,(0,(a1.2.2.2.1,(0,([],()))))),())))))
 (cond (a1.1==2)
 ((br_ a0 a1.2.1).bind λv2 =>
 (cond v2.1
 ((br_ a0 a1.2.2.1).bind λv3 =>
 (cond v3.1
 (cond (decide (a1.2.1≤a1.2.2.1))
 ((bw_ a1.2.2.2.1 0 100).bind λv4 =>
 (some (v4.1,((a1.2.1,(a1.2.2.1,(a1.2.2.2.1,(0,([],()))))),()))))
 (some (false,((a1.2.1,(a1.2.2.1,(a1.2.2.2.1,(0,([],()))))),()))))
 (some (false,((a1.2.1,(a1.2.2.1,(a1.2.2.2.1,(0,([],()))))),())))))
 (some (false,((a1.2.1,(a1.2.2.1,(a1.2.2.2.1,(0,([],()))))),())))))
 (((cond (a1.1==3)
 (some ((a1.1==3),()))
 (some ((a1.1==4),())))).bind λv5 =>
 (cond v5.1
 ((br_ a0 a1.2.1).bind λv6 =>
 (cond v6.1
 ((br_ a0 a1.2.2.1).bind λv7 =>
 (cond v7.1
 (some ((a1.2.1 != a1.2.2.1),((a1.2.1,(a1.2.2.1,(0,(0,([],()))))),())))
 (some (false,((a1.2.1,(a1.2.2.1,(0,(0,([],()))))),())))))
 (some (false,((a1.2.1,(a1.2.2.1,(0,(0,([],()))))),())))))
 (cond (a1.1==5)
 ((co_ a0 a1.2.2.2.1).bind λv8 =>
 (cond v8.1
 ((bw_ a1.2.2.2.2.1 0 a0.1).bind λv9 =>
 (some (v9.1,((0,(0,(a1.2.2.2.1,(a1.2.2.2.2.1,([],()))))),()))))
 (some (false,((0,(0,(a1.2.2.2.1,(a1.2.2.2.2.1,([],()))))),())))))
 (cond (a1.1==6)
 ((bw_ a1.2.2.2.1 0 a0.1).bind λv10 =>
 (cond v10.1
 ((bw_ a1.2.2.2.2.1 0 a0.1).bind λv11 =>
 (cond v11.1
 ((dl_ a0 a1.2.2.2.2.2.1).bind λv12 =>
 (some (v12.1,((0,(0,(a1.2.2.2.1,(a1.2.2.2.2.1,(a1.2.2.2.2.2.1,()))))),()))))
 (some (false,((0,(0,(a1.2.2.2.1,(a1.2.2.2.2.1,(a1.2.2.2.2.2.1,()))))),())))))
 (some (false,((0,(0,(a1.2.2.2.1,(a1.2.2.2.2.1,(a1.2.2.2.2.2.1,()))))),())))))
 (cond (a1.1==7)
 ((br_ a0 a1.2.1).bind λv13 =>
 (cond v13.1
 ((bw_ a1.2.2.2.1 2 10).bind λv14 =>
 (cond v14.1
 ((bw_ a1.2.2.2.2.1 0 (w64 (a1.2.2.2.1 - 1))).bind λv15 =>
 (some (v15.1,((a1.2.1,(0,(a1.2.2.2.1,(a1.2.2.2.2.1,([],()))))),()))))
 (some (false,((a1.2.1,(0,(a1.2.2.2.1,(a1.2.2.2.2.1,([],()))))),())))))
 (some (false,((a1.2.1,(0,(a1.2.2.2.1,(a1.2.2.2.2.1,([],()))))),())))))
 (some (false,((0,(0,(0,(0,([],()))))),()))))))))))).bind λv16 =>
 (cond v16.1
 (cond (a1.2.1==v16.2.1.1)
 (cond (a1.2.2.1==v16.2.1.2.1)
 (cond (a1.2.2.2.1==v16.2.1.2.2.1)
 (cond (a1.2.2.2.2.1==v16.2.1.2.2.2.1)
 (some (((a1.2.2.2.2.2.1.length:Int)==(v16.2.1.2.2.2.2.1.length:Int)),()))
 (some (false,())))
 (some (false,())))
 (some (false,())))
 (some (false,())))
 (some (false,()))))
theorem x_221:av_ cx_221 an_221 221 [am_,ap_] [.bool]=λx=>dm_ x.1 x.2.1:=by kernel_rfl
noncomputable def c_221:Con Tryz.prog:=aw_ _ _ 221 [am_,ap_] [.bool] _ x_221
def an_245:An:=.z
def at_245:FuncId→An:=λk=>cond (Nat.beq k 242) (.p .z (.p (.p .z (.ls [.v 8 .int] [] [] 0 .z)) .z)) (.z)
noncomputable def cs_245:List (Con Tryz.prog):=[c_188]
noncomputable def cl_245:List (Cpy Tryz.prog):=[]
noncomputable def cx_245:Cx Tryz.prog:=cxI at_245 (λk=>Nat.beq k 188||false) (cxC cs_245 cl_245) 3
noncomputable def fx_ (a0:(List ak_)) (a1:(List Int)):Option (Int×Unit) :=
 ((ag_ (ρ:=(Unit⊕(Int×Unit))) (λ(v0:(Int×Unit)) =>
 (cond (decide (v0.1<(a0.length:Int)))
 ((at? a0 v0.1).bind λv1 =>
 ((fw_ v1 a1).bind λv2 =>
 (cond (!v2.1)
 (some (inr (inr (v0.1,()))))
 (some (inl ((w64 (v0.1+1)),()))))))
 (some (inr (inl ()))))) (0,())).bind λv3 =>
 (ca_ v3 (λv4=>(some ((-1),())))
 (λv5=>(some v5))))
theorem x_245:av_ cx_245 an_245 245 [(.list ap_),(.list .int)] [.int]=λx=>fx_ x.1 x.2.1:=by kernel_rfl
noncomputable def c_245:Con Tryz.prog:=aw_ _ _ 245 [(.list ap_),(.list .int)] [.int] _ x_245
end
end Go.Proofs.YtdibamopklkilaaGreatDoor.Rx
namespace Go.Proofs.YtdibamopklkilaaGreatDoor.Rx
open Go Pad Rex Sum
section
def wi (a b c:Int):Bool:=decide (b≤a)&&decide (a≤c)
theorem cg_ {a b c:Int}:wi a b c=true↔b≤a∧a≤c:=by simp [wi]
theorem bd8 (a b c:Int):(cond (decide (b≤a)) (some ((decide (a≤c)),())) (some (false,())))=some (wi a b c,()):=by
  unfold wi
  cases decide (b≤a) <;> rfl
theorem dy_ (a b c:Int):bd_ a b c=some (wi a b c,()):=bd8 a b c
theorem hu_ (a b c:Int):bp_ a b c=some (wi a b c,()):=bd8 a b c
theorem fn_ (a b c:Int):bq_ a b c=some (wi a b c,()):=bd8 a b c
theorem yh_ (a b c:Int):im_ a b c=some (wi a b c,()):=bd8 a b c
theorem beqc {α:Type} [BEq α] [LawfulBEq α] (x y:α):(y==x)=(x==y):=by
  rw [i7_,f2_,f2_]
  exact eq_comm
theorem hc_ {α:Type} [BEq α] [LawfulBEq α] (l:List α) (x:α):l.any (x == ·)=l.contains x:=by
  induction l with
  | nil=>rfl
  | cons y l ih=>simp [List.contains_cons,ih]
theorem ca4 {l:List Int} {x:Int} (hl:Sm l.length):∃ i:Int,er_ l x=some (i,())∧decide (0≤i)=l.contains x:=by
  unfold er_
  have h1:=nz_ l (λi y=>cond (x==y) (some (inr ((i:Int),()):Unit⊕(Int×Unit))) none) (λi=>((i:Int),())) (r0:=inl ())
    (body:=λ(v0:(Int×Unit)) =>
     (cond (decide (v0.1<(l.length:Int)))
     ((at? l v0.1).bind λv1 =>
     (cond (x==v1)
     (some (inr (inr (v0.1,()))))
     (some (inl ((w64 (v0.1+1)),())))))
     (some (inr (inl ())))))
    (λi y hy=>by
      have hi:=al_ hy
      simp only [dlt hi,a4_,ah_ hy,a0_,ay_ (show Sm i by omega)]
      cases x==y <;> rfl)
    (by simp only [dnl,a2_])
  rcases zp_ (q:=λy=>x==y) (f:=λi=>(inr ((i:Int),()):Unit⊕(Int×Unit))) l 0 with ⟨h2,h3⟩ | ⟨i,h2,h3⟩
  · refine ⟨-1,e2_ (congrArg (λo=>Option.bind o _) h1) ?_,by rw [← hc_,h3]; rfl⟩
    rw [h2]; rfl
  · refine ⟨i,e2_ (congrArg (λo=>Option.bind o _) h1) ?_,by rw [← hc_,h3]; exact b1_ (by omega)⟩
    rw [h2]; rfl
theorem lk_ {l:List Int} {x:Int} (hl:Sm l.length):bg_ l x=some (l.contains x,()):=by
  obtain ⟨i,h1,h2⟩:=ca4 (x:=x) hl
  unfold bg_
  rw [h1,a0_,h2]
theorem am9 {l:List (List UInt8)} {x:List UInt8} (hl:Sm l.length):∃ i:Int,ds_ l x=some (i,())∧decide (0≤i)=l.contains x:=by
  unfold ds_
  rcases zp_ (q:=λy=>x==y) (f:=λi=>(inr ((i:Int),()):Unit⊕(Int×Unit))) l 0 with ⟨h2,h3⟩ | ⟨i,h2,h3⟩
  · refine ⟨-1,bm_ l (λi y=>cond (x==y) (some (inr ((i:Int),()):Unit⊕(Int×Unit))) none) (λi=>((i:Int),())) (r0:=inl ()) (λi y hy => ?_) ?_ ?_,by rw [← hc_,h3]; rfl⟩
    · have hi:=al_ hy
      simp only [dlt hi,a4_,ah_ hy,a0_,ay_ (show Sm i by omega)]
      cases x==y <;> rfl
    · simp only [dnl,a2_]
    · rw [h2]; rfl
  · refine ⟨i,bm_ l (λi y=>cond (x==y) (some (inr ((i:Int),()):Unit⊕(Int×Unit))) none) (λi=>((i:Int),())) (r0:=inl ()) (λi y hy => ?_) ?_ ?_,by rw [← hc_,h3]; exact b1_ (by omega)⟩
    · have hi:=al_ hy
      simp only [dlt hi,a4_,ah_ hy,a0_,ay_ (show Sm i by omega)]
      cases x==y <;> rfl
    · simp only [dnl,a2_]
    · rw [h2]; rfl
theorem xn_ {l:List (List UInt8)} {x:List UInt8} (hl:Sm l.length):cy_ l x=some (l.contains x,()):=by
  obtain ⟨i,h1,h2⟩:=am9 (x:=x) hl
  unfold cy_
  rw [h1,a0_,h2]
theorem aw2 {l:List Int} {x:Int} (hl:Sm l.length):mc_ l x=some (l.contains x,()):=by
  unfold mc_
  refine bm_ l (λi y=>cond (x==y) (some (inr (true,()):Unit⊕(Bool×Unit))) none) (λi=>((i:Int),())) (r0:=inl ()) (λi y hy => ?_) ?_ ?_
  · have hi:=al_ hy
    simp only [dlt hi,a4_,ah_ hy,a0_,ay_ (show Sm i by omega)]
    rw [beqc x y]
    cases x==y <;> rfl
  · simp only [dnl,a2_]
  · rw [hf_ (q:=λy=>x==y),hc_]
    cases l.contains x <;> rfl
def xy_ (c:UInt8):Bool:=decide (97≤(c.toNat:Int))&&decide ((c.toNat:Int)≤122)
def okW (t:List UInt8):Bool:=t.all xy_&&(!(t==[])&&!(reserved.contains t))
def okN (t:List UInt8):Bool:=decide ((t.length:Int)≤12)&&okW t
theorem ch6 (c:UInt8):(cond (decide (((UInt8.toNat c):Int)<97)) (some (true,())) (some ((decide (122<((UInt8.toNat c):Int))),())))=some (!(xy_ c),()):=by
  unfold xy_
  by_cases h1:((UInt8.toNat c):Int)<97
  · rw [b1_ h1,b9_ (by omega:¬ (97:Int)≤(c.toNat:Int))]; rfl
  · rw [b9_ h1,b1_ (by omega:(97:Int)≤(c.toNat:Int))]
    by_cases h2:122<((UInt8.toNat c):Int)
    · rw [b1_ h2,b9_ (by omega:¬ ((UInt8.toNat c):Int)≤122)]; rfl
    · rw [b9_ h2,b1_ (by omega:((UInt8.toNat c):Int)≤122)]; rfl
theorem oa_ {t:List UInt8} (hl:Sm t.length):ag_ (ρ:=(Unit⊕(Bool×Unit))) (λ(v0:(Int×Unit)) =>
 (cond (decide (v0.1<(t.length:Int)))
 ((((at? t v0.1).bind λv1 =>
 (cond (decide (((UInt8.toNat v1):Int)<97))
 (some (true,()))
 ((at? t v0.1).bind λv2 =>
 (some ((decide (122<((UInt8.toNat v2):Int))),())))))).bind λv3 =>
 (cond v3.1
 (some (inr (inr (false,()))))
 (some (inl ((w64 (v0.1+1)),())))))
 (some (inr (inl ()))))) (0,())=some (cond (t.all xy_) (inl ()) (inr (false,()))):=by
  refine e2_ (nz_ t (λi c=>cond (xy_ c) none (some (inr (false,()):Unit⊕(Bool×Unit)))) (λi=>((i:Int),())) (r0:=inl ()) (λi y hy => ?_) ?_) ?_
  · have hi:=al_ hy
    simp only [dlt hi,a4_,ah_ hy,a0_,ay_ (show Sm i by omega),ch6]
    cases xy_ y <;> rfl
  · simp only [dnl,a2_]
  · rw [jd_]
    cases t.all xy_ <;> rfl
theorem bm4 {t:List UInt8} (hl:Sm t.length):fa_ t=some (okW t,()):=by
  unfold fa_
  refine e2_ (congrArg (λo=>Option.bind o _) (oa_ hl)) ?_
  unfold okW
  rw [a0_]
  cases t.all xy_ with
  | false=>rfl
  | true =>
    simp only [a4_,c0_]
    cases t==[] with
    | true=>rfl
    | false =>
      simp only [g5_,a4_,c0_]
      rw [xn_ (by decide),a0_]
      rfl
theorem zv_ {t:List UInt8} (hl:Sm t.length):hk_ t=some (okW t,()):=by
  unfold hk_
  refine e2_ (congrArg (λo=>Option.bind o _) (oa_ hl)) ?_
  unfold okW
  rw [a0_]
  cases t.all xy_ with
  | false=>rfl
  | true =>
    simp only [a4_,c0_]
    refine bm_ reserved (λi y=>cond (t==y) (some (inr (false,()):Unit⊕(Bool×Unit))) none) (λi=>((i:Int),())) (r0:=inl ()) (λi y hy => ?_) ?_ ?_
    · have hi:=al_ hy
      have h10:i<10:=hi
      have hy':=hy
      unfold reserved at hy'
      refine e2_ (congrArg (λc=>cond c _ _) (dlt hi)) ?_
      simp only [a4_,ah_ hy',a0_,ay_ (show Sm i by omega)]
      rw [beqc t y]
      cases t==y <;> rfl
    · rfl
    · rw [hf_ (q:=λy=>t==y),hc_]
      cases reserved.contains t with
      | true=>simp
      | false=>simp
theorem bo1 {t:List UInt8} (hl:Sm t.length):mv_ t=some (okW t,()):=by
  unfold mv_
  have h0:(((cond (t==[]) (some ((t==[]),())) (cond (t==[97,116]) (some ((t==[97,116]),())) (cond (t==[115,116,97,116,101,115]) (some ((t==[115,116,97,116,101,115]),())) (cond (t==[115,116,97,114,116]) (some ((t==[115,116,97,114,116]),()))
     (cond (t==[103,111,110,101]) (some ((t==[103,111,110,101]),())) (cond (t==[105,102]) (some ((t==[105,102]),())) (cond (t==[108,111,99,107]) (some ((t==[108,111,99,107]),())) (cond (t==[119,105,116,104]) (some ((t==[119,105,116,104]),()))
     (cond (t==[115,101,116,115]) (some ((t==[115,101,116,115]),())) (cond (t==[115,112,101,110,100,115]) (some ((t==[115,112,101,110,100,115]),())) (some ((t==[98,114,105,110,103,115]),()))))))))))))):Option (Bool×Unit))=some ((t==[]||reserved.contains t),()):=by
    unfold reserved
    simp only [List.contains_cons,List.contains_nil,h6_]
    cases t==[] with
    | true=>rfl
    | false =>
    cases t==[97,116] with
    | true=>rfl
    | false =>
    cases t==[115,116,97,116,101,115] with
    | true=>rfl
    | false =>
    cases t==[115,116,97,114,116] with
    | true=>rfl
    | false =>
    cases t==[103,111,110,101] with
    | true=>rfl
    | false =>
    cases t==[105,102] with
    | true=>rfl
    | false =>
    cases t==[108,111,99,107] with
    | true=>rfl
    | false =>
    cases t==[119,105,116,104] with
    | true=>rfl
    | false =>
    cases t==[115,101,116,115] with
    | true=>rfl
    | false =>
    cases t==[115,112,101,110,100,115] with
    | true=>rfl
    | false=>rfl
  refine e2_ (congrArg (λo=>Option.bind o _) h0) ?_
  rw [a0_]
  unfold okW
  cases hz:(t==[]||reserved.contains t) with
  | true =>
    have:(!(t==[])&&!(reserved.contains t))=false:=by
      rw [← Bool.not_or,hz]; rfl
    rw [this,f8_]
    rfl
  | false =>
    have:(!(t==[])&&!(reserved.contains t))=true:=by
      rw [← Bool.not_or,hz]; rfl
    rw [this,h1_]
    simp only [a2_]
    refine e2_ (congrArg (λo=>Option.bind o _) (oa_ hl)) ?_
    rw [a0_]
    cases t.all xy_ <;> rfl
theorem ka_ {t:List UInt8} (hl:Sm t.length):du_ t=some (okN t,()):=by
  unfold du_ okN
  rw [zv_ hl]
  cases decide ((t.length:Int)≤12) <;> rfl
end
section
def nk_ (things:List gv_) (th n:Int):Bool:=wi th 0 (w64 ((things.length:Int) - 1))&&match at? things th with
  | some t=>wi n 0 (w64 (t.2.2.1 - 1))
  | none=>false
theorem af4 {α:Type} {l:List α} {i:Int} (hl:Sm l.length) (h:wi i 0 (w64 ((l.length:Int) - 1))=true):∃ x,at? l i=some x:=by
  rw [ex_ (by omega) (by omega)] at h
  obtain ⟨h1,h2⟩:=cg_.1 h
  obtain ⟨x,hx⟩:=bc_ (l:=l) (i:=i.toNat) (by omega)
  exact ⟨x,by rw [show i=((i.toNat:Nat):Int) by omega]; exact ah_ hx⟩
theorem pa_ {r:af_} (hl:Sm r.2.1.length) (th n:Int):fb_ r th n=some (nk_ r.2.1 th n,()):=by
  unfold fb_ nk_
  rw [dy_,a0_]
  cases h:wi th 0 (w64 ((r.2.1.length:Int) - 1)) with
  | false=>rfl
  | true =>
    obtain ⟨x,hx⟩:=af4 hl h
    simp only [a4_,hx,a0_,dy_,c0_]
theorem rc_ {r:af_} (hl:Sm r.2.1.length) (th n:Int):gt_ r th n=some (nk_ r.2.1 th n,()):=by
  unfold gt_ nk_
  rw [fn_,a0_]
  cases h:wi th 0 (w64 ((r.2.1.length:Int) - 1)) with
  | false=>rfl
  | true =>
    obtain ⟨x,hx⟩:=af4 hl h
    simp only [a4_,hx,a0_,fn_,c0_]
def cOk (things:List gv_) (c:List be_):Bool:=decide ((c.length:Int)≤8)&&c.all λl=>nk_ things l.1 l.2.1
theorem td_ {α:Type} (l:List α) (q:α→Bool):(!(l.any λx=>!(q x)))=l.all q:=by
  induction l with
  | nil=>rfl
  | cons x l ih =>
    rw [n3_,List.all_cons,← ih]
    cases q x <;> rfl
theorem jq_ {r:af_} (hl:Sm r.2.1.length) (c:List be_):dt_ r c=some (cOk r.2.1 c,()):=by
  unfold dt_ cOk
  cases h8:decide ((c.length:Int)≤8) with
  | false=>rfl
  | true =>
    have h8:=g1_ h8
    simp only [a4_,c0_]
    refine e2_ (congrArg (λo=>Option.bind o _) (ng_ (show Sm c.length by omega) (λl=>!(nk_ r.2.1 l.1 l.2.1)) (λi y hy => ?_) ?_)) ?_
    · simp only [dlt (al_ hy),a4_,ah_ hy,a0_,pa_ hl]
      cases nk_ r.2.1 y.1 y.2.1 <;> rfl
    · simp only [dnl,a2_]
    · rw [a0_]
      exact congrArg (λb=>some (b,())) (td_ c _)
theorem gw_ {r:af_} (hl:Sm r.2.1.length) {c:List be_} (hc:Sm c.length):cs_ r c=some (cOk r.2.1 c,()):=by
  unfold cs_ cOk
  refine bm_ c (λi l=>cond (nk_ r.2.1 l.1 l.2.1) none (some (inr (false,()):Unit⊕(Bool×Unit)))) (λi=>((i:Int),())) (r0:=inl ()) (λi y hy => ?_) ?_ ?_
  · have hi:=al_ hy
    simp only [dlt hi,a4_,ah_ hy,a0_,ay_ (show Sm i by omega),rc_ hl]
    cases nk_ r.2.1 y.1 y.2.1 <;> rfl
  · simp only [dnl,a2_]
  · rw [jd_ (q:=λl:be_=>nk_ r.2.1 l.1 l.2.1)]
    cases c.all λl=>nk_ r.2.1 l.1 l.2.1 with
    | true=>rw [h1_]; rfl
    | false=>rw [f8_]; rfl
theorem bf9 {r:af_} (hl:Sm r.2.1.length) (c:List be_):le_ r c=some (cOk r.2.1 c,()):=by
  unfold le_ cOk
  cases h8:decide ((c.length:Int)≤8) with
  | false=>rfl
  | true =>
    have h8:=g1_ h8
    simp only [a4_,c0_]
    refine e2_ (congrArg (λo=>Option.bind o _) (ng_ (show Sm c.length by omega) (λl=>!(nk_ r.2.1 l.1 l.2.1)) (λi y hy => ?_) ?_)) ?_
    · simp only [dlt (al_ hy),a4_,ah_ hy,a0_,hu_,nk_]
      cases h:wi y.1 0 (w64 ((r.2.1.length:Int) - 1)) with
      | false=>rfl
      | true =>
        obtain ⟨x,hx⟩:=af4 hl h
        simp only [d6_,a2_,hx,a0_,c0_]
        cases wi y.2.1 0 (w64 (x.2.2.1 - 1)) <;> rfl
    · simp only [dnl,a2_]
    · rw [a0_]
      exact congrArg (λb=>some (b,())) (td_ c _)
end
section
def prv (l:List Int) (i:Nat):Int:=match i with
  | 0=>-1
  | j+1=>(l[j]?).getD 0
def cr5 (np:Nat) (l:List Int) (i:Nat) (x:Int):Bool:=decide (x≤prv l i)||decide ((np:Int)≤x)
def badQ (np:Nat) (l:List Int) (i:Nat) (x:Int):Bool:=!(wi x 0 ((np:Int) - 1))||(decide (0<i)&&decide (x≤prv l i))
def kp_ (np:Nat) (l:List Int):Bool:=(ge_ (λi x=>cond (cr5 np l i x) (some ()) none) 0 l).isNone
theorem vg_ {α ρ:Type} {q:Nat→α→Bool} {r:ρ}:∀ (l:List α) (i:Nat),ge_ (λi x=>cond (q i x) (some r) none) i l=cond (ge_ (λi x=>cond (q i x) (some ()) none) i l).isNone none (some r)
  | [],_=>rfl
  | x::l,i=>by
    unfold ge_
    cases q i x with
    | true=>rfl
    | false=>exact vg_ l (i+1)
theorem zo_ {α:Type} {q:Nat→α→Bool} (l:List α):(ge_ (λi x=>cond (q i x) (some ()) none) 0 l).isNone=true↔∀ i x,l[i]?=some x→q i x=false:=by
  rw [Option.isNone_iff_eq_none,ih_]
  constructor
  · intro h i x hx
    have:=h i x hx
    rw [b0_] at this
    cases hq:q i x with
    | false=>rfl
    | true=>rw [hq] at this; cases this
  · intro h i x hx
    rw [b0_,h i x hx]
    rfl
theorem cr8 (np:Nat) (l:List Int):(ge_ (λi x=>cond (badQ np l i x) (some ()) none) 0 l).isNone=kp_ np l:=by
  rw [i7_]
  unfold kp_
  rw [zo_,zo_]
  constructor
  · intro h i x hx
    have h0:=h i x hx
    unfold badQ at h0
    rw [c1_] at h0
    obtain ⟨h1,h2⟩:=h0
    have h1:wi x 0 ((np:Int) - 1)=true:=by simpa using h1
    obtain ⟨h3,h4⟩:=cg_.1 h1
    unfold cr5
    rw [c1_]
    refine ⟨?_,b9_ (by omega)⟩
    cases i with
    | zero=>exact b9_ (by show ¬ x≤-1; omega)
    | succ j =>
      have:decide (0<j+1)=true:=b1_ (by omega)
      rw [this,c0_] at h2
      exact h2
  · intro h
    have pos:∀ (i:Nat) (x:Int),l[i]?=some x→0≤x∧x<np:=by
      intro i
      induction i with
      | zero =>
        intro x hx
        have h0:=h 0 x hx
        unfold cr5 at h0
        rw [c1_] at h0
        have h1:=c7_ h0.1
        have h2:=c7_ h0.2
        have h1:¬ x≤-1:=h1
        omega
      | succ j ih =>
        intro x hx
        have h0:=h (j+1) x hx
        unfold cr5 at h0
        rw [c1_] at h0
        have h1:=c7_ h0.1
        have h2:=c7_ h0.2
        obtain ⟨y,hy⟩:=bc_ (l:=l) (i:=j) (by have:=al_ hx; omega)
        have h3:=ih y hy
        have h1:¬ x≤(l[j]?).getD 0:=h1
        rw [hy] at h1
        have h1:¬ x≤y:=h1
        omega
    intro i x hx
    have h0:=h i x hx
    unfold cr5 at h0
    rw [c1_] at h0
    have hp:=pos i x hx
    unfold badQ
    have:wi x 0 ((np:Int) - 1)=true:=cg_.2 ⟨hp.1,by omega⟩
    rw [this,h0.1,f8_]
    rfl
theorem se_ {r:af_} {l:List Int} (hl:Sm l.length):gy_ r l=some (kp_ r.2.2.1.length l,()):=by
  unfold gy_
  refine bm_ l (λi x=>cond (cr5 r.2.2.1.length l i x) (some (inr (false,()):Unit⊕(Bool×Unit))) none) (λi=>(prv l i,((i:Int),()))) (r0:=inl ()) (λi y hy => ?_) ?_ ?_
  · have hi:=al_ hy
    simp only [dlt hi,a4_,ah_ hy,a0_,ay_ (show Sm i by omega),cr5]
    have hn:prv l (i+1)=y:=by show (l[i]?).getD 0=y; rw [hy]; rfl
    cases decide (y≤prv l i) with
    | true=>rfl
    | false =>
      simp only [a2_,k4_,a0_,hn]
      cases decide ((r.2.2.1.length:Int)≤y) <;> rfl
  · simp only [dnl,a2_]
  · rw [vg_]
    unfold kp_
    cases (ge_ (λi x=>cond (cr5 r.2.2.1.length l i x) (some ()) none) 0 l).isNone <;> rfl
theorem jz_ {r:af_} (hp:Sm r.2.2.1.length) {l:List Int} (hl:Sm l.length):dk_ r l=some (kp_ r.2.2.1.length l,()):=by
  unfold dk_
  refine bm_ l (λi x=>cond (badQ r.2.2.1.length l i x) (some (inr (false,()):Unit⊕(Bool×Unit))) none) (λi=>((i:Int),())) (r0:=inl ()) (λi y hy => ?_) ?_ ?_
  · have hi:=al_ hy
    rw [show w64 ((r.2.2.1.length:Int) - 1)=(r.2.2.1.length:Int) - 1 from ex_ (by omega) (by omega)]
    simp only [dlt hi,a4_,ah_ hy,a0_,ay_ (show Sm i by omega),fn_,badQ]
    cases wi y 0 ((r.2.2.1.length:Int) - 1) with
    | false=>rfl
    | true =>
      simp only [d6_,a2_,k4_]
      cases i with
      | zero=>rfl
      | succ j =>
        obtain ⟨z,hz⟩:=bc_ (l:=l) (i:=j) (by omega)
        have e:w64 (((j+1:Nat):Int) - 1)=(j:Int):=by rw [ex_ (by omega) (by omega)]; omega
        have hn:prv l (j+1)=z:=by show (l[j]?).getD 0=z; rw [hz]; rfl
        rw [show decide (0<((j+1:Nat):Int))=true from b1_ (by omega),e,ah_ hz,hn,show decide (0<j+1)=true from b1_ (by omega)]
        simp only [a4_,a0_,c0_]
        cases decide (y≤z) <;> rfl
  · simp only [dnl,a2_]
  · rw [vg_,cr8]
    cases kp_ r.2.2.1.length l <;> rfl
end
end Go.Proofs.YtdibamopklkilaaGreatDoor.Rx
namespace Go.Proofs.YtdibamopklkilaaGreatDoor.Rx
open Go Pad Rex Go.Proofs Sum
section
set_option maxRecDepth 100000
set_option maxHeartbeats 0
def an_64:An:=(.p .z (.p (.j0 [.v 46 .bool] .z .z) (.p .z (.p (.p .z (.ls [.v 3 .int] [] [] 0 (.p .z (.p (.j0 [.v 70 .bool] .z .z) .z)))) (.p .z (.p (.p .z (.ls [.r 4 .str 9,.v 5 .int] [] [] 2 (.p .z (.p (.p .z (.p .z (.j0 [.v 118 .bool] .z .z))) .z)))) (.p .z (.p (.p .z (.ls [.r 4 .str 9,.v 7 .int] [] [] 4 (.p .z (.p (.p .z (.p .z (.p (.j0 [.v 156 .bool] .z .z) .z))) .z)))) (.p (.p .z (.ls [.v 9 .int] [] [] 6 (.p .z (.p (.p .z (.p (.j0 [.v 192 .bool] .z .z) .z)) .z)))) (.p (.p .z (.ls [.v 11 .int] [] [] 8 (.p .z (.p (.p .z (.p (.q [] .z .z) .z)) .z)))) (.p (.p .z (.ls [.v 12 .int] [] [] 10 (.p .z (.p (.p (.p (.q [] .z .z) .z) (.p (.q [] .z .z) .z)) .z)))) .z)))))))))))
noncomputable def cs_64:List (Con Tryz.prog):=[c_68,c_114,c_115,c_116,as7,c_118,ck9]
noncomputable def cl_64:List (Cpy Tryz.prog):=[]
noncomputable def cx_64:Cx Tryz.prog:=cxC cs_64 cl_64
noncomputable def fs_ (a0:af_):Option (Int×Unit) :=
 (((cond (decide (8<(a0.1.length:Int)))
 (some (true,()))
 (cond (decide (12<(a0.2.1.length:Int)))
 (some (true,()))
 (cond (decide (10<(a0.2.2.1.length:Int)))
 (some (true,()))
 (cond (decide (16<(a0.2.2.2.1.length:Int)))
 (some (true,()))
 (cond (decide (24<(a0.2.2.2.2.1.length:Int)))
 (some (true,()))
 (some ((decide (12<(a0.2.2.2.2.2.1.length:Int))),())))))))).bind λv0 =>
 (cond v0.1
 (some (2,()))
 (cond ((a0.1.length:Int)==0)
 (some (22,()))
 ((ag_ (ρ:=(Unit⊕(Int×Unit))) (λ(v1:(Int×Unit)) =>
 (cond (decide (v1.1<(a0.1.length:Int)))
 ((((at? a0.1 v1.1).bind λv2 =>
 ((du_ v2).bind λv3 =>
 (cond (!v3.1)
 (some (true,()))
 ((fr_ a0.1 v1.1).bind λv4 =>
 (some (v4.1,()))))))).bind λv5 =>
 (cond v5.1
 (some (inr (inr (22,()))))
 (some (inl ((w64 (v1.1+1)),())))))
 (some (inr (inl ()))))) (0,())).bind λv6 =>
 (ca_ v6 (λv7=>((ag_ (ρ:=(Unit⊕(Int×Unit))) (λ(v9:((List (List UInt8))×(Int×Unit))) =>
 (cond (decide (v9.2.1<(a0.2.1.length:Int)))
 ((at? a0.2.1 v9.2.1).bind λv10 =>
 ((push? (α:=(List UInt8)) v9.1 [v10.1]).bind λv11 =>
 ((((du_ v10.1).bind λv12 =>
 (cond (!v12.1)
 (some (true,()))
 ((fr_ v11 v9.2.1).bind λv13 =>
 (cond v13.1
 (some (true,()))
 ((cr_ a0 v10.2.1).bind λv14 =>
 (cond (!v14.1)
 (some (true,()))
 ((bq_ v10.2.2.1 2 6).bind λv15 =>
 (cond (!v15.1)
 (some (true,()))
 ((bq_ v10.2.2.2 0 (w64 (v10.2.2.1 - 1))).bind λv16 =>
 (some ((!v16.1),())))))))))))).bind λv17 =>
 (cond v17.1
 (some (inr (inr (21,()))))
 (some (inl (v11,((w64 (v9.2.1+1)),()))))))))
 (some (inr (inl ()))))) ([],(0,()))).bind λv18 =>
 (ca_ v18 (λv19=>((ag_ (ρ:=(Unit⊕(Int×Unit))) (λ(v21:((List (List UInt8))×(Int×Unit))) =>
 (cond (decide (v21.2.1<(a0.2.2.1.length:Int)))
 ((at? a0.2.2.1 v21.2.1).bind λv22 =>
 ((push? (α:=(List UInt8)) v21.1 [v22.1]).bind λv23 =>
 ((((du_ v22.1).bind λv24 =>
 (cond (!v24.1)
 (some (true,()))
 ((fr_ v23 v21.2.1).bind λv25 =>
 (cond v25.1
 (some (true,()))
 (cond (v22.2.1 != (-1))
 ((cr_ a0 v22.2.1).bind λv26 =>
 (some ((!v26.1),())))
 (some (false,())))))))).bind λv27 =>
 (cond v27.1
 (some (inr (inr (24,()))))
 ((cs_ a0 v22.2.2).bind λv28 =>
 (cond (!v28.1)
 (some (inr (inr (25,()))))
 (some (inl (v23,((w64 (v21.2.1+1)),()))))))))))
 (some (inr (inl ()))))) ([],(0,()))).bind λv29 =>
 (ca_ v29 (λv30=>((ag_ (ρ:=(Unit⊕(Int×Unit))) (λ(v32:(Int×Unit)) =>
 (cond (decide (v32.1<(a0.2.2.2.1.length:Int)))
 ((at? a0.2.2.2.1 v32.1).bind λv33 =>
 ((((cr_ a0 v33.1).bind λv34 =>
 (cond (!v34.1)
 (some (true,()))
 ((cr_ a0 v33.2.1).bind λv35 =>
 (cond (!v35.1)
 (some (true,()))
 (some ((v33.1==v33.2.1),()))))))).bind λv36 =>
 (cond v36.1
 (some (inr (inr (23,()))))
 ((cs_ a0 v33.2.2).bind λv37 =>
 (cond (!v37.1)
 (some (inr (inr (25,()))))
 (some (inl ((w64 (v32.1+1)),()))))))))
 (some (inr (inl ()))))) (0,())).bind λv38 =>
 (ca_ v38 (λv39=>((ag_ (ρ:=(Unit⊕(Int×Unit))) (λ(v41:(Int×Unit)) =>
 (cond (decide (v41.1<(a0.2.2.2.2.1.length:Int)))
 ((mt_ a0 v41.1).bind λv42 =>
 (cond (!v42.1)
 (some (inr (inr (26,()))))
 ((at? a0.2.2.2.2.1 v41.1).bind λv43 =>
 ((cs_ a0 v43.2.2.2.2.1).bind λv44 =>
 (cond (!v44.1)
 (some (inr (inr (25,()))))
 (some (inl ((w64 (v41.1+1)),()))))))))
 (some (inr (inl ()))))) (0,())).bind λv45 =>
 (ca_ v45 (λv46=>((ag_ (ρ:=(Unit⊕(Int×Unit))) (λ(v48:(Int×Unit)) =>
 (cond (decide (v48.1<(a0.2.2.2.2.2.1.length:Int)))
 ((at? a0.2.2.2.2.2.1 v48.1).bind λv49 =>
 ((at? a0.2.2.2.2.2.1 v48.1).bind λv50 =>
 ((gt_ a0 v49.2.1 v50.2.2).bind λv51 =>
 (cond (!v51.1)
 (some (inr (inr (27,()))))
 ((at? a0.2.2.2.2.2.1 v48.1).bind λv52 =>
 ((cs_ a0 v52.1).bind λv53 =>
 (cond (!v53.1)
 (some (inr (inr (25,()))))
 (some (inl ((w64 (v48.1+1)),()))))))))))
 (some (inr (inl ()))))) (0,())).bind λv54 =>
 (ca_ v54 (λv55=>((bq_ a0.2.2.2.2.2.2.1 1 4).bind λv57 =>
 (cond (!v57.1)
 (some (1,()))
 ((cs_ a0 a0.2.2.2.2.2.2.2).bind λv58 =>
 (cond (!v58.1)
 (some (25,()))
 (some (0,())))))))
 (λv56=>(some v56)))))
 (λv47=>(some v47)))))
 (λv40=>(some v40)))))
 (λv31=>(some v31)))))
 (λv20=>(some v20)))))
 (λv8=>(some v8)))))))
theorem x_64:av_ cx_64 an_64 64 [ao_] [.int]=λx=>fs_ x.1:=by kernel_rfl
noncomputable def c_64:Con Tryz.prog:=aw_ _ _ 64 [ao_] [.int] _ x_64
def an_67:An:=(.p .z (.p .z (.p (.p .z (.ls [.v 6 .int] [] [] 0 .z)) (.p (.j0 [.v 50 .bool] .z .z) .z))))
noncomputable def cs_67:List (Con Tryz.prog):=[c_69,c_114,c_122,c_123,c_124]
noncomputable def cl_67:List (Cpy Tryz.prog):=[]
noncomputable def cx_67:Cx Tryz.prog:=cxC cs_67 cl_67
noncomputable def jf_ (a0:ac_) (a1:Int):Option (Bool×Unit) :=
 ((at? a0.2.2.2.1 a1).bind λv0 =>
 ((ag_ (ρ:=(Unit⊕(Bool×Unit))) (λ(v1:(Int×Unit)) =>
 (cond (decide (v1.1<a1))
 ((at? a0.2.2.2.1 v1.1).bind λv2 =>
 (cond (v2.1==v0.1)
 (some (inr (inr (false,()))))
 (some (inl ((w64 (v1.1+1)),())))))
 (some (inr (inl ()))))) (0,())).bind λv3 =>
 (ca_ v3 (λv4=>((((du_ v0.1).bind λv6 =>
 (cond (!v6.1)
 (some (true,()))
 ((im_ v0.2.1 0 (w64 ((a0.1.1.length:Int) - 1))).bind λv7 =>
 (cond (!v7.1)
 (some (true,()))
 ((im_ v0.2.2.1 (-1) (w64 ((a0.2.1.length:Int) - 1))).bind λv8 =>
 (some ((!v8.1),())))))))).bind λv9 =>
 (cond v9.1
 (some (false,()))
 (cond (v0.2.2.1==(-1))
 ((ky_ v0.2.2.2.2).bind λv10 =>
 (some (v10.1,())))
 ((at? a0.2.1 v0.2.2.1).bind λv11 =>
 ((fu_ v11 v0.2.2.2.2).bind λv12 =>
 (cond (v12.1==0)
 ((at? a0.2.2.1 v0.2.2.1).bind λv13 =>
 ((fh_ v0.2.2.2.2 v13).bind λv14 =>
 (some (v14.1,()))))
 (some (false,())))))))))
 (λv5=>(some v5)))))
theorem x_67:av_ cx_67 an_67 67 [an_,.int] [.bool]=λx=>jf_ x.1 x.2.1:=by kernel_rfl
noncomputable def c_67:Con Tryz.prog:=aw_ _ _ 67 [an_,.int] [.bool] _ x_67
def an_241:An:=(.p .z (.p .z (.p (.p .z (.lp [.v 5 .int,.v 6 .int] [.v 5 .int] [] 0 .z)) (.p .z (.p (.p .z (.lp [.r 7 (.list .int) 45,.v 8 .int] [.r 7 (.list .int) 45] [] 2 (.p .z (.j0 [.r 7 (.list .int) 45] (.p .z (.p .z (.p (.p .z (.lp [.v 10 .int,.v 11 .int] [] [.o (.s 9) .int] 4 .z)) .z))) .z)))) .z)))))
noncomputable def cs_241:List (Con Tryz.prog):=[c_248]
noncomputable def cl_241:List (Cpy Tryz.prog):=[]
noncomputable def cx_241:Cx Tryz.prog:=cxC cs_241 cl_241
noncomputable def mu_ (a0:ab_) (a1:(List ak_)):Option ((List (List Int))×Unit) :=
 ((ag_ (ρ:=(Int×Unit)) (λ(v0:(Int×(Int×Unit))) =>
 (cond (decide (v0.2.1<a0.1))
 (some (inl ((w64 (v0.1 * a0.2)),((w64 (v0.2.1+1)),()))))
 (some (inr (v0.1,()))))) (1,(0,()))).bind λv1 =>
 ((ag_ (ρ:=((List (List Int))×Unit)) (λ(v2:((List (List Int))×(Int×Unit))) =>
 (cond (decide (v2.2.1<v1.1))
 ((((mk? (α:=Int) a0.1 0).bind λv3 =>
 ((ag_ (ρ:=((List Int)×Unit)) (λ(v4:(Int×(Int×((List Int)×Unit)))) =>
 (cond (decide (0≤v4.2.1))
 ((md v4.1 a0.2).bind λv5 =>
 ((at? v4.2.2.1 v4.2.1).bind λv6 =>
 ((at? v4.2.2.1 v4.2.1).bind λv7 =>
 ((dv v4.1 a0.2).bind λv8 =>
 (some (inl (v8,((w64 (v4.2.1 - 1)),((v4.2.2.1.set v4.2.1.toNat v5),())))))))))
 (some (inr (v4.2.2.1,()))))) (v2.2.1,((w64 (a0.1 - 1)),(v3,())))).bind λv9 =>
 ((jl_ a1 v9.1).bind λv10 =>
 (cond (decide (v10.1<0))
 ((push? (α:=(List Int)) v2.1 [v9.1]).bind λv11 =>
 (some (v11,())))
 (some (v2.1,()))))))).bind λv12 =>
 (some (inl (v12.1,((w64 (v2.2.1+1)),())))))
 (some (inr (v2.1,()))))) ([],(0,()))).bind λv13 =>
 (some (v13.1,()))))
theorem x_241:av_ cx_241 an_241 241 [am_,(.list ap_)] [(.list (.list .int))]=λx=>mu_ x.1 x.2.1:=by kernel_rfl
noncomputable def c_241:Con Tryz.prog:=aw_ _ _ 241 [am_,(.list ap_)] [(.list (.list .int))] _ x_241
def an_76:An:=(.p .z (.p (.j0 [.v 49 .bool] .z .z) (.p .z (.p (.p .z (.ls [.v 54 .int] [] [] 0 .z)) (.p .z (.p (.p .z (.ls [.v 74 .int] [] [] 2 (.p .z (.p .z (.p (.p .z (.j0 [.v 108 .bool] .z .z)) .z))))) (.p (.p .z (.ls [.v 113 .int] [] [] 4 (.p .z (.p .z (.p (.p .z (.p (.j0 [.v 137 .bool] .z .z) .z)) .z))))) (.p (.p .z (.ls [.v 147 .int] [] [] 6 (.p .z (.p .z (.p (.p .z (.p (.j0 [.v 169 .bool] .z .z) .z)) .z))))) (.p (.p .z (.ls [.v 179 .int] [] [] 8 .z)) (.p (.p .z (.ls [.v 198 .int] [] [] 10 .z)) .z))))))))))
def at_76:FuncId→An:=λk=>cond (Nat.beq k 127) (.p .z (.j0 [.v 6 .bool] .z .z)) (cond (Nat.beq k 129) (.p .z (.j0 [.v 6 .bool] .z .z)) (cond (Nat.beq k 131) (.p .z (.j0 [.v 6 .bool] .z .z)) (cond (Nat.beq k 172) (.p .z (.j0 [.v 6 .int] .z .z)) (cond (Nat.beq k 173) (.p .z (.j0 [.v 6 .int] .z .z)) (cond (Nat.beq k 174) (.p .z (.j0 [.v 6 .int] .z .z)) (cond (Nat.beq k 210) (.p .z (.p (.p .z (.ls [.v 8 .int] [] [] 0 .z)) .z)) (cond (Nat.beq k 211) (.p .z (.p (.q [] .z .z) .z)) (cond (Nat.beq k 212) (.p .z (.p (.p .z (.ls [.v 8 .int] [] [] 0 .z)) .z)) (cond (Nat.beq k 213) (.p .z (.p (.q [] .z .z) .z)) (cond (Nat.beq k 214) (.p .z (.p (.p .z (.ls [.v 8 .int] [] [] 0 .z)) .z)) (cond (Nat.beq k 215) (.p .z (.p (.q [] .z .z) .z)) (.z))))))))))))
noncomputable def cs_76:List (Con Tryz.prog):=[bx6,c_128,c_130,c_132,c_133,c_134,ck8,c_171]
noncomputable def cl_76:List (Cpy Tryz.prog):=[]
noncomputable def cx_76:Cx Tryz.prog:=cxI at_76 (λk=>Nat.beq k 126||Nat.beq k 128||Nat.beq k 130||Nat.beq k 132||Nat.beq k 133||Nat.beq k 134||Nat.beq k 135||Nat.beq k 171||false) (cxC cs_76 cl_76) 12
noncomputable def fe_ (a0:af_):Option (Int×Unit) :=
 (((cond (decide (8<(a0.1.length:Int)))
 (some (true,()))
 (cond (decide (12<(a0.2.1.length:Int)))
 (some (true,()))
 (cond (decide (10<(a0.2.2.1.length:Int)))
 (some (true,()))
 (cond (decide (16<(a0.2.2.2.1.length:Int)))
 (some (true,()))
 (cond (decide (24<(a0.2.2.2.2.1.length:Int)))
 (some (true,()))
 (some ((decide (12<(a0.2.2.2.2.2.1.length:Int))),())))))))).bind λv0 =>
 (cond v0.1
 (some (2,()))
 ((ag_ (ρ:=(Unit⊕(Int×Unit))) (λ(v1:(Int×Unit)) =>
 (cond (decide (v1.1<(a0.1.length:Int)))
 ((at? a0.1 v1.1).bind λv2 =>
 ((sub? a0.1 0 v1.1).bind λv3 =>
 ((((fa_ v2).bind λv4 =>
 (cond v4.1
 (cond (decide ((v2.length:Int)≤12))
 ((((ag_ (ρ:=(Unit⊕(Int×Unit))) (λ(v5:(Int×Unit)) =>
 (cond (decide (v5.1<(v3.length:Int)))
 ((at? v3 v5.1).bind λv6 =>
 (cond (v6==v2)
 (some (inr (inr (v5.1,()))))
 (some (inl ((w64 (v5.1+1)),())))))
 (some (inr (inl ()))))) (0,())).bind λv7 =>
 (ca_ v7 (λv8=>(some ((-1),())))
 (λv9=>(some v9))))).bind λv10 =>
 (some ((decide (v10.1<0)),())))
 (some (false,())))
 (some (false,()))))).bind λv11 =>
 (cond (!v11.1)
 (some (inr (inr (22,()))))
 (some (inl ((w64 (v1.1+1)),())))))))
 (some (inr (inl ()))))) (0,())).bind λv12 =>
 (ca_ v12 (λv13=>(cond ((a0.1.length:Int)==0)
 (some (22,()))
 ((ag_ (ρ:=(Unit⊕(Int×Unit))) (λ(v15:(Int×Unit)) =>
 (cond (decide (v15.1<(a0.2.1.length:Int)))
 ((at? a0.2.1 v15.1).bind λv16 =>
 ((((sub? a0.2.1 0 v15.1).bind λv17 =>
 ((((fa_ v16.1).bind λv18 =>
 (cond v18.1
 (cond (decide ((v16.1.length:Int)≤12))
 ((((ag_ (ρ:=(Unit⊕(Int×Unit))) (λ(v19:(Int×Unit)) =>
 (cond (decide (v19.1<(v17.length:Int)))
 ((at? v17 v19.1).bind λv20 =>
 (cond (v20.1==v16.1)
 (some (inr (inr (v19.1,()))))
 (some (inl ((w64 (v19.1+1)),())))))
 (some (inr (inl ()))))) (0,())).bind λv21 =>
 (ca_ v21 (λv22=>(some ((-1),())))
 (λv23=>(some v23))))).bind λv24 =>
 (some ((decide (v24.1<0)),())))
 (some (false,())))
 (some (false,()))))).bind λv25 =>
 (cond (!v25.1)
 (some (true,()))
 ((bd_ v16.2.1 0 (w64 ((a0.1.length:Int) - 1))).bind λv26 =>
 (cond (!v26.1)
 (some (true,()))
 ((bd_ v16.2.2.1 2 6).bind λv27 =>
 (cond (!v27.1)
 (some (true,()))
 ((bd_ v16.2.2.2 0 (w64 (v16.2.2.1 - 1))).bind λv28 =>
 (some ((!v28.1),()))))))))))).bind λv29 =>
 (cond v29.1
 (some (inr (inr (21,()))))
 (some (inl ((w64 (v15.1+1)),()))))))
 (some (inr (inl ()))))) (0,())).bind λv30 =>
 (ca_ v30 (λv31=>((ag_ (ρ:=(Unit⊕(Int×Unit))) (λ(v33:(Int×Unit)) =>
 (cond (decide (v33.1<(a0.2.2.1.length:Int)))
 ((at? a0.2.2.1 v33.1).bind λv34 =>
 ((((sub? a0.2.2.1 0 v33.1).bind λv35 =>
 ((((fa_ v34.1).bind λv36 =>
 (cond v36.1
 (cond (decide ((v34.1.length:Int)≤12))
 ((((ag_ (ρ:=(Unit⊕(Int×Unit))) (λ(v37:(Int×Unit)) =>
 (cond (decide (v37.1<(v35.length:Int)))
 ((at? v35 v37.1).bind λv38 =>
 (cond (v38.1==v34.1)
 (some (inr (inr (v37.1,()))))
 (some (inl ((w64 (v37.1+1)),())))))
 (some (inr (inl ()))))) (0,())).bind λv39 =>
 (ca_ v39 (λv40=>(some ((-1),())))
 (λv41=>(some v41))))).bind λv42 =>
 (some ((decide (v42.1<0)),())))
 (some (false,())))
 (some (false,()))))).bind λv43 =>
 (cond (!v43.1)
 (some (true,()))
 ((bd_ v34.2.1 0 (w64 ((a0.1.length:Int) - 1))).bind λv44 =>
 (cond (!v44.1)
 (some ((v34.2.1 != (-1)),()))
 (some (false,())))))))).bind λv45 =>
 (cond v45.1
 (some (inr (inr (24,()))))
 ((dt_ a0 v34.2.2).bind λv46 =>
 (cond (!v46.1)
 (some (inr (inr (25,()))))
 (some (inl ((w64 (v33.1+1)),()))))))))
 (some (inr (inl ()))))) (0,())).bind λv47 =>
 (ca_ v47 (λv48=>((ag_ (ρ:=(Unit⊕(Int×Unit))) (λ(v50:(Int×Unit)) =>
 (cond (decide (v50.1<(a0.2.2.2.1.length:Int)))
 ((at? a0.2.2.2.1 v50.1).bind λv51 =>
 ((((bd_ v51.1 0 (w64 ((a0.1.length:Int) - 1))).bind λv52 =>
 (cond (!v52.1)
 (some (true,()))
 ((bd_ v51.2.1 0 (w64 ((a0.1.length:Int) - 1))).bind λv53 =>
 (cond (!v53.1)
 (some (true,()))
 (some ((v51.1==v51.2.1),()))))))).bind λv54 =>
 (cond v54.1
 (some (inr (inr (23,()))))
 ((dt_ a0 v51.2.2).bind λv55 =>
 (cond (!v55.1)
 (some (inr (inr (25,()))))
 (some (inl ((w64 (v50.1+1)),()))))))))
 (some (inr (inl ()))))) (0,())).bind λv56 =>
 (ca_ v56 (λv57=>((ag_ (ρ:=(Unit⊕(Int×Unit))) (λ(v59:(Int×Unit)) =>
 (cond (decide (v59.1<(a0.2.2.2.2.1.length:Int)))
 ((at? a0.2.2.2.2.1 v59.1).bind λv60 =>
 ((pi_ a0 v59.1 v60).bind λv61 =>
 (cond (!v61.1)
 (some (inr (inr (26,()))))
 ((dt_ a0 v60.2.2.2.2.1).bind λv62 =>
 (cond (!v62.1)
 (some (inr (inr (25,()))))
 (some (inl ((w64 (v59.1+1)),()))))))))
 (some (inr (inl ()))))) (0,())).bind λv63 =>
 (ca_ v63 (λv64=>((ag_ (ρ:=(Unit⊕(Int×Unit))) (λ(v66:(Int×Unit)) =>
 (cond (decide (v66.1<(a0.2.2.2.2.2.1.length:Int)))
 ((at? a0.2.2.2.2.2.1 v66.1).bind λv67 =>
 ((fb_ a0 v67.2.1 v67.2.2).bind λv68 =>
 (cond (!v68.1)
 (some (inr (inr (27,()))))
 ((dt_ a0 v67.1).bind λv69 =>
 (cond (!v69.1)
 (some (inr (inr (25,()))))
 (some (inl ((w64 (v66.1+1)),()))))))))
 (some (inr (inl ()))))) (0,())).bind λv70 =>
 (ca_ v70 (λv71=>((bd_ a0.2.2.2.2.2.2.1 1 4).bind λv73 =>
 (cond (!v73.1)
 (some (1,()))
 ((dt_ a0 a0.2.2.2.2.2.2.2).bind λv74 =>
 (cond (!v74.1)
 (some (25,()))
 (some (0,())))))))
 (λv72=>(some v72)))))
 (λv65=>(some v65)))))
 (λv58=>(some v58)))))
 (λv49=>(some v49)))))
 (λv32=>(some v32))))))
 (λv14=>(some v14))))))
theorem x_76:av_ cx_76 an_76 76 [ao_] [.int]=λx=>fe_ x.1:=by kernel_rfl
noncomputable def c_76:Con Tryz.prog:=aw_ _ _ 76 [ao_] [.int] _ x_76
def an_78:An:=.z
noncomputable def cs_78:List (Con Tryz.prog):=[c_137]
noncomputable def cl_78:List (Cpy Tryz.prog):=[]
noncomputable def cx_78:Cx Tryz.prog:=cxC cs_78 cl_78
noncomputable def ed_ (a0:ab_) (a1:(List Int)):Option (Int×Unit) :=
 ((hl_ a0 [a1]).bind λv0 =>
 (some (v0.1,())))
theorem x_78:av_ cx_78 an_78 78 [am_,(.list .int)] [.int]=λx=>ed_ x.1 x.2.1:=by kernel_rfl
noncomputable def c_78:Con Tryz.prog:=aw_ _ _ 78 [am_,(.list .int)] [.int] _ x_78
def an_187:An:=.z
noncomputable def cs_187:List (Con Tryz.prog):=[c_77,c_221]
noncomputable def cl_187:List (Cpy Tryz.prog):=[]
noncomputable def cx_187:Cx Tryz.prog:=cxC cs_187 cl_187
noncomputable def fy_ (a0:ab_) (a1:ak_):Option (Int×Unit) :=
 ((ek_ a0).bind λv0 =>
 (cond (v0.1 != 0)
 (some (v0.1,()))
 ((dm_ a0 a1).bind λv1 =>
 (cond (!v1.1)
 (some (11,()))
 (some (0,()))))))
theorem x_187:av_ cx_187 an_187 187 [am_,ap_] [.int]=λx=>fy_ x.1 x.2.1:=by kernel_rfl
noncomputable def c_187:Con Tryz.prog:=aw_ _ _ 187 [am_,ap_] [.int] _ x_187
def an_205:An:=.z
def at_205:FuncId→An:=λk=>cond (Nat.beq k 229) (.p .z (.j0 [.v 4 .bool] .z .z)) (cond (Nat.beq k 242) (.p .z (.p (.p .z (.ls [.v 8 .int] [] [] 0 .z)) .z)) (.z))
noncomputable def cs_205:List (Con Tryz.prog):=[c_77,c_221]
noncomputable def cl_205:List (Cpy Tryz.prog):=[]
noncomputable def cx_205:Cx Tryz.prog:=cxI at_205 (λk=>Nat.beq k 77||Nat.beq k 221||false) (cxC cs_205 cl_205) 4
noncomputable def ev_ (a0:ab_) (a1:(List ak_)):Option (Int×Unit) :=
 ((ek_ a0).bind λv0 =>
 (cond (v0.1 != 0)
 (some (v0.1,()))
 (cond (decide (20<(a1.length:Int)))
 (some (2,()))
 ((((ag_ (ρ:=(Unit⊕(Bool×Unit))) (λ(v1:(Int×Unit)) =>
 (cond (decide (v1.1<(a1.length:Int)))
 ((at? a1 v1.1).bind λv2 =>
 ((dm_ a0 v2).bind λv3 =>
 (cond (!v3.1)
 (some (inr (inr ((decide (0≤v1.1)),()))))
 (some (inl ((w64 (v1.1+1)),()))))))
 (some (inr (inl ()))))) (0,())).bind λv4 =>
 (ca_ v4 (λv5=>(some ((decide (0≤(-1))),())))
 (λv6=>(some v6))))).bind λv7 =>
 (cond v7.1
 (some (11,()))
 (some (0,())))))))
theorem x_205:av_ cx_205 an_205 205 [am_,(.list ap_)] [.int]=λx=>ev_ x.1 x.2.1:=by kernel_rfl
noncomputable def c_205:Con Tryz.prog:=aw_ _ _ 205 [am_,(.list ap_)] [.int] _ x_205
def an_206:An:=(.p .z (.p (.p .z (.rf [4] .z .z)) .z))
def at_206:FuncId→An:=λk=>cond (Nat.beq k 243) (.p .z (.p .z (.rf [2,3] .z .z))) (cond (Nat.beq k 249) (.p .z (.ls [] [] [.y (.c (.y (.s 0) 3) 0),.y (.s 0),.o (.s 3) .int,.b (.y (.c (.y (.s 0) 3) 0) 4) [.val .int]] 0 (.p .z (.p .z (.p (.lp [.v 4 .int] [.v 4 .int] [.o (.s 3) .int] 2 (.p (.j0 [.v 26 .bool] .z .z) .z)) .z))))) (.z))
noncomputable def cs_206:List (Con Tryz.prog):=[c_245]
noncomputable def cl_206:List (Cpy Tryz.prog):=[]
noncomputable def cx_206:Cx Tryz.prog:=cxI at_206 (λk=>Nat.beq k 245||false) (cxC cs_206 cl_206) 9
noncomputable def eu_ (a0:ab_) (a1:(List ak_)):Option (Int×Unit) :=
 ((mk? (α:=Int) a0.1 0).bind λv0 =>
 ((ag_ (ρ:=((Unit×(Unit×((List Int)×((Int×Unit)×Unit))))⊕(Int×Unit))) (λ(v1:(Unit×(Unit×((List Int)×((Int×Unit)×Unit))))) =>
 ((fx_ a1 v1.2.2.1).bind λv2 =>
 (cond (decide (v2.1<0))
 ((ag_ (ρ:=(Int×((List Int)×Unit))) (λ(v3:(Int×((List Int)×Unit))) =>
 (((cond (decide (0≤v3.1))
 ((at? v3.2.1 v3.1).bind λv4 =>
 ((at? v3.2.1 v3.1).bind λv5 =>
 (some ((v5==(w64 (a0.2 - 1))),()))))
 (some (false,())))).bind λv6 =>
 (cond v6.1
 ((at? v3.2.1 v3.1).bind λv7 =>
 ((at? v3.2.1 v3.1).bind λv8 =>
 (some (inl ((w64 (v3.1 - 1)),((v3.2.1.set v3.1.toNat 0),()))))))
 (some (inr (v3.1,(v3.2.1,()))))))) ((w64 (a0.1 - 1)),(v1.2.2.1,()))).bind λv9 =>
 (cond (decide (v9.1<0))
 (some (inr (inr ((w64 (v1.2.2.2.1.1+1)),()))))
 ((at? v9.2.1 v9.1).bind λv10 =>
 ((at? v9.2.1 v9.1).bind λv11 =>
 ((at? v9.2.1 v9.1).bind λv12 =>
 ((at? v9.2.1 v9.1).bind λv13 =>
 (some (inl ((),((),((v9.2.1.set v9.1.toNat (w64 (v11+1))),(((w64 (v1.2.2.2.1.1+1)),()),()))))))))))))
 ((ag_ (ρ:=(Int×((List Int)×Unit))) (λ(v14:(Int×((List Int)×Unit))) =>
 (((cond (decide (0≤v14.1))
 ((at? v14.2.1 v14.1).bind λv15 =>
 ((at? v14.2.1 v14.1).bind λv16 =>
 (some ((v16==(w64 (a0.2 - 1))),()))))
 (some (false,())))).bind λv17 =>
 (cond v17.1
 ((at? v14.2.1 v14.1).bind λv18 =>
 ((at? v14.2.1 v14.1).bind λv19 =>
 (some (inl ((w64 (v14.1 - 1)),((v14.2.1.set v14.1.toNat 0),()))))))
 (some (inr (v14.1,(v14.2.1,()))))))) ((w64 (a0.1 - 1)),(v1.2.2.1,()))).bind λv20 =>
 (cond (decide (v20.1<0))
 (some (inr (inr (v1.2.2.2.1.1,()))))
 ((at? v20.2.1 v20.1).bind λv21 =>
 ((at? v20.2.1 v20.1).bind λv22 =>
 ((at? v20.2.1 v20.1).bind λv23 =>
 ((at? v20.2.1 v20.1).bind λv24 =>
 (some (inl ((),((),((v20.2.1.set v20.1.toNat (w64 (v22+1))),((v1.2.2.2.1.1,()),()))))))))))))))) ((),((),(v0,((0,()),()))))).bind λv25 =>
 (ca_ v25 (λv26=>(some (v26.2.2.2.1.1,())))
 (λv27=>(some v27)))))
theorem x_206:av_ cx_206 an_206 206 [am_,(.list ap_)] [.int]=λx=>eu_ x.1 x.2.1:=by kernel_rfl
noncomputable def c_206:Con Tryz.prog:=aw_ _ _ 206 [am_,(.list ap_)] [.int] _ x_206
end
end Go.Proofs.YtdibamopklkilaaGreatDoor.Rx
namespace Go.Proofs.YtdibamopklkilaaGreatDoor.Rx
open Go Pad Rex Sum
section
theorem ow_ {α:Type} {l:List α} {i:Nat} (h:i≤l.length):sub? l 0 (i:Int)=some (l.take i):=by
  unfold sub?
  rw [if_pos ⟨m7_ 0,by omega,by omega⟩]
  simp
def twN {α:Type} (nm:α→List UInt8) (l:List α) (i:Nat) (t:List UInt8):Bool:=(l.take i).any λy=>nm y==t
theorem qe_ {l:List (List UInt8)} {i:Nat} {x:List UInt8} (hl:Sm l.length) (hx:l[i]?=some x):fr_ l (i:Int)=some (twN id l i x,()):=by
  have hi:=al_ hx
  have hle:(l.take i).length=i:=by rw [c9_]; omega
  unfold fr_
  refine bm_ (l.take i) (λ_ y=>cond (id y==x) (some (inr (true,()):Unit⊕(Bool×Unit))) none) (λi=>((i:Int),())) (r0:=inl ()) (λk y hy => ?_) ?_ ?_
  · have hk:=al_ hy
    have hy':l[k]?=some y:=by
      rw [i8_] at hy
      split at hy
      · exact hy
      · cases hy
    simp only [dlt (show k<i by omega),a4_,ah_ hy',ah_ hx,a0_,ay_ (show Sm k by omega),id]
    cases y==x <;> rfl
  · rw [hle]
    simp only [dnl,a2_]
  · rw [hf_ (q:=λy=>id y==x)]
    unfold twN
    cases (l.take i).any λy=>id y==x <;> rfl
theorem ht_ {r:af_} (p:Int):cr_ r p=some (wi p 0 (w64 ((r.1.length:Int) - 1)),()):=by
  unfold cr_
  rw [fn_,a0_]
structure SmR (r:af_):Prop where
  pl:Sm r.1.length
  th:Sm r.2.1.length
  pr:Sm r.2.2.1.length
  wy:Sm r.2.2.2.1.length
  ac:Sm r.2.2.2.2.1.length
  au:Sm r.2.2.2.2.2.1.length
  go:Sm r.2.2.2.2.2.2.2.length
  pln:∀ x ∈ r.1,Sm x.length
  thn:∀ x ∈ r.2.1,Sm x.1.length
  prn:∀ x ∈ r.2.2.1,Sm x.1.length∧Sm x.2.2.length
  wyn:∀ x ∈ r.2.2.2.1,Sm x.2.2.length
  acn:∀ x ∈ r.2.2.2.2.1,Sm x.1.length∧Sm x.2.2.2.1.length∧Sm x.2.2.2.2.1.length∧Sm x.2.2.2.2.2.1.length∧Sm x.2.2.2.2.2.2.1.length∧Sm x.2.2.2.2.2.2.2.length
  aun:∀ x ∈ r.2.2.2.2.2.1,Sm x.1.length
theorem ax_ {α:Type} {l:List α} {i:Nat} {x:α} (h:l[i]?=some x):x ∈ l:=b6_ h
def rj_ (r:af_) (p:Int):Bool:=wi p 0 (w64 ((r.1.length:Int) - 1))
def frN {α:Type} (nm:α→List UInt8) (l:List α) (i:Nat) (t:List UInt8):Bool:=okN t&&!(twN nm l i t)
def plOk (r:af_) (i:Nat) (x:List UInt8):Bool:=frN id r.1 i x
def bj6 (r:af_) (i:Nat) (x:gv_):Bool:=frN (·.1) r.2.1 i x.1&&(rj_ r x.2.1&&(wi x.2.2.1 2 6&&wi x.2.2.2 0 (w64 (x.2.2.1 - 1))))
def cf3 (r:af_) (i:Nat) (x:jv_):Bool:=frN (·.1) r.2.2.1 i x.1&&(rj_ r x.2.1||x.2.1==(-1))
def ca8 (r:af_) (x:on_):Bool:=rj_ r x.1&&(rj_ r x.2.1&&!(x.1==x.2.1))
def rz_ (a:Bool) (e:Int) (b:Bool) (f:Int):Option Int:=cond a (cond b none (some f)) (some e)
def kk_ (a:Bool) (e:Int):Option Int:=cond a none (some e)
def left (o:Option Int):Unit⊕(Int×Unit):=match o with
  | none=>.inl ()
  | some e=>.inr (e,())
theorem ay3 (o:Option Int):(o.map λe=>(inr (e,()):Unit⊕(Int×Unit))).getD (inl ())=left o:=by cases o <;> rfl
theorem bu_ {α:Type} (l:List α) (p:Nat→α→Option Int) {body:(Int×Unit)→Option ((Int×Unit)⊕(Unit⊕(Int×Unit)))} {τ:Type} {K:(Unit⊕(Int×Unit))→Option τ} {x:Option τ}
    (h:∀ (i:Nat) y,l[i]?=some y→body ((i:Int),())=some (match p i y with | none=>.inl (((i+1:Nat):Int),()) | some e=>.inr (.inr (e,())))) (e:body ((l.length:Int),())=some (.inr (.inl ()))) (hk:K (left (ge_ p 0 l))=x) :
    (ag_ body (0,())).bind K=x:=by
  refine bm_ l (λi y=>(p i y).map λe=>(inr (e,()):Unit⊕(Int×Unit))) (λi=>((i:Int),())) (r0:=inl ()) (λi y hy => ?_) e ?_
  · rw [h i y hy]
    cases p i y <;> rfl
  · rw [zn_,ay3]
    exact hk
theorem zc_ {α β:Type} (l:List α) (p:Nat→α→Option Int) (F:Nat→β) {body:(β×(Int×Unit))→Option ((β×(Int×Unit))⊕(Unit⊕(Int×Unit)))} {τ:Type} {K:(Unit⊕(Int×Unit))→Option τ} {x:Option τ} {b0:β} (h0:F 0=b0)
    (h:∀ (i:Nat) y,l[i]?=some y→body (F i,((i:Int),()))=some (match p i y with | none=>.inl (F (i+1),(((i+1:Nat):Int),())) | some e=>.inr (.inr (e,())))) (e:body (F l.length,((l.length:Int),()))=some (.inr (.inl ()))) (hk:K (left (ge_ p 0 l))=x) :
    (ag_ body (b0,(0,()))).bind K=x:=by
  subst h0
  refine bm_ l (λi y=>(p i y).map λe=>(inr (e,()):Unit⊕(Int×Unit))) (λi=>(F i,((i:Int),()))) (r0:=inl ()) (λi y hy => ?_) e ?_
  · rw [h i y hy]
    cases p i y <;> rfl
  · rw [zn_,ay3]
    exact hk
theorem ep_ {o:Option Int} {K:Unit→Option (Int×Unit)} {k:Int} (h:K ()=some (k,())):ca_ (left o) K (λy=>some y)=some (o.getD k,()):=by
  cases o with
  | none=>exact h
  | some e=>rfl
end
section
def qy_ (r:af_) (l:List ab_) (i:Nat) (x:ab_):Bool:=nk_ r.2.1 x.1 x.2&&!((l.take i).any λy=>y.1==x.1)
def ue_ (r:af_) (i:Nat) (a:cv_):Bool :=
  frN (·.1) r.2.2.2.2.1 i a.1&&(rj_ r a.2.1&&(wi a.2.2.1 (-1) 7&&(kp_ r.2.2.1.length a.2.2.2.1&&(kp_ r.2.2.1.length a.2.2.2.2.2.2.1&&(kp_ r.2.2.1.length a.2.2.2.2.2.2.2&&(!(decide (6<(a.2.2.2.2.2.1.length:Int)))
    && ((a.2.2.2.2.2.2.1.all λp=>a.2.2.2.1.contains p)&&(!(a.2.2.2.2.2.2.2.any λp=>a.2.2.2.1.contains p)
      && (ge_ (λi x=>cond (qy_ r a.2.2.2.2.2.1 i x) none (some ())) 0 a.2.2.2.2.2.1).isNone))))))))
theorem sc_ {α ρ:Type} {q:Nat→α→Bool} {r:ρ}:∀ (l:List α) (i:Nat),ge_ (λi x=>cond (q i x) none (some r)) i l=cond (ge_ (λi x=>cond (q i x) none (some ())) i l).isNone none (some r)
  | [],_=>rfl
  | x::l,i=>by
    unfold ge_
    cases q i x with
    | false=>rfl
    | true=>exact sc_ l (i+1)
theorem ul_ {α:Type} {l:List α} (hl:Sm l.length) (nm:α→List UInt8) {t:List UInt8} (ht:Sm t.length) :
    ((fa_ t).bind λv1=>cond v1.1 (cond (decide ((t.length:Int)≤12)) ((((ag_ (ρ:=Unit⊕(Int×Unit)) (λ(v:Int×Unit)=>cond (decide (v.1<(l.length:Int))) ((at? l v.1).bind λy=>cond (nm y==t) (some (inr (inr (v.1,())))) (some (inl (w64 (v.1+1),())))) (some (inr (inl ())))) (0,())).bind λv=>ca_ v (λ_=>some ((-1:Int),())) (λw=>some w))).bind λv=>some (decide (v.1<0),())) (some (false,()))) (some (false,())))
      = some (okN t&&!(l.any λy=>nm y==t),()):=by
  rw [bm4 ht,a0_]
  obtain ⟨n,h1,h2,_⟩:=if_lt hl (λy=>nm y==t) (body:=λ(v:Int×Unit)=>cond (decide (v.1<(l.length:Int))) ((at? l v.1).bind λy=>cond (nm y==t) (some (inr (inr (v.1,())))) (some (inl (w64 (v.1+1),())))) (some (inr (inl ())))) (λi y hy=>by
    simp only [dlt (al_ hy),a4_,ah_ hy,a0_]
    cases nm y==t <;> rfl) (by simp only [dnl,a2_])
  rw [h1,a0_,h2]
  unfold okN
  cases okW t with
  | false=>rw [f8_,e3_]; rfl
  | true=>cases decide ((t.length:Int)≤12) <;> rfl
theorem vc_ {α:Type} {l:List α} (h:Sm l.length) (i:Nat):Sm (l.take i).length:=by
  rw [c9_]
  exact c5_ (m4_ _ _) h
theorem ce4 {r:af_} (h:SmR r) {i:Nat} {a:cv_} (ha:r.2.2.2.2.1[i]?=some a):pi_ r (i:Int) a=some (ue_ r i a,()):=by
  have hi:=al_ ha
  obtain ⟨s1,s2,s3,s4,s5,s6⟩:=h.acn a (ax_ ha)
  unfold pi_
  refine e2_ (congrArg (λo=>Option.bind o _) (?_:_=some (!(frN (·.1) r.2.2.2.2.1 i a.1&&(rj_ r a.2.1&&wi a.2.2.1 (-1) 7)),()))) ?_
  · rw [ow_ (f9_ hi),a0_]
    refine e2_ (congrArg (λo=>Option.bind o _) (ul_ (vc_ h.ac i) (·.1) s1)) ?_
    unfold frN twN rj_
    rw [a0_]
    cases okN a.1&&!((r.2.2.2.2.1.take i).any λy=>y.1==a.1) with
    | false=>rfl
    | true =>
      simp only [dy_,a0_]
      cases wi a.2.1 0 (w64 ((r.1.length:Int) - 1)) with
      | false=>rfl
      | true=>rfl
  · rw [a0_]
    unfold ue_
    cases frN (·.1) r.2.2.2.2.1 i a.1 with
    | false=>rfl
    | true =>
    cases rj_ r a.2.1 with
    | false=>rfl
    | true =>
    cases wi a.2.2.1 (-1) 7 with
    | false=>rfl
    | true =>
      simp only [d6_,a2_,c0_,se_ s2,se_ s5,se_ s6,a0_]
      cases kp_ r.2.2.1.length a.2.2.2.1 with
      | false=>rfl
      | true =>
      cases kp_ r.2.2.1.length a.2.2.2.2.2.2.1 with
      | false=>rfl
      | true =>
      cases kp_ r.2.2.1.length a.2.2.2.2.2.2.2 with
      | false=>rfl
      | true =>
      cases h6:decide (6<(a.2.2.2.2.2.1.length:Int)) with
      | true=>rfl
      | false =>
      simp only [d6_,g5_,a2_,c0_,a0_]
      refine e2_ (congrArg (λo=>Option.bind o _) (?_:_=some (!((a.2.2.2.2.2.2.1.all λp=>a.2.2.2.1.contains p)&&!(a.2.2.2.2.2.2.2.any λp=>a.2.2.2.1.contains p)),()))) ?_
      · refine e2_ (congrArg (λo=>Option.bind o _) (ng_ s5 (λp=>!(a.2.2.2.1.contains p)) (λi y hy => ?_) ?_)) ?_
        · simp only [dlt (al_ hy),a4_,ah_ hy,a0_,lk_ s2]
          cases a.2.2.2.1.contains y <;> rfl
        · simp only [dnl,a2_]
        rw [a0_,← td_ a.2.2.2.2.2.2.1]
        cases a.2.2.2.2.2.2.1.any λp=>!(a.2.2.2.1.contains p) with
        | true=>rfl
        | false =>
        refine e2_ (congrArg (λo=>Option.bind o _) (ng_ s6 (λp=>a.2.2.2.1.contains p) (λi y hy => ?_) ?_)) ?_
        · simp only [dlt (al_ hy),a4_,ah_ hy,a0_,lk_ s2]
          cases a.2.2.2.1.contains y <;> rfl
        · simp only [dnl,a2_]
        cases a.2.2.2.2.2.2.2.any λp=>a.2.2.2.1.contains p <;> rfl
      · rw [a0_]
        cases a.2.2.2.2.2.2.1.all λp=>a.2.2.2.1.contains p with
        | false=>rfl
        | true =>
        cases a.2.2.2.2.2.2.2.any λp=>a.2.2.2.1.contains p with
        | true=>rfl
        | false =>
          simp only [d6_,g5_,a2_,c0_]
          refine bm_ a.2.2.2.2.2.1 (λi x=>cond (qy_ r a.2.2.2.2.2.1 i x) none (some (inr (false,()):Unit⊕(Bool×Unit)))) (λi=>((i:Int),())) (r0:=inl ()) (λk y hy => ?_) ?_ ?_
          · have hk:=al_ hy
            simp only [dlt hk,a4_,ah_ hy,a0_,ay_ (show Sm k by omega),ow_ (f9_ hk)]
            refine e2_ (congrArg (λo=>Option.bind o _) (ng_ (vc_ s4 k) (λz=>z.1==y.1) (λn z hz => ?_) ?_)) ?_
            · simp only [dlt (al_ hz),a4_,ah_ hz,a0_]
              cases z.1==y.1 <;> rfl
            · simp only [dnl,a2_]
            · rw [a0_,pa_ h.th]
              unfold qy_
              cases nk_ r.2.1 y.1 y.2 with
              | false=>rfl
              | true =>
                cases (a.2.2.2.2.2.1.take k).any λz=>z.1==y.1 <;> rfl
          · simp only [dnl,a2_]
          · rw [sc_]
            cases (ge_ (λi x=>cond (qy_ r a.2.2.2.2.2.1 i x) none (some ())) 0 a.2.2.2.2.2.1).isNone <;> rfl
end
section
def ab3 (r:af_):Bool:=decide (8<(r.1.length:Int))||(decide (12<(r.2.1.length:Int))||(decide (10<(r.2.2.1.length:Int))||(decide (16<(r.2.2.2.1.length:Int))||(decide (24<(r.2.2.2.2.1.length:Int))||decide (12<(r.2.2.2.2.2.1.length:Int))))))
theorem br4 (r:af_):(cond (decide (8<(r.1.length:Int)))
 (some (true,()))
 (cond (decide (12<(r.2.1.length:Int)))
 (some (true,()))
 (cond (decide (10<(r.2.2.1.length:Int)))
 (some (true,()))
 (cond (decide (16<(r.2.2.2.1.length:Int)))
 (some (true,()))
 (cond (decide (24<(r.2.2.2.2.1.length:Int)))
 (some (true,()))
 (some ((decide (12<(r.2.2.2.2.2.1.length:Int))),())))))))=some (ab3 r,()):=by
  unfold ab3
  cases decide (8<(r.1.length:Int)) with
  | true=>rfl
  | false =>
  cases decide (12<(r.2.1.length:Int)) with
  | true=>rfl
  | false =>
  cases decide (10<(r.2.2.1.length:Int)) with
  | true=>rfl
  | false =>
  cases decide (16<(r.2.2.2.1.length:Int)) with
  | true=>rfl
  | false =>
  cases decide (24<(r.2.2.2.2.1.length:Int)) with
  | true=>rfl
  | false=>rfl
def dc_ (r:af_):Int :=
  cond (ab3 r) 2 ((ge_ (λi x=>kk_ (plOk r i x) 22) 0 r.1).getD
    (cond ((r.1.length:Int)==0) 22 ((ge_ (λi x=>kk_ (bj6 r i x) 21) 0 r.2.1).getD
      ((ge_ (λi x=>rz_ (cf3 r i x) 24 (cOk r.2.1 x.2.2) 25) 0 r.2.2.1).getD
        ((ge_ (λ_ x=>rz_ (ca8 r x) 23 (cOk r.2.1 x.2.2) 25) 0 r.2.2.2.1).getD
          ((ge_ (λi x=>rz_ (ue_ r i x) 26 (cOk r.2.1 x.2.2.2.2.1) 25) 0 r.2.2.2.2.1).getD
            ((ge_ (λ_ x=>rz_ (nk_ r.2.1 x.2.1 x.2.2) 27 (cOk r.2.1 x.1) 25) 0 r.2.2.2.2.2.1).getD
              (cond (wi r.2.2.2.2.2.2.1 1 4) (cond (cOk r.2.1 r.2.2.2.2.2.2.2) 0 25) 1))))))))
theorem sf_ {r:af_} (h:SmR r):fe_ r=some (dc_ r,()):=by
  unfold fe_
  refine e2_ (congrArg (λo=>Option.bind o _) (br4 r)) ?_
  rw [a0_]
  unfold dc_
  cases ab3 r with
  | true=>rfl
  | false =>
  simp only [a2_]
  refine bu_ r.1 (λi x=>kk_ (plOk r i x) 22) (λi y hy => ?_) ?_ (ep_ ?_)
  · have hi:=al_ hy
    simp only [dlt hi,a4_,ah_ hy,a0_,ay_ (show Sm i from c5_ (f9_ hi) h.pl),ow_ (f9_ hi)]
    refine e2_ (congrArg (λo=>Option.bind o _) (ul_ (vc_ h.pl i) id (h.pln y (ax_ hy)))) ?_
    unfold kk_ plOk frN twN
    rw [a0_]
    cases okN y&&!((r.1.take i).any λz=>id z==y) <;> rfl
  · simp only [dnl,a2_]
  cases (r.1.length:Int)==0 with
  | true=>rfl
  | false =>
  simp only [a2_]
  refine bu_ r.2.1 (λi x=>kk_ (bj6 r i x) 21) (λi y hy => ?_) ?_ (ep_ ?_)
  · have hi:=al_ hy
    simp only [dlt hi,a4_,ah_ hy,a0_,ay_ (show Sm i from c5_ (f9_ hi) h.th),ow_ (f9_ hi)]
    refine e2_ (congrArg (λo=>Option.bind o _) (e2_ (congrArg (λo=>Option.bind o _) (ul_ (vc_ h.th i) (·.1) (h.thn y (ax_ hy)))) (?_:_=some (!(bj6 r i y),())))) ?_
    · simp only [dy_,a0_]
      unfold bj6 frN twN rj_
      cases okN y.1&&!((r.2.1.take i).any λz=>z.1==y.1) with
      | false=>rfl
      | true =>
        cases wi y.2.1 0 (w64 ((r.1.length:Int) - 1)) with
        | false=>rfl
        | true =>
          cases wi y.2.2.1 2 6 with
          | false=>rfl
          | true=>rfl
    · rw [a0_]
      unfold kk_
      cases bj6 r i y <;> rfl
  · simp only [dnl,a2_]
  refine bu_ r.2.2.1 (λi x=>rz_ (cf3 r i x) 24 (cOk r.2.1 x.2.2) 25) (λi y hy => ?_) ?_ (ep_ ?_)
  · have hi:=al_ hy
    simp only [dlt hi,a4_,ah_ hy,a0_,ay_ (show Sm i from c5_ (f9_ hi) h.pr),ow_ (f9_ hi)]
    refine e2_ (congrArg (λo=>Option.bind o _) (e2_ (congrArg (λo=>Option.bind o _) (ul_ (vc_ h.pr i) (·.1) (h.prn y (ax_ hy)).1)) (?_:_=some (!(cf3 r i y),())))) ?_
    · simp only [dy_,a0_]
      unfold cf3 frN twN rj_
      cases okN y.1&&!((r.2.2.1.take i).any λz=>z.1==y.1) with
      | false=>rfl
      | true =>
        cases wi y.2.1 0 (w64 ((r.1.length:Int) - 1)) with
        | false=>rfl
        | true=>rfl
    · rw [a0_,jq_ h.th,a0_]
      unfold rz_
      cases cf3 r i y with
      | false=>rfl
      | true=>cases cOk r.2.1 y.2.2 <;> rfl
  · simp only [dnl,a2_]
  refine bu_ r.2.2.2.1 (λi x=>rz_ (ca8 r x) 23 (cOk r.2.1 x.2.2) 25) (λi y hy => ?_) ?_ (ep_ ?_)
  · have hi:=al_ hy
    simp only [dlt hi,a4_,ah_ hy,a0_,ay_ (show Sm i from c5_ (f9_ hi) h.wy)]
    refine e2_ (congrArg (λo=>Option.bind o _) (?_:_=some (!(ca8 r y),()))) ?_
    · simp only [dy_,a0_]
      unfold ca8 rj_
      cases wi y.1 0 (w64 ((r.1.length:Int) - 1)) with
      | false=>rfl
      | true =>
        cases wi y.2.1 0 (w64 ((r.1.length:Int) - 1)) with
        | false=>rfl
        | true=>simp
    · rw [a0_,jq_ h.th,a0_]
      unfold rz_
      cases ca8 r y with
      | false=>rfl
      | true=>cases cOk r.2.1 y.2.2 <;> rfl
  · simp only [dnl,a2_]
  refine bu_ r.2.2.2.2.1 (λi x=>rz_ (ue_ r i x) 26 (cOk r.2.1 x.2.2.2.2.1) 25) (λi y hy => ?_) ?_ (ep_ ?_)
  · have hi:=al_ hy
    simp only [dlt hi,a4_,ah_ hy,a0_,ay_ (show Sm i from c5_ (f9_ hi) h.ac),ce4 h hy,jq_ h.th]
    unfold rz_
    cases ue_ r i y with
    | false=>rfl
    | true=>cases cOk r.2.1 y.2.2.2.2.1 <;> rfl
  · simp only [dnl,a2_]
  refine bu_ r.2.2.2.2.2.1 (λi x=>rz_ (nk_ r.2.1 x.2.1 x.2.2) 27 (cOk r.2.1 x.1) 25) (λi y hy => ?_) ?_ (ep_ ?_)
  · have hi:=al_ hy
    simp only [dlt hi,a4_,ah_ hy,a0_,ay_ (show Sm i from c5_ (f9_ hi) h.au),pa_ h.th,jq_ h.th]
    unfold rz_
    cases nk_ r.2.1 y.2.1 y.2.2 with
    | false=>rfl
    | true=>cases cOk r.2.1 y.1 <;> rfl
  · simp only [dnl,a2_]
  rw [dy_,a0_,jq_ h.th,a0_]
  cases wi r.2.2.2.2.2.2.1 1 4 with
  | false=>rfl
  | true=>cases cOk r.2.1 r.2.2.2.2.2.2.2 <;> rfl
end
section
theorem tt_ {α ρ σ τ:Type} (l:List α) (k:Nat) (hk:k≤l.length) (p:Nat→α→Option ρ) (F:Nat→σ) {r0:ρ} {body:σ→Option (σ⊕ρ)} {K:ρ→Option τ} {x:Option τ}
    (h:∀ i x,i<k→l[i]?=some x→body (F i)=some (match p i x with | none=>.inl (F (i+1)) | some r=>.inr r)) (e:body (F k)=some (.inr r0)) (hx:K ((ge_ p 0 (l.take k)).getD r0)=x) :
    (ag_ body (F 0)).bind K=x:=by
  have hle:(l.take k).length=k:=by rw [c9_]; omega
  refine bm_ (l.take k) p F (λi x hx => ?_) (by rw [hle]; exact e) hx
  rw [i8_] at hx
  split at hx
  · exact h i x ‹_› hx
  · cases hx
theorem bm9 {r:af_} (h:SmR r) {i:Nat} {a:cv_} (ha:r.2.2.2.2.1[i]?=some a):mt_ r (i:Int)=some (ue_ r i a,()):=by
  have hi:=al_ ha
  have hac:=h.ac
  obtain ⟨s1,s2,s3,s4,s5,s6⟩:=h.acn a (ax_ ha)
  unfold mt_
  rw [ah_ ha,a0_]
  refine tt_ r.2.2.2.2.1 i (f9_ hi) (λ_ y=>cond (y.1==a.1) (some (inr (false,()):Unit⊕(Bool×Unit))) none) (λi=>((i:Int),())) (r0:=inl ()) (λk y hk hy => ?_) ?_ ?_
  · simp only [dlt hk,a4_,ah_ hy,a0_,ay_ (show Sm k by omega)]
    cases y.1==a.1 <;> rfl
  · simp only [dnl,a2_]
  rw [hf_ (q:=λy:cv_=>y.1==a.1)]
  unfold ue_ frN twN
  cases (r.2.2.2.2.1.take i).any λy=>y.1==a.1 with
  | true=>rw [d6_,f8_,e3_]; rfl
  | false =>
  simp only [a2_,j0_,zg_,g5_,h1_]
  refine e2_ (congrArg (λo=>Option.bind o _) (?_:_=some (!(okN a.1&&(rj_ r a.2.1&&(wi a.2.2.1 (-1) 7&&(kp_ r.2.2.1.length a.2.2.2.1&&(kp_ r.2.2.1.length a.2.2.2.2.2.2.1&&(kp_ r.2.2.1.length a.2.2.2.2.2.2.2&&!(decide (6<(a.2.2.2.2.2.1.length:Int))))))))),()))) ?_
  · simp only [ka_ s1,ht_,fn_,jz_ h.pr s2,jz_ h.pr s5,jz_ h.pr s6,a0_]
    unfold rj_
    cases okN a.1 with
    | false=>rfl
    | true =>
    cases wi a.2.1 0 (w64 ((r.1.length:Int) - 1)) with
    | false=>rfl
    | true =>
    cases wi a.2.2.1 (-1) 7 with
    | false=>rfl
    | true =>
    cases kp_ r.2.2.1.length a.2.2.2.1 with
    | false=>rfl
    | true =>
    cases kp_ r.2.2.1.length a.2.2.2.2.2.2.1 with
    | false=>rfl
    | true =>
    cases kp_ r.2.2.1.length a.2.2.2.2.2.2.2 with
    | false=>rfl
    | true=>simp
  rw [a0_]
  cases okN a.1 with
  | false=>rfl
  | true =>
  cases rj_ r a.2.1 with
  | false=>rfl
  | true =>
  cases wi a.2.2.1 (-1) 7 with
  | false=>rfl
  | true =>
  cases kp_ r.2.2.1.length a.2.2.2.1 with
  | false=>rfl
  | true =>
  cases kp_ r.2.2.1.length a.2.2.2.2.2.2.1 with
  | false=>rfl
  | true =>
  cases kp_ r.2.2.1.length a.2.2.2.2.2.2.2 with
  | false=>rfl
  | true =>
  cases decide (6<(a.2.2.2.2.2.1.length:Int)) with
  | true=>rfl
  | false =>
  simp only [c0_,d6_,g5_,a2_]
  refine bm_ a.2.2.2.2.2.2.1 (λ_ y=>cond (a.2.2.2.1.contains y) none (some (inr (false,()):Unit⊕(Bool×Unit)))) (λi=>((i:Int),())) (r0:=inl ()) (λk y hy => ?_) ?_ ?_
  · have hk:=al_ hy
    simp only [dlt hk,a4_,ah_ hy,a0_,ay_ (show Sm k by omega),aw2 s2]
    cases a.2.2.2.1.contains y <;> rfl
  · simp only [dnl,a2_]
  rw [jd_ (q:=λy=>a.2.2.2.1.contains y)]
  cases a.2.2.2.2.2.2.1.all λy=>a.2.2.2.1.contains y with
  | false=>rfl
  | true =>
  simp only [a4_,j0_,zg_,c0_]
  refine bm_ a.2.2.2.2.2.2.2 (λ_ y=>cond (a.2.2.2.1.contains y) (some (inr (false,()):Unit⊕(Bool×Unit))) none) (λi=>((i:Int),())) (r0:=inl ()) (λk y hy => ?_) ?_ ?_
  · have hk:=al_ hy
    simp only [dlt hk,a4_,ah_ hy,a0_,ay_ (show Sm k by omega),aw2 s2]
    cases a.2.2.2.1.contains y <;> rfl
  · simp only [dnl,a2_]
  rw [hf_ (q:=λy=>a.2.2.2.1.contains y)]
  cases a.2.2.2.2.2.2.2.any λy=>a.2.2.2.1.contains y with
  | true=>rfl
  | false =>
  simp only [a2_,j0_,zg_,g5_,c0_]
  refine bm_ a.2.2.2.2.2.1 (λi x=>cond (qy_ r a.2.2.2.2.2.1 i x) none (some (inr (false,()):Unit⊕(Bool×Unit)))) (λi=>((i:Int),())) (r0:=inl ()) (λk y hy => ?_) ?_ ?_
  · have hk:=al_ hy
    simp only [dlt hk,a4_,ah_ hy,a0_,ay_ (show Sm k by omega),rc_ h.th]
    unfold qy_
    cases nk_ r.2.1 y.1 y.2 with
    | false=>rfl
    | true =>
    simp only [d6_,a2_,c0_]
    refine tt_ a.2.2.2.2.2.1 k (f9_ hk) (λ_ z=>cond (z.1==y.1) (some (inr (inr (inr (false,()))):Unit⊕((Int×Unit)⊕(Unit⊕(Bool×Unit))))) none) (λi=>((i:Int),())) (r0:=inl ()) (λn z hn hz => ?_) ?_ ?_
    · simp only [dlt hn,a4_,ah_ hz,a0_,ay_ (show Sm n by omega)]
      cases z.1==y.1 <;> rfl
    · simp only [dnl,a2_]
    rw [hf_ (q:=λz:ab_=>z.1==y.1)]
    cases (a.2.2.2.2.2.1.take k).any λz=>z.1==y.1 <;> rfl
  · simp only [dnl,a2_]
  rw [sc_]
  cases (ge_ (λi x=>cond (qy_ r a.2.2.2.2.2.1 i x) none (some ())) 0 a.2.2.2.2.2.1).isNone <;> rfl
theorem ai6 {α:Type} {nm:α→List UInt8} {l:List α} (hl:Sm l.length) {i:Nat} {x:α} (hx:l[i]?=some x):push? (α:=List UInt8) ((l.take i).map nm) [nm x]=some ((l.take (i+1)).map nm):=by
  have hi:=al_ hx
  unfold push?
  rw [if_pos (by
    simp only [d0_,c9_,d5_]
    omega)]
  rw [d1_,hx,i5_]
  rfl
theorem bj4 {α:Type} {nm:α→List UInt8} {l:List α} {i:Nat} {t:List UInt8}:twN id ((l.take (i+1)).map nm) i t=twN nm l i t:=by
  unfold twN
  rw [← List.map_take,List.take_take,Nat.min_eq_left (Nat.le_succ i),List.any_map]
  rfl
theorem cp2 {α:Type} {nm:α→List UInt8} {l:List α} {i:Nat} {x:α} (hx:l[i]?=some x):((l.take (i+1)).map nm)[i]?=some (nm x):=by
  rw [d8_,i8_,if_pos (Nat.lt_succ_self i),hx]
  rfl
theorem qf_ {r:af_} (h:SmR r):fs_ r=some (dc_ r,()):=by
  unfold fs_
  refine e2_ (congrArg (λo=>Option.bind o _) (br4 r)) ?_
  rw [a0_]
  unfold dc_
  cases ab3 r with
  | true=>rfl
  | false =>
  simp only [a2_]
  cases he:(r.1.length:Int)==0 with
  | true =>
    have:r.1=[]:=by
      have:=f2_.1 he
      exact h5_ (by omega)
    rw [this]
    rfl
  | false =>
  simp only [a2_]
  refine bu_ r.1 (λi x=>kk_ (plOk r i x) 22) (λi y hy => ?_) ?_ (ep_ ?_)
  · have hi:=al_ hy
    simp only [dlt hi,a4_,ah_ hy,a0_,ay_ (show Sm i from c5_ (f9_ hi) h.pl),ka_ (h.pln y (ax_ hy)),qe_ h.pl hy]
    unfold kk_ plOk frN
    cases okN y with
    | false=>rfl
    | true=>cases twN id r.1 i y <;> rfl
  · simp only [dnl,a2_]
  refine zc_ r.2.1 (λi x=>kk_ (bj6 r i x) 21) (λi=>(r.2.1.take i).map (·.1)) rfl (λi y hy => ?_) ?_ (ep_ ?_)
  · have hi:=al_ hy
    have hs:Sm ((r.2.1.take (i+1)).map (·.1)).length:=by
      rw [d0_,c9_]
      exact c5_ (m4_ _ _) h.th
    simp only [dlt hi,a4_,ah_ hy,a0_,ay_ (show Sm i from c5_ (f9_ hi) h.th),ai6 h.th hy,ka_ (h.thn y (ax_ hy)),qe_ hs (cp2 hy),bj4,ht_,fn_]
    unfold kk_ bj6 frN rj_
    cases okN y.1 with
    | false=>rfl
    | true =>
    cases twN (·.1) r.2.1 i y.1 with
    | true=>rfl
    | false =>
    cases wi y.2.1 0 (w64 ((r.1.length:Int) - 1)) with
    | false=>rfl
    | true =>
    cases wi y.2.2.1 2 6 with
    | false=>rfl
    | true=>cases wi y.2.2.2 0 (w64 (y.2.2.1 - 1)) <;> rfl
  · simp only [dnl,a2_]
  refine zc_ r.2.2.1 (λi x=>rz_ (cf3 r i x) 24 (cOk r.2.1 x.2.2) 25) (λi=>(r.2.2.1.take i).map (·.1)) rfl (λi y hy => ?_) ?_ (ep_ ?_)
  · have hi:=al_ hy
    obtain ⟨s1,s2⟩:=h.prn y (ax_ hy)
    have hs:Sm ((r.2.2.1.take (i+1)).map (·.1)).length:=by
      rw [d0_,c9_]
      exact c5_ (m4_ _ _) h.pr
    simp only [dlt hi,a4_,ah_ hy,a0_,ay_ (show Sm i from c5_ (f9_ hi) h.pr),ai6 h.pr hy,ka_ s1,qe_ hs (cp2 hy),bj4,ht_,gw_ h.th s2]
    unfold rz_ cf3 frN rj_
    cases okN y.1 with
    | false=>rfl
    | true =>
    cases twN (·.1) r.2.2.1 i y.1 with
    | true=>rfl
    | false =>
    have e:(y.2.1 != -1) = !(y.2.1==-1):=rfl
    rw [e]
    cases y.2.1==-1 with
    | true =>
      cases wi y.2.1 0 (w64 ((r.1.length:Int) - 1)) <;> cases cOk r.2.1 y.2.2 <;> rfl
    | false =>
      cases wi y.2.1 0 (w64 ((r.1.length:Int) - 1)) <;> cases cOk r.2.1 y.2.2 <;> rfl
  · simp only [dnl,a2_]
  refine bu_ r.2.2.2.1 (λi x=>rz_ (ca8 r x) 23 (cOk r.2.1 x.2.2) 25) (λi y hy => ?_) ?_ (ep_ ?_)
  · have hi:=al_ hy
    simp only [dlt hi,a4_,ah_ hy,a0_,ay_ (show Sm i from c5_ (f9_ hi) h.wy),ht_,gw_ h.th (h.wyn y (ax_ hy))]
    unfold rz_ ca8 rj_
    cases wi y.1 0 (w64 ((r.1.length:Int) - 1)) with
    | false=>rfl
    | true =>
    cases wi y.2.1 0 (w64 ((r.1.length:Int) - 1)) with
    | false=>rfl
    | true=>cases y.1==y.2.1 <;> cases cOk r.2.1 y.2.2 <;> rfl
  · simp only [dnl,a2_]
  refine bu_ r.2.2.2.2.1 (λi x=>rz_ (ue_ r i x) 26 (cOk r.2.1 x.2.2.2.2.1) 25) (λi y hy => ?_) ?_ (ep_ ?_)
  · have hi:=al_ hy
    simp only [dlt hi,a4_,ah_ hy,a0_,ay_ (show Sm i from c5_ (f9_ hi) h.ac),bm9 h hy,gw_ h.th (h.acn y (ax_ hy)).2.2.1]
    unfold rz_
    cases ue_ r i y with
    | false=>rfl
    | true=>cases cOk r.2.1 y.2.2.2.2.1 <;> rfl
  · simp only [dnl,a2_]
  refine bu_ r.2.2.2.2.2.1 (λi x=>rz_ (nk_ r.2.1 x.2.1 x.2.2) 27 (cOk r.2.1 x.1) 25) (λi y hy => ?_) ?_ (ep_ ?_)
  · have hi:=al_ hy
    simp only [dlt hi,a4_,ah_ hy,a0_,ay_ (show Sm i from c5_ (f9_ hi) h.au),rc_ h.th,gw_ h.th (h.aun y (ax_ hy))]
    unfold rz_
    cases nk_ r.2.1 y.2.1 y.2.2 with
    | false=>rfl
    | true=>cases cOk r.2.1 y.1 <;> rfl
  · simp only [dnl,a2_]
  rw [fn_,a0_,gw_ h.th h.go,a0_]
  cases wi r.2.2.2.2.2.2.1 1 4 with
  | false=>rfl
  | true=>cases cOk r.2.1 r.2.2.2.2.2.2.2 <;> rfl
end
section
theorem je_ {α τ:Type} (l:List α) (hl:Sm l.length) (q:α→Bool) {body:(Int×Unit)→Option ((Int×Unit)⊕(Unit⊕(Bool×Unit)))} {K:(Unit⊕(Bool×Unit))→Option τ} {x:Option τ}
    (h:∀ (i:Nat) y,l[i]?=some y→body ((i:Int),())=some (cond (q y) (.inr (.inr (true,()))) (.inl (w64 ((i:Int)+1),())))) (e:body ((l.length:Int),())=some (.inr (.inl ()))) (hx:K (cond (l.any q) (.inr (true,())) (.inl ()))=x) :
    (ag_ body (0,())).bind K=x:=by
  refine bm_ l (λi y=>cond (q y) (some (inr (true,()):Unit⊕(Bool×Unit))) none) (λi=>((i:Int),())) (r0:=inl ()) (λi y hy => ?_) e ?_
  · have hi:=al_ hy
    rw [h i y hy,ay_ (show Sm i by omega)]
    cases q y <;> rfl
  · rw [hf_ (q:=q)]
    cases hq:l.any q <;> rw [hq] at hx <;> exact hx
theorem gn_ {α:Type} {l:List α} {q:α→Bool} (h:l.any q=false):∀ x ∈ l,q x=false:=by
  intro x hx
  cases hq:q x with
  | false=>rfl
  | true=>rw [j4_.2 ⟨x,hx,hq⟩] at h; cases h
theorem nlt {n:Nat} {k:Int} (h:decide (k<(n:Int))=false) (hk:k≤1000000000):Sm n:=by
  have:=c7_ h
  omega
def ch5 (r:af_):Bool:=decide (12<(r.1.length:Int))||(decide (15<(r.2.1.length:Int))||(decide (14<(r.2.2.1.length:Int))||(decide (20<(r.2.2.2.1.length:Int))||(decide (30<(r.2.2.2.2.1.length:Int))||(decide (15<(r.2.2.2.2.2.1.length:Int))||decide (20<(r.2.2.2.2.2.2.2.length:Int)))))))
theorem ch4 (r:af_):(cond (decide (12<(r.1.length:Int)))
 (some (true,()))
 (cond (decide (15<(r.2.1.length:Int)))
 (some (true,()))
 (cond (decide (14<(r.2.2.1.length:Int)))
 (some (true,()))
 (cond (decide (20<(r.2.2.2.1.length:Int)))
 (some (true,()))
 (cond (decide (30<(r.2.2.2.2.1.length:Int)))
 (some (true,()))
 (cond (decide (15<(r.2.2.2.2.2.1.length:Int)))
 (some (true,()))
 (some ((decide (20<(r.2.2.2.2.2.2.2.length:Int))),()))))))))=some (ch5 r,()):=by
  unfold ch5
  cases decide (12<(r.1.length:Int)) with
  | true=>rfl
  | false =>
  cases decide (15<(r.2.1.length:Int)) with
  | true=>rfl
  | false =>
  cases decide (14<(r.2.2.1.length:Int)) with
  | true=>rfl
  | false =>
  cases decide (20<(r.2.2.2.1.length:Int)) with
  | true=>rfl
  | false =>
  cases decide (30<(r.2.2.2.2.1.length:Int)) with
  | true=>rfl
  | false =>
  cases decide (15<(r.2.2.2.2.2.1.length:Int)) with
  | true=>rfl
  | false=>rfl
theorem bs4 (r:af_):∃ b,mw_ r=some (b,())∧(b=false→SmR r∧r.2.1.length≤15∧r.2.2.2.2.2.2.2.length≤20∧r.2.2.2.2.1.length≤30):=by
  unfold mw_
  have e0:=ch4 r
  cases hm:ch5 r with
  | true =>
    rw [hm] at e0
    exact ⟨true,e2_ (congrArg (λo=>Option.bind o _) e0) rfl,λh=>by cases h⟩
  | false =>
  rw [hm] at e0
  unfold ch5 at hm
  simp only [c1_] at hm
  obtain ⟨h1,h2,h3,h4,h5,h6,h7⟩:=hm
  have l1:=nlt h1 (by decide)
  have l2:=nlt h2 (by decide)
  have l3:=nlt h3 (by decide)
  have l4:=nlt h4 (by decide)
  have l5:=nlt h5 (by decide)
  have l6:=nlt h6 (by decide)
  have l7:=nlt h7 (by decide)
  have b2:=c7_ h2
  have b5:=c7_ h5
  have b7:=c7_ h7
  let qa:cv_→Bool:=λy=>decide (100<(y.1.length:Int))||(decide (20<(y.2.2.2.2.1.length:Int))||(decide (20<(y.2.2.2.1.length:Int))||(decide (20<(y.2.2.2.2.2.1.length:Int))||(decide (20<(y.2.2.2.2.2.2.1.length:Int))||decide (20<(y.2.2.2.2.2.2.2.length:Int))))))
  let b1:=r.1.any λx=>decide (100<(x.length:Int))
  let bt:=r.2.1.any λx=>decide (100<(x.1.length:Int))
  let bp:=r.2.2.1.any λx=>decide (100<(x.1.length:Int))||decide (20<(x.2.2.length:Int))
  let bw:=r.2.2.2.1.any λx=>decide (20<(x.2.2.length:Int))
  let ba:=r.2.2.2.2.1.any qa
  let bo:=r.2.2.2.2.2.1.any λx=>decide (20<(x.1.length:Int))
  refine ⟨b1||(bt||(bp||(bw||(ba||bo)))),?_,?_⟩
  · refine e2_ (congrArg (λo=>Option.bind o _) e0) ?_
    rw [a0_]
    simp only [a2_]
    refine je_ r.1 l1 (λx=>decide (100<(x.length:Int))) (λi y hy => ?_) ?_ ?_
    · simp only [dlt (al_ hy),a4_,ah_ hy,a0_]
      cases decide (100<(y.length:Int)) <;> rfl
    · simp only [dnl,a2_]
    show ca_ (cond b1 _ _) _ _=_
    cases b1 with
    | true=>rfl
    | false =>
    refine je_ r.2.1 l2 (λx=>decide (100<(x.1.length:Int))) (λi y hy => ?_) ?_ ?_
    · simp only [dlt (al_ hy),a4_,ah_ hy,a0_]
      cases decide (100<(y.1.length:Int)) <;> rfl
    · simp only [dnl,a2_]
    show ca_ (cond bt _ _) _ _=_
    cases bt with
    | true=>rfl
    | false =>
    refine je_ r.2.2.1 l3 (λx=>decide (100<(x.1.length:Int))||decide (20<(x.2.2.length:Int))) (λi y hy => ?_) ?_ ?_
    · simp only [dlt (al_ hy),a4_,ah_ hy,a0_]
      cases decide (100<(y.1.length:Int)) with
      | true=>rfl
      | false=>cases decide (20<(y.2.2.length:Int)) <;> rfl
    · simp only [dnl,a2_]
    show ca_ (cond bp _ _) _ _=_
    cases bp with
    | true=>rfl
    | false =>
    refine je_ r.2.2.2.1 l4 (λx=>decide (20<(x.2.2.length:Int))) (λi y hy => ?_) ?_ ?_
    · simp only [dlt (al_ hy),a4_,ah_ hy,a0_]
      cases decide (20<(y.2.2.length:Int)) <;> rfl
    · simp only [dnl,a2_]
    show ca_ (cond bw _ _) _ _=_
    cases bw with
    | true=>rfl
    | false =>
    refine je_ r.2.2.2.2.1 l5 qa (λi y hy => ?_) ?_ ?_
    · simp only [dlt (al_ hy),a4_,ah_ hy,a0_,qa]
      cases decide (100<(y.1.length:Int)) with
      | true=>rfl
      | false =>
      cases decide (20<(y.2.2.2.2.1.length:Int)) with
      | true=>rfl
      | false =>
      cases decide (20<(y.2.2.2.1.length:Int)) with
      | true=>rfl
      | false =>
      cases decide (20<(y.2.2.2.2.2.1.length:Int)) with
      | true=>rfl
      | false =>
      cases decide (20<(y.2.2.2.2.2.2.1.length:Int)) with
      | true=>rfl
      | false=>cases decide (20<(y.2.2.2.2.2.2.2.length:Int)) <;> rfl
    · simp only [dnl,a2_]
    show ca_ (cond ba _ _) _ _=_
    cases ba with
    | true=>rfl
    | false =>
    refine je_ r.2.2.2.2.2.1 l6 (λx=>decide (20<(x.1.length:Int))) (λi y hy => ?_) ?_ ?_
    · simp only [dlt (al_ hy),a4_,ah_ hy,a0_]
      cases decide (20<(y.1.length:Int)) <;> rfl
    · simp only [dnl,a2_]
    show ca_ (cond bo _ _) _ _=_
    cases bo <;> rfl
  · intro hb
    simp only [c1_] at hb
    obtain ⟨g1,g2,g3,g4,g5,g6⟩:=hb
    refine ⟨⟨l1,l2,l3,l4,l5,l6,l7,λx hx=>nlt (gn_ g1 x hx) (by decide),λx hx=>nlt (gn_ g2 x hx) (by decide),λx hx => ?_,λx hx=>nlt (gn_ g4 x hx) (by decide),λx hx => ?_,λx hx=>nlt (gn_ g6 x hx) (by decide)⟩,by omega,by omega,by omega⟩
    · have:=gn_ g3 x hx
      simp only [c1_] at this
      exact ⟨nlt this.1 (by decide),nlt this.2 (by decide)⟩
    · have:=gn_ g5 x hx
      simp only [qa,c1_] at this
      obtain ⟨a1,a2,a3,a4,a5,a6⟩:=this
      exact ⟨nlt a1 (by decide),nlt a3 (by decide),nlt a2 (by decide),nlt a4 (by decide),nlt a5 (by decide),nlt a6 (by decide)⟩
structure SmG (g:ac_):Prop where
  room:SmR g.1
  th:g.1.2.1.length≤15
  go:g.1.2.2.2.2.2.2.2.length≤20
  ac:g.1.2.2.2.2.1.length≤30
  lk:g.2.1.length≤10
  cd:g.2.2.1.length≤10
  nt:g.2.2.2.1.length≤20
  lkn:∀ x ∈ g.2.1,¬ (3<x.1∧5<x.2)
  cdn:∀ x ∈ g.2.2.1,x.length≤10
  ntn:∀ x ∈ g.2.2.2.1,x.1.length≤100∧x.2.2.2.1.length≤20∧x.2.2.2.2.2.2.2.2.2.1.length≤10
theorem bs3 (g:ac_):∃ b,ki_ g=some (b,())∧(b=false→SmG g):=by
  unfold ki_
  obtain ⟨b0,e0,h0⟩:=bs4 g.1
  rw [e0]
  simp only [a0_]
  cases b0 with
  | true=>exact ⟨true,rfl,λh=>by cases h⟩
  | false =>
  obtain ⟨r1,r2,r3,r4⟩:=h0 rfl
  cases h1:decide (10<(g.2.1.length:Int)) with
  | true=>exact ⟨true,rfl,λh=>by cases h⟩
  | false =>
  cases h2:decide (10<(g.2.2.1.length:Int)) with
  | true=>exact ⟨true,rfl,λh=>by cases h⟩
  | false =>
  cases h3:decide (20<(g.2.2.2.1.length:Int)) with
  | true=>exact ⟨true,rfl,λh=>by cases h⟩
  | false =>
  have l1:=nlt h1 (by decide)
  have l2:=nlt h2 (by decide)
  have l3:=nlt h3 (by decide)
  let ql:ab_→Bool:=λy=>decide (3<y.1)&&decide (5<y.2)
  let qn:ch_→Bool:=λy=>decide (100<(y.1.length:Int))||(decide (20<(y.2.2.2.1.length:Int))||decide (10<(y.2.2.2.2.2.2.2.2.2.1.length:Int)))
  let b1:=g.2.1.any ql
  let b2:=g.2.2.1.any λx=>decide (10<(x.length:Int))
  let b3:=g.2.2.2.1.any qn
  refine ⟨b1||(b2||b3),?_,?_⟩
  · simp only [a0_,a2_]
    refine je_ g.2.1 l1 ql (λi y hy => ?_) ?_ ?_
    · simp only [dlt (al_ hy),a4_,ah_ hy,a0_,ql]
      cases decide (3<y.1) with
      | false=>rfl
      | true=>cases decide (5<y.2) <;> rfl
    · simp only [dnl,a2_]
    show ca_ (cond b1 _ _) _ _=_
    cases b1 with
    | true=>rfl
    | false =>
    refine je_ g.2.2.1 l2 (λx=>decide (10<(x.length:Int))) (λi y hy => ?_) ?_ ?_
    · simp only [dlt (al_ hy),a4_,ah_ hy,a0_]
      cases decide (10<(y.length:Int)) <;> rfl
    · simp only [dnl,a2_]
    show ca_ (cond b2 _ _) _ _=_
    cases b2 with
    | true=>rfl
    | false =>
    refine je_ g.2.2.2.1 l3 qn (λi y hy => ?_) ?_ ?_
    · simp only [dlt (al_ hy),a4_,ah_ hy,a0_,qn]
      cases decide (100<(y.1.length:Int)) with
      | true=>rfl
      | false =>
      cases decide (20<(y.2.2.2.1.length:Int)) with
      | true=>rfl
      | false=>cases decide (10<(y.2.2.2.2.2.2.2.2.2.1.length:Int)) <;> rfl
    · simp only [dnl,a2_]
    show ca_ (cond b3 _ _) _ _=_
    cases b3 <;> rfl
  · intro hb
    simp only [c1_] at hb
    obtain ⟨g1,g2,g3⟩:=hb
    have c1:=c7_ h1
    have c2:=c7_ h2
    have c3:=c7_ h3
    refine ⟨r1,r2,r3,r4,by omega,by omega,by omega,λx hx => ?_,λx hx => ?_,λx hx => ?_⟩
    · have:=gn_ g1 x hx
      intro hc
      simp only [ql,b1_ hc.1,b1_ hc.2] at this
      cases this
    · have:=c7_ (gn_ g2 x hx)
      omega
    · have:=gn_ g3 x hx
      simp only [qn,c1_] at this
      have d1:=c7_ this.1
      have d2:=c7_ this.2.1
      have d3:=c7_ this.2.2
      omega
end
end Go.Proofs.YtdibamopklkilaaGreatDoor.Rx
namespace Go.Proofs.YtdibamopklkilaaGreatDoor.Rx
open Go Pad Rex Go.Proofs Sum
section
set_option maxRecDepth 100000
set_option maxHeartbeats 0
def an_31:An:=(.p .z (.p .z (.p .z (.p (.j0 [.v 24 .bool] .z .z) (.p (.p .z (.ls [.v 4 .int] [] [] 0 .z)) (.p .z (.p (.p .z (.ls [.v 6 .int] [] [] 2 (.p .z (.p (.p (.q [] .z .z) .z) .z)))) (.p (.p .z (.ls [.v 7 .int] [] [] 4 (.p .z (.p (.p (.q [] .z .z) .z) .z)))) (.p (.p .z (.ls [.v 8 .int] [] [] 6 (.p .z (.p (.p .z (.p (.q [] .z .z) .z)) .z)))) .z)))))))))
noncomputable def cs_31:List (Con Tryz.prog):=[c_64,c_65,c_66,c_67,c_68,c_69]
noncomputable def cl_31:List (Cpy Tryz.prog):=[]
noncomputable def cx_31:Cx Tryz.prog:=cxC cs_31 cl_31
noncomputable def fq_ (a0:ac_):Option (Int×Unit) :=
 ((fs_ a0.1).bind λv0 =>
 (cond (v0.1 != 0)
 (some (v0.1,()))
 (((cond (decide (8<(a0.2.1.length:Int)))
 (some (true,()))
 (some ((decide (16<(a0.2.2.2.1.length:Int))),())))).bind λv1 =>
 (cond v1.1
 (some (2,()))
 ((ag_ (ρ:=(Unit⊕(Int×Unit))) (λ(v2:(Int×Unit)) =>
 (cond (decide (v2.1<(a0.2.1.length:Int)))
 ((at? a0.2.1 v2.1).bind λv3 =>
 ((ej_ v3).bind λv4 =>
 (cond (v4.1 != 0)
 (some (inr (inr (v4.1,()))))
 (some (inl ((w64 (v2.1+1)),()))))))
 (some (inr (inl ()))))) (0,())).bind λv5 =>
 (ca_ v5 (λv6=>(cond ((a0.2.2.1.length:Int) != (a0.2.1.length:Int))
 (some (12,()))
 ((ag_ (ρ:=(Unit⊕(Int×Unit))) (λ(v8:(Int×Unit)) =>
 (cond (decide (v8.1<(a0.2.2.1.length:Int)))
 ((at? a0.2.1 v8.1).bind λv9 =>
 ((at? a0.2.2.1 v8.1).bind λv10 =>
 ((ft_ v9 v10).bind λv11 =>
 (cond (v11.1 != 0)
 (some (inr (inr (12,()))))
 (some (inl ((w64 (v8.1+1)),())))))))
 (some (inr (inl ()))))) (0,())).bind λv12 =>
 (ca_ v12 (λv13=>((ag_ (ρ:=(Unit⊕(Int×Unit))) (λ(v15:(Int×Unit)) =>
 (cond (decide (v15.1<(a0.1.2.2.2.2.1.length:Int)))
 ((at? a0.1.2.2.2.2.1 v15.1).bind λv16 =>
 (cond (decide ((a0.2.1.length:Int)≤v16.2.2.1))
 (some (inr (inr (26,()))))
 (some (inl ((w64 (v15.1+1)),())))))
 (some (inr (inl ()))))) (0,())).bind λv17 =>
 (ca_ v17 (λv18=>((ag_ (ρ:=(Unit⊕(Int×Unit))) (λ(v20:(Int×Unit)) =>
 (cond (decide (v20.1<(a0.2.2.2.1.length:Int)))
 ((jf_ a0 v20.1).bind λv21 =>
 (cond (!v21.1)
 (some (inr (inr (40,()))))
 ((at? a0.2.2.2.1 v20.1).bind λv22 =>
 ((cs_ a0.1 v22.2.2.2.1).bind λv23 =>
 (cond (!v23.1)
 (some (inr (inr (25,()))))
 (some (inl ((w64 (v20.1+1)),()))))))))
 (some (inr (inl ()))))) (0,())).bind λv24 =>
 (ca_ v24 (λv25=>((im_ a0.2.2.2.2 1 100).bind λv27 =>
 (cond (!v27.1)
 (some (1,()))
 (some (0,())))))
 (λv26=>(some v26)))))
 (λv19=>(some v19)))))
 (λv14=>(some v14))))))
 (λv7=>(some v7))))))))
theorem x_31:av_ cx_31 an_31 31 [an_] [.int]=λx=>fq_ x.1:=by kernel_rfl
noncomputable def c_31:Con Tryz.prog:=aw_ _ _ 31 [an_] [.int] _ x_31
def an_91:An:=(.p .z (.p .z (.p .z (.p (.j0 [.v 38 .bool] .z .z) (.p (.p .z (.ls [.v 6 .int] [] [] 0 (.p .z (.p (.p (.q [] .z .z) .z) .z)))) (.p (.p .z (.ls [.v 7 .int] [] [] 2 (.p .z (.p (.p .z (.j0 [.v 83 .bool] .z .z)) .z)))) (.p (.p .z (.ls [.v 9 .int] [] [] 4 (.p .z (.p (.p (.q [] .z .z) .z) .z)))) .z)))))))
noncomputable def cs_91:List (Con Tryz.prog):=[c_64,c_116,as7,ck9]
noncomputable def cl_91:List (Cpy Tryz.prog):=[]
noncomputable def cx_91:Cx Tryz.prog:=cxC cs_91 cl_91
noncomputable def dv_ (a0:af_) (a1:ai_):Option (Int×Unit) :=
 ((fs_ a0).bind λv0 =>
 (cond (v0.1 != 0)
 (some (v0.1,()))
 (((cond ((a1.1.length:Int) != (a0.2.1.length:Int))
 (some (true,()))
 (cond ((a1.2.1.length:Int) != (a0.2.2.1.length:Int))
 (some (true,()))
 (some (((a1.2.2.length:Int) != a0.2.2.2.2.2.2.1),()))))).bind λv1 =>
 (cond v1.1
 (some (28,()))
 ((ag_ (ρ:=(Unit⊕(Int×Unit))) (λ(v2:(Int×Unit)) =>
 (cond (decide (v2.1<(a1.1.length:Int)))
 ((at? a1.1 v2.1).bind λv3 =>
 ((gt_ a0 v2.1 v3).bind λv4 =>
 (cond (!v4.1)
 (some (inr (inr (28,()))))
 (some (inl ((w64 (v2.1+1)),()))))))
 (some (inr (inl ()))))) (0,())).bind λv5 =>
 (ca_ v5 (λv6=>((ag_ (ρ:=(Unit⊕(Int×Unit))) (λ(v8:(Int×Unit)) =>
 (cond (decide (v8.1<(a1.2.1.length:Int)))
 ((at? a1.2.1 v8.1).bind λv9 =>
 ((((cr_ a0 v9).bind λv10 =>
 (cond (!v10.1)
 (cond (v9 != (-1))
 ((bq_ v9 (w64 ((w64 ((-2) - a0.2.2.2.2.2.2.1))+1)) (-2)).bind λv11 =>
 (some ((!v11.1),())))
 (some (false,())))
 (some (false,()))))).bind λv12 =>
 (cond v12.1
 (some (inr (inr (28,()))))
 (some (inl ((w64 (v8.1+1)),()))))))
 (some (inr (inl ()))))) (0,())).bind λv13 =>
 (ca_ v13 (λv14=>((ag_ (ρ:=(Unit⊕(Int×Unit))) (λ(v16:(Int×Unit)) =>
 (cond (decide (v16.1<(a1.2.2.length:Int)))
 ((at? a1.2.2 v16.1).bind λv17 =>
 ((cr_ a0 v17).bind λv18 =>
 (cond (!v18.1)
 (some (inr (inr (28,()))))
 (some (inl ((w64 (v16.1+1)),()))))))
 (some (inr (inl ()))))) (0,())).bind λv19 =>
 (ca_ v19 (λv20=>(some (0,())))
 (λv21=>(some v21)))))
 (λv15=>(some v15)))))
 (λv7=>(some v7))))))))
theorem x_91:av_ cx_91 an_91 91 [ao_,ar_] [.int]=λx=>dv_ x.1 x.2.1:=by kernel_rfl
noncomputable def c_91:Con Tryz.prog:=aw_ _ _ 91 [ao_,ar_] [.int] _ x_91
def an_227:An:=.z
noncomputable def cs_227:List (Con Tryz.prog):=[c_240,c_241]
noncomputable def cl_227:List (Cpy Tryz.prog):=[]
noncomputable def cx_227:Cx Tryz.prog:=cxC cs_227 cl_227
noncomputable def jm_ (a0:ab_) (a1:(List ak_)):Option (Int×Int×Unit) :=
 ((et_ a0 a1).bind λv0 =>
 (cond (v0.1 != 0)
 (some (0,(v0.1,())))
 ((mu_ a0 a1).bind λv1 =>
 (some ((v1.1.length:Int),(0,()))))))
theorem x_227:av_ cx_227 an_227 227 [am_,(.list ap_)] [.int,.int]=λx=>jm_ x.1 x.2.1:=by kernel_rfl
noncomputable def c_227:Con Tryz.prog:=aw_ _ _ 227 [am_,(.list ap_)] [.int,.int] _ x_227
def an_142:An:=.z
noncomputable def cs_142:List (Con Tryz.prog):=[c_78,c_187,c_188]
noncomputable def cl_142:List (Cpy Tryz.prog):=[]
noncomputable def cx_142:Cx Tryz.prog:=cxC cs_142 cl_142
noncomputable def jo_ (a0:ab_) (a1:ak_) (a2:(List Int)):Option (Bool×Int×Unit) :=
 ((fy_ a0 a1).bind λv0 =>
 (cond (v0.1 != 0)
 (some (false,(v0.1,())))
 ((ed_ a0 a2).bind λv1 =>
 (cond (v1.1 != 0)
 (some (false,(v1.1,())))
 ((fw_ a1 a2).bind λv2 =>
 (some (v2.1,(0,()))))))))
theorem x_142:av_ cx_142 an_142 142 [am_,ap_,(.list .int)] [.bool,.int]=λx=>jo_ x.1 x.2.1 x.2.2.1:=by kernel_rfl
noncomputable def c_142:Con Tryz.prog:=aw_ _ _ 142 [am_,ap_,(.list .int)] [.bool,.int] _ x_142
def an_40:An:=(.p .z (.p .z (.p .z (.p (.p .z (.lp [.v 23 .int] [] [.b (.s 5) [.row .int 3,.keep,.keep]] 0 .z)) (.p (.p .z (.lp [.v 38 .int] [] [.b (.s 5) [.keep,.row .int 3,.keep]] 2 .z)) .z)))))
def at_40:FuncId→An:=λk=>cond (Nat.beq k 83) (.p .z (.p (.j0 [.v 6 .bool,.o (.c (.s 0) 8) .int] .z .z) .z)) (cond (Nat.beq k 145) (.p .z (.p (.p .z (.ls [.v 4 .int] [] [.o (.c (.s 0) 8) .int] 0 (.p .z (.p .z (.p (.j0 [.v 3 .int] .z .z) .z))))) .z)) (cond (Nat.beq k 190) (.p .z (.p (.p .z (.ls [.v 8 .int] [] [] 0 .z)) .z)) (cond (Nat.beq k 191) (.p .z (.j0 [.v 3 .bool] .z .z)) (.z))))
noncomputable def cs_40:List (Con Tryz.prog):=[c_76,bx4]
noncomputable def cl_40:List (Cpy Tryz.prog):=[al3]
noncomputable def cx_40:Cx Tryz.prog:=cxI at_40 (λk=>Nat.beq k 76||Nat.beq k 86||Nat.beq k 147||false) (cxC cs_40 cl_40) 6
noncomputable def ik_ (a0:af_):Option (ai_×Int×Unit) :=
 ((fe_ a0).bind λv0 =>
 (cond (v0.1 != 0)
 (some (([],([],[])),(v0.1,())))
 ((mk? (α:=Int) a0.2.2.2.2.2.2.1 0).bind λv1 =>
 ((ag_ (ρ:=(((List Int)×Unit)×Unit)) (λ(v2:(Int×(((List Int)×Unit)×Unit))) =>
 (cond (decide (v2.1<(a0.2.1.length:Int)))
 ((at? a0.2.1 v2.1).bind λv3 =>
 ((push? (α:=Int) v2.2.1.1 [v3.2.2.2]).bind λv4 =>
 (some (inl ((w64 (v2.1+1)),((v4,()),()))))))
 (some (inr ((v2.2.1.1,()),()))))) (0,(([],()),()))).bind λv5 =>
 ((ag_ (ρ:=(((List Int)×Unit)×Unit)) (λ(v6:(Int×(((List Int)×Unit)×Unit))) =>
 (cond (decide (v6.1<(a0.2.2.1.length:Int)))
 ((at? a0.2.2.1 v6.1).bind λv7 =>
 ((push? (α:=Int) v6.2.1.1 [v7.2.1]).bind λv8 =>
 (some (inl ((w64 (v6.1+1)),((v8,()),()))))))
 (some (inr ((v6.2.1.1,()),()))))) (0,(([],()),()))).bind λv9 =>
 ((push? (α:=Int) [] v5.1.1).bind λv10 =>
 ((push? (α:=Int) [] v9.1.1).bind λv11 =>
 ((push? (α:=Int) [] v1).bind λv12 =>
 ((((ag_ (ρ:=(((List Int)×Unit)⊕(Bool×((List Int)×Unit)))) (λ(v13:(Int×((List Int)×Unit))) =>
 (cond (decide (v13.1<101))
 ((((ag_ (ρ:=(Unit⊕(Int×Unit))) (λ(v14:(Int×Unit)) =>
 (cond (decide (v14.1<(a0.2.2.2.2.2.1.length:Int)))
 ((at? a0.2.2.2.2.2.1 v14.1).bind λv15 =>
 ((((at? v13.2.1 v15.2.1).bind λv16 =>
 ((at? v13.2.1 v15.2.1).bind λv17 =>
 (cond (v17 != v15.2.2)
 ((bb_ (a0,(v13.2.1,(v11,v12))) v15.1).bind λv18 =>
 (some (v18.1,())))
 (some (false,())))))).bind λv19 =>
 (cond v19.1
 (some (inr (inr (v14.1,()))))
 (some (inl ((w64 (v14.1+1)),()))))))
 (some (inr (inl ()))))) (0,())).bind λv20 =>
 (ca_ v20 (λv21=>(some ((-1),())))
 (λv22=>(some v22))))).bind λv23 =>
 (cond (decide (v23.1<0))
 (some (inr (inr ((!true),(v13.2.1,())))))
 ((at? a0.2.2.2.2.2.1 v23.1).bind λv24 =>
 ((at? a0.2.2.2.2.2.1 v23.1).bind λv25 =>
 ((at? v13.2.1 v24.2.1).bind λv26 =>
 ((at? v13.2.1 v24.2.1).bind λv27 =>
 (some (inl ((w64 (v13.1+1)),((v13.2.1.set v24.2.1.toNat v25.2.2),()))))))))))
 (some (inr (inl (v13.2.1,())))))) (0,(v10,()))).bind λv28 =>
 (ca_ v28 (λv29=>(some ((!false),(v29.1,()))))
 (λv30=>(some v30))))).bind λv31 =>
 (cond v31.1
 (some (([],([],[])),(27,())))
 (some ((v31.2.1,(v11,v12)),(0,())))))))))))))
theorem x_40:av_ cx_40 an_40 40 [ao_] [ar_,.int]=λx=>ik_ x.1:=by kernel_rfl
noncomputable def c_40:Con Tryz.prog:=aw_ _ _ 40 [ao_] [ar_,.int] _ x_40
def an_146:An:=(.p .z (.p .z (.p (.j0 [.v 40 .bool] .z .z) (.p (.p .z (.ls [.v 44 .int] [] [] 0 .z)) (.p (.p .z (.ls [.v 58 .int] [] [] 2 .z)) (.p (.p .z (.ls [.v 77 .int] [] [] 4 .z)) .z))))))
noncomputable def cs_146:List (Con Tryz.prog):=[c_76,bx6,ck8]
noncomputable def cl_146:List (Cpy Tryz.prog):=[]
noncomputable def cx_146:Cx Tryz.prog:=cxC cs_146 cl_146
noncomputable def bx_ (a0:af_) (a1:ai_):Option (Int×Unit) :=
 ((fe_ a0).bind λv0 =>
 (cond (v0.1 != 0)
 (some (v0.1,()))
 (((cond ((a1.1.length:Int) != (a0.2.1.length:Int))
 (some (true,()))
 (cond ((a1.2.1.length:Int) != (a0.2.2.1.length:Int))
 (some (true,()))
 (some (((a1.2.2.length:Int) != a0.2.2.2.2.2.2.1),()))))).bind λv1 =>
 (cond v1.1
 (some (28,()))
 ((ag_ (ρ:=(Unit⊕(Int×Unit))) (λ(v2:(Int×Unit)) =>
 (cond (decide (v2.1<(a1.1.length:Int)))
 ((at? a1.1 v2.1).bind λv3 =>
 ((fb_ a0 v2.1 v3).bind λv4 =>
 (cond (!v4.1)
 (some (inr (inr (28,()))))
 (some (inl ((w64 (v2.1+1)),()))))))
 (some (inr (inl ()))))) (0,())).bind λv5 =>
 (ca_ v5 (λv6=>((ag_ (ρ:=(Unit⊕(Int×Unit))) (λ(v8:(Int×Unit)) =>
 (cond (decide (v8.1<(a1.2.1.length:Int)))
 ((at? a1.2.1 v8.1).bind λv9 =>
 ((bd_ v9 (w64 ((w64 ((-2) - a0.2.2.2.2.2.2.1))+1)) (w64 ((a0.1.length:Int) - 1))).bind λv10 =>
 (cond (!v10.1)
 (some (inr (inr (28,()))))
 (some (inl ((w64 (v8.1+1)),()))))))
 (some (inr (inl ()))))) (0,())).bind λv11 =>
 (ca_ v11 (λv12=>((ag_ (ρ:=(Unit⊕(Int×Unit))) (λ(v14:(Int×Unit)) =>
 (cond (decide (v14.1<(a1.2.2.length:Int)))
 ((at? a1.2.2 v14.1).bind λv15 =>
 ((bd_ v15 0 (w64 ((a0.1.length:Int) - 1))).bind λv16 =>
 (cond (!v16.1)
 (some (inr (inr (28,()))))
 (some (inl ((w64 (v14.1+1)),()))))))
 (some (inr (inl ()))))) (0,())).bind λv17 =>
 (ca_ v17 (λv18=>(some (0,())))
 (λv19=>(some v19)))))
 (λv13=>(some v13)))))
 (λv7=>(some v7))))))))
theorem x_146:av_ cx_146 an_146 146 [ao_,ar_] [.int]=λx=>bx_ x.1 x.2.1:=by kernel_rfl
noncomputable def bx5:Con Tryz.prog:=aw_ _ _ 146 [ao_,ar_] [.int] _ x_146
def an_164:An:=.z
noncomputable def cs_164:List (Con Tryz.prog):=[c_205,c_206]
noncomputable def cl_164:List (Cpy Tryz.prog):=[]
noncomputable def cx_164:Cx Tryz.prog:=cxC cs_164 cl_164
noncomputable def ct_ (a0:ab_) (a1:(List ak_)):Option (Int×Int×Unit) :=
 ((ev_ a0 a1).bind λv0 =>
 (cond (v0.1 != 0)
 (some (0,(v0.1,())))
 ((eu_ a0 a1).bind λv1 =>
 (some (v1.1,(0,()))))))
theorem x_164:av_ cx_164 an_164 164 [am_,(.list ap_)] [.int,.int]=λx=>ct_ x.1 x.2.1:=by kernel_rfl
noncomputable def c_164:Con Tryz.prog:=aw_ _ _ 164 [am_,(.list ap_)] [.int,.int] _ x_164
end
end Go.Proofs.YtdibamopklkilaaGreatDoor.Rx
namespace Go.Proofs.YtdibamopklkilaaGreatDoor.Rx
open Go Pad Rex Sum
section
theorem jy_ {α ρ:Type} {p:Nat→α→Option ρ} {e:ρ} (h:∀ i x,p i x≠some e):∀ (l:List α) (i:Nat),ge_ p i l≠some e
  | [],_=>by simp [ge_]
  | x::l,i=>by
    unfold ge_
    cases hp:p i x with
    | some r =>
      intro he
      cases he
      exact h i x hp
    | none=>exact jy_ h l (i+1)
theorem gi_ {o:Option Int} {k:Int} (h:o.getD k=0) (hn:o≠some 0):o=none∧k=0:=by
  cases o with
  | none=>exact ⟨rfl,h⟩
  | some e =>
    have:e=0:=h
    subst this
    exact absurd rfl hn
theorem xd_ {a:Bool} {e:Int} (h:e≠0):kk_ a e≠some 0:=by
  unfold kk_
  cases a with
  | true=>simp
  | false=>simpa using h
theorem xc_ {a b:Bool} {e f:Int} (h:e≠0) (k:f≠0):rz_ a e b f≠some 0:=by
  unfold rz_
  cases a with
  | false=>simpa using h
  | true =>
    cases b with
    | true=>simp
    | false=>simpa using k
theorem kj_ {a:Bool} {e:Int} (h:kk_ a e=none):a=true:=by cases a with
  | true=>rfl
  | false=>cases h
theorem oe_ {a b:Bool} {e f:Int} (h:rz_ a e b f=none):a=true∧b=true:=by
  cases a with
  | false=>cases h
  | true=>cases b with
    | true=>exact ⟨rfl,rfl⟩
    | false=>cases h
theorem di_ {α ρ:Type} {p:Nat→α→Option ρ} {l:List α} (h:ge_ p 0 l=none) {i:Nat} {x:α} (hx:l[i]?=some x):p i x=none:=by
  have:=(ih_ l 0).1 h i x hx
  rwa [b0_] at this
structure OkR (r:af_):Prop where
  many:ab3 r=false
  pl:∀ (i:Nat) x,r.1[i]?=some x→plOk r i x=true
  ne:r.1≠[]
  th:∀ (i:Nat) x,r.2.1[i]?=some x→bj6 r i x=true
  pr:∀ (i:Nat) x,r.2.2.1[i]?=some x→cf3 r i x=true∧cOk r.2.1 x.2.2=true
  wy:∀ (i:Nat) x,r.2.2.2.1[i]?=some x→ca8 r x=true∧cOk r.2.1 x.2.2=true
  ac:∀ (i:Nat) x,r.2.2.2.2.1[i]?=some x→ue_ r i x=true∧cOk r.2.1 x.2.2.2.2.1=true
  au:∀ (i:Nat) x,r.2.2.2.2.2.1[i]?=some x→nk_ r.2.1 x.2.1 x.2.2=true∧cOk r.2.1 x.1=true
  py:wi r.2.2.2.2.2.2.1 1 4=true
  go:cOk r.2.1 r.2.2.2.2.2.2.2=true
theorem bi_ {r:af_} (h:dc_ r=0):OkR r:=by
  unfold dc_ at h
  cases hm:ab3 r with
  | true=>rw [hm] at h; exact absurd (show (2:Int)=0 from h) (by decide)
  | false =>
  rw [hm] at h
  have h:(ge_ (λi x=>kk_ (plOk r i x) 22) 0 r.1).getD _=0:=h
  obtain ⟨h1,h⟩:=gi_ h (jy_ (λi x=>xd_ (by decide)) _ _)
  cases he:(r.1.length:Int)==0 with
  | true=>rw [he] at h; exact absurd (show (22:Int)=0 from h) (by decide)
  | false =>
  rw [he] at h
  have h:(ge_ (λi x=>kk_ (bj6 r i x) 21) 0 r.2.1).getD _=0:=h
  obtain ⟨h2,h⟩:=gi_ h (jy_ (λi x=>xd_ (by decide)) _ _)
  obtain ⟨h3,h⟩:=gi_ h (jy_ (λi x=>xc_ (by decide) (by decide)) _ _)
  obtain ⟨h4,h⟩:=gi_ h (jy_ (λi x=>xc_ (by decide) (by decide)) _ _)
  obtain ⟨h5,h⟩:=gi_ h (jy_ (λi x=>xc_ (by decide) (by decide)) _ _)
  obtain ⟨h6,h⟩:=gi_ h (jy_ (λi x=>xc_ (by decide) (by decide)) _ _)
  cases h7:wi r.2.2.2.2.2.2.1 1 4 with
  | false=>rw [h7] at h; exact absurd (show (1:Int)=0 from h) (by decide)
  | true =>
  rw [h7] at h
  cases h8:cOk r.2.1 r.2.2.2.2.2.2.2 with
  | false=>rw [h8] at h; exact absurd (show (25:Int)=0 from h) (by decide)
  | true =>
  refine ⟨hm,λi x hx=>kj_ (di_ h1 hx),λe => ?_,λi x hx=>kj_ (di_ h2 hx),λi x hx=>oe_ (di_ h3 hx),λi x hx=>oe_ (di_ h4 hx),λi x hx=>oe_ (di_ h5 hx),λi x hx=>oe_ (di_ h6 hx),h7,h8⟩
  rw [e] at he
  cases he
def inR (r:af_) (p:Int):Bool:=wi p (w64 ((w64 ((-2) - r.2.2.2.2.2.2.1))+1)) (w64 ((r.1.length:Int) - 1))
def ab5 (r:af_) (s:ai_):Bool:=((s.1.length:Int) != (r.2.1.length:Int))||(((s.2.1.length:Int) != (r.2.2.1.length:Int))||((s.2.2.length:Int) != r.2.2.2.2.2.2.1))
def ckS (r:af_) (s:ai_):Int :=
  cond (ab5 r s) 28 ((ge_ (λi n=>kk_ (nk_ r.2.1 (i:Int) n) 28) 0 s.1).getD ((ge_ (λ_ p=>kk_ (inR r p) 28) 0 s.2.1).getD ((ge_ (λ_ p=>kk_ (rj_ r p) 28) 0 s.2.2).getD 0)))
def lo_ (r:af_) (s:ai_):Int:=cond (dc_ r != 0) (dc_ r) (ckS r s)
theorem bs1 (r:af_) (s:ai_):(cond ((s.1.length:Int) != (r.2.1.length:Int))
 (some (true,()))
 (cond ((s.2.1.length:Int) != (r.2.2.1.length:Int))
 (some (true,()))
 (some (((s.2.2.length:Int) != r.2.2.2.2.2.2.1),()))))=some (ab5 r s,()):=by
  unfold ab5
  cases (s.1.length:Int) != (r.2.1.length:Int) with
  | true=>rfl
  | false =>
  cases (s.2.1.length:Int) != (r.2.2.1.length:Int) with
  | true=>rfl
  | false=>rfl
theorem ay2 {r:af_} {s:ai_} (h:ab5 r s=false):s.1.length=r.2.1.length∧s.2.1.length=r.2.2.1.length∧(s.2.2.length:Int)=r.2.2.2.2.2.2.1:=by
  unfold ab5 at h
  simp only [c1_,bne_eq_false_iff_eq] at h
  omega
theorem ez_ {r:af_} (h:SmR r) (s:ai_):bx_ r s=some (lo_ r s,()):=by
  unfold bx_ lo_
  rw [sf_ h,a0_]
  cases hr:dc_ r != 0 with
  | true=>rfl
  | false =>
  have ok:=bi_ (by simpa using hr)
  simp only [a2_]
  refine e2_ (congrArg (λo=>Option.bind o _) (bs1 r s)) ?_
  rw [a0_]
  unfold ckS
  cases hl:ab5 r s with
  | true=>rfl
  | false =>
  obtain ⟨l1,l2,l3⟩:=ay2 hl
  have hp:=cg_.1 ok.py
  have m1:Sm s.1.length:=by rw [l1]; exact h.th
  have m2:Sm s.2.1.length:=by rw [l2]; exact h.pr
  have m3:Sm s.2.2.length:=by show s.2.2.length≤1000000000; omega
  simp only [a2_]
  refine bu_ s.1 (λi n=>kk_ (nk_ r.2.1 (i:Int) n) 28) (λi y hy => ?_) ?_ (ep_ ?_)
  · have hi:=al_ hy
    simp only [dlt hi,a4_,ah_ hy,a0_,ay_ (show Sm i by omega),pa_ h.th]
    unfold kk_
    cases nk_ r.2.1 (i:Int) y <;> rfl
  · simp only [dnl,a2_]
  refine bu_ s.2.1 (λ_ p=>kk_ (inR r p) 28) (λi y hy => ?_) ?_ (ep_ ?_)
  · have hi:=al_ hy
    simp only [dlt hi,a4_,ah_ hy,a0_,ay_ (show Sm i by omega),dy_]
    unfold kk_ inR
    cases wi y (w64 ((w64 ((-2) - r.2.2.2.2.2.2.1))+1)) (w64 ((r.1.length:Int) - 1)) <;> rfl
  · simp only [dnl,a2_]
  refine bu_ s.2.2 (λ_ p=>kk_ (rj_ r p) 28) (λi y hy => ?_) ?_ (ep_ ?_)
  · have hi:=al_ hy
    simp only [dlt hi,a4_,ah_ hy,a0_,ay_ (show Sm i by omega),dy_]
    unfold kk_ rj_
    cases wi y 0 (w64 ((r.1.length:Int) - 1)) <;> rfl
  · simp only [dnl,a2_]
  rfl
theorem cp4 {r:af_} (h:SmR r) (hp:wi r.2.2.2.2.2.2.1 1 4=true) (p:Int):inR r p=(rj_ r p||(p==-1||wi p (w64 ((w64 ((-2) - r.2.2.2.2.2.2.1))+1)) (-2))):=by
  have hp:=cg_.1 hp
  have hpl:=h.pl
  have e1:w64 ((r.1.length:Int) - 1)=(r.1.length:Int) - 1:=ex_ (by omega) (by omega)
  have e2:w64 ((-2) - r.2.2.2.2.2.2.1)=(-2) - r.2.2.2.2.2.2.1:=ex_ (by omega) (by omega)
  have e3:w64 (((-2) - r.2.2.2.2.2.2.1)+1)=((-2) - r.2.2.2.2.2.2.1)+1:=ex_ (by omega) (by omega)
  unfold inR rj_
  rw [e1,e2,e3,i7_]
  simp only [c8_,cg_,f2_]
  omega
theorem nb_ {r:af_} (h:SmR r) (s:ai_):dv_ r s=some (lo_ r s,()):=by
  unfold dv_ lo_
  rw [qf_ h,a0_]
  cases hr:dc_ r != 0 with
  | true=>rfl
  | false =>
  have ok:=bi_ (by simpa using hr)
  simp only [a2_]
  refine e2_ (congrArg (λo=>Option.bind o _) (bs1 r s)) ?_
  rw [a0_]
  unfold ckS
  cases hl:ab5 r s with
  | true=>rfl
  | false =>
  obtain ⟨l1,l2,l3⟩:=ay2 hl
  have hp:=cg_.1 ok.py
  have m1:Sm s.1.length:=by rw [l1]; exact h.th
  have m2:Sm s.2.1.length:=by rw [l2]; exact h.pr
  have m3:Sm s.2.2.length:=by show s.2.2.length≤1000000000; omega
  simp only [a2_]
  refine bu_ s.1 (λi n=>kk_ (nk_ r.2.1 (i:Int) n) 28) (λi y hy => ?_) ?_ (ep_ ?_)
  · have hi:=al_ hy
    simp only [dlt hi,a4_,ah_ hy,a0_,ay_ (show Sm i by omega),rc_ h.th]
    unfold kk_
    cases nk_ r.2.1 (i:Int) y <;> rfl
  · simp only [dnl,a2_]
  refine bu_ s.2.1 (λ_ p=>kk_ (inR r p) 28) (λi y hy => ?_) ?_ (ep_ ?_)
  · have hi:=al_ hy
    simp only [dlt hi,a4_,ah_ hy,a0_,ay_ (show Sm i by omega),ht_,fn_]
    rw [cp4 h ok.py]
    unfold kk_ rj_
    have e:(y != -1) = !(y==-1):=rfl
    rw [e]
    cases wi y 0 (w64 ((r.1.length:Int) - 1)) with
    | true=>rfl
    | false =>
    cases y==-1 with
    | true=>rfl
    | false=>cases wi y (w64 ((w64 ((-2) - r.2.2.2.2.2.2.1))+1)) (-2) <;> rfl
  · simp only [dnl,a2_]
  refine bu_ s.2.2 (λ_ p=>kk_ (rj_ r p) 28) (λi y hy => ?_) ?_ (ep_ ?_)
  · have hi:=al_ hy
    simp only [dlt hi,a4_,ah_ hy,a0_,ay_ (show Sm i by omega),ht_]
    unfold kk_ rj_
    cases wi y 0 (w64 ((r.1.length:Int) - 1)) <;> rfl
  · simp only [dnl,a2_]
  rfl
end
section
def gi (l:List Int) (i:Int):Int:=(at? l i).getD 0
theorem mb_ {l:List Int} {i x:Int} (h:at? l i=some x):gi l i=x:=by unfold gi; rw [h]; rfl
theorem ko_ {l:List Int} {i:Int} (h0:0≤i) (h1:i<l.length):at? l i=some (gi l i):=by
  obtain ⟨x,hx⟩:=bc_ (l:=l) (i:=i.toNat) (by omega)
  have:at? l i=some x:=by rw [show i=((i.toNat:Nat):Int) by omega]; exact ah_ hx
  rw [this,mb_ this]
def InC (n:Nat) (c:List be_):Prop:=∀ l ∈ c,0≤l.1∧l.1<n
theorem ru_ {things:List gv_} (hl:Sm things.length) {c:List be_} (h:cOk things c=true):InC things.length c∧c.length≤8:=by
  unfold cOk at h
  rw [a1_] at h
  refine ⟨λl hm => ?_,by have:=g1_ h.1; omega⟩
  have h2:=e7_.1 h.2 l hm
  unfold nk_ at h2
  rw [a1_] at h2
  have:=cg_.1 h2.1
  rw [ex_ (by omega) (by omega)] at this
  omega
def cq_ (th:List Int) (c:List be_):Bool:=c.all λl=>!((gi th l.1==l.2.1)==l.2.2)
theorem bz4 {α:Type} (l:List α) (q:α→Bool):(!(l.any q))=l.all λx=>!(q x):=by
  induction l with
  | nil=>rfl
  | cons x l ih =>
    rw [n3_,List.all_cons,← ih]
    cases q x <;> rfl
theorem mg_ {t:hd_} {c:List be_} (hc:Sm c.length) (hi:InC t.2.1.length c):bb_ t c=some (cq_ t.2.1 c,()):=by
  unfold bb_ cq_
  refine e2_ (congrArg (λo=>Option.bind o _) (ng_ hc (λl=>(gi t.2.1 l.1==l.2.1)==l.2.2) (λi y hy => ?_) ?_)) ?_
  · have:=hi y (ax_ hy)
    simp only [dlt (al_ hy),a4_,ah_ hy,ko_ this.1 this.2,a0_]
    cases (gi t.2.1 y.1==y.2.1)==y.2.2 <;> rfl
  · simp only [dnl,a2_]
  · rw [a0_]
    exact congrArg (λb=>some (b,())) (bz4 c _)
theorem hg_ {s:ai_} {c:List be_} (hc:Sm c.length) (hi:InC s.1.length c):ba_ s c=some (cq_ s.1 c,()):=by
  unfold ba_ cq_
  refine bm_ c (λi l=>cond ((gi s.1 l.1==l.2.1)==l.2.2) (some (inr (false,()):Unit⊕(Bool×Unit))) none) (λi=>((i:Int),())) (r0:=inl ()) (λi y hy => ?_) ?_ ?_
  · have:=hi y (ax_ hy)
    have hl:=al_ hy
    simp only [dlt hl,a4_,ah_ hy,ko_ this.1 this.2,a0_,ay_ (show Sm i by omega)]
    cases (gi s.1 y.1==y.2.1)==y.2.2 <;> rfl
  · simp only [dnl,a2_]
  · rw [hf_ (q:=λl:be_=>(gi s.1 l.1==l.2.1)==l.2.2),← bz4]
    cases c.any λl=>(gi s.1 l.1==l.2.1)==l.2.2 <;> rfl
end
end Go.Proofs.YtdibamopklkilaaGreatDoor.Rx
namespace Go.Proofs.YtdibamopklkilaaGreatDoor.Rx
open Go Pad Rex Go.Proofs Sum
section
set_option maxRecDepth 100000
set_option maxHeartbeats 0
def an_156:An:=.z
noncomputable def cs_156:List (Con Tryz.prog):=[c_91,c_159]
noncomputable def cl_156:List (Cpy Tryz.prog):=[]
noncomputable def cx_156:Cx Tryz.prog:=cxC cs_156 cl_156
noncomputable def ib_ (a0:af_) (a1:ai_):Option (ai_×Int×Unit) :=
 ((dv_ a0 a1).bind λv0 =>
 (cond (v0.1 != 0)
 (some (([],([],[])),(v0.1,())))
 ((gj_ a0 a1).bind λv1 =>
 (cond (!v1.2.1)
 (some (([],([],[])),(27,())))
 (some (v1.1,(0,())))))))
theorem x_156:av_ cx_156 an_156 156 [ao_,ar_] [ar_,.int]=λx=>ib_ x.1 x.2.1:=by kernel_rfl
noncomputable def c_156:Con Tryz.prog:=aw_ _ _ 156 [ao_,ar_] [ar_,.int] _ x_156
def an_203:An:=(.p .z (.p (.q [] .z .z) .z))
noncomputable def cs_203:List (Con Tryz.prog):=[c_227,c_228]
noncomputable def cl_203:List (Cpy Tryz.prog):=[]
noncomputable def cx_203:Cx Tryz.prog:=cxC cs_203 cl_203
noncomputable def iy_ (a0:ac_) (a1:Int) (a2:(List Int)):Option (Int×Unit) :=
 ((at? a0.2.1 a1).bind λv0 =>
 ((jg_ a0 a2).bind λv1 =>
 ((jm_ v0 v1.1).bind λv2 =>
 (some (v2.1,())))))
theorem x_203:av_ cx_203 an_203 203 [an_,.int,(.list .int)] [.int]=λx=>iy_ x.1 x.2.1 x.2.2.1:=by kernel_rfl
noncomputable def c_203:Con Tryz.prog:=aw_ _ _ 203 [an_,.int,(.list .int)] [.int] _ x_203
def an_79:An:=(.p .z (.p .z (.p (.j0 [.v 49 .bool] .z .z) (.p .z (.p (.q [] .z .z) .z)))))
def at_79:FuncId→An:=λk=>cond (Nat.beq k 138) (.p .z (.j0 [.v 4 .bool] .z .z)) (cond (Nat.beq k 186) (.p .z (.p (.p .z (.ls [.v 8 .int] [] [] 0 .z)) .z)) (.z))
noncomputable def cs_79:List (Con Tryz.prog):=[c_81,c_140,c_141,c_142]
noncomputable def cl_79:List (Cpy Tryz.prog):=[]
noncomputable def cx_79:Cx Tryz.prog:=cxI at_79 (λk=>Nat.beq k 81||Nat.beq k 140||Nat.beq k 141||Nat.beq k 142||false) (cxC cs_79 cl_79) 4
noncomputable def lf_ (a0:ac_) (a1:Int) (a2:ch_):Option (Bool×Unit) :=
 ((sub? a0.2.2.2.1 0 a1).bind λv0 =>
 ((((ag_ (ρ:=(Unit⊕(Bool×Unit))) (λ(v1:(Int×Unit)) =>
 (cond (decide (v1.1<(v0.length:Int)))
 ((at? v0 v1.1).bind λv2 =>
 (cond (v2.1==a2.1)
 (some (inr (inr ((decide (0≤v1.1)),()))))
 (some (inl ((w64 (v1.1+1)),())))))
 (some (inr (inl ()))))) (0,())).bind λv3 =>
 (ca_ v3 (λv4=>(some ((decide (0≤(-1))),())))
 (λv5=>(some v5))))).bind λv6 =>
 ((((mv_ a2.1).bind λv7 =>
 (cond (!v7.1)
 (some (true,()))
 (cond (decide (12<(a2.1.length:Int)))
 (some (true,()))
 (cond v6.1
 (some (true,()))
 ((bp_ a2.2.1 0 (w64 ((a0.1.1.length:Int) - 1))).bind λv8 =>
 (cond (!v8.1)
 (some (true,()))
 ((bp_ a2.2.2.1 (-1) (w64 ((a0.2.1.length:Int) - 1))).bind λv9 =>
 (some ((!v9.1),())))))))))).bind λv10 =>
 (cond v10.1
 (some (false,()))
 (cond (decide (a2.2.2.1<0))
 ((kh_ a2.2.2.2.2).bind λv11 =>
 (some (v11.1,())))
 ((at? a0.2.1 a2.2.2.1).bind λv12 =>
 ((at? a0.2.2.1 a2.2.2.1).bind λv13 =>
 ((jo_ v12 a2.2.2.2.2 v13).bind λv14 =>
 (cond (v14.2.1==0)
 (some (v14.1,()))
 (some (false,())))))))))))
theorem x_79:av_ cx_79 an_79 79 [an_,.int,ov_] [.bool]=λx=>lf_ x.1 x.2.1 x.2.2.1:=by kernel_rfl
noncomputable def c_79:Con Tryz.prog:=aw_ _ _ 79 [an_,.int,ov_] [.bool] _ x_79
def an_84:An:=.z
def at_84:FuncId→An:=λk=>.z
noncomputable def cs_84:List (Con Tryz.prog):=[c_133,bx5,bx4]
noncomputable def cl_84:List (Cpy Tryz.prog):=[al3]
noncomputable def cx_84:Cx Tryz.prog:=cxI at_84 (λk=>Nat.beq k 86||Nat.beq k 133||Nat.beq k 146||Nat.beq k 147||false) (cxC cs_84 cl_84) 2
noncomputable def eg_ (a0:af_) (a1:ai_) (a2:(List be_)):Option (Bool×Int×Unit) :=
 ((bx_ a0 a1).bind λv0 =>
 (cond (v0.1 != 0)
 (some (false,(v0.1,())))
 ((dt_ a0 a2).bind λv1 =>
 (cond (!v1.1)
 (some (false,(25,())))
 ((push? (α:=Int) [] a1.1).bind λv2 =>
 ((push? (α:=Int) [] a1.2.1).bind λv3 =>
 ((push? (α:=Int) [] a1.2.2).bind λv4 =>
 ((bb_ (a0,(v2,(v3,v4))) a2).bind λv5 =>
 (some (v5.1,(0,())))))))))))
theorem x_84:av_ cx_84 an_84 84 [ao_,ar_,(.list bz_)] [.bool,.int]=λx=>eg_ x.1 x.2.1 x.2.2.1:=by kernel_rfl
noncomputable def c_84:Con Tryz.prog:=aw_ _ _ 84 [ao_,ar_,(.list bz_)] [.bool,.int] _ x_84
def an_90:An:=(.p .z (.p .z (.p .z (.p .z (.j0 [.o (.c (.s 9) 8) .int,.o (.c (.s 9) 9) .int,.o (.c (.s 9) 10) .int] .z .z)))))
def at_90:FuncId→An:=λk=>cond (Nat.beq k 83) (.p .z (.p (.j0 [.v 6 .bool,.o (.c (.s 0) 8) .int] .z .z) .z)) (cond (Nat.beq k 145) (.p .z (.p (.p .z (.ls [.v 4 .int] [] [.o (.c (.s 0) 8) .int] 0 (.p .z (.p .z (.p (.j0 [.v 3 .int] .z .z) .z))))) .z)) (cond (Nat.beq k 149) (.p .z (.p .z (.p .z (.p .z (.p .z (.p .z (.p .z (.p .z (.p .z (.p .z (.p (.p .z (.p (.p .z (.lp [.v 96 .int] [] [.o (.c (.s 0) 9) .int] 1 .z)) (.p (.p .z (.lp [.v 111 .int] [] [.o (.c (.s 0) 9) .int] 3 .z)) (.p .z (.lp [.v 127 .int] [] [.o (.c (.s 0) 8) .int] 5 .z))))) .z))))))))))) (cond (Nat.beq k 190) (.p .z (.p (.p .z (.ls [.v 8 .int] [] [] 0 .z)) .z)) (cond (Nat.beq k 191) (.p .z (.j0 [.v 3 .bool] .z .z)) (.z)))))
noncomputable def cs_90:List (Con Tryz.prog):=[bx5,bx4,c_148]
noncomputable def cl_90:List (Cpy Tryz.prog):=[al3]
noncomputable def cx_90:Cx Tryz.prog:=cxI at_90 (λk=>Nat.beq k 86||Nat.beq k 146||Nat.beq k 147||Nat.beq k 148||false) (cxC cs_90 cl_90) 7
noncomputable def dz_ (a0:af_) (a1:ai_) (a2:ad_):Option (ai_×Int×Unit) :=
 ((bx_ a0 a1).bind λv0 =>
 (cond (v0.1 != 0)
 (some (([],([],[])),(v0.1,())))
 ((push? (α:=Int) [] a1.1).bind λv1 =>
 ((push? (α:=Int) [] a1.2.1).bind λv2 =>
 ((push? (α:=Int) [] a1.2.2).bind λv3 =>
 ((cz_ (a0,(v1,(v2,v3))) a2).bind λv4 =>
 (cond (!v4.1)
 (some (([],([],[])),(29,())))
 (((cond (a2.2.1==1)
 ((at? a0.2.2.2.1 a2.2.2).bind λv5 =>
 ((at? v3 a2.1).bind λv6 =>
 ((at? v3 a2.1).bind λv7 =>
 ((at? v3 a2.1).bind λv8 =>
 ((at? v3 a2.1).bind λv9 =>
 (some (v1,(v2,((v3.set a2.1.toNat (w64 ((w64 (v5.1+v5.2.1)) - v7))),())))))))))
 (cond (a2.2.1==2)
 ((at? v2 a2.2.2).bind λv10 =>
 ((at? v2 a2.2.2).bind λv11 =>
 (some (v1,((v2.set a2.2.2.toNat (w64 ((-2) - a2.1))),(v3,()))))))
 (cond (a2.2.1==3)
 ((at? v3 a2.1).bind λv12 =>
 ((at? v3 a2.1).bind λv13 =>
 ((at? v2 a2.2.2).bind λv14 =>
 ((at? v2 a2.2.2).bind λv15 =>
 (some (v1,((v2.set a2.2.2.toNat v13),(v3,()))))))))
 (cond (a2.2.1==4)
 ((at? a0.2.2.2.2.1 a2.2.2).bind λv16 =>
 ((ag_ (ρ:=((List Int)×Unit)) (λ(v17:(Int×((List Int)×Unit))) =>
 (cond (decide (v17.1<(v16.2.2.2.2.2.2.1.length:Int)))
 ((at? v16.2.2.2.2.2.2.1 v17.1).bind λv18 =>
 ((at? v17.2.1 v18).bind λv19 =>
 ((at? v17.2.1 v18).bind λv20 =>
 (some (inl ((w64 (v17.1+1)),((v17.2.1.set v18.toNat (-1)),())))))))
 (some (inr (v17.2.1,()))))) (0,(v2,()))).bind λv21 =>
 ((ag_ (ρ:=((List Int)×Unit)) (λ(v22:(Int×((List Int)×Unit))) =>
 (cond (decide (v22.1<(v16.2.2.2.2.2.2.2.length:Int)))
 ((at? v16.2.2.2.2.2.2.2 v22.1).bind λv23 =>
 ((at? v22.2.1 v23).bind λv24 =>
 ((at? v22.2.1 v23).bind λv25 =>
 (some (inl ((w64 (v22.1+1)),((v22.2.1.set v23.toNat (w64 ((-2) - a2.1))),())))))))
 (some (inr (v22.2.1,()))))) (0,(v21.1,()))).bind λv26 =>
 ((ag_ (ρ:=((List Int)×Unit)) (λ(v27:(Int×((List Int)×Unit))) =>
 (cond (decide (v27.1<(v16.2.2.2.2.2.1.length:Int)))
 ((at? v16.2.2.2.2.2.1 v27.1).bind λv28 =>
 ((at? v27.2.1 v28.1).bind λv29 =>
 ((at? v27.2.1 v28.1).bind λv30 =>
 (some (inl ((w64 (v27.1+1)),((v27.2.1.set v28.1.toNat v28.2),())))))))
 (some (inr (v27.2.1,()))))) (0,(v1,()))).bind λv31 =>
 (some (v31.1,(v26.1,(v3,()))))))))
 (some (v1,(v2,(v3,()))))))))).bind λv32 =>
 ((((ag_ (ρ:=(((List Int)×Unit)⊕(Bool×((List Int)×Unit)))) (λ(v33:(Int×((List Int)×Unit))) =>
 (cond (decide (v33.1<101))
 ((((ag_ (ρ:=(Unit⊕(Int×Unit))) (λ(v34:(Int×Unit)) =>
 (cond (decide (v34.1<(a0.2.2.2.2.2.1.length:Int)))
 ((at? a0.2.2.2.2.2.1 v34.1).bind λv35 =>
 ((((at? v33.2.1 v35.2.1).bind λv36 =>
 ((at? v33.2.1 v35.2.1).bind λv37 =>
 (cond (v37 != v35.2.2)
 ((bb_ (a0,(v33.2.1,(v32.2.1,v32.2.2.1))) v35.1).bind λv38 =>
 (some (v38.1,())))
 (some (false,())))))).bind λv39 =>
 (cond v39.1
 (some (inr (inr (v34.1,()))))
 (some (inl ((w64 (v34.1+1)),()))))))
 (some (inr (inl ()))))) (0,())).bind λv40 =>
 (ca_ v40 (λv41=>(some ((-1),())))
 (λv42=>(some v42))))).bind λv43 =>
 (cond (decide (v43.1<0))
 (some (inr (inr ((!true),(v33.2.1,())))))
 ((at? a0.2.2.2.2.2.1 v43.1).bind λv44 =>
 ((at? a0.2.2.2.2.2.1 v43.1).bind λv45 =>
 ((at? v33.2.1 v44.2.1).bind λv46 =>
 ((at? v33.2.1 v44.2.1).bind λv47 =>
 (some (inl ((w64 (v33.1+1)),((v33.2.1.set v44.2.1.toNat v45.2.2),()))))))))))
 (some (inr (inl (v33.2.1,())))))) (0,(v32.1,()))).bind λv48 =>
 (ca_ v48 (λv49=>(some ((!false),(v49.1,()))))
 (λv50=>(some v50))))).bind λv51 =>
 (cond v51.1
 (some (([],([],[])),(27,())))
 (some ((v51.2.1,(v32.2.1,v32.2.2.1)),(0,())))))))))))))
theorem x_90:av_ cx_90 an_90 90 [ao_,ar_,aq_] [ar_,.int]=λx=>dz_ x.1 x.2.1 x.2.2.1:=by kernel_rfl
noncomputable def c_90:Con Tryz.prog:=aw_ _ _ 90 [ao_,ar_,aq_] [ar_,.int] _ x_90
def an_152:An:=(.p .z (.p .z (.p .z (.p (.p .z (.rf [4,7] .z .z)) .z))))
def at_152:FuncId→An:=λk=>cond (Nat.beq k 226) (.p .z (.lp [.v 9 .int] [] [.y (.s 0),.b (.y (.s 0) 4) [.row aq_ 59]] 0 (.p .z (.p .z (.p (.p .z (.p .z (.lp [.v 26 .int] [] [.y (.s 0),.b (.y (.s 0) 4) [.row aq_ 59]] 2 (.p .z (.p .z (.p (.p .z (.p .z (.lp [.v 32 .int] [] [.y (.s 0),.b (.y (.s 0) 4) [.row aq_ 59]] 4 (.p .z (.p .z (.j0 [.y (.s 0),.b (.y (.s 0) 4) [.row aq_ 59]] .z .z)))))) .z)))))) .z))))) (.z)
noncomputable def cs_152:List (Con Tryz.prog):=[bx5,c_148]
noncomputable def cl_152:List (Cpy Tryz.prog):=[al3]
noncomputable def cx_152:Cx Tryz.prog:=cxI at_152 (λk=>Nat.beq k 86||Nat.beq k 146||Nat.beq k 148||false) (cxC cs_152 cl_152) 6
noncomputable def fc_ (a0:af_) (a1:ai_):Option ((List ad_)×Int×Unit) :=
 ((bx_ a0 a1).bind λv0 =>
 (cond (v0.1 != 0)
 (some ([],(v0.1,())))
 ((push? (α:=Int) [] a1.1).bind λv1 =>
 ((push? (α:=Int) [] a1.2.1).bind λv2 =>
 ((push? (α:=Int) [] a1.2.2).bind λv3 =>
 ((ag_ (ρ:=(Unit×(((List ad_)×Unit)×Unit))) (λ(v4:(Int×(Unit×(((List ad_)×Unit)×Unit)))) =>
 (cond (decide (v4.1<a0.2.2.2.2.2.2.1))
 ((ag_ (ρ:=(Unit×(((List ad_)×Unit)×Unit))) (λ(v5:(Int×(Unit×(((List ad_)×Unit)×Unit)))) =>
 (cond (decide (v5.1<(([0,(a0.2.2.2.1.length:Int),(a0.2.2.1.length:Int),(a0.2.2.1.length:Int),(a0.2.2.2.2.1.length:Int)]).length:Int)))
 ((at? [0,(a0.2.2.2.1.length:Int),(a0.2.2.1.length:Int),(a0.2.2.1.length:Int),(a0.2.2.2.2.1.length:Int)] v5.1).bind λv6 =>
 ((at? [0,(a0.2.2.2.1.length:Int),(a0.2.2.1.length:Int),(a0.2.2.1.length:Int),(a0.2.2.2.2.1.length:Int)] v5.1).bind λv7 =>
 ((ag_ (ρ:=(Unit×(((List ad_)×Unit)×Unit))) (λ(v8:(Int×(Unit×(((List ad_)×Unit)×Unit)))) =>
 (cond (decide (v8.1<v7))
 ((((cz_ (a0,(v1,(v2,v3))) (v4.1,(v5.1,v8.1))).bind λv9 =>
 (cond v9.1
 ((push? (α:=ad_) v8.2.2.1.1 [(v4.1,(v5.1,v8.1))]).bind λv10 =>
 (some ((),((v10,()),()))))
 (some ((),((v8.2.2.1.1,()),())))))).bind λv11 =>
 (some (inl ((w64 (v8.1+1)),((),((v11.2.1.1,()),()))))))
 (some (inr ((),((v8.2.2.1.1,()),())))))) (0,((),((v5.2.2.1.1,()),())))).bind λv12 =>
 (some (inl ((w64 (v5.1+1)),((),((v12.2.1.1,()),()))))))))
 (some (inr ((),((v5.2.2.1.1,()),())))))) (0,((),((v4.2.2.1.1,()),())))).bind λv13 =>
 (some (inl ((w64 (v4.1+1)),((),((v13.2.1.1,()),()))))))
 (some (inr ((),((v4.2.2.1.1,()),())))))) (0,((),(([],()),())))).bind λv14 =>
 (some (v14.2.1.1,(0,())))))))))
theorem x_152:av_ cx_152 an_152 152 [ao_,ar_] [(.list aq_),.int]=λx=>fc_ x.1 x.2.1:=by kernel_rfl
noncomputable def c_152:Con Tryz.prog:=aw_ _ _ 152 [ao_,ar_] [(.list aq_),.int] _ x_152
noncomputable abbrev pt_:Gb:=⟨Gb.ev,λc p=>cond (Nat.beq c 901810192&&eqS p "room.go:184") true (cond (Nat.beq c 197138433&&eqS p "room.go:183") true (cond (Nat.beq c 130027520&&eqS p "room.go:183") true (Gb.fz c p))),Gb.gd,Gb.gl,λc=>cond (Nat.beq c 901810192) (some ey_) (cond (Nat.beq c 197138433) (some ar_) (cond (Nat.beq c 130027520) (some ao_) (none))),Gb.rw⟩
def an_98:An:=.z
def at_98:FuncId→An:=λk=>.z
noncomputable def cs_98:List (@Con pt_ Tryz.prog _):=[@cvG instGb pt_ Tryz.prog _ (λ_=>rfl) (λ_=>rfl) bx5,@cvG instGb pt_ Tryz.prog _ (λ_=>rfl) (λ_=>rfl) bx4,@cpCon pt_ Tryz.prog _ al3]
noncomputable def cx_98:@Cx pt_ Tryz.prog _:=@cxI pt_ Tryz.prog _ at_98 (λk=>Nat.beq k 86||Nat.beq k 146||Nat.beq k 147||false) (@cxC pt_ Tryz.prog _ cs_98 []) 2
noncomputable def fd_ (a0:af_) (a1:ai_):Option (Bool×Int×Unit) :=
 ((bx_ a0 a1).bind λv0 =>
 (cond (v0.1 != 0)
 (some (false,(v0.1,())))
 ((((push? (α:=Int) [] a1.1).bind λv1 =>
 (some (v1,())))).bind λv2 =>
 ((((push? (α:=Int) [] a1.2.1).bind λv3 =>
 (some (v3,())))).bind λv4 =>
 ((((push? (α:=Int) [] a1.2.2).bind λv5 =>
 (some (v5,())))).bind λv6 =>
 ((bb_ (a0,(v2.1,(v4.1,v6.1))) a0.2.2.2.2.2.2.2).bind λv7 =>
 (some (v7.1,(0,())))))))))
theorem x_98:@av_ pt_ Tryz.prog _ cx_98 an_98 98 [ao_,ar_] [.bool,.int]=λx=>fd_ x.1 x.2.1:=by kernel_rfl
noncomputable def c_98:Con Tryz.prog:=@cvG pt_ instGb Tryz.prog _ (λ_=>rfl) (λ_=>rfl) <| @aw_ pt_ Tryz.prog _ _ _ 98 [ao_,ar_] [.bool,.int] _ x_98
def an_45:An:=.z
noncomputable def cs_45:List (Con Tryz.prog):=[c_31,c_91]
noncomputable def cl_45:List (Cpy Tryz.prog):=[]
noncomputable def cx_45:Cx Tryz.prog:=cxC cs_45 cl_45
noncomputable def fg_ (a0:ac_) (a1:aa_):Option (Int×Unit) :=
 ((fq_ a0).bind λv0 =>
 (cond (v0.1 != 0)
 (some (v0.1,()))
 ((dv_ a0.1 a1.1).bind λv1 =>
 (cond (v1.1 != 0)
 (some (v1.1,()))
 (cond ((a1.2.length:Int) != (a0.2.2.2.1.length:Int))
 (some (28,()))
 (some (0,())))))))
theorem x_45:av_ cx_45 an_45 45 [an_,aj_] [.int]=λx=>fg_ x.1 x.2.1:=by kernel_rfl
noncomputable def c_45:Con Tryz.prog:=aw_ _ _ 45 [an_,aj_] [.int] _ x_45
end
section
set_option maxRecDepth 100000
set_option maxHeartbeats 0
def an_100:An:=(.p .z (.p .z (.p .z (.p .z (.p (.p .z (.lp [.v 6 .int] [] [.b (.s 5) [.row .int 3,.keep,.keep]] 0 .z)) (.p (.p .z (.lp [.v 7 .int] [] [.b (.s 5) [.keep,.row .int 3,.keep]] 2 .z)) .z))))))
noncomputable def cs_100:List (Con Tryz.prog):=[c_64,c_156]
noncomputable def cl_100:List (Cpy Tryz.prog):=[]
noncomputable def cx_100:Cx Tryz.prog:=cxC cs_100 cl_100
noncomputable def jk_ (a0:af_):Option (ai_×Int×Unit) :=
 ((fs_ a0).bind λv0 =>
 (cond (v0.1 != 0)
 (some (([],([],[])),(v0.1,())))
 ((mk? (α:=Int) a0.2.2.2.2.2.2.1 0).bind λv1 =>
 ((ag_ (ρ:=(((List Int)×Unit)×Unit)) (λ(v2:(Int×(((List Int)×Unit)×Unit))) =>
 (cond (decide (v2.1<(a0.2.1.length:Int)))
 ((at? a0.2.1 v2.1).bind λv3 =>
 ((push? (α:=Int) v2.2.1.1 [v3.2.2.2]).bind λv4 =>
 (some (inl ((w64 (v2.1+1)),((v4,()),()))))))
 (some (inr ((v2.2.1.1,()),()))))) (0,(([],()),()))).bind λv5 =>
 ((ag_ (ρ:=(((List Int)×Unit)×Unit)) (λ(v6:(Int×(((List Int)×Unit)×Unit))) =>
 (cond (decide (v6.1<(a0.2.2.1.length:Int)))
 ((at? a0.2.2.1 v6.1).bind λv7 =>
 ((push? (α:=Int) v6.2.1.1 [v7.2.1]).bind λv8 =>
 (some (inl ((w64 (v6.1+1)),((v8,()),()))))))
 (some (inr ((v6.2.1.1,()),()))))) (0,(([],()),()))).bind λv9 =>
 ((ib_ a0 (v5.1.1,(v9.1.1,v1))).bind λv10 =>
 (some (v10.1,(v10.2.1,())))))))))
theorem x_100:av_ cx_100 an_100 100 [ao_] [ar_,.int]=λx=>jk_ x.1:=by kernel_rfl
noncomputable def c_100:Con Tryz.prog:=aw_ _ _ 100 [ao_] [ar_,.int] _ x_100
def an_158:An:=(.p .z (.p (.q [] .z .z) .z))
noncomputable def cs_158:List (Con Tryz.prog):=[c_203,c_204]
noncomputable def cl_158:List (Cpy Tryz.prog):=[]
noncomputable def cx_158:Cx Tryz.prog:=cxC cs_158 cl_158
noncomputable def kz_ (a0:ac_) (a1:aa_) (a2:Int):Option (Bool×Unit) :=
 ((hj_ a0 a1 a2).bind λv0 =>
 ((iy_ a0 a2 v0.1).bind λv1 =>
 (some ((decide (v1.1≤a0.2.2.2.2)),()))))
theorem x_158:av_ cx_158 an_158 158 [an_,aj_,.int] [.bool]=λx=>kz_ x.1 x.2.1 x.2.2.1:=by kernel_rfl
noncomputable def c_158:Con Tryz.prog:=aw_ _ _ 158 [an_,aj_,.int] [.bool] _ x_158
def an_39:An:=(.p .z (.p .z (.p (.j0 [.v 28 .bool] .z .z) (.p (.p .z (.ls [.v 32 .int] [] [] 0 .z)) (.p .z (.p (.p .z (.ls [.v 52 .int] [] [] 2 .z)) (.p (.p .z (.ls [.v 70 .int] [] [] 4 .z)) (.p (.p .z (.ls [.v 84 .int] [] [] 6 .z)) .z))))))))
noncomputable def cs_39:List (Con Tryz.prog):=[c_76,c_77,c_78,c_79,c_80,c_81]
noncomputable def cl_39:List (Cpy Tryz.prog):=[]
noncomputable def cx_39:Cx Tryz.prog:=cxC cs_39 cl_39
noncomputable def ha_ (a0:ac_):Option (Int×Unit) :=
 ((fe_ a0.1).bind λv0 =>
 (cond (v0.1 != 0)
 (some (v0.1,()))
 (((cond (decide (8<(a0.2.1.length:Int)))
 (some (true,()))
 (some ((decide (16<(a0.2.2.2.1.length:Int))),())))).bind λv1 =>
 (cond v1.1
 (some (2,()))
 ((ag_ (ρ:=(Unit⊕(Int×Unit))) (λ(v2:(Int×Unit)) =>
 (cond (decide (v2.1<(a0.2.1.length:Int)))
 ((at? a0.2.1 v2.1).bind λv3 =>
 ((ek_ v3).bind λv4 =>
 (cond (v4.1 != 0)
 (some (inr (inr (v4.1,()))))
 (some (inl ((w64 (v2.1+1)),()))))))
 (some (inr (inl ()))))) (0,())).bind λv5 =>
 (ca_ v5 (λv6=>(cond ((a0.2.2.1.length:Int) != (a0.2.1.length:Int))
 (some (12,()))
 ((ag_ (ρ:=(Unit⊕(Int×Unit))) (λ(v8:(Int×Unit)) =>
 (cond (decide (v8.1<(a0.2.1.length:Int)))
 ((at? a0.2.1 v8.1).bind λv9 =>
 ((at? a0.2.2.1 v8.1).bind λv10 =>
 ((ed_ v9 v10).bind λv11 =>
 (cond (v11.1 != 0)
 (some (inr (inr (12,()))))
 (some (inl ((w64 (v8.1+1)),())))))))
 (some (inr (inl ()))))) (0,())).bind λv12 =>
 (ca_ v12 (λv13=>((ag_ (ρ:=(Unit⊕(Int×Unit))) (λ(v15:(Int×Unit)) =>
 (cond (decide (v15.1<(a0.1.2.2.2.2.1.length:Int)))
 ((at? a0.1.2.2.2.2.1 v15.1).bind λv16 =>
 (cond (decide ((a0.2.1.length:Int)≤v16.2.2.1))
 (some (inr (inr (26,()))))
 (some (inl ((w64 (v15.1+1)),())))))
 (some (inr (inl ()))))) (0,())).bind λv17 =>
 (ca_ v17 (λv18=>((ag_ (ρ:=(Unit⊕(Int×Unit))) (λ(v20:(Int×Unit)) =>
 (cond (decide (v20.1<(a0.2.2.2.1.length:Int)))
 ((at? a0.2.2.2.1 v20.1).bind λv21 =>
 ((lf_ a0 v20.1 v21).bind λv22 =>
 (cond (!v22.1)
 (some (inr (inr (40,()))))
 ((le_ a0.1 v21.2.2.2.1).bind λv23 =>
 (cond (!v23.1)
 (some (inr (inr (25,()))))
 (some (inl ((w64 (v20.1+1)),()))))))))
 (some (inr (inl ()))))) (0,())).bind λv24 =>
 (ca_ v24 (λv25=>((bp_ a0.2.2.2.2 1 100).bind λv27 =>
 (cond (!v27.1)
 (some (1,()))
 (some (0,())))))
 (λv26=>(some v26)))))
 (λv19=>(some v19)))))
 (λv14=>(some v14))))))
 (λv7=>(some v7))))))))
theorem x_39:av_ cx_39 an_39 39 [an_] [.int]=λx=>ha_ x.1:=by kernel_rfl
noncomputable def c_39:Con Tryz.prog:=aw_ _ _ 39 [an_] [.int] _ x_39
def an_15:An:=.z
noncomputable def cs_15:List (Con Tryz.prog):=[c_45]
noncomputable def cl_15:List (Cpy Tryz.prog):=[]
noncomputable def cx_15:Cx Tryz.prog:=cxC cs_15 cl_15
noncomputable def dx_ (a0:ac_) (a1:aa_):Option (Bool×Unit) :=
 ((fg_ a0 a1).bind λv0 =>
 (some ((v0.1==0),())))
theorem x_15:av_ cx_15 an_15 15 [an_,aj_] [.bool]=λx=>dx_ x.1 x.2.1:=by kernel_rfl
noncomputable def c_15:Con Tryz.prog:=aw_ _ _ 15 [an_,aj_] [.bool] _ x_15
end
section
set_option maxRecDepth 100000
set_option maxHeartbeats 0
def an_52:An:=.z
noncomputable def cs_52:List (Con Tryz.prog):=[c_31,c_100,c_101]
noncomputable def cl_52:List (Cpy Tryz.prog):=[]
noncomputable def cx_52:Cx Tryz.prog:=cxC cs_52 cl_52
noncomputable def ji_ (a0:ac_):Option (aa_×Int×Unit) :=
 ((fq_ a0).bind λv0 =>
 (cond (v0.1 != 0)
 (some ((([],([],[])),[]),(v0.1,())))
 ((jk_ a0.1).bind λv1 =>
 (cond (v1.2.1 != 0)
 (some ((([],([],[])),[]),(v1.2.1,())))
 ((mk? (α:=Bool) (a0.2.2.2.1.length:Int) false).bind λv2 =>
 ((il_ a0 (v1.1,v2)).bind λv3 =>
 (some (v3.1,(0,())))))))))
theorem x_52:av_ cx_52 an_52 52 [an_] [aj_,.int]=λx=>ji_ x.1:=by kernel_rfl
noncomputable def c_52:Con Tryz.prog:=aw_ _ _ 52 [an_] [aj_,.int] _ x_52
def an_104:An:=(.p .z (.p .z (.p .z (.p (.q [] .z .z) .z))))
noncomputable def cs_104:List (Con Tryz.prog):=[c_105,c_158]
noncomputable def cl_104:List (Cpy Tryz.prog):=[]
noncomputable def cx_104:Cx Tryz.prog:=cxC cs_104 cl_104
noncomputable def go_ (a0:ac_) (a1:aa_) (a2:ad_):Option (Bool×Unit) :=
 ((gk_ a0.1 a1.1 a2).bind λv0 =>
 (cond (!v0.2.1)
 (some (false,()))
 (cond (a2.2.1 != 4)
 (some (true,()))
 ((at? a0.1.2.2.2.2.1 a2.2.2).bind λv1 =>
 (cond (decide (v1.2.2.1<0))
 (some (true,()))
 ((at? a0.1.2.2.2.2.1 a2.2.2).bind λv2 =>
 ((kz_ a0 a1 v2.2.2.1).bind λv3 =>
 (some (v3.1,())))))))))
theorem x_104:av_ cx_104 an_104 104 [an_,aj_,aq_] [.bool]=λx=>go_ x.1 x.2.1 x.2.2.1:=by kernel_rfl
noncomputable def c_104:Con Tryz.prog:=aw_ _ _ 104 [an_,aj_,aq_] [.bool] _ x_104
def an_13:An:=.z
def at_13:FuncId→An:=λk=>cond (Nat.beq k 41) (.p .z (.lp [.v 12 .int] [] [.o (.c (.s 0) 15) .bool,.m (.c (.s 0) 16) .int .int] 0 (.p .z (.p .z (.j0 [.o (.c (.s 0) 15) .bool,.m (.c (.s 0) 16) .int .int] (.p .z (.p .z (.j0 [.v 55 .bool] .z .z))) .z))))) (.z)
noncomputable def cs_13:List (Con Tryz.prog):=[c_39,c_40,c_84,c_85]
noncomputable def cl_13:List (Cpy Tryz.prog):=[al3,ck2]
noncomputable def cx_13:Cx Tryz.prog:=cxI at_13 (λk=>Nat.beq k 39||Nat.beq k 40||Nat.beq k 84||Nat.beq k 85||Nat.beq k 86||Nat.beq k 87||false) (cxC cs_13 cl_13) 3
noncomputable def ip_ (a0:ac_):Option (aa_×Int×Unit) :=
 ((ha_ a0).bind λv0 =>
 (cond (v0.1 != 0)
 (some ((([],([],[])),[]),(v0.1,())))
 ((ik_ a0.1).bind λv1 =>
 (cond (v1.2.1 != 0)
 (some ((([],([],[])),[]),(v1.2.1,())))
 ((mk? (α:=Bool) (a0.2.2.2.1.length:Int) false).bind λv2 =>
 ((ag_ (ρ:=((List Bool)×((List ab_)×Unit))) (λ(v3:(Int×((List Bool)×((List ab_)×Unit)))) =>
 (cond (decide (v3.1<(a0.2.2.2.1.length:Int)))
 ((((at? a0.2.2.2.1 v3.1).bind λv4 =>
 ((eg_ a0.1 v1.1 v4.2.2.2.1).bind λv5 =>
 (((cond v5.1
 ((bg_ v1.1.2.2 v4.2.1).bind λv6 =>
 (cond v6.1
 ((at? v3.2.1 v3.1).bind λv7 =>
 ((at? v3.2.1 v3.1).bind λv8 =>
 (some ((!v8),()))))
 (some (false,()))))
 (some (false,())))).bind λv9 =>
 (cond v9.1
 ((at? v3.2.1 v3.1).bind λv10 =>
 ((at? v3.2.1 v3.1).bind λv11 =>
 (some ((v3.2.1.set v3.1.toNat true),((xp_ v3.2.2.1 v4.2.2.1),())))))
 (some (v3.2.1,(v3.2.2.1,())))))))).bind λv12 =>
 (some (inl ((w64 (v3.1+1)),(v12.1,(v12.2.1,()))))))
 (some (inr (v3.2.1,(v3.2.2.1,())))))) (0,(v2,([],())))).bind λv13 =>
 ((push? (α:=Int) [] v1.1.1).bind λv14 =>
 ((push? (α:=Int) [] v1.1.2.1).bind λv15 =>
 ((push? (α:=Int) [] v1.1.2.2).bind λv16 =>
 ((push? (α:=Bool) [] v13.1).bind λv17 =>
 (some (((v14,(v15,v16)),v17),(0,())))))))))))))
theorem x_13:av_ cx_13 an_13 13 [an_] [aj_,.int]=λx=>ip_ x.1:=by kernel_rfl
noncomputable def c_13:Con Tryz.prog:=aw_ _ _ 13 [an_] [aj_,.int] _ x_13
def an_88:An:=.z
noncomputable def cs_88:List (Con Tryz.prog):=[c_39,bx5]
noncomputable def cl_88:List (Cpy Tryz.prog):=[]
noncomputable def cx_88:Cx Tryz.prog:=cxC cs_88 cl_88
noncomputable def dh_ (a0:ac_) (a1:aa_):Option (Int×Unit) :=
 ((ha_ a0).bind λv0 =>
 (cond (v0.1 != 0)
 (some (v0.1,()))
 ((bx_ a0.1 a1.1).bind λv1 =>
 (cond (v1.1 != 0)
 (some (v1.1,()))
 (cond ((a1.2.length:Int) != (a0.2.2.2.1.length:Int))
 (some (28,()))
 (some (0,())))))))
theorem x_88:av_ cx_88 an_88 88 [an_,aj_] [.int]=λx=>dh_ x.1 x.2.1:=by kernel_rfl
noncomputable def c_88:Con Tryz.prog:=aw_ _ _ 88 [an_,aj_] [.int] _ x_88
end
section
set_option maxRecDepth 100000
set_option maxHeartbeats 0
def an_54:An:=(.p .z (.p .z (.p .z (.p (.p .z (.lp [.r 5 aq_ 59,.v 7 .int] [.r 5 aq_ 59] [] 0 (.p .z (.j0 [.r 5 aq_ 59] (.p (.q [] .z .z) .z) .z)))) .z))))
noncomputable def cs_54:List (Con Tryz.prog):=[c_103,c_104]
noncomputable def cl_54:List (Cpy Tryz.prog):=[]
noncomputable def cx_54:Cx Tryz.prog:=cxC cs_54 cl_54
noncomputable def jh_ (a0:ac_) (a1:aa_):Option ((List ad_)×Unit) :=
 ((es_ a0.1 a1.1).bind λv0 =>
 ((ag_ (ρ:=((List ad_)×Unit)) (λ(v1:((List ad_)×(Int×Unit))) =>
 (cond (decide (v1.2.1<(v0.1.length:Int)))
 ((((at? v0.1 v1.2.1).bind λv2 =>
 ((go_ a0 a1 v2).bind λv3 =>
 (cond v3.1
 ((at? v0.1 v1.2.1).bind λv4 =>
 ((push? (α:=ad_) v1.1 [v4]).bind λv5 =>
 (some (v5,()))))
 (some (v1.1,())))))).bind λv6 =>
 (some (inl (v6.1,((w64 (v1.2.1+1)),())))))
 (some (inr (v1.1,()))))) ([],(0,()))).bind λv7 =>
 (some (v7.1,()))))
theorem x_54:av_ cx_54 an_54 54 [an_,aj_] [(.list aq_)]=λx=>jh_ x.1 x.2.1:=by kernel_rfl
noncomputable def c_54:Con Tryz.prog:=aw_ _ _ 54 [an_,aj_] [(.list aq_)] _ x_54
def an_17:An:=(.p .z (.p .z (.p .z (.p (.j0 [.v 23 .bool,.o (.c (.s 8) 15) .bool,.m (.c (.s 8) 16) .int .int,.b (.s 8) [.keep,.keep,.keep,.keep,.keep,.keep,.keep,.keep,.keep,.keep,.keep,.keep,.val (.list .int),.val (.list .int),.val (.list .int),.keep,.keep]] .z .z) .z))))
def at_17:FuncId→An:=λk=>cond (Nat.beq k 41) (.p .z (.lp [.v 12 .int] [] [.o (.c (.s 0) 15) .bool,.m (.c (.s 0) 16) .int .int] 0 (.p .z (.p .z (.j0 [.o (.c (.s 0) 15) .bool,.m (.c (.s 0) 16) .int .int] (.p .z (.p .z (.j0 [.v 55 .bool] .z .z))) .z))))) (cond (Nat.beq k 44) (.p .z (.p (.j0 [.v 38 .bool,.m (.c (.s 0) 16) .int .int] .z .z) .z)) (cond (Nat.beq k 89) (.p .z (.p .z (.j0 [.m (.c (.s 0) 16) .int .int] (.p .z (.p (.p .z (.p .z (.j0 [.v 37 .bool] .z .z))) .z)) .z))) (cond (Nat.beq k 162) (.p .z (.p (.p .z (.lp [.r 6 .int 3,.r 7 ap_ 94,.v 13 .int] [.r 6 .int 3,.r 7 ap_ 94] [] 0 (.p .z (.p .z (.j0 [.r 6 .int 3,.r 7 ap_ 94] (.p .z (.j0 [.v 26 .bool] .z .z)) .z))))) .z)) (.z))))
noncomputable def cs_17:List (Con Tryz.prog):=[c_81,c_84,c_85,c_88,c_90,c_164]
noncomputable def cl_17:List (Cpy Tryz.prog):=[al3,ck2]
noncomputable def cx_17:Cx Tryz.prog:=cxI at_17 (λk=>Nat.beq k 81||Nat.beq k 84||Nat.beq k 85||Nat.beq k 86||Nat.beq k 87||Nat.beq k 88||Nat.beq k 90||Nat.beq k 164||false) (cxC cs_17 cl_17) 9
noncomputable def hy_ (a0:ac_) (a1:aa_) (a2:ad_):Option (aa_×Int×Unit) :=
 ((dh_ a0 a1).bind λv0 =>
 (cond (v0.1 != 0)
 (cond (v0.1 != 0)
 (some ((([],([],[])),[]),(v0.1,())))
 none)
 ((push? (α:=Bool) [] a1.2).bind λv1 =>
 (((((cond (a2.2.1==4)
 ((bp_ a2.2.2 0 (w64 ((a0.1.2.2.2.2.1.length:Int) - 1))).bind λv2 =>
 (cond v2.1
 ((at? a0.1.2.2.2.2.1 a2.2.2).bind λv3 =>
 (cond (decide (v3.2.2.1<0))
 (some ((!true),([],())))
 ((((ag_ (ρ:=((List Int)×((List ak_)×Unit))) (λ(v4:((List Int)×((List ak_)×(Int×Unit)))) =>
 (cond (decide (v4.2.2.1<(a0.2.2.2.1.length:Int)))
 ((((at? a0.2.2.2.1 v4.2.2.1).bind λv5 =>
 (((cond (v5.2.2.1==v3.2.2.1)
 ((at? v1 v4.2.2.1).bind λv6 =>
 ((at? v1 v4.2.2.1).bind λv7 =>
 (some (v7,()))))
 (some (false,())))).bind λv8 =>
 (cond v8.1
 ((push? (α:=Int) v4.1 [v4.2.2.1]).bind λv9 =>
 ((push? (α:=ak_) v4.2.1 [v5.2.2.2.2]).bind λv10 =>
 (some (v9,(v10,())))))
 (some (v4.1,(v4.2.1,()))))))).bind λv11 =>
 (some (inl (v11.1,(v11.2.1,((w64 (v4.2.2.1+1)),()))))))
 (some (inr (v4.1,(v4.2.1,())))))) ([],([],(0,())))).bind λv12 =>
 ((at? a0.2.1 v3.2.2.1).bind λv13 =>
 ((ct_ v13 v12.2.1).bind λv14 =>
 (((cond (v14.2.1==0)
 (some ((decide (v14.1≤a0.2.2.2.2)),()))
 (some (false,())))).bind λv15 =>
 (cond v15.1
 (some ((hh_ (hh_ [] v3.2.2.1 2) v3.2.2.1 1),()))
 (some ((hh_ [] v3.2.2.1 2),())))))))).bind λv16 =>
 (some ((!((da_ 0 v16.1 v3.2.2.1)==1)),(v16.1,()))))))
 (some (false,([],())))))
 (some (false,([],()))))).bind λv17 =>
 (cond v17.1
 (some ((!false),(v1,(v17.2.1,((a1.1.1,(a1.1.2.1,(a1.1.2.2,()))),())))))
 ((dz_ a0.1 a1.1 a2).bind λv18 =>
 (cond (v18.2.1 != 0)
 (some ((!false),(v1,(v17.2.1,((a1.1.1,(a1.1.2.1,(a1.1.2.2,()))),())))))
 ((ag_ (ρ:=((List Bool)×((List ab_)×Unit))) (λ(v19:(Int×((List Bool)×((List ab_)×Unit)))) =>
 (cond (decide (v19.1<(a0.2.2.2.1.length:Int)))
 ((((at? a0.2.2.2.1 v19.1).bind λv20 =>
 ((eg_ a0.1 v18.1 v20.2.2.2.1).bind λv21 =>
 (((cond v21.1
 ((bg_ v18.1.2.2 v20.2.1).bind λv22 =>
 (cond v22.1
 ((at? v19.2.1 v19.1).bind λv23 =>
 ((at? v19.2.1 v19.1).bind λv24 =>
 (some ((!v24),()))))
 (some (false,()))))
 (some (false,())))).bind λv25 =>
 (cond v25.1
 ((at? v19.2.1 v19.1).bind λv26 =>
 ((at? v19.2.1 v19.1).bind λv27 =>
 (some ((v19.2.1.set v19.1.toNat true),((xp_ v19.2.2.1 v20.2.2.1),())))))
 (some (v19.2.1,(v19.2.2.1,())))))))).bind λv28 =>
 (some (inl ((w64 (v19.1+1)),(v28.1,(v28.2.1,()))))))
 (some (inr (v19.2.1,(v19.2.2.1,())))))) (0,(v1,(v17.2.1,())))).bind λv29 =>
 (some ((!true),(v29.1,(v29.2.1,((v18.1.1,(v18.1.2.1,(v18.1.2.2,()))),()))))))))))).bind λv30 =>
 (cond v30.1
 (some ((([],([],[])),[]),(29,())))
 ((push? (α:=Int) [] v30.2.2.2.1.1).bind λv31 =>
 ((push? (α:=Int) [] v30.2.2.2.1.2.1).bind λv32 =>
 ((push? (α:=Int) [] v30.2.2.2.1.2.2.1).bind λv33 =>
 ((push? (α:=Bool) [] v30.2.1).bind λv34 =>
 (some (((v31,(v32,v33)),v34),(0,()))))))))))))
theorem x_17:av_ cx_17 an_17 17 [an_,aj_,aq_] [aj_,.int]=λx=>hy_ x.1 x.2.1 x.2.2.1:=by kernel_rfl
noncomputable def c_17:Con Tryz.prog:=aw_ _ _ 17 [an_,aj_,aq_] [aj_,.int] _ x_17
def an_94:An:=(.p .z (.p .z (.p .z (.p .z (.p .z (.p (.p .z (.lp [.r 4 aq_ 59,.v 32 .int] [.r 4 aq_ 59] [.m (.c (.s 6) 16) .int .int] 0 (.p .z (.p .z (.j0 [.r 4 aq_ 59,.m (.c (.s 6) 16) .int .int] (.p .z (.j0 [.v 39 .bool,.m (.c (.s 6) 16) .int .int] .z .z)) .z))))) .z))))))
def at_94:FuncId→An:=λk=>cond (Nat.beq k 41) (.p .z (.lp [.v 12 .int] [] [.o (.c (.s 0) 15) .bool,.m (.c (.s 0) 16) .int .int] 0 (.p .z (.p .z (.j0 [.o (.c (.s 0) 15) .bool,.m (.c (.s 0) 16) .int .int] (.p .z (.p .z (.j0 [.v 55 .bool] .z .z))) .z))))) (cond (Nat.beq k 44) (.p .z (.p (.j0 [.v 38 .bool,.m (.c (.s 0) 16) .int .int] .z .z) .z)) (cond (Nat.beq k 89) (.p .z (.p .z (.j0 [.m (.c (.s 0) 16) .int .int] (.p .z (.p (.p .z (.p .z (.j0 [.v 37 .bool] .z .z))) .z)) .z))) (cond (Nat.beq k 153) (.p .z (.p .z (.j0 [.m (.c (.s 0) 16) .int .int,.m (.s 23) .int .int] (.j0 [.v 41 .bool] .z (.p (.p .z (.j0 [.m (.c (.s 0) 16) .int .int] .z .z)) .z)) (.p (.j0 [.v 70 .bool,.o (.s 21) .bool,.m (.s 23) .int .int,.b (.s 5) [.keep,.keep,.keep,.keep,.keep,.keep,.keep,.keep,.keep,.keep,.keep,.keep,.val (.list .int),.val (.list .int),.val (.list .int),.keep,.keep]] .z .z) .z)))) (cond (Nat.beq k 162) (.p .z (.p (.p .z (.lp [.r 6 .int 3,.r 7 ap_ 94,.v 13 .int] [.r 6 .int 3,.r 7 ap_ 94] [] 0 (.p .z (.p .z (.j0 [.r 6 .int 3,.r 7 ap_ 94] (.p .z (.j0 [.v 26 .bool] .z .z)) .z))))) .z)) (.z)))))
noncomputable def cs_94:List (Con Tryz.prog):=[c_81,c_84,c_85,c_88,c_90,c_152,c_164]
noncomputable def cl_94:List (Cpy Tryz.prog):=[ck2]
noncomputable def cx_94:Cx Tryz.prog:=cxI at_94 (λk=>Nat.beq k 81||Nat.beq k 84||Nat.beq k 85||Nat.beq k 87||Nat.beq k 88||Nat.beq k 90||Nat.beq k 152||Nat.beq k 164||false) (cxC cs_94 cl_94) 9
noncomputable def pj_ (a0:ac_) (a1:aa_):Option ((List ad_)×Int×Unit) :=
 ((dh_ a0 a1).bind λv0 =>
 (cond (v0.1 != 0)
 (cond (v0.1 != 0)
 (some ([],(v0.1,())))
 ((fc_ a0.1 a1.1).bind λv1 =>
 (cond (v1.2.1 != 0)
 (some ([],(v1.2.1,())))
 none)))
 ((push? (α:=Bool) [] a1.2).bind λv2 =>
 ((fc_ a0.1 a1.1).bind λv3 =>
 (cond (v3.2.1 != 0)
 (some ([],(v3.2.1,())))
 ((ag_ (ρ:=((List ad_)×((List ab_)×Unit))) (λ(v4:((List ad_)×(Int×((List ab_)×Unit)))) =>
 (cond (decide (v4.2.1<(v3.1.length:Int)))
 ((((at? v3.1 v4.2.1).bind λv5 =>
 ((((push? (α:=Bool) [] v2).bind λv6 =>
 (((((cond (v5.2.1==4)
 ((bp_ v5.2.2 0 (w64 ((a0.1.2.2.2.2.1.length:Int) - 1))).bind λv7 =>
 (some (v7.1,())))
 (some (false,())))).bind λv8 =>
 (cond v8.1
 ((at? a0.1.2.2.2.2.1 v5.2.2).bind λv9 =>
 (((cond (decide (v9.2.2.1<0))
 (some (v4.2.2.1,()))
 (((cond ((da_ 0 v4.2.2.1 v9.2.2.1)==0)
 ((ag_ (ρ:=((List Int)×((List ak_)×Unit))) (λ(v10:((List Int)×((List ak_)×(Int×Unit)))) =>
 (cond (decide (v10.2.2.1<(a0.2.2.2.1.length:Int)))
 ((((at? a0.2.2.2.1 v10.2.2.1).bind λv11 =>
 (((cond (v11.2.2.1==v9.2.2.1)
 ((at? v2 v10.2.2.1).bind λv12 =>
 ((at? v2 v10.2.2.1).bind λv13 =>
 (some (v13,()))))
 (some (false,())))).bind λv14 =>
 (cond v14.1
 ((push? (α:=Int) v10.1 [v10.2.2.1]).bind λv15 =>
 ((push? (α:=ak_) v10.2.1 [v11.2.2.2.2]).bind λv16 =>
 (some (v15,(v16,())))))
 (some (v10.1,(v10.2.1,()))))))).bind λv17 =>
 (some (inl (v17.1,(v17.2.1,((w64 (v10.2.2.1+1)),()))))))
 (some (inr (v10.1,(v10.2.1,())))))) ([],([],(0,())))).bind λv18 =>
 ((at? a0.2.1 v9.2.2.1).bind λv19 =>
 ((ct_ v19 v18.2.1).bind λv20 =>
 (((cond (v20.2.1==0)
 (some ((decide (v20.1≤a0.2.2.2.2)),()))
 (some (false,())))).bind λv21 =>
 (cond v21.1
 (some ((hh_ (hh_ v4.2.2.1 v9.2.2.1 2) v9.2.2.1 1),()))
 (some ((hh_ v4.2.2.1 v9.2.2.1 2),())))))))
 (some (v4.2.2.1,())))).bind λv22 =>
 (some (v22.1,()))))).bind λv23 =>
 (some (v23.1,((hh_ [] v9.2.2.1 (da_ 0 v23.1 v9.2.2.1)),())))))
 (some (v4.2.2.1,([],())))))).bind λv24 =>
 (((((cond (v5.2.1==4)
 ((bp_ v5.2.2 0 (w64 ((a0.1.2.2.2.2.1.length:Int) - 1))).bind λv25 =>
 (cond v25.1
 ((at? a0.1.2.2.2.2.1 v5.2.2).bind λv26 =>
 (cond (decide (v26.2.2.1<0))
 (some ((!true),(v24.2.1,())))
 (((cond ((da_ 0 v24.2.1 v26.2.2.1)==0)
 ((ag_ (ρ:=((List Int)×((List ak_)×Unit))) (λ(v27:((List Int)×((List ak_)×(Int×Unit)))) =>
 (cond (decide (v27.2.2.1<(a0.2.2.2.1.length:Int)))
 ((((at? a0.2.2.2.1 v27.2.2.1).bind λv28 =>
 (((cond (v28.2.2.1==v26.2.2.1)
 ((at? v6 v27.2.2.1).bind λv29 =>
 ((at? v6 v27.2.2.1).bind λv30 =>
 (some (v30,()))))
 (some (false,())))).bind λv31 =>
 (cond v31.1
 ((push? (α:=Int) v27.1 [v27.2.2.1]).bind λv32 =>
 ((push? (α:=ak_) v27.2.1 [v28.2.2.2.2]).bind λv33 =>
 (some (v32,(v33,())))))
 (some (v27.1,(v27.2.1,()))))))).bind λv34 =>
 (some (inl (v34.1,(v34.2.1,((w64 (v27.2.2.1+1)),()))))))
 (some (inr (v27.1,(v27.2.1,())))))) ([],([],(0,())))).bind λv35 =>
 ((at? a0.2.1 v26.2.2.1).bind λv36 =>
 ((ct_ v36 v35.2.1).bind λv37 =>
 (((cond (v37.2.1==0)
 (some ((decide (v37.1≤a0.2.2.2.2)),()))
 (some (false,())))).bind λv38 =>
 (cond v38.1
 (some ((hh_ (hh_ v24.2.1 v26.2.2.1 2) v26.2.2.1 1),()))
 (some ((hh_ v24.2.1 v26.2.2.1 2),())))))))
 (some (v24.2.1,())))).bind λv39 =>
 (some ((!((da_ 0 v39.1 v26.2.2.1)==1)),(v39.1,()))))))
 (some (false,(v24.2.1,())))))
 (some (false,(v24.2.1,()))))).bind λv40 =>
 (cond v40.1
 (some ((!false),(v6,(v40.2.1,((a1.1.1,(a1.1.2.1,(a1.1.2.2,()))),())))))
 ((dz_ a0.1 a1.1 v5).bind λv41 =>
 (cond (v41.2.1 != 0)
 (some ((!false),(v6,(v40.2.1,((a1.1.1,(a1.1.2.1,(a1.1.2.2,()))),())))))
 ((ag_ (ρ:=((List Bool)×((List ab_)×Unit))) (λ(v42:(Int×((List Bool)×((List ab_)×Unit)))) =>
 (cond (decide (v42.1<(a0.2.2.2.1.length:Int)))
 ((((at? a0.2.2.2.1 v42.1).bind λv43 =>
 ((eg_ a0.1 v41.1 v43.2.2.2.1).bind λv44 =>
 (((cond v44.1
 ((bg_ v41.1.2.2 v43.2.1).bind λv45 =>
 (cond v45.1
 ((at? v42.2.1 v42.1).bind λv46 =>
 ((at? v42.2.1 v42.1).bind λv47 =>
 (some ((!v47),()))))
 (some (false,()))))
 (some (false,())))).bind λv48 =>
 (cond v48.1
 ((at? v42.2.1 v42.1).bind λv49 =>
 ((at? v42.2.1 v42.1).bind λv50 =>
 (some ((v42.2.1.set v42.1.toNat true),((xp_ v42.2.2.1 v43.2.2.1),())))))
 (some (v42.2.1,(v42.2.2.1,())))))))).bind λv51 =>
 (some (inl ((w64 (v42.1+1)),(v51.1,(v51.2.1,()))))))
 (some (inr (v42.2.1,(v42.2.2.1,())))))) (0,(v6,(v40.2.1,())))).bind λv52 =>
 (some ((!true),(v52.1,(v52.2.1,((v41.1.1,(v41.1.2.1,(v41.1.2.2,()))),()))))))))))).bind λv53 =>
 (cond v53.1
 (some (false,(v24.1,())))
 (some (true,(v24.1,())))))))).bind λv54 =>
 (cond v54.1
 ((push? (α:=ad_) v4.1 [v5]).bind λv55 =>
 (some (v55,(v54.2.1,()))))
 (some (v4.1,(v54.2.1,()))))))).bind λv56 =>
 (some (inl (v56.1,((w64 (v4.2.1+1)),(v56.2.1,()))))))
 (some (inr (v4.1,(v4.2.2.1,())))))) ([],(0,([],())))).bind λv57 =>
 (some (v57.1,(0,())))))))))
theorem x_94:av_ cx_94 an_94 94 [an_,aj_] [(.list aq_),.int]=λx=>pj_ x.1 x.2.1:=by kernel_rfl
noncomputable def c_94:Con Tryz.prog:=aw_ _ _ 94 [an_,aj_] [(.list aq_),.int] _ x_94
def an_14:An:=(.p .z (.p .z (.p .z (.p .z (.p (.p .z (.ls [.v 28 .int] [] [.o (.c (.s 9) 15) .bool,.m (.c (.s 9) 16) .int .int,.b (.s 6) [.val (.list .int),.val (.list .int),.val (.list .int),.val (.list .bool)],.b (.s 9) [.keep,.keep,.keep,.keep,.keep,.keep,.keep,.keep,.keep,.keep,.keep,.keep,.val (.list .int),.val (.list .int),.val (.list .int),.keep,.keep]] 0 (.p .z (.p .z (.p (.p .z (.j0 [.v 36 .bool,.o (.c (.s 9) 15) .bool,.m (.c (.s 9) 16) .int .int,.b (.s 9) [.keep,.keep,.keep,.keep,.keep,.keep,.keep,.keep,.keep,.keep,.keep,.keep,.val (.list .int),.val (.list .int),.val (.list .int),.keep,.keep]] .z .z)) .z))))) .z)))))
def at_14:FuncId→An:=λk=>cond (Nat.beq k 41) (.p .z (.lp [.v 12 .int] [] [.o (.c (.s 0) 15) .bool,.m (.c (.s 0) 16) .int .int] 0 (.p .z (.p .z (.j0 [.o (.c (.s 0) 15) .bool,.m (.c (.s 0) 16) .int .int] (.p .z (.p .z (.j0 [.v 55 .bool] .z .z))) .z))))) (cond (Nat.beq k 44) (.p .z (.p (.j0 [.v 38 .bool,.m (.c (.s 0) 16) .int .int] .z .z) .z)) (cond (Nat.beq k 89) (.p .z (.p .z (.j0 [.m (.c (.s 0) 16) .int .int] (.p .z (.p (.p .z (.p .z (.j0 [.v 37 .bool] .z .z))) .z)) .z))) (cond (Nat.beq k 162) (.p .z (.p (.p .z (.lp [.r 6 .int 3,.r 7 ap_ 94,.v 13 .int] [.r 6 .int 3,.r 7 ap_ 94] [] 0 (.p .z (.p .z (.j0 [.r 6 .int 3,.r 7 ap_ 94] (.p .z (.j0 [.v 26 .bool] .z .z)) .z))))) .z)) (.z))))
noncomputable def cs_14:List (Con Tryz.prog):=[c_81,c_84,c_85,c_88,c_90,c_164]
noncomputable def cl_14:List (Cpy Tryz.prog):=[al3,ck2]
noncomputable def cx_14:Cx Tryz.prog:=cxI at_14 (λk=>Nat.beq k 81||Nat.beq k 84||Nat.beq k 85||Nat.beq k 86||Nat.beq k 87||Nat.beq k 88||Nat.beq k 90||Nat.beq k 164||false) (cxC cs_14 cl_14) 9
noncomputable def ju_ (a0:ac_) (a1:aa_) (a2:(List ad_)):Option (aa_×Int×Int×Unit) :=
 ((dh_ a0 a1).bind λv0 =>
 (cond (v0.1 != 0)
 (cond (v0.1 != 0)
 (some ((([],([],[])),[]),(0,(v0.1,()))))
 (cond (decide (500<(a2.length:Int)))
 (some ((([],([],[])),[]),(0,(2,()))))
 none))
 ((push? (α:=Bool) [] a1.2).bind λv1 =>
 (cond (decide (500<(a2.length:Int)))
 (some ((([],([],[])),[]),(0,(2,()))))
 ((ag_ (ρ:=(((List Bool)×((List ab_)×(((List Int)×((List Int)×((List Int)×((List Bool)×Unit))))×(((List Int)×((List Int)×((List Int)×Unit)))×Unit))))⊕(aa_×(Int×(Int×Unit))))) (λ(v2:(Int×((List Bool)×((List ab_)×(((List Int)×((List Int)×((List Int)×((List Bool)×Unit))))×(((List Int)×((List Int)×((List Int)×Unit)))×Unit)))))) =>
 (cond (decide (v2.1<(a2.length:Int)))
 ((at? a2 v2.1).bind λv3 =>
 (((((cond (v3.2.1==4)
 ((bp_ v3.2.2 0 (w64 ((a0.1.2.2.2.2.1.length:Int) - 1))).bind λv4 =>
 (cond v4.1
 ((at? a0.1.2.2.2.2.1 v3.2.2).bind λv5 =>
 (cond (decide (v5.2.2.1<0))
 (some ((!true),(v2.2.2.1,())))
 (((cond ((da_ 0 v2.2.2.1 v5.2.2.1)==0)
 ((ag_ (ρ:=((List Int)×((List ak_)×Unit))) (λ(v6:((List Int)×((List ak_)×(Int×Unit)))) =>
 (cond (decide (v6.2.2.1<(a0.2.2.2.1.length:Int)))
 ((((at? a0.2.2.2.1 v6.2.2.1).bind λv7 =>
 (((cond (v7.2.2.1==v5.2.2.1)
 ((at? v2.2.1 v6.2.2.1).bind λv8 =>
 ((at? v2.2.1 v6.2.2.1).bind λv9 =>
 (some (v9,()))))
 (some (false,())))).bind λv10 =>
 (cond v10.1
 ((push? (α:=Int) v6.1 [v6.2.2.1]).bind λv11 =>
 ((push? (α:=ak_) v6.2.1 [v7.2.2.2.2]).bind λv12 =>
 (some (v11,(v12,())))))
 (some (v6.1,(v6.2.1,()))))))).bind λv13 =>
 (some (inl (v13.1,(v13.2.1,((w64 (v6.2.2.1+1)),()))))))
 (some (inr (v6.1,(v6.2.1,())))))) ([],([],(0,())))).bind λv14 =>
 ((at? a0.2.1 v5.2.2.1).bind λv15 =>
 ((ct_ v15 v14.2.1).bind λv16 =>
 (((cond (v16.2.1==0)
 (some ((decide (v16.1≤a0.2.2.2.2)),()))
 (some (false,())))).bind λv17 =>
 (cond v17.1
 (some ((hh_ (hh_ v2.2.2.1 v5.2.2.1 2) v5.2.2.1 1),()))
 (some ((hh_ v2.2.2.1 v5.2.2.1 2),())))))))
 (some (v2.2.2.1,())))).bind λv18 =>
 (some ((!((da_ 0 v18.1 v5.2.2.1)==1)),(v18.1,()))))))
 (some (false,(v2.2.2.1,())))))
 (some (false,(v2.2.2.1,()))))).bind λv19 =>
 (cond v19.1
 (some ((!false),(v2.2.1,(v19.2.1,((v2.2.2.2.2.1.1,(v2.2.2.2.2.1.2.1,(v2.2.2.2.2.1.2.2.1,()))),())))))
 ((dz_ a0.1 (v2.2.2.2.2.1.1,(v2.2.2.2.2.1.2.1,v2.2.2.2.2.1.2.2.1)) v3).bind λv20 =>
 (cond (v20.2.1 != 0)
 (some ((!false),(v2.2.1,(v19.2.1,((v2.2.2.2.2.1.1,(v2.2.2.2.2.1.2.1,(v2.2.2.2.2.1.2.2.1,()))),())))))
 ((ag_ (ρ:=((List Bool)×((List ab_)×Unit))) (λ(v21:(Int×((List Bool)×((List ab_)×Unit)))) =>
 (cond (decide (v21.1<(a0.2.2.2.1.length:Int)))
 ((((at? a0.2.2.2.1 v21.1).bind λv22 =>
 ((eg_ a0.1 v20.1 v22.2.2.2.1).bind λv23 =>
 (((cond v23.1
 ((bg_ v20.1.2.2 v22.2.1).bind λv24 =>
 (cond v24.1
 ((at? v21.2.1 v21.1).bind λv25 =>
 ((at? v21.2.1 v21.1).bind λv26 =>
 (some ((!v26),()))))
 (some (false,()))))
 (some (false,())))).bind λv27 =>
 (cond v27.1
 ((at? v21.2.1 v21.1).bind λv28 =>
 ((at? v21.2.1 v21.1).bind λv29 =>
 (some ((v21.2.1.set v21.1.toNat true),((xp_ v21.2.2.1 v22.2.2.1),())))))
 (some (v21.2.1,(v21.2.2.1,())))))))).bind λv30 =>
 (some (inl ((w64 (v21.1+1)),(v30.1,(v30.2.1,()))))))
 (some (inr (v21.2.1,(v21.2.2.1,())))))) (0,(v2.2.1,(v19.2.1,())))).bind λv31 =>
 (some ((!true),(v31.1,(v31.2.1,((v20.1.1,(v20.1.2.1,(v20.1.2.2,()))),()))))))))))).bind λv32 =>
 (cond v32.1
 (some (inr (inr ((([],([],[])),[]),(v2.1,(29,()))))))
 (some (inl ((w64 (v2.1+1)),(v32.2.1,(v32.2.2.1,((v2.2.2.2.1.1,(v2.2.2.2.1.2.1,(v2.2.2.2.1.2.2.1,(v2.2.2.2.1.2.2.2.1,())))),((v32.2.2.2.1.1,(v32.2.2.2.1.2.1,(v32.2.2.2.1.2.2.1,()))),()))))))))))
 (some (inr (inl (v2.2.1,(v2.2.2.1,((v2.2.2.2.1.1,(v2.2.2.2.1.2.1,(v2.2.2.2.1.2.2.1,(v2.2.2.2.1.2.2.2.1,())))),((v2.2.2.2.2.1.1,(v2.2.2.2.2.1.2.1,(v2.2.2.2.2.1.2.2.1,()))),()))))))))) (0,(v1,([],(([],([],([],([],())))),((a1.1.1,(a1.1.2.1,(a1.1.2.2,()))),())))))).bind λv33 =>
 (ca_ v33 (λv34=>((push? (α:=Int) [] v34.2.2.2.1.1).bind λv36 =>
 ((push? (α:=Int) [] v34.2.2.2.1.2.1).bind λv37 =>
 ((push? (α:=Int) [] v34.2.2.2.1.2.2.1).bind λv38 =>
 ((push? (α:=Bool) [] v34.1).bind λv39 =>
 (some (((v36,(v37,v38)),v39),(0,(0,())))))))))
 (λv35=>(some v35))))))))
theorem x_14:av_ cx_14 an_14 14 [an_,aj_,(.list aq_)] [aj_,.int,.int]=λx=>ju_ x.1 x.2.1 x.2.2.1:=by kernel_rfl
noncomputable def c_14:Con Tryz.prog:=aw_ _ _ 14 [an_,aj_,(.list aq_)] [aj_,.int,.int] _ x_14
end
section
set_option maxRecDepth 100000
set_option maxHeartbeats 0
def an_22:An:=(.p .z (.p .z (.p .z (.p .z (.p .z (.p (.p .z (.ls [.v 8 .int] [] [.m (.s 7) .str .int,.b (.s 2) [.val (.list aj_),.val (.list (.list cw_))],.b (.s 6) [.row aj_ 50,.row (.list cw_) 84]] 0 (.p .z (.p (.p .z (.p .z (.p (.p .z (.ls [.r 10 cw_ 86,.v 11 .int] [.r 10 cw_ 86] [.m (.s 7) .str .int,.b (.s 2) [.val (.list aj_),.val (.list (.list cw_))],.b (.s 6) [.row aj_ 50,.keep]] 2 (.p .z (.p (.p .z (.p .z (.js [.v 13 .int,.m (.s 7) .str .int,.b (.s 2) [.val (.list aj_),.val (.list (.list cw_))],.b (.s 6) [.row aj_ 50,.keep]] .z .z))) .z)))) .z))) .z)))) .z))))))
noncomputable def cs_22:List (Con Tryz.prog):=[c_52,c_53,c_54,c_55]
noncomputable def cl_22:List (Cpy Tryz.prog):=[]
noncomputable def cx_22:Cx Tryz.prog:=cxC cs_22 cl_22
noncomputable def ff_ (a0:ac_):Option (cf_×Int×Unit) :=
 ((ji_ a0).bind λv0 =>
 (cond (v0.2.1 != 0)
 (some (([],[]),(v0.2.1,())))
 ((hw_ v0.1).bind λv1 =>
 ((ag_ (ρ:=(((List ((List UInt8)×Int))×(((List aa_)×((List (List ae_))×Unit))×(((List aa_)×((List (List ae_))×Unit))×Unit)))⊕(cf_×(Int×Unit)))) (λ(v2:(Int×((List ((List UInt8)×Int))×(((List aa_)×((List (List ae_))×Unit))×(((List aa_)×((List (List ae_))×Unit))×Unit))))) =>
 (cond (decide (v2.1<(v2.2.2.2.1.1.length:Int)))
 ((at? v2.2.2.2.1.1 v2.1).bind λv3 =>
 ((at? v2.2.2.2.1.1 v2.1).bind λv4 =>
 ((jh_ a0 v4).bind λv5 =>
 ((ag_ (ρ:=(((List ae_)×((List ((List UInt8)×Int))×(((List aa_)×((List (List ae_))×Unit))×(((List aa_)×Unit)×Unit))))⊕((Int×((List ((List UInt8)×Int))×(((List aa_)×((List (List ae_))×Unit))×(((List aa_)×((List (List ae_))×Unit))×Unit))))⊕(((List ((List UInt8)×Int))×(((List aa_)×((List (List ae_))×Unit))×(((List aa_)×((List (List ae_))×Unit))×Unit)))⊕(cf_×(Int×Unit)))))) (λ(v6:((List ae_)×(Int×((List ((List UInt8)×Int))×(((List aa_)×((List (List ae_))×Unit))×(((List aa_)×Unit)×Unit)))))) =>
 (cond (decide (v6.2.1<(v5.1.length:Int)))
 ((at? v6.2.2.2.2.1.1 v2.1).bind λv7 =>
 ((at? v6.2.2.2.2.1.1 v2.1).bind λv8 =>
 ((at? v5.1 v6.2.1).bind λv9 =>
 ((la_ a0 v8 v9).bind λv10 =>
 ((hw_ v10.1).bind λv11 =>
 (((cond (!(ax6 v6.2.2.1 v11.1))
 (cond ((v6.2.2.2.2.1.1.length:Int)==3000)
 (some (inr (inr (inr (inr (inr (([],[]),(2,()))))))))
 ((hw_ v10.1).bind λv12 =>
 ((push? (α:=aa_) v6.2.2.2.2.1.1 [v10.1]).bind λv13 =>
 (some (inl ((v6.2.2.2.2.1.1.length:Int),((hh_ v6.2.2.1 v12.1 (v6.2.2.2.2.1.1.length:Int)),((v6.2.2.2.1.1,(v6.2.2.2.1.2.1,())),((v13,()),())))))))))
 (some (inl ((da_ 0 v6.2.2.1 v11.1),(v6.2.2.1,((v6.2.2.2.1.1,(v6.2.2.2.1.2.1,())),((v6.2.2.2.2.1.1,()),())))))))).bind λv14 =>
 (ca_ v14 (λv15=>((at? v5.1 v6.2.1).bind λv17 =>
 ((push? (α:=ae_) v6.1 [(v17,v15.1)]).bind λv18 =>
 (some (inl (v18,((w64 (v6.2.1+1)),(v15.2.1,((v15.2.2.1.1,(v15.2.2.1.2.1,())),((v15.2.2.2.1.1,()),()))))))))))
 (λv16=>(some v16)))))))))
 (some (inr (inl (v6.1,(v6.2.2.1,((v6.2.2.2.1.1,(v6.2.2.2.1.2.1,())),((v6.2.2.2.2.1.1,()),()))))))))) ([],(0,(v2.2.1,((v2.2.2.1.1,(v2.2.2.1.2.1,())),((v2.2.2.2.1.1,()),())))))).bind λv19 =>
 (ca_ v19 (λv20=>((push? (α:=(List ae_)) v2.2.2.2.1.2.1 [v20.1]).bind λv22 =>
 (some (inl ((w64 (v2.1+1)),(v20.2.1,((v20.2.2.1.1,(v20.2.2.1.2.1,())),((v20.2.2.2.1.1,(v22,())),()))))))))
 (λv21=>(some v21)))))))
 (some (inr (inl (v2.2.1,((v2.2.2.1.1,(v2.2.2.1.2.1,())),((v2.2.2.2.1.1,(v2.2.2.2.1.2.1,())),())))))))) (0,((hh_ [] v1.1 0),(([],([],())),(([v0.1],([],())),()))))).bind λv23 =>
 (ca_ v23 (λv24=>(some ((v24.2.2.1.1,v24.2.2.1.2.1),(0,()))))
 (λv25=>(some v25)))))))
theorem x_22:av_ cx_22 an_22 22 [an_] [mh_,.int]=λx=>ff_ x.1:=by kernel_rfl
noncomputable def c_22:Con Tryz.prog:=aw_ _ _ 22 [an_] [mh_,.int] _ x_22
def an_47:An:=(.p .z (.p .z (.p .z (.p .z (.j0 [.m (.s 26) .str .int,.b (.s 6) [.row aj_ 50,.keep,.keep]] .z (.p (.p .z (.ls [.v 7 .int] [] [.m (.s 26) .str .int,.b (.s 2) [.val (.list aj_),.val (.list (.list cw_))],.b (.s 6) [.row aj_ 50,.row (.list cw_) 84,.keep]] 0 (.p .z (.p (.p .z (.p .z (.p .z (.p (.p .z (.ls [.r 10 cw_ 86,.v 61 .int] [.r 10 cw_ 86] [.m (.s 26) .str .int,.b (.s 2) [.val (.list aj_),.val (.list (.list cw_))],.b (.s 6) [.row aj_ 50,.keep,.keep]] 2 (.p .z (.p .z (.p (.p .z (.p .z (.p .z (.j0 [.v 15 .int,.v 16 .bool,.m (.s 26) .str .int,.b (.s 6) [.row aj_ 50,.keep,.keep]] .z .z)))) .z))))) .z)))) .z)))) .z))))))
def at_47:FuncId→An:=λk=>.z
noncomputable def cs_47:List (Con Tryz.prog):=[c_13,c_17,c_94,c_151]
noncomputable def cl_47:List (Cpy Tryz.prog):=[]
noncomputable def cx_47:Cx Tryz.prog:=cxI at_47 (λk=>Nat.beq k 13||Nat.beq k 17||Nat.beq k 94||Nat.beq k 151||false) (cxC cs_47 cl_47) 2
noncomputable def ck_ (a0:ac_):Option (cf_×Int×Unit) :=
 ((ip_ a0).bind λv0 =>
 (cond (v0.2.1 != 0)
 (some (([],[]),(v0.2.1,())))
 ((((kg_ v0.1).bind λv1 =>
 (some ((hh_ [] v1.1 0),((([]++[v0.1]),()),()))))).bind λv2 =>
 ((ag_ (ρ:=(((List ((List UInt8)×Int))×(((List aa_)×((List (List ae_))×Unit))×(((List aa_)×((List (List ae_))×Unit))×Unit)))⊕(cf_×(Int×Unit)))) (λ(v3:(Int×((List ((List UInt8)×Int))×(((List aa_)×((List (List ae_))×Unit))×(((List aa_)×((List (List ae_))×Unit))×Unit))))) =>
 (cond (decide (v3.1<(v3.2.2.2.1.1.length:Int)))
 ((at? v3.2.2.2.1.1 v3.1).bind λv4 =>
 ((at? v3.2.2.2.1.1 v3.1).bind λv5 =>
 ((pj_ a0 v5).bind λv6 =>
 (cond (v6.2.1 != 0)
 (some (inr (inr (([],[]),(v6.2.1,())))))
 ((ag_ (ρ:=(((List ae_)×((List ((List UInt8)×Int))×(((List aa_)×((List (List ae_))×Unit))×(((List aa_)×Unit)×Unit))))⊕((Int×((List ((List UInt8)×Int))×(((List aa_)×((List (List ae_))×Unit))×(((List aa_)×((List (List ae_))×Unit))×Unit))))⊕(((List ((List UInt8)×Int))×(((List aa_)×((List (List ae_))×Unit))×(((List aa_)×((List (List ae_))×Unit))×Unit)))⊕(cf_×(Int×Unit)))))) (λ(v7:((List ae_)×(Int×((List ((List UInt8)×Int))×(((List aa_)×((List (List ae_))×Unit))×(((List aa_)×Unit)×Unit)))))) =>
 (cond (decide (v7.2.1<(v6.1.length:Int)))
 ((at? v6.1 v7.2.1).bind λv8 =>
 ((at? v7.2.2.2.2.1.1 v3.1).bind λv9 =>
 ((at? v7.2.2.2.2.1.1 v3.1).bind λv10 =>
 ((hy_ a0 v10 v8).bind λv11 =>
 (cond (v11.2.1 != 0)
 (some (inr (inr (inr (inr (([],[]),(v11.2.1,())))))))
 ((((kg_ v11.1).bind λv12 =>
 (cond (ax6 v7.2.2.1 v12.1)
 (some ((da_ 0 v7.2.2.1 v12.1),(true,(v7.2.2.1,((v7.2.2.2.2.1.1,()),())))))
 (cond ((v7.2.2.2.2.1.1.length:Int)==3000)
 (some (0,(false,(v7.2.2.1,((v7.2.2.2.2.1.1,()),())))))
 ((push? (α:=aa_) v7.2.2.2.2.1.1 [v11.1]).bind λv13 =>
 (some ((v7.2.2.2.2.1.1.length:Int),(true,((hh_ v7.2.2.1 v12.1 (v7.2.2.2.2.1.1.length:Int)),((v13,()),())))))))))).bind λv14 =>
 (cond (!v14.2.1)
 (some (inr (inr (inr (inr (([],[]),(2,())))))))
 ((push? (α:=ae_) v7.1 [(v8,v14.1)]).bind λv15 =>
 (some (inl (v15,((w64 (v7.2.1+1)),(v14.2.2.1,((v7.2.2.2.1.1,(v7.2.2.2.1.2.1,())),((v14.2.2.2.1.1,()),())))))))))))))))
 (some (inr (inl (v7.1,(v7.2.2.1,((v7.2.2.2.1.1,(v7.2.2.2.1.2.1,())),((v7.2.2.2.2.1.1,()),()))))))))) ([],(0,(v3.2.1,((v3.2.2.1.1,(v3.2.2.1.2.1,())),((v3.2.2.2.1.1,()),())))))).bind λv16 =>
 (ca_ v16 (λv17=>((push? (α:=(List ae_)) v3.2.2.2.1.2.1 [v17.1]).bind λv19 =>
 (some (inl ((w64 (v3.1+1)),(v17.2.1,((v17.2.2.1.1,(v17.2.2.1.2.1,())),((v17.2.2.2.1.1,(v19,())),()))))))))
 (λv18=>(some v18))))))))
 (some (inr (inl (v3.2.1,((v3.2.2.1.1,(v3.2.2.1.2.1,())),((v3.2.2.2.1.1,(v3.2.2.2.1.2.1,())),())))))))) (0,(v2.1,(([],([],())),((v2.2.1.1,([],())),()))))).bind λv20 =>
 (ca_ v20 (λv21=>(some ((v21.2.2.1.1,v21.2.2.1.2.1),(0,()))))
 (λv22=>(some v22)))))))
theorem x_47:av_ cx_47 an_47 47 [an_] [mh_,.int]=λx=>ck_ x.1:=by kernel_rfl
noncomputable def c_47:Con Tryz.prog:=aw_ _ _ 47 [an_] [mh_,.int] _ x_47
end
section
set_option maxRecDepth 100000
set_option maxHeartbeats 0
def an_7:An:=(.p .z (.p .z (.p (.j0 [.v 14 .bool] .z .z) (.p (.j0 [.v 61 .bool] .z .z) .z))))
noncomputable def cs_7:List (Con Tryz.prog):=[c_22,c_30,c_31]
noncomputable def cl_7:List (Cpy Tryz.prog):=[]
noncomputable def cx_7:Cx Tryz.prog:=cxC cs_7 cl_7
noncomputable def jn_ (a0:ac_):Option (Bool×Unit) :=
 ((((ki_ a0).bind λv0 =>
 (cond v0.1
 (some (true,()))
 ((fq_ a0).bind λv1 =>
 (some ((v1.1 != 0),())))))).bind λv2 =>
 (cond v2.1
 ((ki_ a0).bind λv3 =>
 (some (v3.1,())))
 (((cond (decide (4<(a0.1.1.length:Int)))
 (some (true,()))
 (cond (decide (4<(a0.1.2.1.length:Int)))
 (some (true,()))
 (cond (decide (3<(a0.1.2.2.1.length:Int)))
 (some (true,()))
 (cond (decide (2<a0.1.2.2.2.2.2.2.1))
 (some (true,()))
 (cond (decide (6<(a0.1.2.2.2.2.1.length:Int)))
 (some (true,()))
 (cond (decide (4<(a0.1.2.2.2.2.2.1.length:Int)))
 (some (true,()))
 (cond (decide (5<(a0.2.2.2.1.length:Int)))
 (some (true,()))
 (some ((decide (3<(a0.2.1.length:Int))),())))))))))).bind λv4 =>
 (cond v4.1
 (some (true,()))
 ((ff_ a0).bind λv5 =>
 (cond (v5.2.1==2)
 (some (true,()))
 (some ((decide (200<(v5.1.1.length:Int))),()))))))))
theorem x_7:av_ cx_7 an_7 7 [an_] [.bool]=λx=>jn_ x.1:=by kernel_rfl
noncomputable def c_7:Con Tryz.prog:=aw_ _ _ 7 [an_] [.bool] _ x_7
def an_18:An:=.z
def at_18:FuncId→An:=λk=>cond (Nat.beq k 46) (.p .z (.p (.p .z (.lp [.a 3 .int 3] [] [.b (.s 2) [.row aq_ 59]] 0 (.p .z (.j0 [.o (.s 3) .int,.b (.s 2) [.row aq_ 59]] (.p .z (.rf [2,3] .z .z)) .z)))) .z)) (cond (Nat.beq k 49) (.p .z (.p .z (.p .z (.p (.p .z (.lp [.r 8 .int 3,.v 33 .int] [.r 8 .int 3] [.o (.s 27) .int] 0 (.p .z (.p .z (.j0 [.r 8 .int 3,.o (.s 27) .int] (.p .z (.p .z (.j0 [.v 50 .bool] .z .z))) .z))))) (.p .z (.p (.p .z (.lp [.v 69 .int] [] [.g (.s 13) (.list .int)] 2 (.p .z (.p .z (.p (.p .z (.p .z (.lp [.v 76 .int] [] [.g (.s 13) (.list .int)] 4 (.p .z (.p .z (.j0 [.g (.s 13) (.list .int)] .z .z)))))) .z))))) (.q [(.s 13)] (.lp [.r 8 .int 3] [] [.o (.s 27) .int] 6 (.p .z (.p .z (.p .z (.p .z (.lp [.r 8 .int 3,.v 110 .int] [.r 8 .int 3] [.o (.s 27) .int] 8 (.p .z (.p .z (.j0 [.r 8 .int 3,.o (.s 27) .int] .z .z))))))))) .z))))))) (cond (Nat.beq k 150) (.p .z (.ls [.v 15 .int] [] [.o (.y (.s 0) 3) .int,.y (.s 0),.b (.y (.s 0) 2) [.row aq_ 59]] 0 (.p .z (.p .z (.p (.p .z (.p (.sp 38 41) .z)) .z))))) (.z)))
noncomputable def cs_18:List (Con Tryz.prog):=[c_47,c_73,c_98]
noncomputable def cl_18:List (Cpy Tryz.prog):=[]
noncomputable def cx_18:Cx Tryz.prog:=cxI at_18 (λk=>Nat.beq k 47||Nat.beq k 73||Nat.beq k 97||Nat.beq k 98||false) (cxR [rp_97] cs_18 cl_18) 8
noncomputable def dw_ (a0:ac_):Option ((List ad_)×Int×Unit) :=
 ((ck_ a0).bind λv0 =>
 (cond (v0.2.1 != 0)
 (cond (v0.2.1 != 0)
 (some ([],(v0.2.1,())))
 none)
 ((cu_ [(-1)] (v0.1.1.length:Int)).bind λv1 =>
 ((ag_ (ρ:=((List Int)×((List Int)×Unit))) (λ(v2:((List Int)×(Int×((List Int)×Unit)))) =>
 (cond (decide (v2.2.1<(v0.1.1.length:Int)))
 ((((at? v0.1.1 v2.2.1).bind λv3 =>
 ((fd_ a0.1 v3.1).bind λv4 =>
 (((cond (v4.2.1==0)
 (some (v4.1,()))
 (some (false,())))).bind λv5 =>
 (cond v5.1
 ((at? v2.2.2.1 v2.2.1).bind λv6 =>
 ((at? v2.2.2.1 v2.2.1).bind λv7 =>
 ((push? (α:=Int) v2.1 [v2.2.1]).bind λv8 =>
 (some (v8,((v2.2.2.1.set v2.2.1.toNat 0),()))))))
 (some (v2.1,(v2.2.2.1,())))))))).bind λv9 =>
 (some (inl (v9.1,((w64 (v2.2.1+1)),(v9.2.1,()))))))
 (some (inr (v2.1,(v2.2.2.1,())))))) ([],(0,(v1,())))).bind λv10 =>
 ((mk? (α:=(List Int)) (v0.1.1.length:Int) []).bind λv11 =>
 ((ag_ (ρ:=((List (List Int))×Unit)) (λ(v12:(Int×((List (List Int))×Unit))) =>
 (cond (decide (v12.1<(v0.1.2.length:Int)))
 ((at? v0.1.2 v12.1).bind λv13 =>
 ((ag_ (ρ:=((List (List Int))×Unit)) (λ(v14:(Int×((List (List Int))×Unit))) =>
 (cond (decide (v14.1<(v13.length:Int)))
 ((((at? v13 v14.1).bind λv15 =>
 ((at? v14.2.1 v15.2).bind λv16 =>
 ((at? v14.2.1 v15.2).bind λv17 =>
 ((push? (α:=Int) v17 [v12.1]).bind λv18 =>
 ((at? v14.2.1 v15.2).bind λv19 =>
 (cond ((v15.2==v15.2)&&true)
 ((at? v14.2.1 v15.2).bind λv20 =>
 (some ((v14.2.1.set v15.2.toNat v18),())))
 none))))))).bind λv21 =>
 (some (inl ((w64 (v14.1+1)),(v21.1,())))))
 (some (inr (v14.2.1,()))))) (0,(v12.2.1,()))).bind λv22 =>
 (some (inl ((w64 (v12.1+1)),(v22.1,()))))))
 (some (inr (v12.2.1,()))))) (0,(v11,()))).bind λv23 =>
 ((ag_ (ρ:=((List Int)×Unit)) (λ(v24:((List Int)×((List Int)×Unit))) =>
 (cond (decide (0<(v24.1.length:Int)))
 ((at? v24.1 0).bind λv25 =>
 ((at? v24.1 0).bind λv26 =>
 ((sub? v24.1 1 (v24.1.length:Int)).bind λv27 =>
 ((at? v23.1 v26).bind λv28 =>
 ((ag_ (ρ:=((List Int)×((List Int)×Unit))) (λ(v29:((List Int)×(Int×((List Int)×Unit)))) =>
 (cond (decide (v29.2.1<(v28.length:Int)))
 ((((at? v28 v29.2.1).bind λv30 =>
 ((at? v29.2.2.1 v30).bind λv31 =>
 ((at? v29.2.2.1 v30).bind λv32 =>
 (cond (decide (v32<0))
 ((at? v29.2.2.1 v26).bind λv33 =>
 ((at? v29.2.2.1 v26).bind λv34 =>
 ((at? v29.2.2.1 v30).bind λv35 =>
 ((at? v29.2.2.1 v30).bind λv36 =>
 ((push? (α:=Int) v29.1 [v30]).bind λv37 =>
 (some (v37,((v29.2.2.1.set v30.toNat (w64 (v34+1))),()))))))))
 (some (v29.1,(v29.2.2.1,())))))))).bind λv38 =>
 (some (inl (v38.1,((w64 (v29.2.1+1)),(v38.2.1,()))))))
 (some (inr (v29.1,(v29.2.2.1,())))))) (v27,(0,(v24.2.1,())))).bind λv39 =>
 (some (inl (v39.1,(v39.2.1,())))))))))
 (some (inr (v24.2.1,()))))) (v10.1,(v10.2.1,()))).bind λv40 =>
 ((at? v40.1 0).bind λv41 =>
 ((at? v40.1 0).bind λv42 =>
 (cond (decide (v42<0))
 (some ([],(50,())))
 ((ag_ (ρ:=(((List ad_)×Unit)×Unit)) (λ(v43:(Int×(((List ad_)×Unit)×Unit))) =>
 ((at? v40.1 v43.1).bind λv44 =>
 ((at? v40.1 v43.1).bind λv45 =>
 (cond (decide (0<v45))
 ((((at? v0.1.2 v43.1).bind λv46 =>
 ((ag_ (ρ:=(((List Int)×(Unit×(((List ad_)×Unit)×Unit)))⊕((List Int)×(((List ad_)×Unit)×Unit)))) (λ(v47:(Int×((List Int)×(Unit×(((List ad_)×Unit)×Unit))))) =>
 (cond (decide (v47.1<(v46.length:Int)))
 ((at? v46 v47.1).bind λv48 =>
 ((at? v40.1 v48.2).bind λv49 =>
 ((at? v40.1 v48.2).bind λv50 =>
 ((at? v40.1 v43.1).bind λv51 =>
 ((at? v40.1 v43.1).bind λv52 =>
 (cond (v50==(w64 (v52 - 1)))
 ((at? v40.1 v43.1).bind λv53 =>
 ((at? v40.1 v43.1).bind λv54 =>
 (cond (decide (0<v54))
 ((push? (α:=ad_) v47.2.2.2.1.1 [v48.1]).bind λv55 =>
 ((at? v47.2.1 0).bind λv56 =>
 (some (inr (inr ((v47.2.1.set (0:Int).toNat v48.2),((v55,()),())))))))
 (some (inl ((w64 (v47.1+1)),(v47.2.1,((),((v47.2.2.2.1.1,()),())))))))))
 (some (inl ((w64 (v47.1+1)),(v47.2.1,((),((v47.2.2.2.1.1,()),()))))))))))))
 (some (inr (inl (v47.2.1,((),((v47.2.2.2.1.1,()),())))))))) (0,([v43.1],((),((v43.2.1.1,()),()))))).bind λv57 =>
 (ca_ v57 (λv58=>(some (v58.1,((v58.2.2.1.1,()),()))))
 (λv59=>(some v59)))))).bind λv60 =>
 ((at? v60.1 0).bind λv61 =>
 (some (inl (v61,((v60.2.1.1,()),()))))))
 (some (inr ((v43.2.1.1,()),()))))))) (0,(([],()),()))).bind λv62 =>
 (some (v62.1.1,(0,()))))))))))))))
theorem x_18:av_ cx_18 an_18 18 [an_] [(.list aq_),.int]=λx=>dw_ x.1:=by kernel_rfl
noncomputable def c_18:Con Tryz.prog:=aw_ _ _ 18 [an_] [(.list aq_),.int] _ x_18
def an_19:An:=(.p .z (.p .z (.p .z (.p .z (.p (.sp 4 6) .z)))))
def at_19:FuncId→An:=λk=>cond (Nat.beq k 46) (.p .z (.p (.p .z (.lp [.a 3 .int 3] [] [.b (.s 2) [.row aq_ 59]] 0 (.p .z (.j0 [.o (.s 3) .int,.b (.s 2) [.row aq_ 59]] (.p .z (.rf [2,3] .z .z)) .z)))) .z)) (cond (Nat.beq k 49) (.p .z (.p .z (.p .z (.p (.p .z (.lp [.r 8 .int 3,.v 33 .int] [.r 8 .int 3] [.o (.s 27) .int] 0 (.p .z (.p .z (.j0 [.r 8 .int 3,.o (.s 27) .int] (.p .z (.p .z (.j0 [.v 50 .bool] .z .z))) .z))))) (.p .z (.p (.p .z (.lp [.v 69 .int] [] [.g (.s 13) (.list .int)] 2 (.p .z (.p .z (.p (.p .z (.p .z (.lp [.v 76 .int] [] [.g (.s 13) (.list .int)] 4 (.p .z (.p .z (.j0 [.g (.s 13) (.list .int)] .z .z)))))) .z))))) (.q [(.s 13)] (.lp [.r 8 .int 3] [] [.o (.s 27) .int] 6 (.p .z (.p .z (.p .z (.p .z (.lp [.r 8 .int 3,.v 110 .int] [.r 8 .int 3] [.o (.s 27) .int] 8 (.p .z (.p .z (.j0 [.r 8 .int 3,.o (.s 27) .int] .z .z))))))))) .z))))))) (cond (Nat.beq k 99) (.p .z (.j0 [.v 3 .bool] .z .z)) (cond (Nat.beq k 150) (.p .z (.ls [.v 15 .int] [] [.o (.y (.s 0) 3) .int,.y (.s 0),.b (.y (.s 0) 2) [.row aq_ 59]] 0 (.p .z (.p .z (.p (.p .z (.p (.sp 38 41) .z)) .z))))) (.z))))
noncomputable def cs_19:List (Con Tryz.prog):=[c_47,c_48,c_98]
noncomputable def cl_19:List (Cpy Tryz.prog):=[]
noncomputable def cx_19:Cx Tryz.prog:=cxI at_19 (λk=>Nat.beq k 47||Nat.beq k 48||Nat.beq k 97||Nat.beq k 98||false) (cxR [rp_97] cs_19 cl_19) 9
noncomputable def id_ (a0:ac_) (a1:Int):Option ((List ad_)×Bool×Int×Unit) :=
 ((ck_ a0).bind λv0 =>
 (cond (v0.2.1 != 0)
 (some ([],(false,(v0.2.1,()))))
 ((io_ a0 [a1]).bind λv1 =>
 (cond (!v1.1)
 (some ([],(false,(1,()))))
 ((cu_ [(-1)] (v0.1.1.length:Int)).bind λv2 =>
 ((ag_ (ρ:=((List Int)×((List Int)×Unit))) (λ(v3:((List Int)×(Int×((List Int)×Unit)))) =>
 (cond (decide (v3.2.1<(v0.1.1.length:Int)))
 ((((at? v0.1.1 v3.2.1).bind λv4 =>
 ((fd_ a0.1 v4.1).bind λv5 =>
 (((cond (v5.2.1==0)
 (some (v5.1,()))
 (some (false,())))).bind λv6 =>
 (cond v6.1
 ((at? v3.2.2.1 v3.2.1).bind λv7 =>
 ((at? v3.2.2.1 v3.2.1).bind λv8 =>
 ((push? (α:=Int) v3.1 [v3.2.1]).bind λv9 =>
 (some (v9,((v3.2.2.1.set v3.2.1.toNat 0),()))))))
 (some (v3.1,(v3.2.2.1,())))))))).bind λv10 =>
 (some (inl (v10.1,((w64 (v3.2.1+1)),(v10.2.1,()))))))
 (some (inr (v3.1,(v3.2.2.1,())))))) ([],(0,(v2,())))).bind λv11 =>
 ((mk? (α:=(List Int)) (v0.1.1.length:Int) []).bind λv12 =>
 ((ag_ (ρ:=((List (List Int))×Unit)) (λ(v13:(Int×((List (List Int))×Unit))) =>
 (cond (decide (v13.1<(v0.1.2.length:Int)))
 ((at? v0.1.2 v13.1).bind λv14 =>
 ((ag_ (ρ:=((List (List Int))×Unit)) (λ(v15:(Int×((List (List Int))×Unit))) =>
 (cond (decide (v15.1<(v14.length:Int)))
 ((((at? v14 v15.1).bind λv16 =>
 (((cond (v16.1.2.1 != 4)
 (some (true,()))
 (some ((v16.1.2.2 != a1),())))).bind λv17 =>
 (cond v17.1
 ((at? v15.2.1 v16.2).bind λv18 =>
 ((at? v15.2.1 v16.2).bind λv19 =>
 ((push? (α:=Int) v19 [v13.1]).bind λv20 =>
 ((at? v15.2.1 v16.2).bind λv21 =>
 (cond ((v16.2==v16.2)&&true)
 ((at? v15.2.1 v16.2).bind λv22 =>
 (some ((v15.2.1.set v16.2.toNat v20),())))
 none)))))
 (some (v15.2.1,())))))).bind λv23 =>
 (some (inl ((w64 (v15.1+1)),(v23.1,())))))
 (some (inr (v15.2.1,()))))) (0,(v13.2.1,()))).bind λv24 =>
 (some (inl ((w64 (v13.1+1)),(v24.1,()))))))
 (some (inr (v13.2.1,()))))) (0,(v12,()))).bind λv25 =>
 ((ag_ (ρ:=((List Int)×Unit)) (λ(v26:((List Int)×((List Int)×Unit))) =>
 (cond (decide (0<(v26.1.length:Int)))
 ((at? v26.1 0).bind λv27 =>
 ((at? v26.1 0).bind λv28 =>
 ((sub? v26.1 1 (v26.1.length:Int)).bind λv29 =>
 ((at? v25.1 v28).bind λv30 =>
 ((ag_ (ρ:=((List Int)×((List Int)×Unit))) (λ(v31:((List Int)×(Int×((List Int)×Unit)))) =>
 (cond (decide (v31.2.1<(v30.length:Int)))
 ((((at? v30 v31.2.1).bind λv32 =>
 ((at? v31.2.2.1 v32).bind λv33 =>
 ((at? v31.2.2.1 v32).bind λv34 =>
 (cond (decide (v34<0))
 ((at? v31.2.2.1 v28).bind λv35 =>
 ((at? v31.2.2.1 v28).bind λv36 =>
 ((at? v31.2.2.1 v32).bind λv37 =>
 ((at? v31.2.2.1 v32).bind λv38 =>
 ((push? (α:=Int) v31.1 [v32]).bind λv39 =>
 (some (v39,((v31.2.2.1.set v32.toNat (w64 (v36+1))),()))))))))
 (some (v31.1,(v31.2.2.1,())))))))).bind λv40 =>
 (some (inl (v40.1,((w64 (v31.2.1+1)),(v40.2.1,()))))))
 (some (inr (v31.1,(v31.2.2.1,())))))) (v29,(0,(v26.2.1,())))).bind λv41 =>
 (some (inl (v41.1,(v41.2.1,())))))))))
 (some (inr (v26.2.1,()))))) (v11.1,(v11.2.1,()))).bind λv42 =>
 ((at? v42.1 0).bind λv43 =>
 ((at? v42.1 0).bind λv44 =>
 (cond (decide (v44<0))
 (some ([],(false,(0,()))))
 ((ag_ (ρ:=(((List ad_)×Unit)×Unit)) (λ(v45:(Int×(((List ad_)×Unit)×Unit))) =>
 ((at? v42.1 v45.1).bind λv46 =>
 ((at? v42.1 v45.1).bind λv47 =>
 (cond (decide (0<v47))
 ((((at? v0.1.2 v45.1).bind λv48 =>
 ((ag_ (ρ:=(((List Int)×(Unit×(((List ad_)×Unit)×Unit)))⊕((List Int)×(((List ad_)×Unit)×Unit)))) (λ(v49:(Int×((List Int)×(Unit×(((List ad_)×Unit)×Unit))))) =>
 (cond (decide (v49.1<(v48.length:Int)))
 ((at? v48 v49.1).bind λv50 =>
 (((cond (v50.1.2.1 != 4)
 (some (true,()))
 (some ((v50.1.2.2 != a1),())))).bind λv51 =>
 (cond v51.1
 ((at? v42.1 v50.2).bind λv52 =>
 ((at? v42.1 v50.2).bind λv53 =>
 ((at? v42.1 v45.1).bind λv54 =>
 ((at? v42.1 v45.1).bind λv55 =>
 (cond (v53==(w64 (v55 - 1)))
 ((at? v42.1 v45.1).bind λv56 =>
 ((at? v42.1 v45.1).bind λv57 =>
 (cond (decide (0<v57))
 ((push? (α:=ad_) v49.2.2.2.1.1 [v50.1]).bind λv58 =>
 ((at? v49.2.1 0).bind λv59 =>
 (some (inr (inr ((v49.2.1.set (0:Int).toNat v50.2),((v58,()),())))))))
 (some (inl ((w64 (v49.1+1)),(v49.2.1,((),((v49.2.2.2.1.1,()),())))))))))
 (some (inl ((w64 (v49.1+1)),(v49.2.1,((),((v49.2.2.2.1.1,()),())))))))))))
 (some (inl ((w64 (v49.1+1)),(v49.2.1,((),((v49.2.2.2.1.1,()),())))))))))
 (some (inr (inl (v49.2.1,((),((v49.2.2.2.1.1,()),())))))))) (0,([v45.1],((),((v45.2.1.1,()),()))))).bind λv60 =>
 (ca_ v60 (λv61=>(some (v61.1,((v61.2.2.1.1,()),()))))
 (λv62=>(some v62)))))).bind λv63 =>
 ((at? v63.1 0).bind λv64 =>
 (some (inl (v64,((v63.2.1.1,()),()))))))
 (some (inr ((v45.2.1.1,()),()))))))) (0,(([],()),()))).bind λv65 =>
 (some (v65.1.1,(true,(0,())))))))))))))))))
theorem x_19:av_ cx_19 an_19 19 [an_,.int] [(.list aq_),.bool,.int]=λx=>id_ x.1 x.2.1:=by kernel_rfl
noncomputable def c_19:Con Tryz.prog:=aw_ _ _ 19 [an_,.int] [(.list aq_),.bool,.int] _ x_19
def an_20:An:=(.p .z (.p .z (.p .z (.p (.p .z (.lp [.r 2 .int 3,.v 18 .int] [.r 2 .int 3] [] 0 (.p .z (.p .z (.j0 [.r 2 .int 3] (.p .z (.p (.sp 7 14) .z)) .z))))) .z))))
def at_20:FuncId→An:=λk=>cond (Nat.beq k 49) (.p .z (.p .z (.p .z (.p (.p .z (.lp [.r 8 .int 3,.v 33 .int] [.r 8 .int 3] [.o (.s 27) .int] 0 (.p .z (.p .z (.j0 [.r 8 .int 3,.o (.s 27) .int] (.p .z (.p .z (.j0 [.v 50 .bool] .z .z))) .z))))) (.p .z (.p (.p .z (.lp [.v 69 .int] [] [.g (.s 13) (.list .int)] 2 (.p .z (.p .z (.p (.p .z (.p .z (.lp [.v 76 .int] [] [.g (.s 13) (.list .int)] 4 (.p .z (.p .z (.j0 [.g (.s 13) (.list .int)] .z .z)))))) .z))))) (.q [(.s 13)] (.lp [.r 8 .int 3] [] [.o (.s 27) .int] 6 (.p .z (.p .z (.p .z (.p .z (.lp [.r 8 .int 3,.v 110 .int] [.r 8 .int 3] [.o (.s 27) .int] 8 (.p .z (.p .z (.j0 [.r 8 .int 3,.o (.s 27) .int] .z .z))))))))) .z))))))) (cond (Nat.beq k 99) (.p .z (.j0 [.v 3 .bool] .z .z)) (.z))
noncomputable def cs_20:List (Con Tryz.prog):=[c_47,c_73,c_98]
noncomputable def cl_20:List (Cpy Tryz.prog):=[]
noncomputable def cx_20:Cx Tryz.prog:=cxI at_20 (λk=>Nat.beq k 47||Nat.beq k 73||Nat.beq k 97||Nat.beq k 98||false) (cxR [rp_97] cs_20 cl_20) 5
noncomputable def fv_ (a0:ac_):Option ((List Int)×Int×Unit) :=
 ((ck_ a0).bind λv0 =>
 (cond (v0.2.1 != 0)
 (cond (v0.2.1 != 0)
 (some ([],(v0.2.1,())))
 ((ag_ (ρ:=((List Int)×Unit)) (λ(v1:((List Int)×(Int×Unit))) =>
 (cond (decide (v1.2.1<(a0.1.2.2.2.2.1.length:Int)))
 none
 (some (inr (v1.1,()))))) ([],(0,()))).bind λv2 =>
 (some (v2.1,(0,())))))
 ((cu_ [(-1)] (v0.1.1.length:Int)).bind λv3 =>
 ((ag_ (ρ:=((List Int)×((List Int)×Unit))) (λ(v4:((List Int)×(Int×((List Int)×Unit)))) =>
 (cond (decide (v4.2.1<(v0.1.1.length:Int)))
 ((((at? v0.1.1 v4.2.1).bind λv5 =>
 ((fd_ a0.1 v5.1).bind λv6 =>
 (((cond (v6.2.1==0)
 (some (v6.1,()))
 (some (false,())))).bind λv7 =>
 (cond v7.1
 ((at? v4.2.2.1 v4.2.1).bind λv8 =>
 ((at? v4.2.2.1 v4.2.1).bind λv9 =>
 ((push? (α:=Int) v4.1 [v4.2.1]).bind λv10 =>
 (some (v10,((v4.2.2.1.set v4.2.1.toNat 0),()))))))
 (some (v4.1,(v4.2.2.1,())))))))).bind λv11 =>
 (some (inl (v11.1,((w64 (v4.2.1+1)),(v11.2.1,()))))))
 (some (inr (v4.1,(v4.2.2.1,())))))) ([],(0,(v3,())))).bind λv12 =>
 ((mk? (α:=(List Int)) (v0.1.1.length:Int) []).bind λv13 =>
 ((ag_ (ρ:=((List (List Int))×Unit)) (λ(v14:(Int×((List (List Int))×Unit))) =>
 (cond (decide (v14.1<(v0.1.2.length:Int)))
 ((at? v0.1.2 v14.1).bind λv15 =>
 ((ag_ (ρ:=((List (List Int))×Unit)) (λ(v16:(Int×((List (List Int))×Unit))) =>
 (cond (decide (v16.1<(v15.length:Int)))
 ((((at? v15 v16.1).bind λv17 =>
 ((at? v16.2.1 v17.2).bind λv18 =>
 ((at? v16.2.1 v17.2).bind λv19 =>
 ((push? (α:=Int) v19 [v14.1]).bind λv20 =>
 ((at? v16.2.1 v17.2).bind λv21 =>
 (cond ((v17.2==v17.2)&&true)
 ((at? v16.2.1 v17.2).bind λv22 =>
 (some ((v16.2.1.set v17.2.toNat v20),())))
 none))))))).bind λv23 =>
 (some (inl ((w64 (v16.1+1)),(v23.1,())))))
 (some (inr (v16.2.1,()))))) (0,(v14.2.1,()))).bind λv24 =>
 (some (inl ((w64 (v14.1+1)),(v24.1,()))))))
 (some (inr (v14.2.1,()))))) (0,(v13,()))).bind λv25 =>
 ((ag_ (ρ:=((List Int)×Unit)) (λ(v26:((List Int)×((List Int)×Unit))) =>
 (cond (decide (0<(v26.1.length:Int)))
 ((at? v26.1 0).bind λv27 =>
 ((at? v26.1 0).bind λv28 =>
 ((sub? v26.1 1 (v26.1.length:Int)).bind λv29 =>
 ((at? v25.1 v28).bind λv30 =>
 ((ag_ (ρ:=((List Int)×((List Int)×Unit))) (λ(v31:((List Int)×(Int×((List Int)×Unit)))) =>
 (cond (decide (v31.2.1<(v30.length:Int)))
 ((((at? v30 v31.2.1).bind λv32 =>
 ((at? v31.2.2.1 v32).bind λv33 =>
 ((at? v31.2.2.1 v32).bind λv34 =>
 (cond (decide (v34<0))
 ((at? v31.2.2.1 v28).bind λv35 =>
 ((at? v31.2.2.1 v28).bind λv36 =>
 ((at? v31.2.2.1 v32).bind λv37 =>
 ((at? v31.2.2.1 v32).bind λv38 =>
 ((push? (α:=Int) v31.1 [v32]).bind λv39 =>
 (some (v39,((v31.2.2.1.set v32.toNat (w64 (v36+1))),()))))))))
 (some (v31.1,(v31.2.2.1,())))))))).bind λv40 =>
 (some (inl (v40.1,((w64 (v31.2.1+1)),(v40.2.1,()))))))
 (some (inr (v31.1,(v31.2.2.1,())))))) (v29,(0,(v26.2.1,())))).bind λv41 =>
 (some (inl (v41.1,(v41.2.1,())))))))))
 (some (inr (v26.2.1,()))))) (v12.1,(v12.2.1,()))).bind λv42 =>
 ((ag_ (ρ:=((List Int)×Unit)) (λ(v43:((List Int)×(Int×Unit))) =>
 (cond (decide (v43.2.1<(a0.1.2.2.2.2.1.length:Int)))
 ((((cu_ [(-1)] (v0.1.1.length:Int)).bind λv44 =>
 ((ag_ (ρ:=((List Int)×((List Int)×Unit))) (λ(v45:((List Int)×(Int×((List Int)×Unit)))) =>
 (cond (decide (v45.2.1<(v0.1.1.length:Int)))
 ((((at? v0.1.1 v45.2.1).bind λv46 =>
 ((fd_ a0.1 v46.1).bind λv47 =>
 (((cond (v47.2.1==0)
 (some (v47.1,()))
 (some (false,())))).bind λv48 =>
 (cond v48.1
 ((at? v45.2.2.1 v45.2.1).bind λv49 =>
 ((at? v45.2.2.1 v45.2.1).bind λv50 =>
 ((push? (α:=Int) v45.1 [v45.2.1]).bind λv51 =>
 (some (v51,((v45.2.2.1.set v45.2.1.toNat 0),()))))))
 (some (v45.1,(v45.2.2.1,())))))))).bind λv52 =>
 (some (inl (v52.1,((w64 (v45.2.1+1)),(v52.2.1,()))))))
 (some (inr (v45.1,(v45.2.2.1,())))))) ([],(0,(v44,())))).bind λv53 =>
 ((mk? (α:=(List Int)) (v0.1.1.length:Int) []).bind λv54 =>
 ((ag_ (ρ:=((List (List Int))×Unit)) (λ(v55:(Int×((List (List Int))×Unit))) =>
 (cond (decide (v55.1<(v0.1.2.length:Int)))
 ((at? v0.1.2 v55.1).bind λv56 =>
 ((ag_ (ρ:=((List (List Int))×Unit)) (λ(v57:(Int×((List (List Int))×Unit))) =>
 (cond (decide (v57.1<(v56.length:Int)))
 ((((at? v56 v57.1).bind λv58 =>
 (((cond (v58.1.2.1 != 4)
 (some (true,()))
 (some ((v58.1.2.2 != v43.2.1),())))).bind λv59 =>
 (cond v59.1
 ((at? v57.2.1 v58.2).bind λv60 =>
 ((at? v57.2.1 v58.2).bind λv61 =>
 ((push? (α:=Int) v61 [v55.1]).bind λv62 =>
 ((at? v57.2.1 v58.2).bind λv63 =>
 (cond ((v58.2==v58.2)&&true)
 ((at? v57.2.1 v58.2).bind λv64 =>
 (some ((v57.2.1.set v58.2.toNat v62),())))
 none)))))
 (some (v57.2.1,())))))).bind λv65 =>
 (some (inl ((w64 (v57.1+1)),(v65.1,())))))
 (some (inr (v57.2.1,()))))) (0,(v55.2.1,()))).bind λv66 =>
 (some (inl ((w64 (v55.1+1)),(v66.1,()))))))
 (some (inr (v55.2.1,()))))) (0,(v54,()))).bind λv67 =>
 ((ag_ (ρ:=((List Int)×Unit)) (λ(v68:((List Int)×((List Int)×Unit))) =>
 (cond (decide (0<(v68.1.length:Int)))
 ((at? v68.1 0).bind λv69 =>
 ((at? v68.1 0).bind λv70 =>
 ((sub? v68.1 1 (v68.1.length:Int)).bind λv71 =>
 ((at? v67.1 v70).bind λv72 =>
 ((ag_ (ρ:=((List Int)×((List Int)×Unit))) (λ(v73:((List Int)×(Int×((List Int)×Unit)))) =>
 (cond (decide (v73.2.1<(v72.length:Int)))
 ((((at? v72 v73.2.1).bind λv74 =>
 ((at? v73.2.2.1 v74).bind λv75 =>
 ((at? v73.2.2.1 v74).bind λv76 =>
 (cond (decide (v76<0))
 ((at? v73.2.2.1 v70).bind λv77 =>
 ((at? v73.2.2.1 v70).bind λv78 =>
 ((at? v73.2.2.1 v74).bind λv79 =>
 ((at? v73.2.2.1 v74).bind λv80 =>
 ((push? (α:=Int) v73.1 [v74]).bind λv81 =>
 (some (v81,((v73.2.2.1.set v74.toNat (w64 (v78+1))),()))))))))
 (some (v73.1,(v73.2.2.1,())))))))).bind λv82 =>
 (some (inl (v82.1,((w64 (v73.2.1+1)),(v82.2.1,()))))))
 (some (inr (v73.1,(v73.2.2.1,())))))) (v71,(0,(v68.2.1,())))).bind λv83 =>
 (some (inl (v83.1,(v83.2.1,())))))))))
 (some (inr (v68.2.1,()))))) (v53.1,(v53.2.1,()))).bind λv84 =>
 ((at? v84.1 0).bind λv85 =>
 ((at? v84.1 0).bind λv86 =>
 (cond (decide (v86<0))
 ((push? (α:=Int) v43.1 [v43.2.1]).bind λv87 =>
 (some (v87,())))
 (some (v43.1,()))))))))))).bind λv88 =>
 (some (inl (v88.1,((w64 (v43.2.1+1)),())))))
 (some (inr (v43.1,()))))) ([],(0,()))).bind λv89 =>
 (some (v89.1,(0,())))))))))))
theorem x_20:av_ cx_20 an_20 20 [an_] [(.list .int),.int]=λx=>fv_ x.1:=by kernel_rfl
noncomputable def c_20:Con Tryz.prog:=aw_ _ _ 20 [an_] [(.list .int),.int] _ x_20
end
end Go.Proofs.YtdibamopklkilaaGreatDoor.Rx
