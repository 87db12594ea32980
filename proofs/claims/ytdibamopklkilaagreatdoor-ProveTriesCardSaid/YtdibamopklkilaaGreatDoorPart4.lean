/- A part of the proof: what the functions of the program compute, shown over the model. -/
import Derived.Test.YtdibamopklkilaaGreatDoorPart3
set_option linter.unusedSectionVars false
set_option linter.unusedVariables false
set_option linter.unusedSimpArgs false
namespace Go.Proofs.YtdibamopklkilaaGreatDoor.Rx
open Go Pad Rex Go.Proofs Go.Proofs.Tryz Sum
section
set_option maxRecDepth 100000
set_option maxHeartbeats 400000
def ivs (l:List Int):List Value:=l.map λn=>.int .i64 n
def am1 (m n:Nat) (a:Int):List Int:=List.replicate n a++List.replicate (m - n) 0
theorem aw2 {P:Program} {n d:Nat} {ro:Option Nat} {f:Pad.Fr} {w:World} {K:Pad.Fr→World→Prop} {ty T E B:TypeId} {pos:String} {af:Array Edge} {gd:Option (Nat×Bool)} {x y:Operand} {S:PH} {O:List HP} {g o dl dc sl sc:Nat} {ad:Addr} {cs:Array Value} {ys:List Value}
    (hd:Nat.blt d n=true) (hT:P.underlying T=some (.slice E)) (hs:(P.info? E).map (·.size)=some 1) (hx:Pad.ev f x = .slice (some ⟨g,o,none⟩) dl dc) (hy:Pad.ev f y = .slice (some ad) sl sc) (hI:Inv w S (ks_ g B cs::O))
    (hn:ys.length=Nat.min sl dl) (hsrc:∀ j v,ys[j]?=some v→w.cell? (ad.add j)=some v) (hfit:o+ys.length≤cs.size) (h1:∀ v ∈ ys,v.oneCell'=true)
    (k:∀ w',Inv w' S (ks_ g B (cs.toList.take o++ys++cs.toList.drop (o+ys.length)).toArray::O)→K (upd f d (.int .i64 (ys.length:Nat))) w') :
    OP P n ro ⟨some d,.call ⟨.builtin .copy,#[x,y],#[T,T]⟩,ty,pos,af,gd⟩ f w K:=by
  have h:=run_copy_row (P:=P) w T T ty E g o dl dc ad sl sc cs B ys hT hs hI.blk hn hsrc hfit h1
  exact ec_ hd (by simp[execOp,resolve,invoke,builtin,hx,hy,h,Result.andThen];rfl) (k _ hI.setRow)
theorem cf1 {P:Program} {n d:Nat} {ro:Option Nat} {f:Pad.Fr} {w:World} {K:Pad.Fr→World→Prop} {ty T E:TypeId} {pos:String} {af:Array Edge} {gd:Option (Nat×Bool)} {x y:Operand} {dl dc sl sc:Nat} {ap ad:Option Addr}
    (hd:Nat.blt d n=true) (hT:P.underlying T=some (.slice E)) (hs:(P.info? E).map (·.size)=some 1) (hx:Pad.ev f x = .slice ap dl dc) (hy:Pad.ev f y = .slice ad sl sc)
    (hn:Nat.min sl dl=0) (k:K (upd f d (.int .i64 0)) w) :
    OP P n ro ⟨some d,.call ⟨.builtin .copy,#[x,y],#[T,T]⟩,ty,pos,af,gd⟩ f w K:=by
  have h:=run_copy_none (P:=P) w T T ty E ap ad dl dc sl sc hT hs hn
  exact ec_ hd (by simp[execOp,resolve,invoke,builtin,hx,hy,h,Result.andThen];rfl) k
theorem op_make {n d:Nat} {ro:Option Nat} {f:Pad.Fr} {w:World} {K:Pad.Fr→World→Prop} {ty:TypeId} {pos:String} {af:Array Edge} {gd:Option (Nat×Bool)} {x y:Operand} {S:PH} {O:List HP} {m:Nat}
    (hd:Nat.blt d n=true) (hx:Pad.ev f x = .int .i64 m) (hy:Pad.ev f y = .int .i64 m) (hm:m≤2147483648) (hI:Inv w S O)
    (k:∀ g w',Inv w' S (ks_ g 3 (ivs (List.replicate m 0)).toArray::O)→K (upd f d (.slice (some ⟨g,0,none⟩) m m)) w') :
    OP prog n ro ⟨some d,.makeSlice 45 x y,ty,pos,af,gd⟩ f w K:=by
  obtain⟨bytes,zv,⟨ei,hE⟩,hb,hr⟩:=kt_ (show qm_ prog 3 .int=some (0:Int) by kernel_rfl)
  have hzv:zv = .int .i64 0:=lt_ (hr S)
  have hbb:(ei.bytes:Int) * (m:Int)≤281474976710656:=by
    have h1:(ei.bytes:Int)≤65536:=by rw[hE.hb];omega
    have h2:(ei.bytes:Int) * (m:Int)≤65536 * 2147483648:=Int.mul_le_mul h1 (by omega) (by omega) (by omega)
    omega
  have h:=run_make (P:=prog) w 45 3 ei zv underlying45 hE.hi hE.hz .i64 .i64 m m (by omega) (l1_ _) hbb (by omega)
  have hsz:ei.size=1:=hE.hs
  have hc:madeCells zv.cells ((m:Int).toNat * ei.size)=(ivs (List.replicate m 0)).toArray:=by
    have h2:=nu_ zv.cells m
    have h3:zv.cells.size=1:=by rw[hzv];rfl
    rw[h3] at h2
    rw[hsz,c2_]
    apply Array.toList_inj.1
    rw[h2,hzv]
    simp[Value.cells,ivs]
  rw[hc] at h
  exact ec_ hd (by rw[c2_] at h;simp[execOp,Sem.run_bind,hx,hy,h,Result.andThen]) (k _ _ (hI.alloc 3 _))
theorem cb_155:eh_ prog 155:=⟨_,func155,rfl,by kernel_rfl⟩
theorem ca9 {m:Nat} (h:m≤2147483648):wu64 (m:Int)=(m:Int):=by
  unfold wu64 IntKind.wrap
  simp[IntKind.signed,IntKind.bits]
  omega
theorem in3:(prog.info? 3).map (·.size)=some 1:=by kernel_rfl
theorem br7 {m n q:Nat} {a:Int} (h:n+q≤m):(ivs (am1 m n a)).take n++ivs (List.replicate q a)++(ivs (am1 m n a)).drop (n+q)=ivs (am1 m (n+q) a):=by
  unfold ivs am1
  rw[← List.map_take,← List.map_drop,← j3_,← j3_]
  congr 1
  have h1:(List.replicate n a++List.replicate (m - n) (0:Int)).take n=List.replicate n a:=by
    rw[List.take_append_of_le_length (by simp),g2_ (by simp)]
  have h2:(List.replicate n a++List.replicate (m - n) (0:Int)).drop (n+q)=List.replicate (m - (n+q)) 0:=by
    rw[List.drop_append,List.drop_of_length_le (by simp)]
    simp
    omega
  rw[h1,h2,List.replicate_append_replicate]
theorem ivs_len (l:List Int):(ivs l).length=l.length:=by simp[ivs]
theorem cd1 {m n:Nat} {a:Int} (h:n≤m):(am1 m n a).length=m:=by simp[am1];omega
theorem rowR_at {m n j:Nat} {a:Int} (h:j<n):(ivs (am1 m n a))[j]?=some (.int .i64 a):=by
  unfold ivs am1
  rw[d6_,b2_ (by simpa using h),i9_,if_pos h]
  rfl
theorem ivs_one {l:List Int}:∀ v ∈ ivs l,v.oneCell'=true:=by
  intro v hv
  obtain⟨n,_,rfl⟩:=d7_.1 hv
  rfl
theorem sl_l {f:Pad.Fr} {w:World} {d m n g:Nat} {x y:Operand} {ty:TypeId} {pos:String} {af:Array Edge} {gd:Option (Nat×Bool)} (hx:Pad.ev f x = .slice (some ⟨g,0,none⟩) m m) (hy:Pad.ev f y = .int .i64 n) (h:n<m) :
    (execOp (Pad.ev f) ⟨some d,.slice 45 x (some y) none none,ty,pos,af,gd⟩).run prog w = .ok (.value (.slice (some ⟨g,n,none⟩) (m - n) (m - n))) w:=by
  have:=cm0 (P:=prog) (w:=w) (T:=45) (E:=3) (a:=some ⟨g,0,none⟩) (len:=m) (cap:=m) (lo:=(n:Int)) underlying45 sh3' (by omega) (by omega)
  have hne:¬ m=n:=by omega
  have e:(⟨g,0,none⟩:Addr).add (n * 1)=⟨g,n,none⟩:=by rw[Nat.mul_one,fy_,b0_]
  simp only[sliced,hne,h7_,g0_,c2_,e] at this
  simp[execOp,hx,hy,this,Result.andThen]
theorem sl_h {f:Pad.Fr} {w:World} {d m n g:Nat} {x y:Operand} {ty:TypeId} {pos:String} {af:Array Edge} {gd:Option (Nat×Bool)} (hx:Pad.ev f x = .slice (some ⟨g,0,none⟩) m m) (hy:Pad.ev f y = .int .i64 n) (h:n<m) :
    (execOp (Pad.ev f) ⟨some d,.slice 45 x none (some y) none,ty,pos,af,gd⟩).run prog w = .ok (.value (.slice (some ⟨g,0,none⟩) n m)) w:=by
  have:=cm1 (P:=prog) (w:=w) (T:=45) (E:=3) (a:=some ⟨g,0,none⟩) (len:=m) (cap:=m) (hi:=(n:Int)) underlying45 sh3' (by omega) (by omega)
  have hne:¬ m=0:=by omega
  simp[sliced,hne,Addr.add] at this
  simp[execOp,hx,hy,this,Result.andThen]
theorem op_uI {n d:Nat} {ro:Option Nat} {f:Pad.Fr} {w:World} {K:Pad.Fr→World→Prop} {ty:TypeId} {pos:String} {af:Array Edge} {gd:Option (Nat×Bool)} {x:Operand} {m:Nat} (hd:Nat.blt d n=true) (hx:Pad.ev f x = .int .u64 (m:Int)) (hm:m≤2147483648)
    (k:K (upd f d (.int .i64 (m:Int))) w):OP prog n ro ⟨some d,.convert 221 3 x,ty,pos,af,gd⟩ f w K:=by
  have h64:IntKind.i64.wrap (m:Int)=m:=by rw[IntKind.wrap_i64];omega
  exact ec_ hd (by simp[execOp,hx,convert,run_underlying underlying221,run_underlying underlying3,Conv.intToInt,h64]) k
theorem av0 {S:PH}:∀ (l:List Int),@RepL Int Ty.int.enc S (ivs l) l
  | []=>rfl
  | a::l=>⟨[.int .i64 a],ivs l,rfl,rfl,av0 l⟩
def RI (m g:Nat) (a:Int) (S:PH) (Fr:List HP) (k:Nat) (f:Pad.Fr) (w:World):Prop :=
  k≤m∧(0<m→0<k)∧∃ S',S.Le S'∧Inv w S' (ks_ g 3 (ivs (am1 m k a)).toArray::Fr)∧f 7 = .slice (some ⟨g,0,none⟩) m m∧f 8 = .int .i64 (k:Int)∧f.ds=[]
theorem cd5 {w:World} {S:PH} {Fr:List HP} {v:Value} {m:Nat} {a:Int} (hI:Inv w S Fr) (hr:RVt (.list .int) S v [a]) (hm:m≤2147483648) :
    Calls prog 97 [v,.int .i64 (m:Int)].toArray w λe w'=>∃ u S',e = .returned u∧S.Le S'∧Inv w' S' (@Row Int Ty.int.enc 3 u (List.replicate m a)::Fr):=by
  obtain⟨a0,cap0,hv2,_,hmax,hnil,hrow⟩:=@hr_ Int Ty.int.enc S v [a] hr
  obtain⟨ad,rfl⟩:∃ ad,a0=some ad:=by
    cases a0 with
    | none=>have:=(hnil rfl).1;simp at this
    | some ad=>exact⟨ad,rfl⟩
  refine qi_ (n:=48) func97 rfl rfl rfl ?_
  refine bo_ (bf_ (wa_ (v:=sn) rfl rfl (dw_ ?_)))
  refine bo_ (bo_ (bf_ (wm_ (v:=.int .i64 m) rfl rfl (wo_ (ye_ (a:=(m:Int)) (b:=0) rfl rfl rfl (dw_ ?_))))))
  refine jy_ rfl (b9_ (by omega)) (md_ ?_)
  refine bo_ (bf_ (wm_ (v:=v) rfl rfl (wo_ (aw1 rfl underlying45 hv2 ?_))))
  refine wo_ (cm4 (a:=1) rfl rfl underlying3 underlying221 (wm_ (v:=.int .i64 m) rfl rfl (wo_ (cm4 (a:=(m:Int)) rfl rfl underlying3 underlying221 ?_))))
  rw[ca9 hm,show wu64 1=((1:Nat):Int) from rfl]
  refine wo_ (aw0 (vs:=[.int .u64 ((1:Nat):Int),.int .u64 (m:Int)]) rfl cb_155 rfl (args2 rfl rfl) (sh_Mul 1 m (by omega) (by omega) w) λe w2 he => ?_)
  obtain⟨rfl,rfl⟩:=he
  rw[show (1 * m / 18446744073709551616:Nat)=0 by omega,show (1 * m % 18446744073709551616:Nat)=m by omega]
  refine⟨_,rfl,?_⟩
  refine wm_ (v:=.tuple #[.int .u64 ((0:Nat):Int),.int .u64 (m:Int)]) rfl rfl (wo_ (yf_ (v:=.int .u64 ((0:Nat):Int)) rfl rfl rfl (wo_ (yf_ (v:=.int .u64 (m:Int)) rfl rfl rfl (wa_ (v:=.int .u64 ((0:Nat):Int)) rfl rfl (wa_ (v:=.int .u64 (m:Int)) rfl rfl (dw_ ?_)))))))
  refine bo_ (bo_ (bf_ (wm_ (v:=.int .u64 ((0:Nat):Int)) rfl rfl (wo_ (cm5 (a:=((0:Nat):Int)) (b:=0) rfl rfl rfl (wm_ (v:=.bool false) rfl rfl (wk_ rfl rfl rfl (ml_ (v:=.int .u64 (m:Int)) rfl rfl (wk_ rfl rfl rfl (cm5 (a:=(m:Int)) (b:=9223372036854775807) rfl rfl rfl ?_))))))))))
  have hdf:decide ((9223372036854775807:Int)<(m:Int))=false:=b9_ (by omega)
  rw[hdf]
  refine wo_ (bn7 (b:=.bool false) rfl rfl rfl rfl (dw_ (jy_ rfl rfl (md_ ?_))))
  refine bo_ (bf_ (wm_ (v:=.int .u64 (m:Int)) rfl rfl (wo_ (op_uI (m:=m) rfl rfl hm ?_))))
  refine wo_ (op_make (m:=m) rfl rfl rfl hm hI λg w3 I3=>wa_ (v:=.slice (some ⟨g,0,none⟩) m m) rfl rfl (dw_ ?_))
  have hcell:w3.cell? ad=some (.int .i64 a):=by
    obtain⟨es,h1,h2⟩:=hrow ad rfl 0 a rfl
    have h1:es=[.int .i64 a]:=h1
    have h3:=PH.cell_in I3.in_ (h2 0 (.int .i64 a) (by rw[h1];rfl))
    simpa [Addr.add] using h3
  have hl3:(ivs (List.replicate m (0:Int))).length=m:=by simp[ivs]
  refine bo_ (am5 (λf w'=>∃ k,RI m g a S Fr k f w') ?_ ?_)
  · refine bf_ (wm_ (v:=.slice (some ⟨g,0,none⟩) m m) rfl rfl (wm_ (v:=v) rfl rfl ?_))
    by_cases h0:m=0
    · subst h0
      refine wo_ (cf1 (dl:=0) (dc:=0) (sl:=1) (sc:=cap0) rfl underlying45 in3 rfl hv2 rfl (wa_ (v:=.int .i64 0) rfl rfl (dw_ ?_)))
      exact⟨0,c3_ _,λh=>h,S,lr,I3,rfl,rfl,rfl⟩
    · refine wo_ (aw2 (g:=g) (o:=0) (dl:=m) (dc:=m) (sl:=1) (sc:=cap0) (ad:=ad) (ys:=[.int .i64 a]) rfl underlying45 in3 rfl hv2 I3 ?_ ?_ ?_ ?_ λw4 I4=>wa_ (v:=.int .i64 1) rfl rfl (dw_ ?_))
      · show 1=Nat.min 1 m
        exact (Nat.min_eq_left (by omega)).symm
      · intro j u hj
        cases j with
        | zero =>
          obtain rfl:=a6_ hj
          simpa [Addr.add] using hcell
        | succ j=>simp at hj
      · simp[hl3]
        omega
      · intro u hu
        simp at hu
        subst hu
        rfl
      · refine⟨1,by omega,λ_=>by omega,S,lr,?_,rfl,rfl,rfl⟩
        have:=br7 (m:=m) (n:=0) (q:=1) (a:=a) (by omega)
        have e0:am1 m 0 a=List.replicate m 0:=by simp[am1]
        rw[e0] at this
        rw[← this]
        exact I4
  · rintro f w4 ⟨k0,hk0⟩
    refine bo_ (gc_ (uu_ (I:=λk f w'=>RI m g a S Fr k f w') (λk=>m - k) k0 hk0 ?_))
    rintro k f w5 ⟨r1,r2,S5,le5,r3,r4,r5,r6⟩
    refine bo_ (bo_ (bf_ (wm_ rfl r5 (wm_ rfl r4 (wo_ (aw1 rfl underlying45 rfl (wo_ (ye_ rfl rfl rfl (dw_ ?_)))))))))
    by_cases hkm:k<m
    · refine nf_ rfl (len_t hkm) (md_ ?_)
      refine gc_ (wp_draw (sps:=[spV 38 [] 0 (.int .i64 k),spV 39 [] 1 (.slice (some ⟨g,0,none⟩) m m),spV 40 [] 2 (.int .i64 k),spV 41 [1,2] 3 (.slice (some ⟨g,k,none⟩) (m - k) (m - k)),spV 42 [] 4 (.slice (some ⟨g,0,none⟩) m m),spV 43 [] 5 (.int .i64 k),
        spV 44 [4,5] 6 (.slice (some ⟨g,0,none⟩) k m),⟨some 45,[1,2,3,4,5,6],[7],λvs _=>fr0 vs 0 = .int .i64 (Nat.min k (m - k):Nat),[],[0],[1],λ_ h=>h⟩,spV 46 [0,1,2,3,4,5,6,7] 8 (.int .i64 ((k+Nat.min k (m - k):Nat):Int)),spV 8 (lrg 9) 9 (.int .i64 ((k+Nat.min k (m - k):Nat):Int))])
        (tks:=[⟨none,some 7,[],λ_=>ks_ g 3 (ivs (am1 m k a)).toArray⟩,⟨some 7,none,[],λ_=>ks_ g 3 (ivs (am1 m (k+Nat.min k (m - k)) a)).toArray⟩]) (O:=Fr) rfl (by kernel_rfl) r3
        ⟨ob_ rfl λl A K I=>ml_ rfl ((K 8 (vy_ rfl)).trans r5) (fo I),ob_ rfl λl A K I=>ml_ rfl ((K 7 (vy_ rfl)).trans r4) (fo I),ob_ rfl λl A K I=>ml_ rfl ((K 8 (vy_ rfl)).trans r5) (fo I),
          ob_ rfl λl A K I=>ec_ rfl (sl_l (A.v 0 rfl) (A.v 1 rfl) hkm) (fo I),ob_ rfl λl A K I=>ml_ rfl ((K 7 (vy_ rfl)).trans r4) (fo I),ob_ rfl λl A K I=>ml_ rfl ((K 8 (vy_ rfl)).trans r5) (fo I),
          ob_ rfl λl A K I=>ec_ rfl (sl_h (A.v 0 rfl) (A.v 1 rfl) hkm) (fo I),?_,?_,ob_ rfl λl A K I=>nn_ rfl (A.v 8 rfl) (fo I),trivial⟩ ?_)
      · intro vs f w_ U X le A K I
        have hq:Nat.min k (m - k)≤k∧k+Nat.min k (m - k)≤m:=⟨Nat.min_le_left _ _,by have:Nat.min k (m - k)≤m - k:=m1_ _ _;omega⟩
        refine pl_ rfl (aw2 (g:=g) (o:=k) (dl:=m - k) (dc:=m - k) (sl:=k) (sc:=m) (ad:=⟨g,0,none⟩) (ys:=ivs (List.replicate (Nat.min k (m - k)) a)) rfl underlying45 in3 (A.v 2 rfl) (A.v 5 rfl) I (by simp[ivs]) ?_ ?_ ivs_one λw6 I6 => ?_)
        · intro j u hj
          have hj2:j<Nat.min k (m - k):=by
            have:=(a3_.1 hj).1
            simpa [ivs] using this
          have e:u = .int .i64 a:=by
            unfold ivs at hj
            rw[d6_,i9_,if_pos hj2] at hj
            exact (a6_ hj).symm
          rw[fy_,b0_,I.cell,e]
          have:=rowR_at (m:=m) (n:=k) (j:=j) (a:=a) (by omega)
          simpa using this
        · have:(ivs (am1 m k a)).toArray.size=m:=by simp[ivs_len,cd1 r1]
          rw[this]
          simpa [ivs] using hq.2
        · have el:(ivs (List.replicate (Nat.min k (m - k)) a)).length=Nat.min k (m - k):=by simp[ivs]
          have e:=br7 (m:=m) (n:=k) (q:=Nat.min k (m - k)) (a:=a) hq.2
          rw[el] at I6
          refine⟨_,U,rfl,lr,by rw[el];rfl,?_⟩
          show Inv w6 U (ks_ g 3 (ivs (am1 m (k+Nat.min k (m - k)) a)).toArray::_)
          rw[← e]
          exact I6
      · intro vs f w_ U X le A K I
        have hq:k+Nat.min k (m - k)≤m:=by
          have:Nat.min k (m - k)≤m - k:=m1_ _ _
          omega
        have e:w64 ((k:Int)+(Nat.min k (m - k):Nat))=((k+Nat.min k (m - k):Nat):Int):=by
          rw[ku_ (by omega) (by omega)]
          rfl
        refine pl_ rfl (bn9 rfl (A.v 0 rfl) (A.v 7 rfl) ?_)
        rw[e]
        exact fo I
      · intro vs f6 w6 S6 ds6 le6 hF hK hI6
        have hq:0<Nat.min k (m - k)∧k+Nat.min k (m - k)≤m:=by
          have h1:Nat.min k (m - k)≤m - k:=m1_ _ _
          refine⟨Nat.lt_min.2 ⟨r2 (by omega),by omega⟩,by omega⟩
        have e8:f6 8 = .int .i64 ((k+Nat.min k (m - k):Nat):Int):=hF.v 9 rfl
        have e7:f6 7 = .slice (some ⟨g,0,none⟩) m m:=(hK 7 (ch0 rfl)).trans r4
        exact⟨k+Nat.min k (m - k),by omega,hq.2,λ_=>by omega,S6,le5.trans le6,hI6,e7,e8,ds6.trans r6⟩
    · refine jy_ rfl (b9_ (by omega)) (ua_ ?_)
      obtain rfl:k=m:=by omega
      refine bo_ (bf_ (wm_ rfl r4 (wa_ (v:=.slice (some ⟨g,0,none⟩) k k) rfl rfl (dw_ (ut_ ⟨r6,.slice (some ⟨g,0,none⟩) k k,res1 rfl rfl,_,S5,rfl,le5,?_⟩)))))
      refine Inv.shut (A:=@Row Int Ty.int.enc 3 _ (List.replicate k a)) r3 (.inr ⟨g,k,[],ivs (List.replicate k a),[],by simp,by simp[am1],av0 _,by simp,by simp only[maxLen];omega,by simp⟩)
noncomputable def dy_ (a0:List Int) (a1:Int):Option (List Int):=match a0 with
  | [a]=>mk? a1 a
  | _=>none
noncomputable def rp_97:Rpt prog:=⟨97,[.list .int,.int],.int,3,λx=>dy_ x.1 x.2.1,λ{w S Fr hv vs x r} hG hI ha hF=>by
  obtain⟨l,c,u⟩:=x
  match vs,ha with
  | [v1,v2],⟨h1,h2,_⟩ =>
    have hF:dy_ l c=some r:=hF
    match l,hF,h1 with
    | [a],hF,h1 =>
      obtain⟨c0,c1,rfl⟩:=aa2 (show mk? c a=some r from hF)
      obtain⟨m,rfl⟩:=Int.eq_ofNat_of_zero_le c0
      obtain rfl:v2 = .int .i64 (m:Int):=lt_ (S:=S) (qd_ (hv:=hv) (t:=.int) h2)
      have hr:RVt (.list .int) S v1 [a]:=qd_ (hv:=hv) h1
      rw[c2_]
      refine (cd5 hI hr (by omega)).mono λe w' he => ?_
      obtain⟨u,S',h3,h4,h5⟩:=he
      exact⟨u,S',h3,h4,h5⟩⟩
end
section
set_option maxRecDepth 100000
set_option maxHeartbeats 0
theorem cz_86:qm_ prog 3 .int=some (show Int from 0):=by kernel_rfl
theorem ce_86:Rex.elemOf prog 45=some 3:=by kernel_rfl
noncomputable def ar6:Cpy prog:=⟨86,.int,3,λhc hI h=>ba5 func86 rfl rfl rfl ce_86 cz_86 rfl hc hI h⟩
theorem cz_87:qm_ prog 4 .bool=some (show Bool from false):=by kernel_rfl
theorem ce_87:Rex.elemOf prog 48=some 4:=by kernel_rfl
noncomputable def ci7:Cpy prog:=⟨87,.bool,4,λhc hI h=>ba5 func87 rfl rfl rfl ce_87 cz_87 rfl hc hI h⟩
end
section
set_option maxRecDepth 100000
set_option maxHeartbeats 0
noncomputable def br_ (a0:Int) (a1:Int) (a2:Int):Option (Bool×Unit) :=
 (cond (decide (a1≤a0))
 (some ((decide (a0≤a2)),()))
 (some (false,())))
theorem x_117:au_ (P:=prog) (cxC [] []) .z 117 [.int,.int,.int] [.bool]=λx=>br_ x.1 x.2.1 x.2.2.1:=by kernel_rfl
noncomputable def ar9:Con prog:=av_ _ _ 117 [.int,.int,.int] [.bool] _ x_117
noncomputable def ac5  : Option ((List (List UInt8))×Unit) :=
 (some ([[97,116],[115,116,97,116,101,115],[115,116,97,114,116],[103,111,110,101],[105,102],[108,111,99,107],[119,105,116,104],[115,101,116,115],[115,112,101,110,100,115],[98,114,105,110,103,115]],()))
theorem x_207:au_ (P:=prog) (cxC [] []) .z 207 [] [(.list .str)]=λx=>ac5:=by kernel_rfl
noncomputable def c_207:Con prog:=av_ _ _ 207 [] [(.list .str)] _ x_207
noncomputable def fp_ (a0:(List (List UInt8))) (a1:Int):Option (Bool×Unit) :=
 ((ag_ (ρ:=(Unit⊕(Bool×Unit))) (λ(v0:(Int×Unit)) =>
 (cond (decide (v0.1<a1))
 ((at? a0 v0.1).bind λv1 =>
 ((at? a0 a1).bind λv2 =>
 (cond (v1==v2)
 (some (inr (inr (true,()))))
 (some (inl ((w64 (v0.1+1)),()))))))
 (some (inr (inl ()))))) (0,())).bind λv3 =>
 (ce_ v3 (λv4=>(some (false,())))
 (λv5=>(some v5))))
theorem x_115:au_ (P:=prog) (cxC [] []) (.p .z (.p (.p .z (.ls [.v 5 .int] [] [] 0 (.p .z (.p (.p (.q [] .z .z) .z) .z)))) .z)) 115 [(.list .str),.int] [.bool]=λx=>fp_ x.1 x.2.1:=by kernel_rfl
noncomputable def c_115:Con prog:=av_ _ _ 115 [(.list .str),.int] [.bool] _ x_115
noncomputable def lz_ (a0:(List Int)) (a1:Int):Option (Bool×Unit) :=
 ((ag_ (ρ:=(Unit⊕(Bool×Unit))) (λ(v0:(Int×Unit)) =>
 (cond (decide (v0.1<(a0.length:Int)))
 ((at? a0 v0.1).bind λv1 =>
 (cond (v1==a1)
 (some (inr (inr (true,()))))
 (some (inl ((w64 (v0.1+1)),())))))
 (some (inr (inl ()))))) (0,())).bind λv2 =>
 (ce_ v2 (λv3=>(some (false,())))
 (λv4=>(some v4))))
theorem x_167:au_ (P:=prog) (cxC [] []) (.p .z (.p (.p .z (.ls [.v 5 .int] [] [] 0 .z)) .z)) 167 [(.list .int),.int] [.bool]=λx=>lz_ x.1 x.2.1:=by kernel_rfl
noncomputable def c_167:Con prog:=av_ _ _ 167 [(.list .int),.int] [.bool] _ x_167
noncomputable def bl_ (a0:Int) (a1:Int) (a2:Int):Option (Bool×Unit) :=
 (cond (decide (a1≤a0))
 (some ((decide (a0≤a2)),()))
 (some (false,())))
theorem x_120:au_ (P:=prog) (cxC [] []) .z 120 [.int,.int,.int] [.bool]=λx=>bl_ x.1 x.2.1 x.2.2.1:=by kernel_rfl
noncomputable def c_120:Con prog:=av_ _ _ 120 [.int,.int,.int] [.bool] _ x_120
noncomputable def im_ (a0:Int) (a1:Int) (a2:Int):Option (Bool×Unit) :=
 (cond (decide (a1≤a0))
 (some ((decide (a0≤a2)),()))
 (some (false,())))
theorem x_69:au_ (P:=prog) (cxC [] []) .z 69 [.int,.int,.int] [.bool]=λx=>im_ x.1 x.2.1 x.2.2.1:=by kernel_rfl
noncomputable def c_69:Con prog:=av_ _ _ 69 [.int,.int,.int] [.bool] _ x_69
noncomputable def kz_ (a0:ak_):Option (Bool×Unit) :=
 (cond (a0.1==0)
 (cond (a0.2.1==0)
 (cond (a0.2.2.1==0)
 (cond (a0.2.2.2.1==0)
 (cond (a0.2.2.2.2.1==0)
 (cond ((a0.2.2.2.2.2.1.length:Int)==0)
 (some ((!a0.2.2.2.2.2.2),()))
 (some (false,())))
 (some (false,())))
 (some (false,())))
 (some (false,())))
 (some (false,())))
 (some (false,())))
theorem x_122:au_ (P:=prog) (cxC [] []) .z 122 [ap_] [.bool]=λx=>kz_ x.1:=by kernel_rfl
noncomputable def c_122:Con prog:=av_ _ _ 122 [ap_] [.bool] _ x_122
noncomputable def gn_ (a0:(List Int)) (a1:(List Int)):Option (Bool×Unit) :=
 (cond ((a0.length:Int) != (a1.length:Int))
 (some (false,()))
 ((ag_ (ρ:=(Unit⊕(Bool×Unit))) (λ(v0:(Int×Unit)) =>
 (cond (decide (v0.1<(a0.length:Int)))
 ((at? a0 v0.1).bind λv1 =>
 ((at? a1 v0.1).bind λv2 =>
 (cond (v1 != v2)
 (some (inr (inr (false,()))))
 (some (inl ((w64 (v0.1+1)),()))))))
 (some (inr (inl ()))))) (0,())).bind λv3 =>
 (ce_ v3 (λv4=>(some (true,())))
 (λv5=>(some v5)))))
theorem x_232:au_ (P:=prog) (cxC [] []) (.p .z (.p .z (.p (.p .z (.ls [.v 5 .int] [] [] 0 (.p .z (.p (.p (.q [] .z .z) .z) .z)))) .z))) 232 [(.list .int),(.list .int)] [.bool]=λx=>gn_ x.1 x.2.1:=by kernel_rfl
noncomputable def c_232:Con prog:=av_ _ _ 232 [(.list .int),(.list .int)] [.bool] _ x_232
noncomputable def ee_ (a0:(List Int)) (a1:Int):Option (Int×Unit) :=
 ((ag_ (ρ:=(Int×Unit)) (λ(v0:(Int×(Int×Unit))) =>
 (cond (decide (v0.2.1<(a0.length:Int)))
 ((((at? a0 v0.2.1).bind λv1 =>
 (cond (v1==a1)
 (some ((w64 (v0.1+1)),()))
 (some (v0.1,()))))).bind λv2 =>
 (some (inl (v2.1,((w64 (v0.2.1+1)),())))))
 (some (inr (v0.1,()))))) (0,(0,()))).bind λv3 =>
 (some (v3.1,())))
theorem x_169:au_ (P:=prog) (cxC [] []) (.p .z (.p .z (.p (.p .z (.lp [.v 5 .int,.v 6 .int] [.v 5 .int] [] 0 (.p .z (.j0 [.v 5 .int] .z .z)))) .z))) 169 [(.list .int),.int] [.int]=λx=>ee_ x.1 x.2.1:=by kernel_rfl
noncomputable def c_169:Con prog:=av_ _ _ 169 [(.list .int),.int] [.int] _ x_169
noncomputable def bm_ (a0:ai_) (a1:(List bc_)):Option (Bool×Unit) :=
 ((ag_ (ρ:=(Unit⊕(Bool×Unit))) (λ(v0:(Int×Unit)) =>
 (cond (decide (v0.1<(a1.length:Int)))
 ((at? a1 v0.1).bind λv1 =>
 ((at? a0.1 v1.1).bind λv2 =>
 ((at? a1 v0.1).bind λv3 =>
 ((at? a1 v0.1).bind λv4 =>
 (cond ((v2==v3.2.1)==v4.2.2)
 (some (inr (inr (false,()))))
 (some (inl ((w64 (v0.1+1)),()))))))))
 (some (inr (inl ()))))) (0,())).bind λv5 =>
 (ce_ v5 (λv6=>(some (true,())))
 (λv7=>(some v7))))
theorem x_16:au_ (P:=prog) (cxC [] []) (.p .z (.p (.p .z (.ls [.v 5 .int] [] [] 0 (.p .z (.p (.p (.q [] .z .z) .z) .z)))) .z)) 16 [ar_,(.list ca_)] [.bool]=λx=>bm_ x.1 x.2.1:=by kernel_rfl
noncomputable def c_16:Con prog:=av_ _ _ 16 [ar_,(.list ca_)] [.bool] _ x_16
noncomputable def fq_ (a0:ai_):Option (ai_×Unit) :=
 ((push? (α:=Int) [] a0.1).bind λv0 =>
 ((push? (α:=Int) [] a0.2.1).bind λv1 =>
 ((push? (α:=Int) [] a0.2.2).bind λv2 =>
 (some ((v0,(v1,v2)),())))))
theorem x_51:au_ (P:=prog) (cxC [] []) .z 51 [ar_] [ar_]=λx=>fq_ x.1:=by kernel_rfl
noncomputable def c_51:Con prog:=av_ _ _ 51 [ar_] [ar_] _ x_51
def an_102:An:=.z
noncomputable def cs_102 (f:List (Con prog)):List (Con prog):=f++[]
noncomputable def cl_102:List (Cpy prog):=[]
noncomputable def cx_102 (f:List (Con prog)):Cx prog:=cxC (cs_102 f) cl_102
noncomputable def g_102 (cb_:Int→Option ((List UInt8)×Unit)) (a0:Int):Option ((List UInt8)×Unit) :=
 ((sub? [48,49,50,51,52,53,54,55,56,57] (Int.tmod a0 10) (w64 ((Int.tmod a0 10)+1))).bind λv0 =>
 (cond (decide (a0<10))
 (some (v0,()))
 ((cb_ (w64 (Int.tdiv a0 10))).bind λv1 =>
 ((cat? v1.1 v0).bind λv2 =>
 (some (v2,()))))))
theorem xr_102:(λ(F:Int→Option ((List UInt8)×Unit)) (h:bz5 prog 102 [.int] [.str] (λx=>F x.1))=>au_ (cx_102 [cnv 102 [.int] [.str] _ h]) an_102 102 [.int] [.str])=λF h x=>g_102 F x.1:=by kernel_rfl
noncomputable def dq_:Nat→Int→Option ((List UInt8)×Unit)
  | 0=>λ_=>none
  | n+1=>g_102 (dq_ n)
theorem cm6:∀ n,bz5 prog 102 [.int] [.str] (λx=>dq_ n x.1)
  | 0=>λ_ _ _ h=>(by cases h)
  | n+1=>λhG hI ha h=>(av_ _ _ 102 [.int] [.str] _ (congrFun (congrFun xr_102 (dq_ n)) (cm6 n))).ok hG hI ha h
noncomputable def cb_ (a0:Int):Option ((List UInt8)×Unit):=dq_ 20 a0
noncomputable def c_102:Con prog:=cnv 102 [.int] [.str] (λx=>cb_ x.1) (cm6 20)
noncomputable def gv_ (a0:ai_) (a1:Int):Option (Int×Unit) :=
 ((ag_ (ρ:=(Int×Unit)) (λ(v0:(Int×(Int×Unit))) =>
 (cond (decide (v0.2.1<(a0.2.1.length:Int)))
 ((((at? a0.2.1 v0.2.1).bind λv1 =>
 (cond (v1==(w64 ((-2) - a1)))
 (some ((w64 (v0.1+1)),()))
 (some (v0.1,()))))).bind λv2 =>
 (some (inl (v2.1,((w64 (v0.2.1+1)),())))))
 (some (inr (v0.1,()))))) (0,(0,()))).bind λv3 =>
 (some (v3.1,())))
theorem x_202:au_ (P:=prog) (cxC [] []) (.p .z (.p .z (.p (.p .z (.lp [.v 5 .int,.v 6 .int] [.v 5 .int] [] 0 (.p .z (.j0 [.v 5 .int] .z .z)))) .z))) 202 [ar_,.int] [.int]=λx=>gv_ x.1 x.2.1:=by kernel_rfl
noncomputable def c_202:Con prog:=av_ _ _ 202 [ar_,.int] [.int] _ x_202
noncomputable def ji_ (a0:ab_) (a1:(List Int)):Option ((List ak_)×Unit) :=
 ((ag_ (ρ:=((List ak_)×Unit)) (λ(v0:((List ak_)×(Int×Unit))) =>
 (cond (decide (v0.2.1<(a1.length:Int)))
 ((at? a1 v0.2.1).bind λv1 =>
 ((at? a0.2.2.2.1 v1).bind λv2 =>
 ((push? (α:=ak_) v0.1 [v2.2.2.2.2]).bind λv3 =>
 (some (inl (v3,((w64 (v0.2.1+1)),())))))))
 (some (inr (v0.1,()))))) ([],(0,()))).bind λv4 =>
 (some (v4.1,())))
theorem x_228:au_ (P:=prog) (cxC [] []) (.p .z (.p .z (.p (.p .z (.lp [.r 5 ap_ 94,.v 6 .int] [.r 5 ap_ 94] [] 0 .z)) .z))) 228 [am_,(.list .int)] [(.list ap_)]=λx=>ji_ x.1 x.2.1:=by kernel_rfl
noncomputable def c_228:Con prog:=av_ _ _ 228 [am_,(.list .int)] [(.list ap_)] _ x_228
noncomputable def hg_ (a0:ab_) (a1:aa_) (a2:Int):Option ((List Int)×Unit) :=
 ((ag_ (ρ:=((List Int)×Unit)) (λ(v0:((List Int)×(Int×Unit))) =>
 (cond (decide (v0.2.1<(a0.2.2.2.1.length:Int)))
 ((((((at? a1.2 v0.2.1).bind λv1 =>
 (cond v1
 ((at? a0.2.2.2.1 v0.2.1).bind λv2 =>
 (some ((v2.2.2.1==a2),())))
 (some (false,()))))).bind λv3 =>
 (cond v3.1
 ((push? (α:=Int) v0.1 [v0.2.1]).bind λv4 =>
 (some (v4,())))
 (some (v0.1,()))))).bind λv5 =>
 (some (inl (v5.1,((w64 (v0.2.1+1)),())))))
 (some (inr (v0.1,()))))) ([],(0,()))).bind λv6 =>
 (some (v6.1,())))
theorem x_204:au_ (P:=prog) (cxC [] []) (.p .z (.p .z (.p (.p .z (.lp [.r 7 .int 3,.v 8 .int] [.r 7 .int 3] [] 0 (.p .z (.j0 [.r 7 .int 3] (.j0 [.v 30 .bool] .z .z) .z)))) .z))) 204 [am_,aj_,.int] [(.list .int)]=λx=>hg_ x.1 x.2.1 x.2.2.1:=by kernel_rfl
noncomputable def c_204:Con prog:=av_ _ _ 204 [am_,aj_,.int] [(.list .int)] _ x_204
noncomputable def mu_ (a0:ad_):Option (Bool×Unit) :=
 (((cond (decide (12<(a0.1.length:Int)))
 (some (true,()))
 (cond (decide (15<(a0.2.1.length:Int)))
 (some (true,()))
 (cond (decide (14<(a0.2.2.1.length:Int)))
 (some (true,()))
 (cond (decide (20<(a0.2.2.2.1.length:Int)))
 (some (true,()))
 (cond (decide (30<(a0.2.2.2.2.1.length:Int)))
 (some (true,()))
 (cond (decide (15<(a0.2.2.2.2.2.1.length:Int)))
 (some (true,()))
 (some ((decide (20<(a0.2.2.2.2.2.2.2.length:Int))),()))))))))).bind λv0 =>
 (cond v0.1
 (some (true,()))
 ((ag_ (ρ:=(Unit⊕(Bool×Unit))) (λ(v1:(Int×Unit)) =>
 (cond (decide (v1.1<(a0.1.length:Int)))
 ((at? a0.1 v1.1).bind λv2 =>
 (cond (decide (100<(v2.length:Int)))
 (some (inr (inr (true,()))))
 (some (inl ((w64 (v1.1+1)),())))))
 (some (inr (inl ()))))) (0,())).bind λv3 =>
 (ce_ v3 (λv4=>((ag_ (ρ:=(Unit⊕(Bool×Unit))) (λ(v6:(Int×Unit)) =>
 (cond (decide (v6.1<(a0.2.1.length:Int)))
 ((at? a0.2.1 v6.1).bind λv7 =>
 (cond (decide (100<(v7.1.length:Int)))
 (some (inr (inr (true,()))))
 (some (inl ((w64 (v6.1+1)),())))))
 (some (inr (inl ()))))) (0,())).bind λv8 =>
 (ce_ v8 (λv9=>((ag_ (ρ:=(Unit⊕(Bool×Unit))) (λ(v11:(Int×Unit)) =>
 (cond (decide (v11.1<(a0.2.2.1.length:Int)))
 ((((at? a0.2.2.1 v11.1).bind λv12 =>
 (cond (decide (100<(v12.1.length:Int)))
 (some (true,()))
 ((at? a0.2.2.1 v11.1).bind λv13 =>
 (some ((decide (20<(v13.2.2.length:Int))),())))))).bind λv14 =>
 (cond v14.1
 (some (inr (inr (true,()))))
 (some (inl ((w64 (v11.1+1)),())))))
 (some (inr (inl ()))))) (0,())).bind λv15 =>
 (ce_ v15 (λv16=>((ag_ (ρ:=(Unit⊕(Bool×Unit))) (λ(v18:(Int×Unit)) =>
 (cond (decide (v18.1<(a0.2.2.2.1.length:Int)))
 ((at? a0.2.2.2.1 v18.1).bind λv19 =>
 (cond (decide (20<(v19.2.2.length:Int)))
 (some (inr (inr (true,()))))
 (some (inl ((w64 (v18.1+1)),())))))
 (some (inr (inl ()))))) (0,())).bind λv20 =>
 (ce_ v20 (λv21=>((ag_ (ρ:=(Unit⊕(Bool×Unit))) (λ(v23:(Int×Unit)) =>
 (cond (decide (v23.1<(a0.2.2.2.2.1.length:Int)))
 ((at? a0.2.2.2.2.1 v23.1).bind λv24 =>
 (((cond (decide (100<(v24.1.length:Int)))
 (some (true,()))
 (cond (decide (20<(v24.2.2.2.2.1.length:Int)))
 (some (true,()))
 (cond (decide (20<(v24.2.2.2.1.length:Int)))
 (some (true,()))
 (cond (decide (20<(v24.2.2.2.2.2.1.length:Int)))
 (some (true,()))
 (cond (decide (20<(v24.2.2.2.2.2.2.1.length:Int)))
 (some (true,()))
 (some ((decide (20<(v24.2.2.2.2.2.2.2.length:Int))),())))))))).bind λv25 =>
 (cond v25.1
 (some (inr (inr (true,()))))
 (some (inl ((w64 (v23.1+1)),()))))))
 (some (inr (inl ()))))) (0,())).bind λv26 =>
 (ce_ v26 (λv27=>((ag_ (ρ:=(Unit⊕(Bool×Unit))) (λ(v29:(Int×Unit)) =>
 (cond (decide (v29.1<(a0.2.2.2.2.2.1.length:Int)))
 ((at? a0.2.2.2.2.2.1 v29.1).bind λv30 =>
 (cond (decide (20<(v30.1.length:Int)))
 (some (inr (inr (true,()))))
 (some (inl ((w64 (v29.1+1)),())))))
 (some (inr (inl ()))))) (0,())).bind λv31 =>
 (ce_ v31 (λv32=>(some (false,())))
 (λv33=>(some v33)))))
 (λv28=>(some v28)))))
 (λv22=>(some v22)))))
 (λv17=>(some v17)))))
 (λv10=>(some v10)))))
 (λv5=>(some v5))))))
theorem x_63:au_ (P:=prog) (cxC [] []) (.p .z (.p (.j0 [.v 49 .bool] .z .z) (.p (.p .z (.ls [.v 3 .int] [] [] 0 .z)) (.p (.p .z (.ls [.v 4 .int] [] [] 2 .z)) (.p (.p .z (.ls [.v 5 .int] [] [] 4 (.p .z (.p (.j0 [.v 103 .bool] .z .z) .z)))) (.p (.p .z (.ls [.v 6 .int] [] [] 6 .z)) (.p (.p .z (.ls [.v 7 .int] [] [] 8 (.p .z (.p (.p .z (.j0 [.v 164 .bool] .z .z)) .z)))) (.p (.p .z (.ls [.v 9 .int] [] [] 10 .z)) .z)))))))) 63 [ao_] [.bool]=λx=>mu_ x.1:=by kernel_rfl
noncomputable def c_63:Con prog:=av_ _ _ 63 [ao_] [.bool] _ x_63
noncomputable def bb_ (a0:Int) (a1:Int) (a2:Int):Option (Bool×Unit) :=
 (cond (decide (a1≤a0))
 (some ((decide (a0≤a2)),()))
 (some (false,())))
theorem x_126:au_ (P:=prog) (cxC [] []) .z 126 [.int,.int,.int] [.bool]=λx=>bb_ x.1 x.2.1 x.2.2.1:=by kernel_rfl
noncomputable def bw8:Con prog:=av_ _ _ 126 [.int,.int,.int] [.bool] _ x_126
noncomputable def ds_ (a0:(List (List UInt8))) (a1:(List UInt8)):Option (Int×Unit) :=
 ((ag_ (ρ:=(Unit⊕(Int×Unit))) (λ(v0:(Int×Unit)) =>
 (cond (decide (v0.1<(a0.length:Int)))
 ((at? a0 v0.1).bind λv1 =>
 (cond (a1==v1)
 (some (inr (inr (v0.1,()))))
 (some (inl ((w64 (v0.1+1)),())))))
 (some (inr (inl ()))))) (0,())).bind λv2 =>
 (ce_ v2 (λv3=>(some ((-1),())))
 (λv4=>(some v4))))
theorem x_233:au_ (P:=prog) (cxC [] []) (.p .z (.p (.p .z (.ls [.v 8 .int] [] [] 0 .z)) .z)) 233 [(.list .str),.str] [.int]=λx=>ds_ x.1 x.2.1:=by kernel_rfl
noncomputable def c_233:Con prog:=av_ _ _ 233 [(.list .str),.str] [.int] _ x_233
noncomputable def tw_ (a0:(List UInt8)):Option ((List UInt8)×Unit) :=
 (some (a0,()))
theorem x_128:au_ (P:=prog) (cxC [] []) .z 128 [.str] [.str]=λx=>tw_ x.1:=by kernel_rfl
noncomputable def c_128:Con prog:=av_ _ _ 128 [.str] [.str] _ x_128
noncomputable def tv_ (a0:gr_):Option ((List UInt8)×Unit) :=
 (some (a0.1,()))
theorem x_130:au_ (P:=prog) (cxC [] []) .z 130 [pw_] [.str]=λx=>tv_ x.1:=by kernel_rfl
noncomputable def c_130:Con prog:=av_ _ _ 130 [pw_] [.str] _ x_130
noncomputable def wq_ (a0:jx_):Option ((List UInt8)×Unit) :=
 (some (a0.1,()))
theorem x_132:au_ (P:=prog) (cxC [] []) .z 132 [os_] [.str]=λx=>wq_ x.1:=by kernel_rfl
noncomputable def c_132:Con prog:=av_ _ _ 132 [os_] [.str] _ x_132
noncomputable def xr_ (a0:co_):Option ((List UInt8)×Unit) :=
 (some (a0.1,()))
theorem x_177:au_ (P:=prog) (cxC [] []) .z 177 [lr_] [.str]=λx=>xr_ x.1:=by kernel_rfl
noncomputable def c_177:Con prog:=av_ _ _ 177 [lr_] [.str] _ x_177
noncomputable def gu_ (a0:ad_) (a1:(List Int)):Option (Bool×Unit) :=
 ((ag_ (ρ:=(Unit⊕(Bool×Unit))) (λ(v0:(Int×(Int×Unit))) =>
 (cond (decide (v0.2.1<(a1.length:Int)))
 ((at? a1 v0.2.1).bind λv1 =>
 (((cond (decide (v1≤v0.1))
 (some (true,()))
 (some ((decide ((a0.2.2.1.length:Int)≤v1)),())))).bind λv2 =>
 (cond v2.1
 (some (inr (inr (false,()))))
 (some (inl (v1,((w64 (v0.2.1+1)),())))))))
 (some (inr (inl ()))))) ((-1),(0,()))).bind λv3 =>
 (ce_ v3 (λv4=>(some (true,())))
 (λv5=>(some v5))))
theorem x_178:au_ (P:=prog) (cxC [] []) (.p .z (.p .z (.p (.p .z (.ls [.v 5 .int,.v 10 .int] [] [] 0 (.p .z (.p .z (.p (.p .z (.p (.j0 [.v 23 .bool] .z .z) .z)) .z))))) .z))) 178 [ao_,(.list .int)] [.bool]=λx=>gu_ x.1 x.2.1:=by kernel_rfl
noncomputable def c_178:Con prog:=av_ _ _ 178 [ao_,(.list .int)] [.bool] _ x_178
noncomputable def er_ (a0:(List Int)) (a1:Int):Option (Int×Unit) :=
 ((ag_ (ρ:=(Unit⊕(Int×Unit))) (λ(v0:(Int×Unit)) =>
 (cond (decide (v0.1<(a0.length:Int)))
 ((at? a0 v0.1).bind λv1 =>
 (cond (a1==v1)
 (some (inr (inr (v0.1,()))))
 (some (inl ((w64 (v0.1+1)),())))))
 (some (inr (inl ()))))) (0,())).bind λv2 =>
 (ce_ v2 (λv3=>(some ((-1),())))
 (λv4=>(some v4))))
theorem x_36:au_ (P:=prog) (cxC [] []) (.p .z (.p (.p .z (.ls [.v 8 .int] [] [] 0 .z)) .z)) 36 [(.list .int),.int] [.int]=λx=>er_ x.1 x.2.1:=by kernel_rfl
noncomputable def c_36:Con prog:=av_ _ _ 36 [(.list .int),.int] [.int] _ x_36
noncomputable def bx_ (a0:Int) (a1:Int) (a2:Int):Option (Bool×Unit) :=
 (cond (decide (a1≤a0))
 (some ((decide (a0≤a2)),()))
 (some (false,())))
theorem x_136:au_ (P:=prog) (cxC [] []) .z 136 [.int,.int,.int] [.bool]=λx=>bx_ x.1 x.2.1 x.2.2.1:=by kernel_rfl
noncomputable def cj1:Con prog:=av_ _ _ 136 [.int,.int,.int] [.bool] _ x_136
noncomputable def bs_ (a0:Int) (a1:Int) (a2:Int):Option (Bool×Unit) :=
 (cond (decide (a1≤a0))
 (some ((decide (a0≤a2)),()))
 (some (false,())))
theorem x_81:au_ (P:=prog) (cxC [] []) .z 81 [.int,.int,.int] [.bool]=λx=>bs_ x.1 x.2.1 x.2.2.1:=by kernel_rfl
noncomputable def c_81:Con prog:=av_ _ _ 81 [.int,.int,.int] [.bool] _ x_81
noncomputable def mt_ (a0:(List UInt8)):Option (Bool×Unit) :=
 (((cond (a0==[])
 (some ((a0==[]),()))
 (cond (a0==[97,116])
 (some ((a0==[97,116]),()))
 (cond (a0==[115,116,97,116,101,115])
 (some ((a0==[115,116,97,116,101,115]),()))
 (cond (a0==[115,116,97,114,116])
 (some ((a0==[115,116,97,114,116]),()))
 (cond (a0==[103,111,110,101])
 (some ((a0==[103,111,110,101]),()))
 (cond (a0==[105,102])
 (some ((a0==[105,102]),()))
 (cond (a0==[108,111,99,107])
 (some ((a0==[108,111,99,107]),()))
 (cond (a0==[119,105,116,104])
 (some ((a0==[119,105,116,104]),()))
 (cond (a0==[115,101,116,115])
 (some ((a0==[115,101,116,115]),()))
 (cond (a0==[115,112,101,110,100,115])
 (some ((a0==[115,112,101,110,100,115]),()))
 (some ((a0==[98,114,105,110,103,115]),()))))))))))))).bind λv0 =>
 (cond v0.1
 (some (false,()))
 ((ag_ (ρ:=(Unit⊕(Bool×Unit))) (λ(v1:(Int×Unit)) =>
 (cond (decide (v1.1<(a0.length:Int)))
 ((((at? a0 v1.1).bind λv2 =>
 (cond (decide (((UInt8.toNat v2):Int)<97))
 (some (true,()))
 ((at? a0 v1.1).bind λv3 =>
 (some ((decide (122<((UInt8.toNat v3):Int))),())))))).bind λv4 =>
 (cond v4.1
 (some (inr (inr (false,()))))
 (some (inl ((w64 (v1.1+1)),())))))
 (some (inr (inl ()))))) (0,())).bind λv5 =>
 (ce_ v5 (λv6=>(some (true,())))
 (λv7=>(some v7))))))
theorem x_140:au_ (P:=prog) (cxC [] []) (.p .z (.p (.p .z (.j0 [.v 5 .bool] .z .z)) (.p (.p .z (.ls [.v 19 .int] [] [] 1 (.p .z (.p .z (.p (.p .z (.j0 [.v 31 .bool] .z .z)) .z))))) .z))) 140 [.str] [.bool]=λx=>mt_ x.1:=by kernel_rfl
noncomputable def c_140:Con prog:=av_ _ _ 140 [.str] [.bool] _ x_140
noncomputable def kj_ (a0:ak_):Option (Bool×Unit) :=
 (cond (a0.1==0)
 (cond (a0.2.1==0)
 (cond (a0.2.2.1==0)
 (cond (a0.2.2.2.1==0)
 (cond (a0.2.2.2.2.1==0)
 (cond ((a0.2.2.2.2.2.1.length:Int)==0)
 (some ((!a0.2.2.2.2.2.2),()))
 (some (false,())))
 (some (false,())))
 (some (false,())))
 (some (false,())))
 (some (false,())))
 (some (false,())))
theorem x_141:au_ (P:=prog) (cxC [] []) .z 141 [ap_] [.bool]=λx=>kj_ x.1:=by kernel_rfl
noncomputable def c_141:Con prog:=av_ _ _ 141 [ap_] [.bool] _ x_141
noncomputable def id_ (a0:(List Int)) (a1:(List Int)):Option (Int×Int×Unit) :=
 ((ag_ (ρ:=(Int×((List Int)×((List Int)×Unit)))) (λ(v0:(Int×(Int×((List Int)×((List Int)×Unit))))) =>
 (cond (decide (v0.2.1<(a0.length:Int)))
 ((at? a0 v0.2.1).bind λv1 =>
 ((((at? a1 v0.2.1).bind λv2 =>
 (cond (v1==v2)
 (some ((w64 (v0.1+1)),()))
 (some (v0.1,()))))).bind λv3 =>
 (cond (decide (v1<(10:Int)))
 ((at? v0.2.2.1 v1).bind λv4 =>
 ((at? v0.2.2.1 v1).bind λv5 =>
 (cond (decide (v1<(10:Int)))
 ((at? v0.2.2.1 v1).bind λv6 =>
 ((at? v0.2.2.1 v1).bind λv7 =>
 ((at? a1 v0.2.1).bind λv8 =>
 (cond (decide (v8<(10:Int)))
 ((at? v0.2.2.2.1 v8).bind λv9 =>
 ((at? v0.2.2.2.1 v8).bind λv10 =>
 (cond (decide (v8<(10:Int)))
 ((at? v0.2.2.2.1 v8).bind λv11 =>
 ((at? v0.2.2.2.1 v8).bind λv12 =>
 (some (inl (v3.1,((w64 (v0.2.1+1)),((v0.2.2.1.set v1.toNat (w64 (v5+1))),((v0.2.2.2.1.set v8.toNat (w64 (v10+1))),()))))))))
 none)))
 none))))
 none)))
 none)))
 (some (inr (v0.1,(v0.2.2.1,(v0.2.2.2.1,()))))))) (0,(0,([0,0,0,0,0,0,0,0,0,0],([0,0,0,0,0,0,0,0,0,0],()))))).bind λv13 =>
 ((ag_ (ρ:=(Int×Unit)) (λ(v14:(Int×(Int×Unit))) =>
 (cond (decide (v14.2.1<10))
 (cond (decide (v14.2.1<(10:Int)))
 ((at? v13.2.1 v14.2.1).bind λv15 =>
 ((at? v13.2.1 v14.2.1).bind λv16 =>
 (cond (decide (v14.2.1<(10:Int)))
 ((at? v13.2.2.1 v14.2.1).bind λv17 =>
 ((at? v13.2.2.1 v14.2.1).bind λv18 =>
 (some (inl ((w64 (v14.1+(ap9 v16 v18))),((w64 (v14.2.1+1)),()))))))
 none)))
 none)
 (some (inr (v14.1,()))))) (0,(0,()))).bind λv19 =>
 (some (v13.1,((w64 (v19.1 - v13.1)),())))))
theorem x_237:au_ (P:=prog) (cxC [] []) (.p .z (.p .z (.p (.p .z (.lp [.v 4 .int,.v 13 .int] [.v 4 .int] [.o (.s 6) .int,.o (.s 7) .int] 0 (.p .z (.p .z (.p (.p .z (.j0 [.v 4 .int] .z .z)) .z))))) (.p (.p .z (.lp [.v 5 .int,.v 40 .int] [.v 5 .int] [] 2 .z)) .z)))) 237 [(.list .int),(.list .int)] [.int,.int]=λx=>id_ x.1 x.2.1:=by kernel_rfl
noncomputable def c_237:Con prog:=av_ _ _ 237 [(.list .int),(.list .int)] [.int,.int] _ x_237
noncomputable def ba_ (a0:hb_) (a1:(List bc_)):Option (Bool×Unit) :=
 ((((ag_ (ρ:=(Unit⊕(Bool×Unit))) (λ(v0:(Int×Unit)) =>
 (cond (decide (v0.1<(a1.length:Int)))
 ((at? a1 v0.1).bind λv1 =>
 ((at? a0.2.1 v1.1).bind λv2 =>
 (cond ((v2==v1.2.1)==v1.2.2)
 (some (inr (inr ((decide (0≤v0.1)),()))))
 (some (inl ((w64 (v0.1+1)),()))))))
 (some (inr (inl ()))))) (0,())).bind λv3 =>
 (ce_ v3 (λv4=>(some ((decide (0≤(-1))),())))
 (λv5=>(some v5))))).bind λv6 =>
 (some ((!v6.1),())))
theorem x_147:au_ (P:=prog) (cxI (λk=>cond (Nat.beq k 143) (.p .z (.j0 [.v 4 .bool] .z .z)) (cond (Nat.beq k 189) (.p .z (.p (.p .z (.ls [.v 8 .int] [] [] 0 .z)) .z)) (cond (Nat.beq k 192) (.p .z (.p (.q [] .z .z) .z)) (.z)))) (λk=>false) (cxC [] []) 4) .z 147 [(.ref ez_),(.list ca_)] [.bool]=λx=>ba_ x.1 x.2.1:=by kernel_rfl
noncomputable def bw6:Con prog:=av_ _ _ 147 [(.ref ez_),(.list ca_)] [.bool] _ x_147
noncomputable def di_ (a0:hb_) (a1:Int):Option (Int×Unit) :=
 ((ag_ (ρ:=(Int×Unit)) (λ(v0:(Int×(Int×Unit))) =>
 (cond (decide (v0.2.1<(a0.2.2.1.length:Int)))
 ((((at? a0.2.2.1 v0.2.1).bind λv1 =>
 (cond (v1==(w64 ((-2) - a1)))
 (some ((w64 (v0.1+1)),()))
 (some (v0.1,()))))).bind λv2 =>
 (some (inl (v2.1,((w64 (v0.2.1+1)),())))))
 (some (inr (v0.1,()))))) (0,(0,()))).bind λv3 =>
 (some (v3.1,())))
theorem x_197:au_ (P:=prog) (cxC [] []) (.p .z (.p (.p .z (.lp [.v 4 .int,.v 13 .int] [.v 4 .int] [] 0 (.p .z (.p .z (.j0 [.v 4 .int] .z .z))))) .z)) 197 [(.ref ez_),.int] [.int]=λx=>di_ x.1 x.2.1:=by kernel_rfl
noncomputable def c_197:Con prog:=av_ _ _ 197 [(.ref ez_),.int] [.int] _ x_197
noncomputable def gw_ (a0:aa_):Option ((List UInt8)×Unit) :=
 ((ag_ (ρ:=((List UInt8)×Unit)) (λ(v0:((List UInt8)×(Int×Unit))) =>
 (cond (decide (v0.2.1<(a0.2.length:Int)))
 ((at? a0.2 v0.2.1).bind λv1 =>
 ((dx_ v1).bind λv2 =>
 ((cat? v2.1 [32]).bind λv3 =>
 ((cat? v0.1 v3).bind λv4 =>
 (some (inl (v4,((w64 (v0.2.1+1)),()))))))))
 (some (inr (v0.1,()))))) ([],(0,()))).bind λv5 =>
 (some (v5.1,())))
theorem x_56:au_ (P:=prog) (cxC [c_106] []) (.p .z (.p .z (.p (.p .z (.lp [.v 3 .str,.v 9 .int] [.v 3 .str] [] 0 .z)) .z))) 56 [aj_] [.str]=λx=>gw_ x.1:=by kernel_rfl
noncomputable def c_56:Con prog:=av_ _ _ 56 [aj_] [.str] _ x_56
noncomputable def ac6 (a0:af_):Option (Bool×Unit) :=
 (some (true,()))
theorem x_73:au_ (P:=prog) (cxC [] []) .z 73 [ck_] [.bool]=λx=>ac6 x.1:=by kernel_rfl
noncomputable def c_73:Con prog:=av_ _ _ 73 [ck_] [.bool] _ x_73
noncomputable def ws_  : Option (ad_×Unit) :=
 (some (([[104,97,108,108],[118,97,117,108,116]],([([98,111,120],(0,(2,0))),([100,111,111,114],(0,(2,0)))],([([107,101,121],(0,[(0,(1,false))]))],([(0,(1,[(1,(1,false))]))],([([111,112,101,110],(0,(0,([],([],([(0,1)],([],[]))))))),([116,117,114,110],(0,((-1),([0],([],([(1,1)],([0],[])))))))],([],(1,[]))))))),()))
theorem x_70:au_ (P:=prog) (cxC [] []) .z 70 [] [ao_]=λx=>ws_:=by kernel_rfl
noncomputable def c_70:Con prog:=av_ _ _ 70 [] [ao_] _ x_70
noncomputable def cl_ (a0:(List bc_)):Option ((List bc_)×Unit) :=
 ((push? (α:=bc_) [] a0).bind λv0 =>
 (some (v0,())))
theorem x_71:au_ (P:=prog) (cxC [] []) .z 71 [(.list ca_)] [(.list ca_)]=λx=>cl_ x.1:=by kernel_rfl
noncomputable def c_71:Con prog:=av_ _ _ 71 [(.list ca_)] [(.list ca_)] _ x_71
noncomputable def dp_ (a0:(List Int)):Option ((List Int)×Unit) :=
 ((push? (α:=Int) [] a0).bind λv0 =>
 (some (v0,())))
theorem x_72:au_ (P:=prog) (cxC [] []) .z 72 [(.list .int)] [(.list .int)]=λx=>dp_ x.1:=by kernel_rfl
noncomputable def c_72:Con prog:=av_ _ _ 72 [(.list .int)] [(.list .int)] _ x_72
noncomputable def gm_ (a0:ak_):Option (ak_×Unit) :=
 ((push? (α:=Int) [] a0.2.2.2.2.2.1).bind λv0 =>
 (some ((a0.1,(a0.2.1,(a0.2.2.1,(a0.2.2.2.1,(a0.2.2.2.2.1,(v0,a0.2.2.2.2.2.2)))))),())))
theorem x_34:au_ (P:=prog) (cxC [] []) .z 34 [ap_] [ap_]=λx=>gm_ x.1:=by kernel_rfl
noncomputable def c_34:Con prog:=av_ _ _ 34 [ap_] [ap_] _ x_34
noncomputable def ik_ (a0:af_) (a1:Int):Option (Bool×Unit) :=
 (cond (a0.1.2.1==4)
 (some ((a0.1.2.2==a1),()))
 (some (false,())))
theorem x_75:au_ (P:=prog) (cxC [] []) .z 75 [ck_,.int] [.bool]=λx=>ik_ x.1 x.2.1:=by kernel_rfl
noncomputable def c_75:Con prog:=av_ _ _ 75 [ck_,.int] [.bool] _ x_75
end
section
set_option maxRecDepth 100000
set_option maxHeartbeats 0
noncomputable def gp_ (a0:ad_) (a1:Int) (a2:Int):Option (Bool×Unit) :=
 ((br_ a1 0 (w64 ((a0.2.1.length:Int) - 1))).bind λv0 =>
 (cond v0.1
 ((at? a0.2.1 a1).bind λv1 =>
 ((br_ a2 0 (w64 (v1.2.2.1 - 1))).bind λv2 =>
 (some (v2.1,()))))
 (some (false,()))))
theorem x_119:au_ (P:=prog) (cxC [ar9] []) .z 119 [ao_,.int,.int] [.bool]=λx=>gp_ x.1 x.2.1 x.2.2.1:=by kernel_rfl
noncomputable def cj3:Con prog:=av_ _ _ 119 [ao_,.int,.int] [.bool] _ x_119
noncomputable def hi_ (a0:(List UInt8)):Option (Bool×Unit) :=
 ((ag_ (ρ:=(Unit⊕(Bool×Unit))) (λ(v0:(Int×Unit)) =>
 (cond (decide (v0.1<(a0.length:Int)))
 ((((at? a0 v0.1).bind λv1 =>
 (cond (decide (((UInt8.toNat v1):Int)<97))
 (some (true,()))
 ((at? a0 v0.1).bind λv2 =>
 (some ((decide (122<((UInt8.toNat v2):Int))),())))))).bind λv3 =>
 (cond v3.1
 (some (inr (inr (false,()))))
 (some (inl ((w64 (v0.1+1)),())))))
 (some (inr (inl ()))))) (0,())).bind λv4 =>
 (ce_ v4 (λv5=>((ag_ (ρ:=(Unit⊕(Bool×Unit))) (λ(v7:(Int×Unit)) =>
 (cond (decide (v7.1<(([[97,116],[115,116,97,116,101,115],[115,116,97,114,116],[103,111,110,101],[105,102],[108,111,99,107],[119,105,116,104],[115,101,116,115],[115,112,101,110,100,115],[98,114,105,110,103,115]]).length:Int)))
 ((at? [[97,116],[115,116,97,116,101,115],[115,116,97,114,116],[103,111,110,101],[105,102],[108,111,99,107],[119,105,116,104],[115,101,116,115],[115,112,101,110,100,115],[98,114,105,110,103,115]] v7.1).bind λv8 =>
 (cond (v8==a0)
 (some (inr (inr (false,()))))
 (some (inl ((w64 (v7.1+1)),())))))
 (some (inr (inl ()))))) (0,())).bind λv9 =>
 (ce_ v9 (λv10=>(some ((!(a0==[])),())))
 (λv11=>(some v11)))))
 (λv6=>(some v6))))
theorem x_165:au_ (P:=prog) (cxC [c_207] []) (.p .z (.p (.p .z (.ls [.v 3 .int] [] [] 0 (.p .z (.p (.j0 [.v 21 .bool] .z .z) .z)))) (.p .z (.p (.p .z (.ls [.v 5 .int] [] [] 2 .z)) .z)))) 165 [.str] [.bool]=λx=>hi_ x.1:=by kernel_rfl
noncomputable def c_165:Con prog:=av_ _ _ 165 [.str] [.bool] _ x_165
noncomputable def cv_ (a0:ad_) (a1:Int):Option (Bool×Unit) :=
 ((br_ a1 0 (w64 ((a0.1.length:Int) - 1))).bind λv0 =>
 (some (v0.1,())))
theorem x_116:au_ (P:=prog) (cxC [ar9] []) .z 116 [ao_,.int] [.bool]=λx=>cv_ x.1 x.2.1:=by kernel_rfl
noncomputable def c_116:Con prog:=av_ _ _ 116 [ao_,.int] [.bool] _ x_116
noncomputable def dj_ (a0:ad_) (a1:(List Int)):Option (Bool×Unit) :=
 ((ag_ (ρ:=(Unit⊕(Bool×Unit))) (λ(v0:(Int×Unit)) =>
 (cond (decide (v0.1<(a1.length:Int)))
 ((((at? a1 v0.1).bind λv1 =>
 ((br_ v1 0 (w64 ((a0.2.2.1.length:Int) - 1))).bind λv2 =>
 (cond (!v2.1)
 (some (true,()))
 (cond (decide (0<v0.1))
 ((at? a1 v0.1).bind λv3 =>
 ((at? a1 (w64 (v0.1 - 1))).bind λv4 =>
 (some ((decide (v3≤v4)),()))))
 (some (false,()))))))).bind λv5 =>
 (cond v5.1
 (some (inr (inr (false,()))))
 (some (inl ((w64 (v0.1+1)),())))))
 (some (inr (inl ()))))) (0,())).bind λv6 =>
 (ce_ v6 (λv7=>(some (true,())))
 (λv8=>(some v8))))
theorem x_166:au_ (P:=prog) (cxC [ar9] []) (.p .z (.p (.p .z (.ls [.v 5 .int] [] [] 0 (.p .z (.p (.j0 [.v 37 .bool] (.q [] .z .z) .z) .z)))) .z)) 166 [ao_,(.list .int)] [.bool]=λx=>dj_ x.1 x.2.1:=by kernel_rfl
noncomputable def c_166:Con prog:=av_ _ _ 166 [ao_,(.list .int)] [.bool] _ x_166
noncomputable def ef_ (a0:ac_):Option (Int×Unit) :=
 ((((bl_ a0.1 1 4).bind λv0 =>
 (cond (!v0.1)
 (some (true,()))
 ((bl_ a0.2 2 10).bind λv1 =>
 (some ((!v1.1),())))))).bind λv2 =>
 (cond v2.1
 (some (10,()))
 (some (0,()))))
theorem x_65:au_ (P:=prog) (cxC [c_120] []) (.p .z (.p (.j0 [.v 12 .bool] .z .z) .z)) 65 [al_] [.int]=λx=>ef_ x.1:=by kernel_rfl
noncomputable def c_65:Con prog:=av_ _ _ 65 [al_] [.int] _ x_65
noncomputable def gi_ (a0:ac_) (a1:(List Int)):Option (Bool×Unit) :=
 (cond ((a1.length:Int) != a0.1)
 (some (false,()))
 ((ag_ (ρ:=(Unit⊕(Bool×Unit))) (λ(v0:(Int×Unit)) =>
 (cond (decide (v0.1<(a1.length:Int)))
 ((at? a1 v0.1).bind λv1 =>
 ((bl_ v1 0 (w64 (a0.2 - 1))).bind λv2 =>
 (cond (!v2.1)
 (some (inr (inr (false,()))))
 (some (inl ((w64 (v0.1+1)),()))))))
 (some (inr (inl ()))))) (0,())).bind λv3 =>
 (ce_ v3 (λv4=>(some (true,())))
 (λv5=>(some v5)))))
theorem x_121:au_ (P:=prog) (cxC [c_120] []) (.p .z (.p .z (.p (.p .z (.ls [.v 5 .int] [] [] 0 (.p .z (.p (.p (.q [] .z .z) .z) .z)))) .z))) 121 [al_,(.list .int)] [.bool]=λx=>gi_ x.1 x.2.1:=by kernel_rfl
noncomputable def c_121:Con prog:=av_ _ _ 121 [al_,(.list .int)] [.bool] _ x_121
noncomputable def iy_ (a0:ak_) (a1:ak_):Option (Bool×Unit) :=
 (cond (a0.1==a1.1)
 (cond (a0.2.1==a1.2.1)
 (cond (a0.2.2.1==a1.2.2.1)
 (cond (a0.2.2.2.1==a1.2.2.2.1)
 (cond (a0.2.2.2.2.1==a1.2.2.2.2.1)
 (cond (a0.2.2.2.2.2.2==a1.2.2.2.2.2.2)
 ((gn_ a0.2.2.2.2.2.1 a1.2.2.2.2.2.1).bind λv0 =>
 (some (v0.1,())))
 (some (false,())))
 (some (false,())))
 (some (false,())))
 (some (false,())))
 (some (false,())))
 (some (false,())))
theorem x_208:au_ (P:=prog) (cxC [c_232] []) .z 208 [ap_,ap_] [.bool]=λx=>iy_ x.1 x.2.1:=by kernel_rfl
noncomputable def c_208:Con prog:=av_ _ _ 208 [ap_,ap_] [.bool] _ x_208
noncomputable def ic_ (a0:(List Int)) (a1:(List Int)):Option (Int×Int×Unit) :=
 ((ag_ (ρ:=(Int×Unit)) (λ(v0:(Int×(Int×Unit))) =>
 (cond (decide (v0.2.1<(a0.length:Int)))
 ((((at? a0 v0.2.1).bind λv1 =>
 ((at? a1 v0.2.1).bind λv2 =>
 (cond (v1==v2)
 (some ((w64 (v0.1+1)),()))
 (some (v0.1,())))))).bind λv3 =>
 (some (inl (v3.1,((w64 (v0.2.1+1)),())))))
 (some (inr (v0.1,()))))) (0,(0,()))).bind λv4 =>
 ((ag_ (ρ:=(Int×Unit)) (λ(v5:(Int×(Int×Unit))) =>
 (cond (decide (v5.2.1<10))
 ((ee_ a0 v5.2.1).bind λv6 =>
 ((ee_ a1 v5.2.1).bind λv7 =>
 (some (inl ((w64 (v5.1+(ap9 v6.1 v7.1))),((w64 (v5.2.1+1)),()))))))
 (some (inr (v5.1,()))))) (0,(0,()))).bind λv8 =>
 (some (v4.1,((w64 (v8.1 - v4.1)),())))))
theorem x_170:au_ (P:=prog) (cxC [c_169] []) (.p .z (.p .z (.p (.p .z (.lp [.v 6 .int,.v 8 .int] [.v 6 .int] [] 0 (.p .z (.j0 [.v 6 .int] (.p (.q [] .z .z) .z) .z)))) (.p (.p .z (.lp [.v 7 .int,.v 9 .int] [.v 7 .int] [] 2 .z)) .z)))) 170 [(.list .int),(.list .int)] [.int,.int]=λx=>ic_ x.1 x.2.1:=by kernel_rfl
noncomputable def c_170:Con prog:=av_ _ _ 170 [(.list .int),(.list .int)] [.int,.int] _ x_170
noncomputable def gg_ (a0:ad_) (a1:ai_):Option (ai_×Bool×Unit) :=
 ((push? (α:=Int) [] a1.1).bind λv0 =>
 ((push? (α:=Int) [] a1.2.1).bind λv1 =>
 ((push? (α:=Int) [] a1.2.2).bind λv2 =>
 ((ag_ (ρ:=(((List Int)×(((List Int)×((List Int)×((List Int)×Unit)))×Unit))⊕(ai_×(Bool×Unit)))) (λ(v3:(Int×((List Int)×(((List Int)×((List Int)×((List Int)×Unit)))×Unit)))) =>
 (cond (decide (v3.1≤100))
 ((ag_ (ρ:=(Int×Unit)) (λ(v4:(Int×(Int×Unit))) =>
 (((cond (decide (v4.2.1<(a0.2.2.2.2.2.1.length:Int)))
 (some ((decide (v4.1<0)),()))
 (some (false,())))).bind λv5 =>
 (cond v5.1
 ((((at? a0.2.2.2.2.2.1 v4.2.1).bind λv6 =>
 ((((bm_ (v3.2.1,(v1,v2)) v6.1).bind λv7 =>
 (cond v7.1
 ((at? v3.2.1 v6.2.1).bind λv8 =>
 ((at? v3.2.1 v6.2.1).bind λv9 =>
 (some ((v9 != v6.2.2),()))))
 (some (false,()))))).bind λv10 =>
 (cond v10.1
 (some (v4.2.1,()))
 (some (v4.1,())))))).bind λv11 =>
 (some (inl (v11.1,((w64 (v4.2.1+1)),())))))
 (some (inr (v4.1,())))))) ((-1),(0,()))).bind λv12 =>
 (cond (decide (v12.1<0))
 (some (inr (inr ((v3.2.1,(v1,v2)),(true,())))))
 ((at? a0.2.2.2.2.2.1 v12.1).bind λv13 =>
 ((at? a0.2.2.2.2.2.1 v12.1).bind λv14 =>
 ((at? v3.2.1 v13.2.1).bind λv15 =>
 ((at? v3.2.1 v13.2.1).bind λv16 =>
 (some (inl ((w64 (v3.1+1)),((v3.2.1.set v13.2.1.toNat v14.2.2),((v3.2.2.1.1,(v3.2.2.1.2.1,(v3.2.2.1.2.2.1,()))),())))))))))))
 (some (inr (inl (v3.2.1,((v3.2.2.1.1,(v3.2.2.1.2.1,(v3.2.2.1.2.2.1,()))),()))))))) (0,(v0,(([],([],([],()))),())))).bind λv17 =>
 (ce_ v17 (λv18=>(some (([],([],[])),(false,()))))
 (λv19=>(some v19)))))))
theorem x_159:au_ (P:=prog) (cxI (λk=>.z) (λk=>Nat.beq k 16||false) (cxC [c_16] []) 2) (.p .z (.p .z (.p (.p .z (.ls [.v 7 .int] [] [.o (.c (.s 6) 0) .int,.b (.s 4) [.row .int 3,.row .int 3,.row .int 3]] 0 (.p .z (.p (.p .z (.p (.p .z (.lp [.v 8 .int,.v 9 .int] [.v 8 .int] [] 2 (.p (.j0 [.v 25 .bool] .z .z) (.j0 [.v 8 .int] (.p .z (.j0 [.v 49 .bool] .z .z)) .z)))) .z)) .z)))) .z))) 159 [ao_,ar_] [ar_,.bool]=λx=>gg_ x.1 x.2.1:=by kernel_rfl
noncomputable def c_159:Con prog:=av_ _ _ 159 [ao_,ar_] [ar_,.bool] _ x_159
noncomputable def il_ (a0:ab_) (a1:aa_):Option (aa_×Unit) :=
 ((fq_ a1.1).bind λv0 =>
 ((push? (α:=Bool) [] a1.2).bind λv1 =>
 ((ag_ (ρ:=((List Bool)×Unit)) (λ(v2:(Int×((List Bool)×Unit))) =>
 (cond (decide (v2.1<(a0.2.2.2.1.length:Int)))
 ((at? a0.2.2.2.1 v2.1).bind λv3 =>
 ((ag_ (ρ:=((List Bool)×Unit)) (λ(v4:(Int×((List Bool)×Unit))) =>
 (cond (decide (v4.1<(v0.1.2.2.length:Int)))
 ((((((at? v0.1.2.2 v4.1).bind λv5 =>
 (cond (v5==v3.2.1)
 ((bm_ v0.1 v3.2.2.2.1).bind λv6 =>
 (some (v6.1,())))
 (some (false,()))))).bind λv7 =>
 (cond v7.1
 ((at? v4.2.1 v2.1).bind λv8 =>
 ((at? v4.2.1 v2.1).bind λv9 =>
 (some ((v4.2.1.set v2.1.toNat true),()))))
 (some (v4.2.1,()))))).bind λv10 =>
 (some (inl ((w64 (v4.1+1)),(v10.1,())))))
 (some (inr (v4.2.1,()))))) (0,(v2.2.1,()))).bind λv11 =>
 (some (inl ((w64 (v2.1+1)),(v11.1,()))))))
 (some (inr (v2.2.1,()))))) (0,(v1,()))).bind λv12 =>
 (some ((v0.1,v12.1),())))))
theorem x_101:au_ (P:=prog) (cxI (λk=>.z) (λk=>Nat.beq k 16||Nat.beq k 51||false) (cxC [c_16,c_51] []) 2) (.p .z (.p .z (.p (.p .z (.lp [.v 6 .int] [] [.o (.c (.s 5) 3) .bool] 0 (.p .z (.p (.p .z (.p .z (.lp [.v 8 .int] [] [.o (.c (.s 5) 3) .bool] 2 (.p .z (.j0 [.o (.c (.s 5) 3) .bool] (.j0 [.v 46 .bool] .z .z) .z))))) .z)))) .z))) 101 [am_,aj_] [aj_]=λx=>il_ x.1 x.2.1:=by kernel_rfl
noncomputable def c_101:Con prog:=av_ _ _ 101 [am_,aj_] [aj_] _ x_101
noncomputable def hx_ (a0:aa_):Option ((List UInt8)×Unit) :=
 ((ag_ (ρ:=((List UInt8)×Unit)) (λ(v0:((List UInt8)×(Int×Unit))) =>
 (cond (decide (v0.2.1<(a0.1.1.length:Int)))
 ((at? a0.1.1 v0.2.1).bind λv1 =>
 ((cb_ v1).bind λv2 =>
 ((cat? v0.1 v2.1).bind λv3 =>
 ((cat? v3 [32]).bind λv4 =>
 (some (inl (v4,((w64 (v0.2.1+1)),()))))))))
 (some (inr (v0.1,()))))) ([],(0,()))).bind λv5 =>
 ((ag_ (ρ:=((List UInt8)×Unit)) (λ(v6:((List UInt8)×(Int×Unit))) =>
 (cond (decide (v6.2.1<(a0.1.2.1.length:Int)))
 ((at? a0.1.2.1 v6.2.1).bind λv7 =>
 ((cb_ (w64 (v7+10))).bind λv8 =>
 ((cat? v6.1 v8.1).bind λv9 =>
 ((cat? v9 [32]).bind λv10 =>
 (some (inl (v10,((w64 (v6.2.1+1)),()))))))))
 (some (inr (v6.1,()))))) (v5.1,(0,()))).bind λv11 =>
 ((ag_ (ρ:=((List UInt8)×Unit)) (λ(v12:((List UInt8)×(Int×Unit))) =>
 (cond (decide (v12.2.1<(a0.1.2.2.length:Int)))
 ((at? a0.1.2.2 v12.2.1).bind λv13 =>
 ((cb_ v13).bind λv14 =>
 ((cat? v12.1 v14.1).bind λv15 =>
 ((cat? v15 [32]).bind λv16 =>
 (some (inl (v16,((w64 (v12.2.1+1)),()))))))))
 (some (inr (v12.1,()))))) (v11.1,(0,()))).bind λv17 =>
 ((ag_ (ρ:=((List UInt8)×Unit)) (λ(v18:((List UInt8)×(Int×Unit))) =>
 (cond (decide (v18.2.1<(a0.2.length:Int)))
 ((((at? a0.2 v18.2.1).bind λv19 =>
 (cond v19
 ((cb_ v18.2.1).bind λv20 =>
 ((cat? v18.1 v20.1).bind λv21 =>
 ((cat? v21 [32]).bind λv22 =>
 (some (v22,())))))
 (some (v18.1,()))))).bind λv23 =>
 (some (inl (v23.1,((w64 (v18.2.1+1)),())))))
 (some (inr (v18.1,()))))) (v17.1,(0,()))).bind λv24 =>
 (some (v24.1,()))))))
theorem x_53:au_ (P:=prog) (cxC [c_102] []) (.p .z (.p .z (.p (.p .z (.lp [.v 3 .str,.v 4 .int] [.v 3 .str] [] 0 .z)) (.p (.p .z (.lp [.v 3 .str,.v 5 .int] [.v 3 .str] [] 2 .z)) (.p (.p .z (.lp [.v 3 .str,.v 6 .int] [.v 3 .str] [] 4 .z)) (.p (.p .z (.lp [.v 3 .str,.v 7 .int] [.v 3 .str] [] 6 (.p .z (.j0 [.v 3 .str] .z .z)))) .z)))))) 53 [aj_] [.str]=λx=>hx_ x.1:=by kernel_rfl
noncomputable def c_53:Con prog:=av_ _ _ 53 [aj_] [.str] _ x_53
noncomputable def jl_ (a0:ad_) (a1:ai_) (a2:ae_):Option (Bool×Unit) :=
 ((br_ a2.1 0 (w64 (a0.2.2.2.2.2.2.1 - 1))).bind λv0 =>
 (cond (!v0.1)
 (some (false,()))
 ((at? a1.2.2 a2.1).bind λv1 =>
 (cond (a2.2.1==1)
 ((br_ a2.2.2 0 (w64 ((a0.2.2.2.1.length:Int) - 1))).bind λv2 =>
 (cond v2.1
 ((at? a0.2.2.2.1 a2.2.2).bind λv3 =>
 (cond (v3.1==v1)
 ((at? a0.2.2.2.1 a2.2.2).bind λv4 =>
 ((bm_ a1 v4.2.2).bind λv5 =>
 (some (v5.1,()))))
 ((at? a0.2.2.2.1 a2.2.2).bind λv6 =>
 (cond (v6.2.1==v1)
 ((at? a0.2.2.2.1 a2.2.2).bind λv7 =>
 ((bm_ a1 v7.2.2).bind λv8 =>
 (some (v8.1,()))))
 (some (false,()))))))
 (some (false,()))))
 (cond (a2.2.1==2)
 ((br_ a2.2.2 0 (w64 ((a0.2.2.1.length:Int) - 1))).bind λv9 =>
 (cond v9.1
 ((at? a1.2.1 a2.2.2).bind λv10 =>
 (cond (v10==v1)
 ((at? a0.2.2.1 a2.2.2).bind λv11 =>
 ((bm_ a1 v11.2.2).bind λv12 =>
 (cond v12.1
 ((gv_ a1 a2.1).bind λv13 =>
 (some ((decide (v13.1<3)),())))
 (some (false,())))))
 (some (false,()))))
 (some (false,()))))
 (cond (a2.2.1==3)
 ((br_ a2.2.2 0 (w64 ((a0.2.2.1.length:Int) - 1))).bind λv14 =>
 (cond v14.1
 ((at? a1.2.1 a2.2.2).bind λv15 =>
 (some ((v15==(w64 ((-2) - a2.1))),())))
 (some (false,()))))
 (cond (a2.2.1==4)
 ((br_ a2.2.2 0 (w64 ((a0.2.2.2.2.1.length:Int) - 1))).bind λv16 =>
 (cond (!v16.1)
 (some (false,()))
 ((at? a0.2.2.2.2.1 a2.2.2).bind λv17 =>
 ((ag_ (ρ:=(Unit⊕(Bool×Unit))) (λ(v18:(Int×Unit)) =>
 (cond (decide (v18.1<(v17.2.2.2.1.length:Int)))
 ((at? v17.2.2.2.1 v18.1).bind λv19 =>
 ((at? a1.2.1 v19).bind λv20 =>
 (cond (v20 != (w64 ((-2) - a2.1)))
 (some (inr (inr (false,()))))
 (some (inl ((w64 (v18.1+1)),()))))))
 (some (inr (inl ()))))) (0,())).bind λv21 =>
 (ce_ v21 (λv22=>((ag_ (ρ:=(Unit⊕(Bool×Unit))) (λ(v24:(Int×Unit)) =>
 (cond (decide (v24.1<(v17.2.2.2.2.2.2.2.length:Int)))
 ((at? v17.2.2.2.2.2.2.2 v24.1).bind λv25 =>
 ((at? a1.2.1 v25).bind λv26 =>
 (cond (v26 != (-1))
 (some (inr (inr (false,()))))
 (some (inl ((w64 (v24.1+1)),()))))))
 (some (inr (inl ()))))) (0,())).bind λv27 =>
 (ce_ v27 (λv28=>(cond (v17.2.1==v1)
 ((bm_ a1 v17.2.2.2.2.1).bind λv30 =>
 (cond v30.1
 ((gv_ a1 a2.1).bind λv31 =>
 (some ((decide ((w64 ((w64 (v31.1 - (v17.2.2.2.2.2.2.1.length:Int)))+(v17.2.2.2.2.2.2.2.length:Int)))≤3)),())))
 (some (false,()))))
 (some (false,()))))
 (λv29=>(some v29)))))
 (λv23=>(some v23)))))))
 (some (false,())))))))))
theorem x_157:au_ (P:=prog) (cxC [c_16,ar9,c_202] []) (.p .z (.p .z (.p (.q [] .z .z) (.p (.p .z (.p .z (.p (.p (.q [] .z .z) .z) (.p .z (.p (.p (.q [] .z .z) .z) (.p .z (.p .z (.p .z (.p (.p .z (.p .z (.p (.p .z (.ls [.v 10 .int] [] [] 1 .z)) (.p (.p .z (.ls [.v 11 .int] [] [] 3 .z)) .z)))) .z))))))))) .z)))) 157 [ao_,ar_,aq_] [.bool]=λx=>jl_ x.1 x.2.1 x.2.2.1:=by kernel_rfl
noncomputable def c_157:Con prog:=av_ _ _ 157 [ao_,ar_,aq_] [.bool] _ x_157
noncomputable def kl_ (a0:ab_):Option (Bool×Unit) :=
 ((((mu_ a0.1).bind λv0 =>
 (cond v0.1
 (some (true,()))
 (cond (decide (10<(a0.2.1.length:Int)))
 (some (true,()))
 (cond (decide (10<(a0.2.2.1.length:Int)))
 (some (true,()))
 (some ((decide (20<(a0.2.2.2.1.length:Int))),()))))))).bind λv1 =>
 (cond v1.1
 (some (true,()))
 ((ag_ (ρ:=(Unit⊕(Bool×Unit))) (λ(v2:(Int×Unit)) =>
 (cond (decide (v2.1<(a0.2.1.length:Int)))
 ((((at? a0.2.1 v2.1).bind λv3 =>
 (cond (decide (3<v3.1))
 ((at? a0.2.1 v2.1).bind λv4 =>
 (some ((decide (5<v4.2)),())))
 (some (false,()))))).bind λv5 =>
 (cond v5.1
 (some (inr (inr (true,()))))
 (some (inl ((w64 (v2.1+1)),())))))
 (some (inr (inl ()))))) (0,())).bind λv6 =>
 (ce_ v6 (λv7=>((ag_ (ρ:=(Unit⊕(Bool×Unit))) (λ(v9:(Int×Unit)) =>
 (cond (decide (v9.1<(a0.2.2.1.length:Int)))
 ((at? a0.2.2.1 v9.1).bind λv10 =>
 (cond (decide (10<(v10.length:Int)))
 (some (inr (inr (true,()))))
 (some (inl ((w64 (v9.1+1)),())))))
 (some (inr (inl ()))))) (0,())).bind λv11 =>
 (ce_ v11 (λv12=>((ag_ (ρ:=(Unit⊕(Bool×Unit))) (λ(v14:(Int×Unit)) =>
 (cond (decide (v14.1<(a0.2.2.2.1.length:Int)))
 ((at? a0.2.2.2.1 v14.1).bind λv15 =>
 (((cond (decide (100<(v15.1.length:Int)))
 (some (true,()))
 (cond (decide (20<(v15.2.2.2.1.length:Int)))
 (some (true,()))
 (some ((decide (10<(v15.2.2.2.2.2.2.2.2.2.1.length:Int))),()))))).bind λv16 =>
 (cond v16.1
 (some (inr (inr (true,()))))
 (some (inl ((w64 (v14.1+1)),()))))))
 (some (inr (inl ()))))) (0,())).bind λv17 =>
 (ce_ v17 (λv18=>(some (false,())))
 (λv19=>(some v19)))))
 (λv13=>(some v13)))))
 (λv8=>(some v8))))))
theorem x_30:au_ (P:=prog) (cxC [c_63] []) (.p .z (.p (.j0 [.v 27 .bool] .z .z) (.p (.p .z (.ls [.v 3 .int] [] [] 0 (.p .z (.p (.j0 [.v 50 .bool] .z .z) .z)))) (.p (.p .z (.ls [.v 4 .int] [] [] 2 .z)) (.p (.p .z (.ls [.v 5 .int] [] [] 4 (.p .z (.p (.p .z (.j0 [.v 93 .bool] .z .z)) .z)))) .z))))) 30 [am_] [.bool]=λx=>kl_ x.1:=by kernel_rfl
noncomputable def c_30:Con prog:=av_ _ _ 30 [am_] [.bool] _ x_30
noncomputable def da_ (a0:(List (List UInt8))) (a1:(List UInt8)):Option (Bool×Unit) :=
 ((ds_ a0 a1).bind λv0 =>
 (some ((decide (0≤v0.1)),())))
theorem x_209:au_ (P:=prog) (cxC [c_233] []) .z 209 [(.list .str),.str] [.bool]=λx=>da_ x.1 x.2.1:=by kernel_rfl
noncomputable def c_209:Con prog:=av_ _ _ 209 [(.list .str),.str] [.bool] _ x_209
noncomputable def fd_ (a0:ad_) (a1:Int) (a2:Int):Option (Bool×Unit) :=
 ((bb_ a1 0 (w64 ((a0.2.1.length:Int) - 1))).bind λv0 =>
 (cond v0.1
 ((at? a0.2.1 a1).bind λv1 =>
 ((bb_ a2 0 (w64 (v1.2.2.1 - 1))).bind λv2 =>
 (some (v2.1,()))))
 (some (false,()))))
theorem x_135:au_ (P:=prog) (cxC [bw8] []) .z 135 [ao_,.int,.int] [.bool]=λx=>fd_ x.1 x.2.1 x.2.2.1:=by kernel_rfl
noncomputable def cj2:Con prog:=av_ _ _ 135 [ao_,.int,.int] [.bool] _ x_135
noncomputable def bi_ (a0:(List Int)) (a1:Int):Option (Bool×Unit) :=
 ((er_ a0 a1).bind λv0 =>
 (some ((decide (0≤v0.1)),())))
theorem x_85:au_ (P:=prog) (cxC [c_36] []) .z 85 [(.list .int),.int] [.bool]=λx=>bi_ x.1 x.2.1:=by kernel_rfl
noncomputable def c_85:Con prog:=av_ _ _ 85 [(.list .int),.int] [.bool] _ x_85
noncomputable def eg_ (a0:ac_):Option (Int×Unit) :=
 ((((bx_ a0.1 1 4).bind λv0 =>
 (cond (!v0.1)
 (some (true,()))
 ((bx_ a0.2 2 10).bind λv1 =>
 (some ((!v1.1),())))))).bind λv2 =>
 (cond v2.1
 (some (10,()))
 (some (0,()))))
theorem x_77:au_ (P:=prog) (cxC [cj1] []) (.p .z (.p (.j0 [.v 12 .bool] .z .z) .z)) 77 [al_] [.int]=λx=>eg_ x.1:=by kernel_rfl
noncomputable def c_77:Con prog:=av_ _ _ 77 [al_] [.int] _ x_77
noncomputable def cq_ (a0:ac_) (a1:Int):Option (Bool×Unit) :=
 ((bx_ a1 0 (w64 (a0.2 - 1))).bind λv0 =>
 (some (v0.1,())))
theorem x_220:au_ (P:=prog) (cxC [cj1] []) .z 220 [al_,.int] [.bool]=λx=>cq_ x.1 x.2.1:=by kernel_rfl
noncomputable def c_220:Con prog:=av_ _ _ 220 [al_,.int] [.bool] _ x_220
noncomputable def bt_ (a0:ac_) (a1:Int):Option (Bool×Unit) :=
 ((bx_ a1 0 (w64 (a0.1 - 1))).bind λv0 =>
 (some (v0.1,())))
theorem x_236:au_ (P:=prog) (cxC [cj1] []) .z 236 [al_,.int] [.bool]=λx=>bt_ x.1 x.2.1:=by kernel_rfl
noncomputable def c_236:Con prog:=av_ _ _ 236 [al_,.int] [.bool] _ x_236
noncomputable def mv_ (a0:ak_) (a1:(List Int)):Option (Bool×Unit) :=
 (cond (a0.1==1)
 ((at? a1 a0.2.1).bind λv0 =>
 (some ((v0==a0.2.2.2.1),())))
 (cond (a0.1==2)
 ((sub? a1 a0.2.1 (w64 (a0.2.2.1+1))).bind λv1 =>
 ((ag_ (ρ:=(Int×Unit)) (λ(v2:(Int×(Int×Unit))) =>
 (cond (decide (v2.2.1<(v1.length:Int)))
 ((at? v1 v2.2.1).bind λv3 =>
 (some (inl ((w64 (v2.1+v3)),((w64 (v2.2.1+1)),())))))
 (some (inr (v2.1,()))))) (0,(0,()))).bind λv4 =>
 (some ((v4.1==a0.2.2.2.1),()))))
 (cond (a0.1==3)
 ((at? a1 a0.2.1).bind λv5 =>
 ((at? a1 a0.2.2.1).bind λv6 =>
 (some ((decide (v5<v6)),()))))
 (cond (a0.1==4)
 ((at? a1 a0.2.1).bind λv7 =>
 ((at? a1 a0.2.2.1).bind λv8 =>
 (some ((v7==v8),()))))
 (cond (a0.1==5)
 ((ag_ (ρ:=(Int×Unit)) (λ(v9:(Int×(Int×Unit))) =>
 (cond (decide (v9.2.1<(a1.length:Int)))
 ((((at? a1 v9.2.1).bind λv10 =>
 (cond (v10==a0.2.2.2.1)
 (some ((w64 (v9.1+1)),()))
 (some (v9.1,()))))).bind λv11 =>
 (some (inl (v11.1,((w64 (v9.2.1+1)),())))))
 (some (inr (v9.1,()))))) (0,(0,()))).bind λv12 =>
 (some ((v12.1==a0.2.2.2.2.1),())))
 (cond (a0.1==6)
 ((id_ a1 a0.2.2.2.2.2.1).bind λv13 =>
 (cond (v13.1==a0.2.2.2.1)
 (some ((v13.2.1==a0.2.2.2.2.1),()))
 (some (false,()))))
 ((at? a1 a0.2.1).bind λv14 =>
 ((md v14 a0.2.2.2.1).bind λv15 =>
 (some ((v15==a0.2.2.2.2.1),()))))))))))
theorem x_222:au_ (P:=prog) (cxC [c_237] []) (.p .z (.p (.p .z (.p .z (.p (.p (.q [] .z .z) .z) (.p .z (.p (.p .z (.p (.p .z (.lp [.v 5 .int,.v 35 .int] [.v 5 .int] [] 1 .z)) .z)) (.p .z (.p (.p (.q [] .z .z) .z) (.p .z (.p (.p (.q [] .z .z) .z) (.p .z (.p (.p .z (.p (.p .z (.lp [.v 8 .int,.v 77 .int] [.v 8 .int] [] 3 (.p .z (.p .z (.j0 [.v 8 .int] .z .z))))) .z)) .z))))))))))) (.p (.q [] .z .z) .z))) 222 [ap_,(.list .int)] [.bool]=λx=>mv_ x.1 x.2.1:=by kernel_rfl
noncomputable def c_222:Con prog:=av_ _ _ 222 [ap_,(.list .int)] [.bool] _ x_222
noncomputable def ld_ (a0:ad_) (a1:(List bc_)):Option (Bool×Unit) :=
 (cond (decide ((a1.length:Int)≤8))
 ((((ag_ (ρ:=(Unit⊕(Bool×Unit))) (λ(v0:(Int×Unit)) =>
 (cond (decide (v0.1<(a1.length:Int)))
 ((at? a1 v0.1).bind λv1 =>
 ((((bs_ v1.1 0 (w64 ((a0.2.1.length:Int) - 1))).bind λv2 =>
 (cond (!v2.1)
 (some (true,()))
 ((at? a0.2.1 v1.1).bind λv3 =>
 ((bs_ v1.2.1 0 (w64 (v3.2.2.1 - 1))).bind λv4 =>
 (some ((!v4.1),()))))))).bind λv5 =>
 (cond v5.1
 (some (inr (inr ((decide (0≤v0.1)),()))))
 (some (inl ((w64 (v0.1+1)),()))))))
 (some (inr (inl ()))))) (0,())).bind λv6 =>
 (ce_ v6 (λv7=>(some ((decide (0≤(-1))),())))
 (λv8=>(some v8))))).bind λv9 =>
 (some ((!v9.1),())))
 (some (false,())))
theorem x_80:au_ (P:=prog) (cxI (λk=>cond (Nat.beq k 143) (.p .z (.j0 [.v 4 .bool] .z .z)) (cond (Nat.beq k 144) (.p .z (.j0 [.v 3 .bool] (.q [] .z .z) .z)) (cond (Nat.beq k 189) (.p .z (.p (.p .z (.ls [.v 8 .int] [] [] 0 .z)) .z)) (.z)))) (λk=>Nat.beq k 81||false) (cxC [c_81] []) 4) .z 80 [ao_,(.list ca_)] [.bool]=λx=>ld_ x.1 x.2.1:=by kernel_rfl
noncomputable def c_80:Con prog:=av_ _ _ 80 [ao_,(.list ca_)] [.bool] _ x_80
noncomputable def db_ (a0:hb_) (a1:ae_):Option (Bool×Unit) :=
 ((bb_ a1.1 0 (w64 ((a0.2.2.2.length:Int) - 1))).bind λv0 =>
 (cond (!v0.1)
 (some (false,()))
 ((at? a0.2.2.2 a1.1).bind λv1 =>
 (cond (a1.2.1==1)
 ((bb_ a1.2.2 0 (w64 ((a0.1.2.2.2.1.length:Int) - 1))).bind λv2 =>
 (cond (!v2.1)
 (some (false,()))
 ((at? a0.1.2.2.2.1 a1.2.2).bind λv3 =>
 (cond (v3.1==v1)
 ((ba_ a0 v3.2.2).bind λv4 =>
 (some (v4.1,())))
 (cond (v3.2.1==v1)
 ((ba_ a0 v3.2.2).bind λv5 =>
 (some (v5.1,())))
 (some (false,())))))))
 (cond (a1.2.1==2)
 ((bb_ a1.2.2 0 (w64 ((a0.2.2.1.length:Int) - 1))).bind λv6 =>
 (cond v6.1
 ((at? a0.2.2.1 a1.2.2).bind λv7 =>
 (cond (v7==v1)
 ((at? a0.1.2.2.1 a1.2.2).bind λv8 =>
 ((ba_ a0 v8.2.2).bind λv9 =>
 (cond v9.1
 ((di_ a0 a1.1).bind λv10 =>
 (some ((decide (v10.1<3)),())))
 (some (false,())))))
 (some (false,()))))
 (some (false,()))))
 (cond (a1.2.1==3)
 ((bb_ a1.2.2 0 (w64 ((a0.2.2.1.length:Int) - 1))).bind λv11 =>
 (cond v11.1
 ((at? a0.2.2.1 a1.2.2).bind λv12 =>
 (some ((v12==(w64 ((-2) - a1.1))),())))
 (some (false,()))))
 (cond (a1.2.1==4)
 ((bb_ a1.2.2 0 (w64 ((a0.1.2.2.2.2.1.length:Int) - 1))).bind λv13 =>
 (cond (!v13.1)
 (some (false,()))
 ((at? a0.1.2.2.2.2.1 a1.2.2).bind λv14 =>
 (cond (v14.2.1==v1)
 ((((ag_ (ρ:=(Unit⊕(Bool×Unit))) (λ(v15:(Int×Unit)) =>
 (cond (decide (v15.1<(v14.2.2.2.1.length:Int)))
 ((at? v14.2.2.2.1 v15.1).bind λv16 =>
 ((at? a0.2.2.1 v16).bind λv17 =>
 (cond (!(v17==(w64 ((-2) - a1.1))))
 (some (inr (inr ((decide (0≤v15.1)),()))))
 (some (inl ((w64 (v15.1+1)),()))))))
 (some (inr (inl ()))))) (0,())).bind λv18 =>
 (ce_ v18 (λv19=>(some ((decide (0≤(-1))),())))
 (λv20=>(some v20))))).bind λv21 =>
 (cond (!v21.1)
 ((ba_ a0 v14.2.2.2.2.1).bind λv22 =>
 (cond v22.1
 ((((ag_ (ρ:=(Unit⊕(Bool×Unit))) (λ(v23:(Int×Unit)) =>
 (cond (decide (v23.1<(v14.2.2.2.2.2.2.2.length:Int)))
 ((at? v14.2.2.2.2.2.2.2 v23.1).bind λv24 =>
 ((at? a0.2.2.1 v24).bind λv25 =>
 (cond (!(v25==(-1)))
 (some (inr (inr ((decide (0≤v23.1)),()))))
 (some (inl ((w64 (v23.1+1)),()))))))
 (some (inr (inl ()))))) (0,())).bind λv26 =>
 (ce_ v26 (λv27=>(some ((decide (0≤(-1))),())))
 (λv28=>(some v28))))).bind λv29 =>
 (cond (!v29.1)
 ((di_ a0 a1.1).bind λv30 =>
 (some ((decide ((w64 ((w64 (v30.1 - (v14.2.2.2.2.2.2.1.length:Int)))+(v14.2.2.2.2.2.2.2.length:Int)))≤3)),())))
 (some (false,()))))
 (some (false,()))))
 (some (false,()))))
 (some (false,()))))))
 (some (false,())))))))))
theorem x_148:au_ (P:=prog) (cxI (λk=>cond (Nat.beq k 95) (.p .z (.j0 [.v 4 .bool] .z .z)) (cond (Nat.beq k 154) (.p .z (.p (.p .z (.ls [.v 8 .int] [] [] 0 .z)) .z)) (cond (Nat.beq k 194) (.p .z (.p (.q [] .z .z) .z)) (.z)))) (λk=>Nat.beq k 126||Nat.beq k 147||Nat.beq k 197||false) (cxC [bw8,bw6,c_197] []) 7) (.p .z (.p (.p (.q [] .z .z) .z) (.p (.q [] .z .z) (.p .z (.p .z (.p .z (.p (.p .z (.p .z (.p (.p (.p (.q [] .z .z) .z) .z) (.p .z (.p (.p (.q [] .z .z) .z) (.p .z (.p (.p (.q [] .z .z) .z) (.p .z (.p (.p (.p (.q [] .z .z) .z) .z) .z))))))))) .z))))))) 148 [(.ref ez_),aq_] [.bool]=λx=>db_ x.1 x.2.1:=by kernel_rfl
noncomputable def c_148:Con prog:=av_ _ _ 148 [(.ref ez_),aq_] [.bool] _ x_148
noncomputable def ki_ (a0:aa_):Option ((List UInt8)×Unit) :=
 ((fj_ [a0.1.1,a0.1.2.1,a0.1.2.2]).bind λv0 =>
 ((gw_ a0).bind λv1 =>
 ((cat? v0.1 v1.1).bind λv2 =>
 (some (v2,())))))
theorem x_151:au_ (P:=prog) (cxC [c_56,c_198] []) .z 151 [aj_] [.str]=λx=>ki_ x.1:=by kernel_rfl
noncomputable def c_151:Con prog:=av_ _ _ 151 [aj_] [.str] _ x_151
noncomputable def wr_  : Option (ab_×Unit) :=
 (some ((([[104,97,108,108],[118,97,117,108,116]],([([98,111,120],(0,(2,0))),([100,111,111,114],(0,(2,0)))],([([107,101,121],(0,[(0,(1,false))]))],([(0,(1,[(1,(1,false))]))],([([111,112,101,110],(0,(0,([],([],([(0,1)],([],[]))))))),([116,117,114,110],(0,((-1),([0],([],([(1,1)],([0],[])))))))],([],(1,[]))))))),([(2,4)],([[3,1]],([([108,101,97,102],(0,(0,([],(2,(0,(1,(4,(0,([],false)))))))))),([98,97,99,107],(0,(0,([(0,(0,false))],(3,(1,(0,(0,(0,([],false)))))))))),([99,97,114,100],(1,((-1),([],(0,(0,(0,(0,(0,([],false))))))))))],1)))),()))
theorem x_32:au_ (P:=prog) (cxC [c_70] []) .z 32 [] [am_]=λx=>wr_:=by kernel_rfl
noncomputable def c_32:Con prog:=av_ _ _ 32 [] [am_] _ x_32
noncomputable def lc_ (a0:ad_):Option (ad_×Unit) :=
 ((push? (α:=(List UInt8)) [] a0.1).bind λv0 =>
 ((push? (α:=gr_) [] a0.2.1).bind λv1 =>
 ((push? (α:=jx_) [] a0.2.2.1).bind λv2 =>
 ((push? (α:=ok_) [] a0.2.2.2.1).bind λv3 =>
 ((push? (α:=co_) [] a0.2.2.2.2.1).bind λv4 =>
 ((push? (α:=pp_) [] a0.2.2.2.2.2.1).bind λv5 =>
 ((cl_ a0.2.2.2.2.2.2.2).bind λv6 =>
 ((ag_ (ρ:=((List jx_)×Unit)) (λ(v7:(Int×((List jx_)×Unit))) =>
 (cond (decide (v7.1<(v7.2.1.length:Int)))
 ((at? v7.2.1 v7.1).bind λv8 =>
 ((at? v7.2.1 v7.1).bind λv9 =>
 ((cl_ v9.2.2).bind λv10 =>
 ((at? v7.2.1 v7.1).bind λv11 =>
 ((at? v7.2.1 v7.1).bind λv12 =>
 (some (inl ((w64 (v7.1+1)),((v7.2.1.set v7.1.toNat (v12.1,(v12.2.1,v10.1))),())))))))))
 (some (inr (v7.2.1,()))))) (0,(v2,()))).bind λv13 =>
 ((ag_ (ρ:=((List ok_)×Unit)) (λ(v14:(Int×((List ok_)×Unit))) =>
 (cond (decide (v14.1<(v14.2.1.length:Int)))
 ((at? v14.2.1 v14.1).bind λv15 =>
 ((at? v14.2.1 v14.1).bind λv16 =>
 ((cl_ v16.2.2).bind λv17 =>
 ((at? v14.2.1 v14.1).bind λv18 =>
 ((at? v14.2.1 v14.1).bind λv19 =>
 (some (inl ((w64 (v14.1+1)),((v14.2.1.set v14.1.toNat (v19.1,(v19.2.1,v17.1))),())))))))))
 (some (inr (v14.2.1,()))))) (0,(v3,()))).bind λv20 =>
 ((ag_ (ρ:=((List co_)×Unit)) (λ(v21:(Int×((List co_)×Unit))) =>
 (cond (decide (v21.1<(v21.2.1.length:Int)))
 ((at? v21.2.1 v21.1).bind λv22 =>
 ((at? v21.2.1 v21.1).bind λv23 =>
 ((dp_ v23.2.2.2.1).bind λv24 =>
 ((dp_ v23.2.2.2.2.2.2.1).bind λv25 =>
 ((dp_ v23.2.2.2.2.2.2.2).bind λv26 =>
 ((cl_ v23.2.2.2.2.1).bind λv27 =>
 ((push? (α:=ac_) [] v23.2.2.2.2.2.1).bind λv28 =>
 ((at? v21.2.1 v21.1).bind λv29 =>
 ((at? v21.2.1 v21.1).bind λv30 =>
 (some (inl ((w64 (v21.1+1)),((v21.2.1.set v21.1.toNat (v23.1,(v23.2.1,(v23.2.2.1,(v24.1,(v27.1,(v28,(v25.1,v26.1)))))))),())))))))))))))
 (some (inr (v21.2.1,()))))) (0,(v4,()))).bind λv31 =>
 ((ag_ (ρ:=((List pp_)×Unit)) (λ(v32:(Int×((List pp_)×Unit))) =>
 (cond (decide (v32.1<(v32.2.1.length:Int)))
 ((at? v32.2.1 v32.1).bind λv33 =>
 ((at? v32.2.1 v32.1).bind λv34 =>
 ((cl_ v34.1).bind λv35 =>
 ((at? v32.2.1 v32.1).bind λv36 =>
 ((at? v32.2.1 v32.1).bind λv37 =>
 (some (inl ((w64 (v32.1+1)),((v32.2.1.set v32.1.toNat (v35.1,v37.2)),())))))))))
 (some (inr (v32.2.1,()))))) (0,(v5,()))).bind λv38 =>
 (some ((v0,(v1,(v13.1,(v20.1,(v31.1,(v38.1,(a0.2.2.2.2.2.2.1,v6.1))))))),())))))))))))))
theorem x_33:au_ (P:=prog) (cxC [c_71,c_72] []) (.p .z (.p .z (.p (.p .z (.lp [.v 4 .int] [] [.o (.s 20) os_] 0 .z)) (.p (.p .z (.lp [.v 5 .int] [] [.o (.s 24) af9] 2 .z)) (.p (.p .z (.lp [.v 6 .int] [] [.o (.s 28) lr_] 4 .z)) (.p (.p .z (.lp [.v 8 .int] [] [.o (.s 32) xu_] 6 .z)) .z)))))) 33 [ao_] [ao_]=λx=>lc_ x.1:=by kernel_rfl
noncomputable def c_33:Con prog:=av_ _ _ 33 [ao_] [ao_] _ x_33
noncomputable def gk_ (a0:ab_) (a1:aa_):Option (Bool×Unit) :=
 ((bm_ a1.1 a0.1.2.2.2.2.2.2.2).bind λv0 =>
 (some (v0.1,())))
theorem x_74:au_ (P:=prog) (cxC [c_16] []) .z 74 [am_,aj_] [.bool]=λx=>gk_ x.1 x.2.1:=by kernel_rfl
noncomputable def c_74:Con prog:=av_ _ _ 74 [am_,aj_] [.bool] _ x_74
noncomputable def ln_ (a0:ab_) (a1:Int):Option (Int×Unit) :=
 ((bs_ a1 0 (w64 ((a0.2.1.length:Int) - 1))).bind λv0 =>
 (cond (!v0.1)
 (some (1,()))
 (some (0,()))))
theorem x_161:au_ (P:=prog) (cxC [c_81] []) .z 161 [am_,.int] [.int]=λx=>ln_ x.1 x.2.1:=by kernel_rfl
noncomputable def c_161:Con prog:=av_ _ _ 161 [am_,.int] [.int] _ x_161
noncomputable def ij_ (a0:bw_) (a1:(List Int)) (a2:Int):Option ((List ae_)×Bool×Unit) :=
 ((at? a1 0).bind λv0 =>
 (cond (decide (v0<0))
 (some ([],(false,())))
 ((ag_ (ρ:=((List ae_)×Unit)) (λ(v1:((List ae_)×(Int×Unit))) =>
 ((at? a1 v1.2.1).bind λv2 =>
 (cond (decide (0<v2))
 ((ag_ (ρ:=((List ae_)×(Int×Unit))) (λ(v3:((List ae_)×(Int×(Int×Unit)))) =>
 ((at? a0.2 v3.2.1).bind λv4 =>
 (cond (decide (v3.2.2.1<(v4.length:Int)))
 ((at? a0.2 v3.2.1).bind λv5 =>
 ((at? v5 v3.2.2.1).bind λv6 =>
 ((((at? a1 v6.2).bind λv7 =>
 ((at? a1 v3.2.1).bind λv8 =>
 (cond (v7==(w64 (v8 - 1)))
 ((ik_ v6 a2).bind λv9 =>
 (some ((!v9.1),())))
 (some (false,())))))).bind λv10 =>
 (cond v10.1
 ((push? (α:=ae_) v3.1 [v6.1]).bind λv11 =>
 (some (inr (v11,(v6.2,())))))
 (some (inl (v3.1,(v3.2.1,((w64 (v3.2.2.1+1)),())))))))))
 (some (inr (v3.1,(v3.2.1,()))))))) (v1.1,(v1.2.1,(0,())))).bind λv12 =>
 (some (inl (v12.1,(v12.2.1,())))))
 (some (inr (v1.1,())))))) ([],(0,()))).bind λv13 =>
 (some (v13.1,(true,()))))))
theorem x_109:au_ (P:=prog) (cxC [c_75] []) (.p .z (.p .z (.p .z (.p .z (.p (.lp [.r 8 aq_ 59,.v 9 .int] [.r 8 aq_ 59] [] 0 (.p .z (.p .z (.lp [.r 8 aq_ 59,.v 9 .int,.v 10 .int] [.r 8 aq_ 59,.v 9 .int] [] 2 (.p .z (.p (.p .z (.j0 [.v 55 .bool] .z .z)) .z)))))) .z))))) 109 [fa_,(.list .int),.int] [(.list aq_),.bool]=λx=>ij_ x.1 x.2.1 x.2.2.1:=by kernel_rfl
noncomputable def c_109:Con prog:=av_ _ _ 109 [fa_,(.list .int),.int] [(.list aq_),.bool] _ x_109
end
section
set_option maxRecDepth 100000
set_option maxHeartbeats 0
noncomputable def cw_ (a0:ad_) (a1:(List bc_)):Option (Bool×Unit) :=
 ((ag_ (ρ:=(Unit⊕(Bool×Unit))) (λ(v0:(Int×Unit)) =>
 (cond (decide (v0.1<(a1.length:Int)))
 ((at? a1 v0.1).bind λv1 =>
 ((at? a1 v0.1).bind λv2 =>
 ((gp_ a0 v1.1 v2.2.1).bind λv3 =>
 (cond (!v3.1)
 (some (inr (inr (false,()))))
 (some (inl ((w64 (v0.1+1)),())))))))
 (some (inr (inl ()))))) (0,())).bind λv4 =>
 (ce_ v4 (λv5=>(some ((decide ((a1.length:Int)≤8)),())))
 (λv6=>(some v6))))
theorem x_68:au_ (P:=prog) (cxC [cj3] []) (.p .z (.p (.p .z (.ls [.v 5 .int] [] [] 0 (.p .z (.p (.p (.q [] .z .z) .z) .z)))) .z)) 68 [ao_,(.list ca_)] [.bool]=λx=>cw_ x.1 x.2.1:=by kernel_rfl
noncomputable def c_68:Con prog:=av_ _ _ 68 [ao_,(.list ca_)] [.bool] _ x_68
noncomputable def du_ (a0:(List UInt8)):Option (Bool×Unit) :=
 (cond (decide ((a0.length:Int)≤12))
 ((hi_ a0).bind λv0 =>
 (some (v0.1,())))
 (some (false,())))
theorem x_114:au_ (P:=prog) (cxC [c_165] []) .z 114 [.str] [.bool]=λx=>du_ x.1:=by kernel_rfl
noncomputable def c_114:Con prog:=av_ _ _ 114 [.str] [.bool] _ x_114
noncomputable def fs_ (a0:ac_) (a1:(List Int)):Option (Int×Unit) :=
 ((ef_ a0).bind λv0 =>
 (cond (v0.1 != 0)
 (some (v0.1,()))
 ((gi_ a0 a1).bind λv1 =>
 (cond (!v1.1)
 (some (12,()))
 (some (0,()))))))
theorem x_66:au_ (P:=prog) (cxC [c_65,c_121] []) .z 66 [al_,(.list .int)] [.int]=λx=>fs_ x.1 x.2.1:=by kernel_rfl
noncomputable def c_66:Con prog:=av_ _ _ 66 [al_,(.list .int)] [.int] _ x_66
noncomputable def gj_ (a0:ac_) (a1:ak_):Option (Bool×Unit) :=
 ((bl_ a1.2.1 0 (w64 (a0.1 - 1))).bind λv0 =>
 ((bl_ a1.2.2.1 0 (w64 (a0.1 - 1))).bind λv1 =>
 (((cond (a1.1==1)
 (((cond v0.1
 ((bl_ a1.2.2.2.1 0 (w64 (a0.2 - 1))).bind λv2 =>
 (some (v2.1,())))
 (some (false,())))).bind λv3 =>
 (some (v3.1,((a1.2.1,(0,(a1.2.2.2.1,(0,([],()))))),()))))
 (cond (a1.1==2)
 (((cond v0.1
 (cond v1.1
 (cond (decide (a1.2.1≤a1.2.2.1))
 ((bl_ a1.2.2.2.1 0 100).bind λv4 =>
 (some (v4.1,())))
 (some (false,())))
 (some (false,())))
 (some (false,())))).bind λv5 =>
 (some (v5.1,((a1.2.1,(a1.2.2.1,(a1.2.2.2.1,(0,([],()))))),()))))
 (((cond (a1.1==3)
 (some ((a1.1==3),()))
 (some ((a1.1==4),())))).bind λv6 =>
 (cond v6.1
 (((cond v0.1
 (cond v1.1
 (some ((a1.2.1 != a1.2.2.1),()))
 (some (false,())))
 (some (false,())))).bind λv7 =>
 (some (v7.1,((a1.2.1,(a1.2.2.1,(0,(0,([],()))))),()))))
 (cond (a1.1==5)
 ((((bl_ a1.2.2.2.1 0 (w64 (a0.2 - 1))).bind λv8 =>
 (cond v8.1
 ((bl_ a1.2.2.2.2.1 0 a0.1).bind λv9 =>
 (some (v9.1,())))
 (some (false,()))))).bind λv10 =>
 (some (v10.1,((0,(0,(a1.2.2.2.1,(a1.2.2.2.2.1,([],()))))),()))))
 (cond (a1.1==6)
 ((((gi_ a0 a1.2.2.2.2.2.1).bind λv11 =>
 (cond v11.1
 ((bl_ a1.2.2.2.1 0 a0.1).bind λv12 =>
 (cond v12.1
 ((bl_ a1.2.2.2.2.1 0 a0.1).bind λv13 =>
 (some (v13.1,())))
 (some (false,()))))
 (some (false,()))))).bind λv14 =>
 (some (v14.1,((0,(0,(a1.2.2.2.1,(a1.2.2.2.2.1,(a1.2.2.2.2.2.1,()))))),()))))
 (cond (a1.1==7)
 (((cond v0.1
 ((bl_ a1.2.2.2.1 2 10).bind λv15 =>
 (cond v15.1
 ((bl_ a1.2.2.2.2.1 0 (w64 (a1.2.2.2.1 - 1))).bind λv16 =>
 (some (v16.1,())))
 (some (false,()))))
 (some (false,())))).bind λv17 =>
 (some (v17.1,((a1.2.1,(0,(a1.2.2.2.1,(a1.2.2.2.2.1,([],()))))),()))))
 (some (false,((0,(0,(0,(0,([],()))))),()))))))))))).bind λv18 =>
 (cond v18.1
 ((iy_ a1 (a1.1,(v18.2.1.1,(v18.2.1.2.1,(v18.2.1.2.2.1,(v18.2.1.2.2.2.1,(v18.2.1.2.2.2.2.1,a1.2.2.2.2.2.2))))))).bind λv19 =>
 (some (v19.1,())))
 (some (false,()))))))
theorem x_168:au_ (P:=prog) (cxC [c_120,c_121,c_208] []) (.p .z (.p (.q [] .z .z) (.p .z (.p .z (.j0 [.v 8 .bool,.b (.s 7) [.keep,.val .int,.val .int,.val .int,.val .int,.val (.list .int),.keep]] (.p .z (.p .z (.p (.j0 [.v 8 .bool] .z .z) (.p .z (.p (.j0 [.v 8 .bool] .z .z) (.j0 [.v 72 .bool] .z (.p (.j0 [.v 8 .bool] .z .z) (.p .z (.p (.j0 [.v 8 .bool] .z .z) (.p .z (.p (.j0 [.v 8 .bool] .z .z) (.p .z (.p (.j0 [.v 8 .bool] .z .z) .z))))))))))))) .z))))) 168 [al_,ap_] [.bool]=λx=>gj_ x.1 x.2.1:=by kernel_rfl
noncomputable def c_168:Con prog:=av_ _ _ 168 [al_,ap_] [.bool] _ x_168
noncomputable def fi_ (a0:ak_) (a1:(List Int)):Option (Bool×Unit) :=
 (((cond (a0.1==1)
 ((at? a1 a0.2.1).bind λv0 =>
 (some ((v0==a0.2.2.2.1),())))
 (cond (a0.1==2)
 ((ag_ (ρ:=(Int×Unit)) (λ(v1:(Int×(Int×Unit))) =>
 (cond (decide (v1.2.1≤a0.2.2.1))
 ((at? a1 v1.2.1).bind λv2 =>
 (some (inl ((w64 (v1.1+v2)),((w64 (v1.2.1+1)),())))))
 (some (inr (v1.1,()))))) (0,(a0.2.1,()))).bind λv3 =>
 (some ((v3.1==a0.2.2.2.1),())))
 (cond (a0.1==3)
 ((at? a1 a0.2.1).bind λv4 =>
 ((at? a1 a0.2.2.1).bind λv5 =>
 (some ((decide (v4<v5)),()))))
 (cond (a0.1==4)
 ((at? a1 a0.2.1).bind λv6 =>
 ((at? a1 a0.2.2.1).bind λv7 =>
 (some ((v6==v7),()))))
 (cond (a0.1==5)
 ((ee_ a1 a0.2.2.2.1).bind λv8 =>
 (some ((v8.1==a0.2.2.2.2.1),())))
 (cond (a0.1==6)
 ((ic_ a1 a0.2.2.2.2.2.1).bind λv9 =>
 (cond (v9.1==a0.2.2.2.1)
 (some ((v9.2.1==a0.2.2.2.2.1),()))
 (some (false,()))))
 (cond (a0.1==7)
 ((at? a1 a0.2.1).bind λv10 =>
 ((md v10 a0.2.2.2.1).bind λv11 =>
 (some ((v11==a0.2.2.2.2.1),()))))
 (some (false,())))))))))).bind λv12 =>
 (some ((v12.1 != a0.2.2.2.2.2.2),())))
theorem x_124:au_ (P:=prog) (cxC [c_169,c_170] []) (.p .z (.p .z (.j0 [.v 5 .bool] (.p .z (.p .z (.p (.q [] .z .z) (.p .z (.p (.p .z (.p (.p .z (.lp [.v 6 .int,.v 7 .int] [.v 6 .int] [] 1 .z)) .z)) (.p .z (.p (.q [] .z .z) (.p .z (.p (.q [] .z .z) (.p .z (.p (.q [] .z .z) (.p .z (.p .z (.p .z (.p (.q [] .z .z) .z))))))))))))))) .z))) 124 [ap_,(.list .int)] [.bool]=λx=>fi_ x.1 x.2.1:=by kernel_rfl
noncomputable def c_124:Con prog:=av_ _ _ 124 [ap_,(.list .int)] [.bool] _ x_124
noncomputable def es_ (a0:ad_) (a1:ai_):Option ((List ae_)×Unit) :=
 ((ag_ (ρ:=((List ae_)×Unit)) (λ(v0:((List ae_)×(Int×Unit))) =>
 (cond (decide (v0.2.1<a0.2.2.2.2.2.2.1))
 ((ag_ (ρ:=((List ae_)×Unit)) (λ(v1:((List ae_)×(Int×Unit))) =>
 (cond (decide (v1.2.1≤4))
 ((ag_ (ρ:=((List ae_)×Unit)) (λ(v2:((List ae_)×(Int×Unit))) =>
 (cond (decide (v2.2.1<24))
 ((((jl_ a0 a1 (v0.2.1,(v1.2.1,v2.2.1))).bind λv3 =>
 (cond v3.1
 ((push? (α:=ae_) v2.1 [(v0.2.1,(v1.2.1,v2.2.1))]).bind λv4 =>
 (some (v4,())))
 (some (v2.1,()))))).bind λv5 =>
 (some (inl (v5.1,((w64 (v2.2.1+1)),())))))
 (some (inr (v2.1,()))))) (v1.1,(0,()))).bind λv6 =>
 (some (inl (v6.1,((w64 (v1.2.1+1)),())))))
 (some (inr (v1.1,()))))) (v0.1,(1,()))).bind λv7 =>
 (some (inl (v7.1,((w64 (v0.2.1+1)),())))))
 (some (inr (v0.1,()))))) ([],(0,()))).bind λv8 =>
 (some (v8.1,())))
theorem x_103:au_ (P:=prog) (cxC [c_157] []) (.p .z (.p .z (.p (.p .z (.lp [.r 5 aq_ 59,.v 6 .int] [.r 5 aq_ 59] [] 0 (.p .z (.p (.p .z (.lp [.r 5 aq_ 59,.v 7 .int] [.r 5 aq_ 59] [] 2 (.p .z (.p (.p .z (.lp [.r 5 aq_ 59,.v 8 .int] [.r 5 aq_ 59] [] 4 (.p .z (.j0 [.r 5 aq_ 59] .z .z)))) .z)))) .z)))) .z))) 103 [ao_,ar_] [(.list aq_)]=λx=>es_ x.1 x.2.1:=by kernel_rfl
noncomputable def c_103:Con prog:=av_ _ _ 103 [ao_,ar_] [(.list aq_)] _ x_103
noncomputable def gh_ (a0:ad_) (a1:ai_) (a2:ae_):Option (ai_×Bool×Unit) :=
 ((push? (α:=Int) [] a1.1).bind λv0 =>
 ((push? (α:=Int) [] a1.2.1).bind λv1 =>
 ((push? (α:=Int) [] a1.2.2).bind λv2 =>
 ((at? a1.2.2 a2.1).bind λv3 =>
 (((cond (a2.2.1==1)
 ((at? a0.2.2.2.1 a2.2.2).bind λv4 =>
 ((at? a0.2.2.2.1 a2.2.2).bind λv5 =>
 ((at? v2 a2.1).bind λv6 =>
 ((at? v2 a2.1).bind λv7 =>
 (some (v0,(v1,((v2.set a2.1.toNat (w64 ((w64 (v4.1+v5.2.1)) - v3))),()))))))))
 (cond (a2.2.1==2)
 ((at? v1 a2.2.2).bind λv8 =>
 ((at? v1 a2.2.2).bind λv9 =>
 (some (v0,((v1.set a2.2.2.toNat (w64 ((-2) - a2.1))),(v2,()))))))
 (cond (a2.2.1==3)
 ((at? v1 a2.2.2).bind λv10 =>
 ((at? v1 a2.2.2).bind λv11 =>
 (some (v0,((v1.set a2.2.2.toNat v3),(v2,()))))))
 (cond (a2.2.1==4)
 ((at? a0.2.2.2.2.1 a2.2.2).bind λv12 =>
 ((ag_ (ρ:=((List Int)×Unit)) (λ(v13:(Int×((List Int)×Unit))) =>
 (cond (decide (v13.1<(v12.2.2.2.2.2.2.1.length:Int)))
 ((at? v12.2.2.2.2.2.2.1 v13.1).bind λv14 =>
 ((at? v13.2.1 v14).bind λv15 =>
 ((at? v13.2.1 v14).bind λv16 =>
 (some (inl ((w64 (v13.1+1)),((v13.2.1.set v14.toNat (-1)),())))))))
 (some (inr (v13.2.1,()))))) (0,(v1,()))).bind λv17 =>
 ((ag_ (ρ:=((List Int)×Unit)) (λ(v18:(Int×((List Int)×Unit))) =>
 (cond (decide (v18.1<(v12.2.2.2.2.2.2.2.length:Int)))
 ((at? v12.2.2.2.2.2.2.2 v18.1).bind λv19 =>
 ((at? v18.2.1 v19).bind λv20 =>
 ((at? v18.2.1 v19).bind λv21 =>
 (some (inl ((w64 (v18.1+1)),((v18.2.1.set v19.toNat (w64 ((-2) - a2.1))),())))))))
 (some (inr (v18.2.1,()))))) (0,(v17.1,()))).bind λv22 =>
 ((ag_ (ρ:=((List Int)×Unit)) (λ(v23:(Int×((List Int)×Unit))) =>
 (cond (decide (v23.1<(v12.2.2.2.2.2.1.length:Int)))
 ((at? v12.2.2.2.2.2.1 v23.1).bind λv24 =>
 ((at? v12.2.2.2.2.2.1 v23.1).bind λv25 =>
 ((at? v23.2.1 v24.1).bind λv26 =>
 ((at? v23.2.1 v24.1).bind λv27 =>
 (some (inl ((w64 (v23.1+1)),((v23.2.1.set v24.1.toNat v25.2),()))))))))
 (some (inr (v23.2.1,()))))) (0,(v0,()))).bind λv28 =>
 (some (v28.1,(v22.1,(v2,()))))))))
 (some (v0,(v1,(v2,()))))))))).bind λv29 =>
 ((gg_ a0 (v29.1,(v29.2.1,v29.2.2.1))).bind λv30 =>
 (some (v30.1,(v30.2.1,())))))))))
theorem x_105:au_ (P:=prog) (cxI (λk=>.z) (λk=>Nat.beq k 159||false) (cxC [c_159] []) 2) (.p .z (.p .z (.p (.q [] .z .z) (.j0 [.o (.c (.s 8) 0) .int,.o (.c (.s 8) 1) .int,.o (.c (.s 8) 2) .int] (.p .z (.p .z (.p .z (.p .z (.p .z (.p .z (.p .z (.p .z (.p (.p .z (.p (.p .z (.lp [.v 12 .int] [] [.o (.c (.s 8) 1) .int] 1 .z)) (.p (.p .z (.lp [.v 13 .int] [] [.o (.c (.s 8) 1) .int] 3 .z)) (.p .z (.lp [.v 14 .int] [] [.o (.c (.s 8) 0) .int] 5 .z))))) .z))))))))) .z)))) 105 [ao_,ar_,aq_] [ar_,.bool]=λx=>gh_ x.1 x.2.1 x.2.2.1:=by kernel_rfl
noncomputable def c_105:Con prog:=av_ _ _ 105 [ao_,ar_,aq_] [ar_,.bool] _ x_105
noncomputable def fc_ (a0:(List UInt8)):Option (Bool×Unit) :=
 ((ag_ (ρ:=(Unit⊕(Bool×Unit))) (λ(v0:(Int×Unit)) =>
 (cond (decide (v0.1<(a0.length:Int)))
 ((((at? a0 v0.1).bind λv1 =>
 (cond (decide (((UInt8.toNat v1):Int)<97))
 (some (true,()))
 ((at? a0 v0.1).bind λv2 =>
 (some ((decide (122<((UInt8.toNat v2):Int))),())))))).bind λv3 =>
 (cond v3.1
 (some (inr (inr (false,()))))
 (some (inl ((w64 (v0.1+1)),())))))
 (some (inr (inl ()))))) (0,())).bind λv4 =>
 (ce_ v4 (λv5=>(cond (!(a0==[]))
 ((da_ [[97,116],[115,116,97,116,101,115],[115,116,97,114,116],[103,111,110,101],[105,102],[108,111,99,107],[119,105,116,104],[115,101,116,115],[115,112,101,110,100,115],[98,114,105,110,103,115]] a0).bind λv7 =>
 (some ((!v7.1),())))
 (some (false,()))))
 (λv6=>(some v6))))
theorem x_171:au_ (P:=prog) (cxC [c_209] []) (.p .z (.p (.p .z (.ls [.v 6 .int] [] [] 0 (.p .z (.p .z (.p (.p .z (.j0 [.v 18 .bool] .z .z)) .z))))) .z)) 171 [.str] [.bool]=λx=>fc_ x.1:=by kernel_rfl
noncomputable def c_171:Con prog:=av_ _ _ 171 [.str] [.bool] _ x_171
noncomputable def dt_ (a0:ad_) (a1:(List bc_)):Option (Bool×Unit) :=
 (cond (decide ((a1.length:Int)≤8))
 ((((ag_ (ρ:=(Unit⊕(Bool×Unit))) (λ(v0:(Int×Unit)) =>
 (cond (decide (v0.1<(a1.length:Int)))
 ((at? a1 v0.1).bind λv1 =>
 ((fd_ a0 v1.1 v1.2.1).bind λv2 =>
 (cond (!v2.1)
 (some (inr (inr ((decide (0≤v0.1)),()))))
 (some (inl ((w64 (v0.1+1)),()))))))
 (some (inr (inl ()))))) (0,())).bind λv3 =>
 (ce_ v3 (λv4=>(some ((decide (0≤(-1))),())))
 (λv5=>(some v5))))).bind λv6 =>
 (some ((!v6.1),())))
 (some (false,())))
theorem x_133:au_ (P:=prog) (cxI (λk=>cond (Nat.beq k 143) (.p .z (.j0 [.v 4 .bool] .z .z)) (cond (Nat.beq k 189) (.p .z (.p (.p .z (.ls [.v 8 .int] [] [] 0 .z)) .z)) (.z))) (λk=>Nat.beq k 135||false) (cxC [cj2] []) 4) .z 133 [ao_,(.list ca_)] [.bool]=λx=>dt_ x.1 x.2.1:=by kernel_rfl
noncomputable def c_133:Con prog:=av_ _ _ 133 [ao_,(.list ca_)] [.bool] _ x_133
noncomputable def dk_ (a0:ac_) (a1:(List Int)):Option (Bool×Unit) :=
 (cond ((a1.length:Int)==a0.1)
 ((((ag_ (ρ:=(Unit⊕(Bool×Unit))) (λ(v0:(Int×Unit)) =>
 (cond (decide (v0.1<(a1.length:Int)))
 ((at? a1 v0.1).bind λv1 =>
 ((cq_ a0 v1).bind λv2 =>
 (cond (!v2.1)
 (some (inr (inr ((decide (0≤v0.1)),()))))
 (some (inl ((w64 (v0.1+1)),()))))))
 (some (inr (inl ()))))) (0,())).bind λv3 =>
 (ce_ v3 (λv4=>(some ((decide (0≤(-1))),())))
 (λv5=>(some v5))))).bind λv6 =>
 (some ((!v6.1),())))
 (some (false,())))
theorem x_185:au_ (P:=prog) (cxI (λk=>cond (Nat.beq k 95) (.p .z (.j0 [.v 4 .bool] .z .z)) (cond (Nat.beq k 154) (.p .z (.p (.p .z (.ls [.v 8 .int] [] [] 0 .z)) .z)) (.z))) (λk=>Nat.beq k 220||false) (cxC [c_220] []) 4) .z 185 [al_,(.list .int)] [.bool]=λx=>dk_ x.1 x.2.1:=by kernel_rfl
noncomputable def c_185:Con prog:=av_ _ _ 185 [al_,(.list .int)] [.bool] _ x_185
noncomputable def fu_ (a0:ak_) (a1:(List Int)):Option (Bool×Unit) :=
 ((mv_ a0 a1).bind λv0 =>
 (some ((v0.1 != a0.2.2.2.2.2.2),())))
theorem x_188:au_ (P:=prog) (cxC [c_222] []) (.p .z (.p (.q [] .z .z) .z)) 188 [ap_,(.list .int)] [.bool]=λx=>fu_ x.1 x.2.1:=by kernel_rfl
noncomputable def c_188:Con prog:=av_ _ _ 188 [ap_,(.list .int)] [.bool] _ x_188
noncomputable def io_ (a0:ab_):Option (ab_×Unit) :=
 ((lc_ a0.1).bind λv0 =>
 ((push? (α:=ac_) [] a0.2.1).bind λv1 =>
 ((push? (α:=cs_) [] a0.2.2.2.1).bind λv2 =>
 ((ag_ (ρ:=(((List (List Int))×Unit)×Unit)) (λ(v3:(Int×(((List (List Int))×Unit)×Unit))) =>
 (cond (decide (v3.1<(a0.2.2.1.length:Int)))
 ((at? a0.2.2.1 v3.1).bind λv4 =>
 ((push? (α:=Int) [] v4).bind λv5 =>
 ((push? (α:=(List Int)) v3.2.1.1 [v5]).bind λv6 =>
 (some (inl ((w64 (v3.1+1)),((v6,()),())))))))
 (some (inr ((v3.2.1.1,()),()))))) (0,(([],()),()))).bind λv7 =>
 ((ag_ (ρ:=((List cs_)×Unit)) (λ(v8:(Int×((List cs_)×Unit))) =>
 (cond (decide (v8.1<(v8.2.1.length:Int)))
 ((at? v8.2.1 v8.1).bind λv9 =>
 ((at? v8.2.1 v8.1).bind λv10 =>
 ((push? (α:=bc_) [] v10.2.2.2.1).bind λv11 =>
 ((at? v8.2.1 v8.1).bind λv12 =>
 ((at? v8.2.1 v8.1).bind λv13 =>
 ((at? (v8.2.1.set v8.1.toNat (v13.1,(v13.2.1,(v13.2.2.1,(v11,v13.2.2.2.2))))) v8.1).bind λv14 =>
 ((at? (v8.2.1.set v8.1.toNat (v13.1,(v13.2.1,(v13.2.2.1,(v11,v13.2.2.2.2))))) v8.1).bind λv15 =>
 ((gm_ v15.2.2.2.2).bind λv16 =>
 ((at? (v8.2.1.set v8.1.toNat (v13.1,(v13.2.1,(v13.2.2.1,(v11,v13.2.2.2.2))))) v8.1).bind λv17 =>
 ((at? (v8.2.1.set v8.1.toNat (v13.1,(v13.2.1,(v13.2.2.1,(v11,v13.2.2.2.2))))) v8.1).bind λv18 =>
 (some (inl ((w64 (v8.1+1)),(((v8.2.1.set v8.1.toNat (v13.1,(v13.2.1,(v13.2.2.1,(v11,v13.2.2.2.2))))).set v8.1.toNat (v18.1,(v18.2.1,(v18.2.2.1,(v18.2.2.2.1,v16.1))))),()))))))))))))))
 (some (inr (v8.2.1,()))))) (0,(v2,()))).bind λv19 =>
 (some ((v0.1,(v1,(v7.1.1,(v19.1,a0.2.2.2.2)))),())))))))
theorem x_9:au_ (P:=prog) (cxC [c_33,c_34] []) (.p .z (.p .z (.p (.p .z (.lp [.v 4 .int] [] [.b (.s 3) [.keep,.keep,.keep,.keep,.keep,.keep,.keep,.keep,.keep,.row (.list .int) 45,.keep,.keep]] 0 .z)) (.p (.p .z (.lp [.v 5 .int] [] [.o (.s 16) ot_] 2 .z)) .z)))) 9 [am_] [am_]=λx=>io_ x.1:=by kernel_rfl
noncomputable def c_9:Con prog:=av_ _ _ 9 [am_] [am_] _ x_9
noncomputable def cp_ (a0:ab_) (a1:bw_) (a2:Int):Option ((List Int)×Unit) :=
 ((mk? (α:=Int) (a1.1.length:Int) 0).bind λv0 =>
 ((ag_ (ρ:=((List Int)×Unit)) (λ(v1:(Int×((List Int)×Unit))) =>
 (cond (decide (v1.1<(v1.2.1.length:Int)))
 ((((at? v1.2.1 v1.1).bind λv2 =>
 ((at? v1.2.1 v1.1).bind λv3 =>
 ((at? a1.1 v1.1).bind λv4 =>
 ((gk_ a0 v4).bind λv5 =>
 (cond v5.1
 ((at? (v1.2.1.set v1.1.toNat (-1)) v1.1).bind λv6 =>
 ((at? (v1.2.1.set v1.1.toNat (-1)) v1.1).bind λv7 =>
 (some (((v1.2.1.set v1.1.toNat (-1)).set v1.1.toNat 0),()))))
 (some ((v1.2.1.set v1.1.toNat (-1)),())))))))).bind λv8 =>
 (some (inl ((w64 (v1.1+1)),(v8.1,())))))
 (some (inr (v1.2.1,()))))) (0,(v0,()))).bind λv9 =>
 ((ag_ (ρ:=((List Int)×Unit)) (λ(v10:(Int×(Bool×((List Int)×Unit)))) =>
 (cond v10.2.1
 ((ag_ (ρ:=(Bool×((List Int)×Unit))) (λ(v11:(Bool×(Int×((List Int)×Unit)))) =>
 (cond (decide (v11.2.1<(v11.2.2.1.length:Int)))
 ((ag_ (ρ:=(Bool×((List Int)×Unit))) (λ(v12:(Bool×(Int×((List Int)×Unit)))) =>
 ((((at? a1.2 v11.2.1).bind λv13 =>
 (cond (decide (v12.2.1<(v13.length:Int)))
 ((at? v12.2.2.1 v11.2.1).bind λv14 =>
 ((at? v12.2.2.1 v11.2.1).bind λv15 =>
 (some ((decide (v15<0)),()))))
 (some (false,()))))).bind λv16 =>
 (cond v16.1
 ((((at? a1.2 v11.2.1).bind λv17 =>
 ((at? v17 v12.2.1).bind λv18 =>
 ((((at? v12.2.2.1 v18.2).bind λv19 =>
 ((at? v12.2.2.1 v18.2).bind λv20 =>
 (cond (v20==(w64 (v10.1 - 1)))
 ((ik_ v18 a2).bind λv21 =>
 (some ((!v21.1),())))
 (some (false,())))))).bind λv22 =>
 (cond v22.1
 ((at? v12.2.2.1 v11.2.1).bind λv23 =>
 ((at? v12.2.2.1 v11.2.1).bind λv24 =>
 (some (true,((v12.2.2.1.set v11.2.1.toNat v10.1),())))))
 (some (v12.1,(v12.2.2.1,())))))))).bind λv25 =>
 (some (inl (v25.1,((w64 (v12.2.1+1)),(v25.2.1,()))))))
 (some (inr (v12.1,(v12.2.2.1,()))))))) (v11.1,(0,(v11.2.2.1,())))).bind λv26 =>
 (some (inl (v26.1,((w64 (v11.2.1+1)),(v26.2.1,()))))))
 (some (inr (v11.1,(v11.2.2.1,())))))) (false,(0,(v10.2.2.1,())))).bind λv27 =>
 (some (inl ((w64 (v10.1+1)),(v27.1,(v27.2.1,()))))))
 (some (inr (v10.2.2.1,()))))) (1,(true,(v9.1,())))).bind λv28 =>
 (some (v28.1,())))))
theorem x_38:au_ (P:=prog) (cxC [c_74,c_75] []) (.p .z (.p .z (.p (.p .z (.lp [.v 8 .int] [] [.o (.s 7) .int] 0 (.p .z (.j0 [.o (.s 7) .int] (.p .z (.p (.q [] .z .z) .z)) .z)))) (.p (.p .z (.lp [.v 9 .int,.v 10 .bool] [] [.o (.s 7) .int] 2 (.p .z (.p (.p .z (.p .z (.lp [.v 10 .bool,.v 11 .int] [.v 10 .bool] [.o (.s 7) .int] 4 (.p .z (.p (.p .z (.lp [.v 10 .bool,.v 12 .int] [.v 10 .bool] [.o (.s 7) .int] 6 (.p (.j0 [.v 60 .bool] .z .z) (.j0 [.v 10 .bool,.o (.s 7) .int] (.p .z (.j0 [.v 84 .bool] .z .z)) .z)))) .z))))) .z)))) .z)))) 38 [am_,fa_,.int] [(.list .int)]=λx=>cp_ x.1 x.2.1 x.2.2.1:=by kernel_rfl
noncomputable def c_38:Con prog:=av_ _ _ 38 [am_,fa_,.int] [(.list .int)] _ x_38
end
section
set_option maxRecDepth 100000
set_option maxHeartbeats 0
noncomputable def mr_ (a0:ad_) (a1:Int):Option (Bool×Unit) :=
 ((at? a0.2.2.2.2.1 a1).bind λv0 =>
 ((ag_ (ρ:=(Unit⊕(Bool×Unit))) (λ(v1:(Int×Unit)) =>
 (cond (decide (v1.1<a1))
 ((at? a0.2.2.2.2.1 v1.1).bind λv2 =>
 (cond (v2.1==v0.1)
 (some (inr (inr (false,()))))
 (some (inl ((w64 (v1.1+1)),())))))
 (some (inr (inl ()))))) (0,())).bind λv3 =>
 (ce_ v3 (λv4=>((((du_ v0.1).bind λv6 =>
 (cond (!v6.1)
 (some (true,()))
 ((cv_ a0 v0.2.1).bind λv7 =>
 (cond (!v7.1)
 (some (true,()))
 ((br_ v0.2.2.1 (-1) 7).bind λv8 =>
 (cond (!v8.1)
 (some (true,()))
 ((dj_ a0 v0.2.2.2.1).bind λv9 =>
 (cond (!v9.1)
 (some (true,()))
 ((dj_ a0 v0.2.2.2.2.2.2.1).bind λv10 =>
 (cond (!v10.1)
 (some (true,()))
 ((dj_ a0 v0.2.2.2.2.2.2.2).bind λv11 =>
 (cond (!v11.1)
 (some (true,()))
 (some ((decide (6<(v0.2.2.2.2.2.1.length:Int))),()))))))))))))))).bind λv12 =>
 (cond v12.1
 (some (false,()))
 ((ag_ (ρ:=(Unit⊕(Bool×Unit))) (λ(v13:(Int×Unit)) =>
 (cond (decide (v13.1<(v0.2.2.2.2.2.2.1.length:Int)))
 ((at? v0.2.2.2.2.2.2.1 v13.1).bind λv14 =>
 ((lz_ v0.2.2.2.1 v14).bind λv15 =>
 (cond (!v15.1)
 (some (inr (inr (false,()))))
 (some (inl ((w64 (v13.1+1)),()))))))
 (some (inr (inl ()))))) (0,())).bind λv16 =>
 (ce_ v16 (λv17=>((ag_ (ρ:=(Unit⊕(Bool×Unit))) (λ(v19:(Int×Unit)) =>
 (cond (decide (v19.1<(v0.2.2.2.2.2.2.2.length:Int)))
 ((at? v0.2.2.2.2.2.2.2 v19.1).bind λv20 =>
 ((lz_ v0.2.2.2.1 v20).bind λv21 =>
 (cond v21.1
 (some (inr (inr (false,()))))
 (some (inl ((w64 (v19.1+1)),()))))))
 (some (inr (inl ()))))) (0,())).bind λv22 =>
 (ce_ v22 (λv23=>((ag_ (ρ:=(Unit⊕(Bool×Unit))) (λ(v25:(Int×Unit)) =>
 (cond (decide (v25.1<(v0.2.2.2.2.2.1.length:Int)))
 ((at? v0.2.2.2.2.2.1 v25.1).bind λv26 =>
 ((at? v0.2.2.2.2.2.1 v25.1).bind λv27 =>
 ((gp_ a0 v26.1 v27.2).bind λv28 =>
 (cond (!v28.1)
 (some (inr (inr (false,()))))
 ((ag_ (ρ:=(Unit⊕((Int×Unit)⊕(Unit⊕(Bool×Unit))))) (λ(v29:(Int×Unit)) =>
 (cond (decide (v29.1<v25.1))
 ((at? v0.2.2.2.2.2.1 v29.1).bind λv30 =>
 ((at? v0.2.2.2.2.2.1 v25.1).bind λv31 =>
 (cond (v30.1==v31.1)
 (some (inr (inr (inr (inr (false,()))))))
 (some (inl ((w64 (v29.1+1)),()))))))
 (some (inr (inl ()))))) (0,())).bind λv32 =>
 (ce_ v32 (λv33=>(some (inl ((w64 (v25.1+1)),()))))
 (λv34=>(some v34))))))))
 (some (inr (inl ()))))) (0,())).bind λv35 =>
 (ce_ v35 (λv36=>(some (true,())))
 (λv37=>(some v37)))))
 (λv24=>(some v24)))))
 (λv18=>(some v18)))))))
 (λv5=>(some v5)))))
theorem x_118:au_ (P:=prog) (cxC [c_114,c_116,ar9,cj3,c_166,c_167] []) (.p .z (.p .z (.p (.p .z (.ls [.v 6 .int] [] [] 0 .z)) (.p (.j0 [.v 73 .bool] .z .z) (.p (.p .z (.ls [.v 7 .int] [] [] 2 .z)) (.p (.p .z (.ls [.v 8 .int] [] [] 4 .z)) (.p (.p .z (.ls [.v 9 .int] [] [] 6 (.p .z (.p (.p .z (.p .z (.ls [.v 10 .int] [] [] 8 .z))) .z)))) .z))))))) 118 [ao_,.int] [.bool]=λx=>mr_ x.1 x.2.1:=by kernel_rfl
noncomputable def c_118:Con prog:=av_ _ _ 118 [ao_,.int] [.bool] _ x_118
noncomputable def ft_ (a0:ac_) (a1:ak_):Option (Int×Unit) :=
 ((ef_ a0).bind λv0 =>
 (cond (v0.1 != 0)
 (some (v0.1,()))
 ((gj_ a0 a1).bind λv1 =>
 (cond (!v1.1)
 (some (11,()))
 (some (0,()))))))
theorem x_123:au_ (P:=prog) (cxC [c_65,c_168] []) .z 123 [al_,ap_] [.int]=λx=>ft_ x.1 x.2.1:=by kernel_rfl
noncomputable def c_123:Con prog:=av_ _ _ 123 [al_,ap_] [.int] _ x_123
noncomputable def eu_ (a0:ac_) (a1:(List ak_)):Option (Int×Unit) :=
 ((ef_ a0).bind λv0 =>
 (cond (v0.1 != 0)
 (some (v0.1,()))
 (cond (decide (20<(a1.length:Int)))
 (some (2,()))
 ((ag_ (ρ:=(Unit⊕(Int×Unit))) (λ(v1:(Int×Unit)) =>
 (cond (decide (v1.1<(a1.length:Int)))
 ((at? a1 v1.1).bind λv2 =>
 ((gj_ a0 v2).bind λv3 =>
 (cond (!v3.1)
 (some (inr (inr (11,()))))
 (some (inl ((w64 (v1.1+1)),()))))))
 (some (inr (inl ()))))) (0,())).bind λv4 =>
 (ce_ v4 (λv5=>(some (0,())))
 (λv6=>(some v6)))))))
theorem x_240:au_ (P:=prog) (cxC [c_65,c_168] []) (.p .z (.p .z (.p .z (.p (.p .z (.ls [.v 6 .int] [] [] 0 (.p .z (.p (.p (.q [] .z .z) .z) .z)))) .z)))) 240 [al_,(.list ap_)] [.int]=λx=>eu_ x.1 x.2.1:=by kernel_rfl
noncomputable def c_240:Con prog:=av_ _ _ 240 [al_,(.list ap_)] [.int] _ x_240
noncomputable def jn_ (a0:(List ak_)) (a1:(List Int)):Option (Int×Unit) :=
 ((ag_ (ρ:=(Unit⊕(Int×Unit))) (λ(v0:(Int×Unit)) =>
 (cond (decide (v0.1<(a0.length:Int)))
 ((at? a0 v0.1).bind λv1 =>
 ((fi_ v1 a1).bind λv2 =>
 (cond (!v2.1)
 (some (inr (inr (v0.1,()))))
 (some (inl ((w64 (v0.1+1)),()))))))
 (some (inr (inl ()))))) (0,())).bind λv3 =>
 (ce_ v3 (λv4=>(some ((-1),())))
 (λv5=>(some v5))))
theorem x_248:au_ (P:=prog) (cxC [c_124] []) (.p .z (.p (.p .z (.ls [.v 5 .int] [] [] 0 .z)) .z)) 248 [(.list ap_),(.list .int)] [.int]=λx=>jn_ x.1 x.2.1:=by kernel_rfl
noncomputable def c_248:Con prog:=av_ _ _ 248 [(.list ap_),(.list .int)] [.int] _ x_248
noncomputable def lb_ (a0:ab_) (a1:aa_) (a2:ae_):Option (aa_×Unit) :=
 ((gh_ a0.1 a1.1 a2).bind λv0 =>
 ((il_ a0 (v0.1,a1.2)).bind λv1 =>
 (some (v1.1,()))))
theorem x_55:au_ (P:=prog) (cxC [c_101,c_105] []) .z 55 [am_,aj_,aq_] [aj_]=λx=>lb_ x.1 x.2.1 x.2.2.1:=by kernel_rfl
noncomputable def c_55:Con prog:=av_ _ _ 55 [am_,aj_,aq_] [aj_] _ x_55
noncomputable def pg_ (a0:ad_) (a1:Int) (a2:co_):Option (Bool×Unit) :=
 ((((sub? a0.2.2.2.2.1 0 a1).bind λv0 =>
 ((((fc_ a2.1).bind λv1 =>
 (cond v1.1
 (cond (decide ((a2.1.length:Int)≤12))
 ((((ag_ (ρ:=(Unit⊕(Int×Unit))) (λ(v2:(Int×Unit)) =>
 (cond (decide (v2.1<(v0.length:Int)))
 ((at? v0 v2.1).bind λv3 =>
 (cond (v3.1==a2.1)
 (some (inr (inr (v2.1,()))))
 (some (inl ((w64 (v2.1+1)),())))))
 (some (inr (inl ()))))) (0,())).bind λv4 =>
 (ce_ v4 (λv5=>(some ((-1),())))
 (λv6=>(some v6))))).bind λv7 =>
 (some ((decide (v7.1<0)),())))
 (some (false,())))
 (some (false,()))))).bind λv8 =>
 (cond (!v8.1)
 (some (true,()))
 ((bb_ a2.2.1 0 (w64 ((a0.1.length:Int) - 1))).bind λv9 =>
 (cond (!v9.1)
 (some (true,()))
 ((bb_ a2.2.2.1 (-1) 7).bind λv10 =>
 (some ((!v10.1),()))))))))).bind λv11 =>
 (cond v11.1
 (some (false,()))
 ((((gu_ a0 a2.2.2.2.1).bind λv12 =>
 (cond (!v12.1)
 (some (true,()))
 ((gu_ a0 a2.2.2.2.2.2.2.1).bind λv13 =>
 (cond (!v13.1)
 (some (true,()))
 ((gu_ a0 a2.2.2.2.2.2.2.2).bind λv14 =>
 (cond (!v14.1)
 (some (true,()))
 (some ((decide (6<(a2.2.2.2.2.2.1.length:Int))),()))))))))).bind λv15 =>
 (cond v15.1
 (some (false,()))
 ((((((ag_ (ρ:=(Unit⊕(Bool×Unit))) (λ(v16:(Int×Unit)) =>
 (cond (decide (v16.1<(a2.2.2.2.2.2.2.1.length:Int)))
 ((at? a2.2.2.2.2.2.2.1 v16.1).bind λv17 =>
 ((bi_ a2.2.2.2.1 v17).bind λv18 =>
 (cond (!v18.1)
 (some (inr (inr ((decide (0≤v16.1)),()))))
 (some (inl ((w64 (v16.1+1)),()))))))
 (some (inr (inl ()))))) (0,())).bind λv19 =>
 (ce_ v19 (λv20=>(some ((decide (0≤(-1))),())))
 (λv21=>(some v21))))).bind λv22 =>
 (cond v22.1
 (some (true,()))
 ((((ag_ (ρ:=(Unit⊕(Bool×Unit))) (λ(v23:(Int×Unit)) =>
 (cond (decide (v23.1<(a2.2.2.2.2.2.2.2.length:Int)))
 ((at? a2.2.2.2.2.2.2.2 v23.1).bind λv24 =>
 ((bi_ a2.2.2.2.1 v24).bind λv25 =>
 (cond v25.1
 (some (inr (inr ((decide (0≤v23.1)),()))))
 (some (inl ((w64 (v23.1+1)),()))))))
 (some (inr (inl ()))))) (0,())).bind λv26 =>
 (ce_ v26 (λv27=>(some ((decide (0≤(-1))),())))
 (λv28=>(some v28))))).bind λv29 =>
 (some (v29.1,())))))).bind λv30 =>
 (cond v30.1
 (some (false,()))
 ((ag_ (ρ:=(Unit⊕(Bool×Unit))) (λ(v31:(Int×Unit)) =>
 (cond (decide (v31.1<(a2.2.2.2.2.2.1.length:Int)))
 ((at? a2.2.2.2.2.2.1 v31.1).bind λv32 =>
 ((sub? a2.2.2.2.2.2.1 0 v31.1).bind λv33 =>
 ((((ag_ (ρ:=(Unit⊕(Bool×Unit))) (λ(v34:(Int×Unit)) =>
 (cond (decide (v34.1<(v33.length:Int)))
 ((at? v33 v34.1).bind λv35 =>
 (cond (v35.1==v32.1)
 (some (inr (inr ((decide (0≤v34.1)),()))))
 (some (inl ((w64 (v34.1+1)),())))))
 (some (inr (inl ()))))) (0,())).bind λv36 =>
 (ce_ v36 (λv37=>(some ((decide (0≤(-1))),())))
 (λv38=>(some v38))))).bind λv39 =>
 ((((fd_ a0 v32.1 v32.2).bind λv40 =>
 (cond (!v40.1)
 (some (true,()))
 (some (v39.1,()))))).bind λv41 =>
 (cond v41.1
 (some (inr (inr (false,()))))
 (some (inl ((w64 (v31.1+1)),()))))))))
 (some (inr (inl ()))))) (0,())).bind λv42 =>
 (ce_ v42 (λv43=>(some (true,())))
 (λv44=>(some v44))))))))))
theorem x_134:au_ (P:=prog) (cxI (λk=>cond (Nat.beq k 95) (.p .z (.j0 [.v 4 .bool] .z .z)) (cond (Nat.beq k 154) (.p .z (.p (.p .z (.ls [.v 8 .int] [] [] 0 .z)) .z)) (cond (Nat.beq k 176) (.p .z (.j0 [.v 6 .bool] .z .z)) (cond (Nat.beq k 181) (.p .z (.j0 [.v 4 .bool] .z .z)) (cond (Nat.beq k 216) (.p .z (.j0 [.v 6 .int] .z .z)) (cond (Nat.beq k 217) (.p .z (.p (.p .z (.ls [.v 8 .int] [] [] 0 .z)) .z)) (cond (Nat.beq k 234) (.p .z (.p (.p .z (.ls [.v 8 .int] [] [] 0 .z)) .z)) (cond (Nat.beq k 235) (.p .z (.p (.q [] .z .z) .z)) (.z))))))))) (λk=>Nat.beq k 85||Nat.beq k 126||Nat.beq k 135||Nat.beq k 171||Nat.beq k 177||Nat.beq k 178||false) (cxC [c_85,bw8,cj2,c_171,c_177,c_178] []) 12) (.p .z (.p (.j0 [.v 35 .bool] (.q [] .z .z) .z) (.p (.j0 [.v 60 .bool] .z .z) (.p .z (.p .z (.p (.j0 [.v 72 .bool] .z .z) (.p (.p .z (.ls [.v 76 .int] [] [] 0 (.p .z (.p .z (.p (.p .z (.p .z (.j0 [.v 96 .bool] .z .z))) .z))))) .z))))))) 134 [ao_,.int,lr_] [.bool]=λx=>pg_ x.1 x.2.1 x.2.2.1:=by kernel_rfl
noncomputable def c_134:Con prog:=av_ _ _ 134 [ao_,.int,lr_] [.bool] _ x_134
noncomputable def hk_ (a0:ac_) (a1:(List (List Int))):Option (Int×Unit) :=
 ((eg_ a0).bind λv0 =>
 (cond (v0.1 != 0)
 (some (v0.1,()))
 ((((ag_ (ρ:=(Unit⊕(Bool×Unit))) (λ(v1:(Int×Unit)) =>
 (cond (decide (v1.1<(a1.length:Int)))
 ((at? a1 v1.1).bind λv2 =>
 ((dk_ a0 v2).bind λv3 =>
 (cond (!v3.1)
 (some (inr (inr ((decide (0≤v1.1)),()))))
 (some (inl ((w64 (v1.1+1)),()))))))
 (some (inr (inl ()))))) (0,())).bind λv4 =>
 (ce_ v4 (λv5=>(some ((decide (0≤(-1))),())))
 (λv6=>(some v6))))).bind λv7 =>
 (cond v7.1
 (some (12,()))
 (some (0,()))))))
theorem x_137:au_ (P:=prog) (cxI (λk=>cond (Nat.beq k 183) (.p .z (.j0 [.v 4 .bool] .z .z)) (cond (Nat.beq k 218) (.p .z (.p (.p .z (.ls [.v 8 .int] [] [] 0 .z)) .z)) (.z))) (λk=>Nat.beq k 77||Nat.beq k 185||false) (cxC [c_77,c_185] []) 4) .z 137 [al_,(.list (.list .int))] [.int]=λx=>hk_ x.1 x.2.1:=by kernel_rfl
noncomputable def c_137:Con prog:=av_ _ _ 137 [al_,(.list (.list .int))] [.int] _ x_137
noncomputable def dl_ (a0:ac_) (a1:ak_):Option (Bool×Unit) :=
 (((cond (a1.1==1)
 ((bt_ a0 a1.2.1).bind λv0 =>
 (cond v0.1
 ((cq_ a0 a1.2.2.2.1).bind λv1 =>
 (some (v1.1,((a1.2.1,(0,(a1.2.2.2.1,(0,([],()))))),()))))
 (some (false,((a1.2.1,(0,(a1.2.2.2.1,(0,([],()))))),())))))
 (cond (a1.1==2)
 ((bt_ a0 a1.2.1).bind λv2 =>
 (cond v2.1
 ((bt_ a0 a1.2.2.1).bind λv3 =>
 (cond v3.1
 (cond (decide (a1.2.1≤a1.2.2.1))
 ((bx_ a1.2.2.2.1 0 100).bind λv4 =>
 (some (v4.1,((a1.2.1,(a1.2.2.1,(a1.2.2.2.1,(0,([],()))))),()))))
 (some (false,((a1.2.1,(a1.2.2.1,(a1.2.2.2.1,(0,([],()))))),()))))
 (some (false,((a1.2.1,(a1.2.2.1,(a1.2.2.2.1,(0,([],()))))),())))))
 (some (false,((a1.2.1,(a1.2.2.1,(a1.2.2.2.1,(0,([],()))))),())))))
 (((cond (a1.1==3)
 (some ((a1.1==3),()))
 (some ((a1.1==4),())))).bind λv5 =>
 (cond v5.1
 ((bt_ a0 a1.2.1).bind λv6 =>
 (cond v6.1
 ((bt_ a0 a1.2.2.1).bind λv7 =>
 (cond v7.1
 (some ((a1.2.1 != a1.2.2.1),((a1.2.1,(a1.2.2.1,(0,(0,([],()))))),())))
 (some (false,((a1.2.1,(a1.2.2.1,(0,(0,([],()))))),())))))
 (some (false,((a1.2.1,(a1.2.2.1,(0,(0,([],()))))),())))))
 (cond (a1.1==5)
 ((cq_ a0 a1.2.2.2.1).bind λv8 =>
 (cond v8.1
 ((bx_ a1.2.2.2.2.1 0 a0.1).bind λv9 =>
 (some (v9.1,((0,(0,(a1.2.2.2.1,(a1.2.2.2.2.1,([],()))))),()))))
 (some (false,((0,(0,(a1.2.2.2.1,(a1.2.2.2.2.1,([],()))))),())))))
 (cond (a1.1==6)
 ((bx_ a1.2.2.2.1 0 a0.1).bind λv10 =>
 (cond v10.1
 ((bx_ a1.2.2.2.2.1 0 a0.1).bind λv11 =>
 (cond v11.1
 ((dk_ a0 a1.2.2.2.2.2.1).bind λv12 =>
 (some (v12.1,((0,(0,(a1.2.2.2.1,(a1.2.2.2.2.1,(a1.2.2.2.2.2.1,()))))),()))))
 (some (false,((0,(0,(a1.2.2.2.1,(a1.2.2.2.2.1,(a1.2.2.2.2.2.1,()))))),())))))
 (some (false,((0,(0,(a1.2.2.2.1,(a1.2.2.2.2.1,(a1.2.2.2.2.2.1,()))))),())))))
 (cond (a1.1==7)
 ((bt_ a0 a1.2.1).bind λv13 =>
 (cond v13.1
 ((bx_ a1.2.2.2.1 2 10).bind λv14 =>
 (cond v14.1
 ((bx_ a1.2.2.2.2.1 0 (w64 (a1.2.2.2.1 - 1))).bind λv15 =>
 (some (v15.1,((a1.2.1,(0,(a1.2.2.2.1,(a1.2.2.2.2.1,([],()))))),()))))
 (some (false,((a1.2.1,(0,(a1.2.2.2.1,(a1.2.2.2.2.1,([],()))))),())))))
 (some (false,((a1.2.1,(0,(a1.2.2.2.1,(a1.2.2.2.2.1,([],()))))),())))))
 (some (false,((0,(0,(0,(0,([],()))))),()))))))))))).bind λv16 =>
 (cond v16.1
 (cond (a1.2.1==v16.2.1.1)
 (cond (a1.2.2.1==v16.2.1.2.1)
 (cond (a1.2.2.2.1==v16.2.1.2.2.1)
 (cond (a1.2.2.2.2.1==v16.2.1.2.2.2.1)
 (some (((a1.2.2.2.2.2.1.length:Int)==(v16.2.1.2.2.2.2.1.length:Int)),()))
 (some (false,())))
 (some (false,())))
 (some (false,())))
 (some (false,())))
 (some (false,()))))
theorem x_221:au_ (P:=prog) (cxC [cj1,c_185,c_220,c_236] []) (.p .z (.p .z (.p .z (.j0 [.v 6 .bool,.b (.s 5) [.keep,.val .int,.val .int,.val .int,.val .int,.val (.list .int),.keep]] (.p .z (.p .z (.p .z (.p .z (.p .z (.j0 [.v 65 .bool] .z .z)))))) .z)))) 221 [al_,ap_] [.bool]=λx=>dl_ x.1 x.2.1:=by kernel_rfl
noncomputable def c_221:Con prog:=av_ _ _ 221 [al_,ap_] [.bool] _ x_221
noncomputable def fv_ (a0:(List ak_)) (a1:(List Int)):Option (Int×Unit) :=
 ((ag_ (ρ:=(Unit⊕(Int×Unit))) (λ(v0:(Int×Unit)) =>
 (cond (decide (v0.1<(a0.length:Int)))
 ((at? a0 v0.1).bind λv1 =>
 ((fu_ v1 a1).bind λv2 =>
 (cond (!v2.1)
 (some (inr (inr (v0.1,()))))
 (some (inl ((w64 (v0.1+1)),()))))))
 (some (inr (inl ()))))) (0,())).bind λv3 =>
 (ce_ v3 (λv4=>(some ((-1),())))
 (λv5=>(some v5))))
theorem x_245:au_ (P:=prog) (cxI (λk=>cond (Nat.beq k 242) (.p .z (.p (.p .z (.ls [.v 8 .int] [] [] 0 .z)) .z)) (.z)) (λk=>Nat.beq k 188||false) (cxC [c_188] []) 3) .z 245 [(.list ap_),(.list .int)] [.int]=λx=>fv_ x.1 x.2.1:=by kernel_rfl
noncomputable def c_245:Con prog:=av_ _ _ 245 [(.list ap_),(.list .int)] [.int] _ x_245
end
end Go.Proofs.YtdibamopklkilaaGreatDoor.Rx
namespace Go.Proofs.YtdibamopklkilaaGreatDoor.Rx
open Go Pad Rex Sum
section
def wi (a b c:Int):Bool:=decide (b≤a)&&decide (a≤c)
theorem cf_ {a b c:Int}:wi a b c=true↔b≤a∧a≤c:=by simp[wi]
theorem bc5 (a b c:Int):(cond (decide (b≤a)) (some ((decide (a≤c)),())) (some (false,())))=some (wi a b c,()):=by
  unfold wi
  cases decide (b≤a)<;>rfl
theorem dv_ (a b c:Int):bb_ a b c=some (wi a b c,()):=bc5 a b c
theorem ht_ (a b c:Int):bs_ a b c=some (wi a b c,()):=bc5 a b c
theorem fn_ (a b c:Int):br_ a b c=some (wi a b c,()):=bc5 a b c
theorem xy_ (a b c:Int):im_ a b c=some (wi a b c,()):=bc5 a b c
theorem beqc {α:Type} [BEq α] [LawfulBEq α] (x y:α):(y==x)=(x==y):=by
  rw[j5_,f5_,f5_]
  exact eq_comm
theorem ha_ {α:Type} [BEq α] [LawfulBEq α] (l:List α) (x:α):l.any (x == ·)=l.contains x:=by
  induction l with
  | nil=>rfl
  | cons y l ih=>simp[List.contains_cons,ih]
theorem bz2 {l:List Int} {x:Int} (hl:Sm l.length):∃ i:Int,er_ l x=some (i,())∧decide (0≤i)=l.contains x:=by
  unfold er_
  have h1:=nv_ l (λi y=>cond (x==y) (some (inr ((i:Int),()):Unit⊕(Int×Unit))) none) (λi=>((i:Int),())) (r0:=inl ())
    (body:=λ(v0:(Int×Unit)) =>
     (cond (decide (v0.1<(l.length:Int)))
     ((at? l v0.1).bind λv1 =>
     (cond (x==v1)
     (some (inr (inr (v0.1,()))))
     (some (inl ((w64 (v0.1+1)),())))))
     (some (inr (inl ())))))
    (λi y hy=>by
      have hi:=an_ hy
      simp only[dlt hi,a4_,ah_ hy,a0_,ay_ (show Sm i by omega)]
      cases x==y<;>rfl)
    (by simp only[dnl,a2_])
  rcases zh_ (q:=λy=>x==y) (f:=λi=>(inr ((i:Int),()):Unit⊕(Int×Unit))) l 0 with ⟨h2,h3⟩ | ⟨i,h2,h3⟩
  · refine⟨-1,e0_ (congrArg (λo=>Option.bind o _) h1) ?_,by rw[← ha_,h3];rfl⟩
    rw[h2];rfl
  · refine⟨i,e0_ (congrArg (λo=>Option.bind o _) h1) ?_,by rw[← ha_,h3];exact b1_ (by omega)⟩
    rw[h2];rfl
theorem ol_ {l:List Int} {x:Int} (hl:Sm l.length):bi_ l x=some (l.contains x,()):=by
  obtain⟨i,h1,h2⟩:=bz2 (x:=x) hl
  unfold bi_
  rw[h1,a0_,h2]
theorem al8 {l:List (List UInt8)} {x:List UInt8} (hl:Sm l.length):∃ i:Int,ds_ l x=some (i,())∧decide (0≤i)=l.contains x:=by
  unfold ds_
  rcases zh_ (q:=λy=>x==y) (f:=λi=>(inr ((i:Int),()):Unit⊕(Int×Unit))) l 0 with ⟨h2,h3⟩ | ⟨i,h2,h3⟩
  · refine⟨-1,bn_ l (λi y=>cond (x==y) (some (inr ((i:Int),()):Unit⊕(Int×Unit))) none) (λi=>((i:Int),())) (r0:=inl ()) (λi y hy => ?_) ?_ ?_,by rw[← ha_,h3];rfl⟩
    · have hi:=an_ hy
      simp only[dlt hi,a4_,ah_ hy,a0_,ay_ (show Sm i by omega)]
      cases x==y<;>rfl
    · simp only[dnl,a2_]
    · rw[h2];rfl
  · refine⟨i,bn_ l (λi y=>cond (x==y) (some (inr ((i:Int),()):Unit⊕(Int×Unit))) none) (λi=>((i:Int),())) (r0:=inl ()) (λi y hy => ?_) ?_ ?_,by rw[← ha_,h3];exact b1_ (by omega)⟩
    · have hi:=an_ hy
      simp only[dlt hi,a4_,ah_ hy,a0_,ay_ (show Sm i by omega)]
      cases x==y<;>rfl
    · simp only[dnl,a2_]
    · rw[h2];rfl
theorem xf_ {l:List (List UInt8)} {x:List UInt8} (hl:Sm l.length):da_ l x=some (l.contains x,()):=by
  obtain⟨i,h1,h2⟩:=al8 (x:=x) hl
  unfold da_
  rw[h1,a0_,h2]
theorem av4 {l:List Int} {x:Int} (hl:Sm l.length):lz_ l x=some (l.contains x,()):=by
  unfold lz_
  refine bn_ l (λi y=>cond (x==y) (some (inr (true,()):Unit⊕(Bool×Unit))) none) (λi=>((i:Int),())) (r0:=inl ()) (λi y hy => ?_) ?_ ?_
  · have hi:=an_ hy
    simp only[dlt hi,a4_,ah_ hy,a0_,ay_ (show Sm i by omega)]
    rw[beqc x y]
    cases x==y<;>rfl
  · simp only[dnl,a2_]
  · rw[hd_ (q:=λy=>x==y),ha_]
    cases l.contains x<;>rfl
def xp_ (c:UInt8):Bool:=decide (97≤(c.toNat:Int))&&decide ((c.toNat:Int)≤122)
def okW (t:List UInt8):Bool:=t.all xp_&&(!(t==[])&&!(reserved.contains t))
def okN (t:List UInt8):Bool:=decide ((t.length:Int)≤12)&&okW t
theorem cg3 (c:UInt8):(cond (decide (((UInt8.toNat c):Int)<97)) (some (true,())) (some ((decide (122<((UInt8.toNat c):Int))),())))=some (!(xp_ c),()):=by
  unfold xp_
  by_cases h1:((UInt8.toNat c):Int)<97
  · rw[b1_ h1,b9_ (by omega:¬ (97:Int)≤(c.toNat:Int))];rfl
  · rw[b9_ h1,b1_ (by omega:(97:Int)≤(c.toNat:Int))]
    by_cases h2:122<((UInt8.toNat c):Int)
    · rw[b1_ h2,b9_ (by omega:¬ ((UInt8.toNat c):Int)≤122)];rfl
    · rw[b9_ h2,b1_ (by omega:((UInt8.toNat c):Int)≤122)];rfl
theorem nw_ {t:List UInt8} (hl:Sm t.length):ag_ (ρ:=(Unit⊕(Bool×Unit))) (λ(v0:(Int×Unit)) =>
 (cond (decide (v0.1<(t.length:Int)))
 ((((at? t v0.1).bind λv1 =>
 (cond (decide (((UInt8.toNat v1):Int)<97))
 (some (true,()))
 ((at? t v0.1).bind λv2 =>
 (some ((decide (122<((UInt8.toNat v2):Int))),())))))).bind λv3 =>
 (cond v3.1
 (some (inr (inr (false,()))))
 (some (inl ((w64 (v0.1+1)),())))))
 (some (inr (inl ()))))) (0,())=some (cond (t.all xp_) (inl ()) (inr (false,()))):=by
  refine e0_ (nv_ t (λi c=>cond (xp_ c) none (some (inr (false,()):Unit⊕(Bool×Unit)))) (λi=>((i:Int),())) (r0:=inl ()) (λi y hy => ?_) ?_) ?_
  · have hi:=an_ hy
    simp only[dlt hi,a4_,ah_ hy,a0_,ay_ (show Sm i by omega),cg3]
    cases xp_ y<;>rfl
  · simp only[dnl,a2_]
  · rw[jd_]
    cases t.all xp_<;>rfl
theorem bl0 {t:List UInt8} (hl:Sm t.length):fc_ t=some (okW t,()):=by
  unfold fc_
  refine e0_ (congrArg (λo=>Option.bind o _) (nw_ hl)) ?_
  unfold okW
  rw[a0_]
  cases t.all xp_ with
  | false=>rfl
  | true =>
    simp only[a4_,c0_]
    cases t==[] with
    | true=>rfl
    | false =>
      simp only[g6_,a4_,c0_]
      rw[xf_ (by decide),a0_]
      rfl
theorem zm_ {t:List UInt8} (hl:Sm t.length):hi_ t=some (okW t,()):=by
  unfold hi_
  refine e0_ (congrArg (λo=>Option.bind o _) (nw_ hl)) ?_
  unfold okW
  rw[a0_]
  cases t.all xp_ with
  | false=>rfl
  | true =>
    simp only[a4_,c0_]
    refine bn_ reserved (λi y=>cond (t==y) (some (inr (false,()):Unit⊕(Bool×Unit))) none) (λi=>((i:Int),())) (r0:=inl ()) (λi y hy => ?_) ?_ ?_
    · have hi:=an_ hy
      have h10:i<10:=hi
      have hy':=hy
      unfold reserved at hy'
      refine e0_ (congrArg (λc=>cond c _ _) (dlt hi)) ?_
      simp only[a4_,ah_ hy',a0_,ay_ (show Sm i by omega)]
      rw[beqc t y]
      cases t==y<;>rfl
    · rfl
    · rw[hd_ (q:=λy=>t==y),ha_]
      cases reserved.contains t with
      | true=>simp
      | false=>simp
theorem bm9 {t:List UInt8} (hl:Sm t.length):mt_ t=some (okW t,()):=by
  unfold mt_
  have h0:(((cond (t==[]) (some ((t==[]),())) (cond (t==[97,116]) (some ((t==[97,116]),())) (cond (t==[115,116,97,116,101,115]) (some ((t==[115,116,97,116,101,115]),())) (cond (t==[115,116,97,114,116]) (some ((t==[115,116,97,114,116]),()))
     (cond (t==[103,111,110,101]) (some ((t==[103,111,110,101]),())) (cond (t==[105,102]) (some ((t==[105,102]),())) (cond (t==[108,111,99,107]) (some ((t==[108,111,99,107]),())) (cond (t==[119,105,116,104]) (some ((t==[119,105,116,104]),()))
     (cond (t==[115,101,116,115]) (some ((t==[115,101,116,115]),())) (cond (t==[115,112,101,110,100,115]) (some ((t==[115,112,101,110,100,115]),())) (some ((t==[98,114,105,110,103,115]),()))))))))))))):Option (Bool×Unit))=some ((t==[]||reserved.contains t),()):=by
    unfold reserved
    simp only[List.contains_cons,List.contains_nil,i3_]
    cases t==[] with
    | true=>rfl
    | false =>
    cases t==[97,116] with
    | true=>rfl
    | false =>
    cases t==[115,116,97,116,101,115] with
    | true=>rfl
    | false =>
    cases t==[115,116,97,114,116] with
    | true=>rfl
    | false =>
    cases t==[103,111,110,101] with
    | true=>rfl
    | false =>
    cases t==[105,102] with
    | true=>rfl
    | false =>
    cases t==[108,111,99,107] with
    | true=>rfl
    | false =>
    cases t==[119,105,116,104] with
    | true=>rfl
    | false =>
    cases t==[115,101,116,115] with
    | true=>rfl
    | false =>
    cases t==[115,112,101,110,100,115] with
    | true=>rfl
    | false=>rfl
  refine e0_ (congrArg (λo=>Option.bind o _) h0) ?_
  rw[a0_]
  unfold okW
  cases hz:(t==[]||reserved.contains t) with
  | true =>
    have:(!(t==[])&&!(reserved.contains t))=false:=by
      rw[← Bool.not_or,hz];rfl
    rw[this,f8_]
    rfl
  | false =>
    have:(!(t==[])&&!(reserved.contains t))=true:=by
      rw[← Bool.not_or,hz];rfl
    rw[this,h2_]
    simp only[a2_]
    refine e0_ (congrArg (λo=>Option.bind o _) (nw_ hl)) ?_
    rw[a0_]
    cases t.all xp_<;>rfl
theorem kc_ {t:List UInt8} (hl:Sm t.length):du_ t=some (okN t,()):=by
  unfold du_ okN
  rw[zm_ hl]
  cases decide ((t.length:Int)≤12)<;>rfl
end
section
def nh_ (things:List gr_) (th n:Int):Bool:=wi th 0 (w64 ((things.length:Int) - 1))&&match at? things th with
  | some t=>wi n 0 (w64 (t.2.2.1 - 1))
  | none=>false
theorem ae5 {α:Type} {l:List α} {i:Int} (hl:Sm l.length) (h:wi i 0 (w64 ((l.length:Int) - 1))=true):∃ x,at? l i=some x:=by
  rw[eo_ (by omega) (by omega)] at h
  obtain⟨h1,h2⟩:=cf_.1 h
  obtain⟨x,hx⟩:=bd_ (l:=l) (i:=i.toNat) (by omega)
  exact⟨x,by rw[show i=((i.toNat:Nat):Int) by omega];exact ah_ hx⟩
theorem oy_ {r:ad_} (hl:Sm r.2.1.length) (th n:Int):fd_ r th n=some (nh_ r.2.1 th n,()):=by
  unfold fd_ nh_
  rw[dv_,a0_]
  cases h:wi th 0 (w64 ((r.2.1.length:Int) - 1)) with
  | false=>rfl
  | true =>
    obtain⟨x,hx⟩:=ae5 hl h
    simp only[a4_,hx,a0_,dv_,c0_]
theorem qv_ {r:ad_} (hl:Sm r.2.1.length) (th n:Int):gp_ r th n=some (nh_ r.2.1 th n,()):=by
  unfold gp_ nh_
  rw[fn_,a0_]
  cases h:wi th 0 (w64 ((r.2.1.length:Int) - 1)) with
  | false=>rfl
  | true =>
    obtain⟨x,hx⟩:=ae5 hl h
    simp only[a4_,hx,a0_,fn_,c0_]
def cOk (things:List gr_) (c:List bc_):Bool:=decide ((c.length:Int)≤8)&&c.all λl=>nh_ things l.1 l.2.1
theorem sv_ {α:Type} (l:List α) (q:α→Bool):(!(l.any λx=>!(q x)))=l.all q:=by
  induction l with
  | nil=>rfl
  | cons x l ih =>
    rw[p2_,List.all_cons,← ih]
    cases q x<;>rfl
theorem ju_ {r:ad_} (hl:Sm r.2.1.length) (c:List bc_):dt_ r c=some (cOk r.2.1 c,()):=by
  unfold dt_ cOk
  cases h8:decide ((c.length:Int)≤8) with
  | false=>rfl
  | true =>
    have h8:=g7_ h8
    simp only[a4_,c0_]
    refine e0_ (congrArg (λo=>Option.bind o _) (oe_ (show Sm c.length by omega) (λl=>!(nh_ r.2.1 l.1 l.2.1)) (λi y hy => ?_) ?_)) ?_
    · simp only[dlt (an_ hy),a4_,ah_ hy,a0_,oy_ hl]
      cases nh_ r.2.1 y.1 y.2.1<;>rfl
    · simp only[dnl,a2_]
    · rw[a0_]
      exact congrArg (λb=>some (b,())) (sv_ c _)
theorem gs_ {r:ad_} (hl:Sm r.2.1.length) {c:List bc_} (hc:Sm c.length):cw_ r c=some (cOk r.2.1 c,()):=by
  unfold cw_ cOk
  refine bn_ c (λi l=>cond (nh_ r.2.1 l.1 l.2.1) none (some (inr (false,()):Unit⊕(Bool×Unit)))) (λi=>((i:Int),())) (r0:=inl ()) (λi y hy => ?_) ?_ ?_
  · have hi:=an_ hy
    simp only[dlt hi,a4_,ah_ hy,a0_,ay_ (show Sm i by omega),qv_ hl]
    cases nh_ r.2.1 y.1 y.2.1<;>rfl
  · simp only[dnl,a2_]
  · rw[jd_ (q:=λl:bc_=>nh_ r.2.1 l.1 l.2.1)]
    cases c.all λl=>nh_ r.2.1 l.1 l.2.1 with
    | true=>rw[h2_];rfl
    | false=>rw[f8_];rfl
theorem be6 {r:ad_} (hl:Sm r.2.1.length) (c:List bc_):ld_ r c=some (cOk r.2.1 c,()):=by
  unfold ld_ cOk
  cases h8:decide ((c.length:Int)≤8) with
  | false=>rfl
  | true =>
    have h8:=g7_ h8
    simp only[a4_,c0_]
    refine e0_ (congrArg (λo=>Option.bind o _) (oe_ (show Sm c.length by omega) (λl=>!(nh_ r.2.1 l.1 l.2.1)) (λi y hy => ?_) ?_)) ?_
    · simp only[dlt (an_ hy),a4_,ah_ hy,a0_,ht_,nh_]
      cases h:wi y.1 0 (w64 ((r.2.1.length:Int) - 1)) with
      | false=>rfl
      | true =>
        obtain⟨x,hx⟩:=ae5 hl h
        simp only[e5_,a2_,hx,a0_,c0_]
        cases wi y.2.1 0 (w64 (x.2.2.1 - 1))<;>rfl
    · simp only[dnl,a2_]
    · rw[a0_]
      exact congrArg (λb=>some (b,())) (sv_ c _)
end
section
def prv (l:List Int) (i:Nat):Int:=match i with
  | 0=>-1
  | j+1=>(l[j]?).getD 0
def cp5 (np:Nat) (l:List Int) (i:Nat) (x:Int):Bool:=decide (x≤prv l i)||decide ((np:Int)≤x)
def badQ (np:Nat) (l:List Int) (i:Nat) (x:Int):Bool:=!(wi x 0 ((np:Int) - 1))||(decide (0<i)&&decide (x≤prv l i))
def kq_ (np:Nat) (l:List Int):Bool:=(fm_ (λi x=>cond (cp5 np l i x) (some ()) none) 0 l).isNone
theorem vd_ {α ρ:Type} {q:Nat→α→Bool} {r:ρ}:∀ (l:List α) (i:Nat),fm_ (λi x=>cond (q i x) (some r) none) i l=cond (fm_ (λi x=>cond (q i x) (some ()) none) i l).isNone none (some r)
  | [],_=>rfl
  | x::l,i=>by
    unfold fm_
    cases q i x with
    | true=>rfl
    | false=>exact vd_ l (i+1)
theorem zg_ {α:Type} {q:Nat→α→Bool} (l:List α):(fm_ (λi x=>cond (q i x) (some ()) none) 0 l).isNone=true↔∀ i x,l[i]?=some x→q i x=false:=by
  rw[Option.isNone_iff_eq_none,ie_]
  constructor
  · intro h i x hx
    have:=h i x hx
    rw[b0_] at this
    cases hq:q i x with
    | false=>rfl
    | true=>rw[hq] at this;cases this
  · intro h i x hx
    rw[b0_,h i x hx]
    rfl
theorem cp8 (np:Nat) (l:List Int):(fm_ (λi x=>cond (badQ np l i x) (some ()) none) 0 l).isNone=kq_ np l:=by
  rw[j5_]
  unfold kq_
  rw[zg_,zg_]
  constructor
  · intro h i x hx
    have h0:=h i x hx
    unfold badQ at h0
    rw[c1_] at h0
    obtain⟨h1,h2⟩:=h0
    have h1:wi x 0 ((np:Int) - 1)=true:=by simpa using h1
    obtain⟨h3,h4⟩:=cf_.1 h1
    unfold cp5
    rw[c1_]
    refine⟨?_,b9_ (by omega)⟩
    cases i with
    | zero=>exact b9_ (by show ¬ x≤-1;omega)
    | succ j =>
      have:decide (0<j+1)=true:=b1_ (by omega)
      rw[this,c0_] at h2
      exact h2
  · intro h
    have pos:∀ (i:Nat) (x:Int),l[i]?=some x→0≤x∧x<np:=by
      intro i
      induction i with
      | zero =>
        intro x hx
        have h0:=h 0 x hx
        unfold cp5 at h0
        rw[c1_] at h0
        have h1:=d0_ h0.1
        have h2:=d0_ h0.2
        have h1:¬ x≤-1:=h1
        omega
      | succ j ih =>
        intro x hx
        have h0:=h (j+1) x hx
        unfold cp5 at h0
        rw[c1_] at h0
        have h1:=d0_ h0.1
        have h2:=d0_ h0.2
        obtain⟨y,hy⟩:=bd_ (l:=l) (i:=j) (by have:=an_ hx;omega)
        have h3:=ih y hy
        have h1:¬ x≤(l[j]?).getD 0:=h1
        rw[hy] at h1
        have h1:¬ x≤y:=h1
        omega
    intro i x hx
    have h0:=h i x hx
    unfold cp5 at h0
    rw[c1_] at h0
    have hp:=pos i x hx
    unfold badQ
    have:wi x 0 ((np:Int) - 1)=true:=cf_.2 ⟨hp.1,by omega⟩
    rw[this,h0.1,f8_]
    rfl
theorem rw_ {r:ad_} {l:List Int} (hl:Sm l.length):gu_ r l=some (kq_ r.2.2.1.length l,()):=by
  unfold gu_
  refine bn_ l (λi x=>cond (cp5 r.2.2.1.length l i x) (some (inr (false,()):Unit⊕(Bool×Unit))) none) (λi=>(prv l i,((i:Int),()))) (r0:=inl ()) (λi y hy => ?_) ?_ ?_
  · have hi:=an_ hy
    simp only[dlt hi,a4_,ah_ hy,a0_,ay_ (show Sm i by omega),cp5]
    have hn:prv l (i+1)=y:=by show (l[i]?).getD 0=y;rw[hy];rfl
    cases decide (y≤prv l i) with
    | true=>rfl
    | false =>
      simp only[a2_,k2_,a0_,hn]
      cases decide ((r.2.2.1.length:Int)≤y)<;>rfl
  · simp only[dnl,a2_]
  · rw[vd_]
    unfold kq_
    cases (fm_ (λi x=>cond (cp5 r.2.2.1.length l i x) (some ()) none) 0 l).isNone<;>rfl
theorem kb_ {r:ad_} (hp:Sm r.2.2.1.length) {l:List Int} (hl:Sm l.length):dj_ r l=some (kq_ r.2.2.1.length l,()):=by
  unfold dj_
  refine bn_ l (λi x=>cond (badQ r.2.2.1.length l i x) (some (inr (false,()):Unit⊕(Bool×Unit))) none) (λi=>((i:Int),())) (r0:=inl ()) (λi y hy => ?_) ?_ ?_
  · have hi:=an_ hy
    rw[show w64 ((r.2.2.1.length:Int) - 1)=(r.2.2.1.length:Int) - 1 from eo_ (by omega) (by omega)]
    simp only[dlt hi,a4_,ah_ hy,a0_,ay_ (show Sm i by omega),fn_,badQ]
    cases wi y 0 ((r.2.2.1.length:Int) - 1) with
    | false=>rfl
    | true =>
      simp only[e5_,a2_,k2_]
      cases i with
      | zero=>rfl
      | succ j =>
        obtain⟨z,hz⟩:=bd_ (l:=l) (i:=j) (by omega)
        have e:w64 (((j+1:Nat):Int) - 1)=(j:Int):=by rw[eo_ (by omega) (by omega)];omega
        have hn:prv l (j+1)=z:=by show (l[j]?).getD 0=z;rw[hz];rfl
        rw[show decide (0<((j+1:Nat):Int))=true from b1_ (by omega),e,ah_ hz,hn,show decide (0<j+1)=true from b1_ (by omega)]
        simp only[a4_,a0_,c0_]
        cases decide (y≤z)<;>rfl
  · simp only[dnl,a2_]
  · rw[vd_,cp8]
    cases kq_ r.2.2.1.length l<;>rfl
end
end Go.Proofs.YtdibamopklkilaaGreatDoor.Rx
namespace Go.Proofs.YtdibamopklkilaaGreatDoor.Rx
open Go Pad Rex Go.Proofs Go.Proofs.Tryz Sum
section
set_option maxRecDepth 100000
set_option maxHeartbeats 0
noncomputable def fr_ (a0:ad_):Option (Int×Unit) :=
 (((cond (decide (8<(a0.1.length:Int)))
 (some (true,()))
 (cond (decide (12<(a0.2.1.length:Int)))
 (some (true,()))
 (cond (decide (10<(a0.2.2.1.length:Int)))
 (some (true,()))
 (cond (decide (16<(a0.2.2.2.1.length:Int)))
 (some (true,()))
 (cond (decide (24<(a0.2.2.2.2.1.length:Int)))
 (some (true,()))
 (some ((decide (12<(a0.2.2.2.2.2.1.length:Int))),())))))))).bind λv0 =>
 (cond v0.1
 (some (2,()))
 (cond ((a0.1.length:Int)==0)
 (some (22,()))
 ((ag_ (ρ:=(Unit⊕(Int×Unit))) (λ(v1:(Int×Unit)) =>
 (cond (decide (v1.1<(a0.1.length:Int)))
 ((((at? a0.1 v1.1).bind λv2 =>
 ((du_ v2).bind λv3 =>
 (cond (!v3.1)
 (some (true,()))
 ((fp_ a0.1 v1.1).bind λv4 =>
 (some (v4.1,()))))))).bind λv5 =>
 (cond v5.1
 (some (inr (inr (22,()))))
 (some (inl ((w64 (v1.1+1)),())))))
 (some (inr (inl ()))))) (0,())).bind λv6 =>
 (ce_ v6 (λv7=>((ag_ (ρ:=(Unit⊕(Int×Unit))) (λ(v9:((List (List UInt8))×(Int×Unit))) =>
 (cond (decide (v9.2.1<(a0.2.1.length:Int)))
 ((at? a0.2.1 v9.2.1).bind λv10 =>
 ((push? (α:=(List UInt8)) v9.1 [v10.1]).bind λv11 =>
 ((((du_ v10.1).bind λv12 =>
 (cond (!v12.1)
 (some (true,()))
 ((fp_ v11 v9.2.1).bind λv13 =>
 (cond v13.1
 (some (true,()))
 ((cv_ a0 v10.2.1).bind λv14 =>
 (cond (!v14.1)
 (some (true,()))
 ((br_ v10.2.2.1 2 6).bind λv15 =>
 (cond (!v15.1)
 (some (true,()))
 ((br_ v10.2.2.2 0 (w64 (v10.2.2.1 - 1))).bind λv16 =>
 (some ((!v16.1),())))))))))))).bind λv17 =>
 (cond v17.1
 (some (inr (inr (21,()))))
 (some (inl (v11,((w64 (v9.2.1+1)),()))))))))
 (some (inr (inl ()))))) ([],(0,()))).bind λv18 =>
 (ce_ v18 (λv19=>((ag_ (ρ:=(Unit⊕(Int×Unit))) (λ(v21:((List (List UInt8))×(Int×Unit))) =>
 (cond (decide (v21.2.1<(a0.2.2.1.length:Int)))
 ((at? a0.2.2.1 v21.2.1).bind λv22 =>
 ((push? (α:=(List UInt8)) v21.1 [v22.1]).bind λv23 =>
 ((((du_ v22.1).bind λv24 =>
 (cond (!v24.1)
 (some (true,()))
 ((fp_ v23 v21.2.1).bind λv25 =>
 (cond v25.1
 (some (true,()))
 (cond (v22.2.1 != (-1))
 ((cv_ a0 v22.2.1).bind λv26 =>
 (some ((!v26.1),())))
 (some (false,())))))))).bind λv27 =>
 (cond v27.1
 (some (inr (inr (24,()))))
 ((cw_ a0 v22.2.2).bind λv28 =>
 (cond (!v28.1)
 (some (inr (inr (25,()))))
 (some (inl (v23,((w64 (v21.2.1+1)),()))))))))))
 (some (inr (inl ()))))) ([],(0,()))).bind λv29 =>
 (ce_ v29 (λv30=>((ag_ (ρ:=(Unit⊕(Int×Unit))) (λ(v32:(Int×Unit)) =>
 (cond (decide (v32.1<(a0.2.2.2.1.length:Int)))
 ((at? a0.2.2.2.1 v32.1).bind λv33 =>
 ((((cv_ a0 v33.1).bind λv34 =>
 (cond (!v34.1)
 (some (true,()))
 ((cv_ a0 v33.2.1).bind λv35 =>
 (cond (!v35.1)
 (some (true,()))
 (some ((v33.1==v33.2.1),()))))))).bind λv36 =>
 (cond v36.1
 (some (inr (inr (23,()))))
 ((cw_ a0 v33.2.2).bind λv37 =>
 (cond (!v37.1)
 (some (inr (inr (25,()))))
 (some (inl ((w64 (v32.1+1)),()))))))))
 (some (inr (inl ()))))) (0,())).bind λv38 =>
 (ce_ v38 (λv39=>((ag_ (ρ:=(Unit⊕(Int×Unit))) (λ(v41:(Int×Unit)) =>
 (cond (decide (v41.1<(a0.2.2.2.2.1.length:Int)))
 ((mr_ a0 v41.1).bind λv42 =>
 (cond (!v42.1)
 (some (inr (inr (26,()))))
 ((at? a0.2.2.2.2.1 v41.1).bind λv43 =>
 ((cw_ a0 v43.2.2.2.2.1).bind λv44 =>
 (cond (!v44.1)
 (some (inr (inr (25,()))))
 (some (inl ((w64 (v41.1+1)),()))))))))
 (some (inr (inl ()))))) (0,())).bind λv45 =>
 (ce_ v45 (λv46=>((ag_ (ρ:=(Unit⊕(Int×Unit))) (λ(v48:(Int×Unit)) =>
 (cond (decide (v48.1<(a0.2.2.2.2.2.1.length:Int)))
 ((at? a0.2.2.2.2.2.1 v48.1).bind λv49 =>
 ((at? a0.2.2.2.2.2.1 v48.1).bind λv50 =>
 ((gp_ a0 v49.2.1 v50.2.2).bind λv51 =>
 (cond (!v51.1)
 (some (inr (inr (27,()))))
 ((at? a0.2.2.2.2.2.1 v48.1).bind λv52 =>
 ((cw_ a0 v52.1).bind λv53 =>
 (cond (!v53.1)
 (some (inr (inr (25,()))))
 (some (inl ((w64 (v48.1+1)),()))))))))))
 (some (inr (inl ()))))) (0,())).bind λv54 =>
 (ce_ v54 (λv55=>((br_ a0.2.2.2.2.2.2.1 1 4).bind λv57 =>
 (cond (!v57.1)
 (some (1,()))
 ((cw_ a0 a0.2.2.2.2.2.2.2).bind λv58 =>
 (cond (!v58.1)
 (some (25,()))
 (some (0,())))))))
 (λv56=>(some v56)))))
 (λv47=>(some v47)))))
 (λv40=>(some v40)))))
 (λv31=>(some v31)))))
 (λv20=>(some v20)))))
 (λv8=>(some v8)))))))
theorem x_64:au_ (P:=prog) (cxC [c_68,c_114,c_115,c_116,ar9,c_118,cj3] []) (.p .z (.p (.j0 [.v 46 .bool] .z .z) (.p .z (.p (.p .z (.ls [.v 3 .int] [] [] 0 (.p .z (.p (.j0 [.v 70 .bool] .z .z) .z)))) (.p .z (.p (.p .z (.ls [.r 4 .str 9,.v 5 .int] [] [] 2 (.p .z (.p (.p .z (.p .z (.j0 [.v 118 .bool] .z .z))) .z)))) (.p .z (.p (.p .z (.ls [.r 4 .str 9,.v 7 .int] [] [] 4 (.p .z (.p (.p .z (.p .z (.p (.j0 [.v 156 .bool] .z .z) .z))) .z)))) (.p (.p .z (.ls [.v 9 .int] [] [] 6 (.p .z (.p (.p .z (.p (.j0 [.v 192 .bool] .z .z) .z)) .z)))) (.p (.p .z (.ls [.v 11 .int] [] [] 8 (.p .z (.p (.p .z (.p (.q [] .z .z) .z)) .z)))) (.p (.p .z (.ls [.v 12 .int] [] [] 10 (.p .z (.p (.p (.p (.q [] .z .z) .z) (.p (.q [] .z .z) .z)) .z)))) .z))))))))))) 64 [ao_] [.int]=λx=>fr_ x.1:=by kernel_rfl
noncomputable def c_64:Con prog:=av_ _ _ 64 [ao_] [.int] _ x_64
noncomputable def jh_ (a0:ab_) (a1:Int):Option (Bool×Unit) :=
 ((at? a0.2.2.2.1 a1).bind λv0 =>
 ((ag_ (ρ:=(Unit⊕(Bool×Unit))) (λ(v1:(Int×Unit)) =>
 (cond (decide (v1.1<a1))
 ((at? a0.2.2.2.1 v1.1).bind λv2 =>
 (cond (v2.1==v0.1)
 (some (inr (inr (false,()))))
 (some (inl ((w64 (v1.1+1)),())))))
 (some (inr (inl ()))))) (0,())).bind λv3 =>
 (ce_ v3 (λv4=>((((du_ v0.1).bind λv6 =>
 (cond (!v6.1)
 (some (true,()))
 ((im_ v0.2.1 0 (w64 ((a0.1.1.length:Int) - 1))).bind λv7 =>
 (cond (!v7.1)
 (some (true,()))
 ((im_ v0.2.2.1 (-1) (w64 ((a0.2.1.length:Int) - 1))).bind λv8 =>
 (some ((!v8.1),())))))))).bind λv9 =>
 (cond v9.1
 (some (false,()))
 (cond (v0.2.2.1==(-1))
 ((kz_ v0.2.2.2.2).bind λv10 =>
 (some (v10.1,())))
 ((at? a0.2.1 v0.2.2.1).bind λv11 =>
 ((ft_ v11 v0.2.2.2.2).bind λv12 =>
 (cond (v12.1==0)
 ((at? a0.2.2.1 v0.2.2.1).bind λv13 =>
 ((fi_ v0.2.2.2.2 v13).bind λv14 =>
 (some (v14.1,()))))
 (some (false,())))))))))
 (λv5=>(some v5)))))
theorem x_67:au_ (P:=prog) (cxC [c_69,c_114,c_122,c_123,c_124] []) (.p .z (.p .z (.p (.p .z (.ls [.v 6 .int] [] [] 0 .z)) (.p (.j0 [.v 50 .bool] .z .z) .z)))) 67 [am_,.int] [.bool]=λx=>jh_ x.1 x.2.1:=by kernel_rfl
noncomputable def c_67:Con prog:=av_ _ _ 67 [am_,.int] [.bool] _ x_67
noncomputable def ms_ (a0:ac_) (a1:(List ak_)):Option ((List (List Int))×Unit) :=
 ((ag_ (ρ:=(Int×Unit)) (λ(v0:(Int×(Int×Unit))) =>
 (cond (decide (v0.2.1<a0.1))
 (some (inl ((w64 (v0.1 * a0.2)),((w64 (v0.2.1+1)),()))))
 (some (inr (v0.1,()))))) (1,(0,()))).bind λv1 =>
 ((ag_ (ρ:=((List (List Int))×Unit)) (λ(v2:((List (List Int))×(Int×Unit))) =>
 (cond (decide (v2.2.1<v1.1))
 ((((mk? (α:=Int) a0.1 0).bind λv3 =>
 ((ag_ (ρ:=((List Int)×Unit)) (λ(v4:(Int×(Int×((List Int)×Unit)))) =>
 (cond (decide (0≤v4.2.1))
 ((md v4.1 a0.2).bind λv5 =>
 ((at? v4.2.2.1 v4.2.1).bind λv6 =>
 ((at? v4.2.2.1 v4.2.1).bind λv7 =>
 ((dv v4.1 a0.2).bind λv8 =>
 (some (inl (v8,((w64 (v4.2.1 - 1)),((v4.2.2.1.set v4.2.1.toNat v5),())))))))))
 (some (inr (v4.2.2.1,()))))) (v2.2.1,((w64 (a0.1 - 1)),(v3,())))).bind λv9 =>
 ((jn_ a1 v9.1).bind λv10 =>
 (cond (decide (v10.1<0))
 ((push? (α:=(List Int)) v2.1 [v9.1]).bind λv11 =>
 (some (v11,())))
 (some (v2.1,()))))))).bind λv12 =>
 (some (inl (v12.1,((w64 (v2.2.1+1)),())))))
 (some (inr (v2.1,()))))) ([],(0,()))).bind λv13 =>
 (some (v13.1,()))))
theorem x_241:au_ (P:=prog) (cxC [c_248] []) (.p .z (.p .z (.p (.p .z (.lp [.v 5 .int,.v 6 .int] [.v 5 .int] [] 0 .z)) (.p .z (.p (.p .z (.lp [.r 7 (.list .int) 45,.v 8 .int] [.r 7 (.list .int) 45] [] 2 (.p .z (.j0 [.r 7 (.list .int) 45] (.p .z (.p .z (.p (.p .z (.lp [.v 10 .int,.v 11 .int] [] [.o (.s 9) .int] 4 .z)) .z))) .z)))) .z))))) 241 [al_,(.list ap_)] [(.list (.list .int))]=λx=>ms_ x.1 x.2.1:=by kernel_rfl
noncomputable def c_241:Con prog:=av_ _ _ 241 [al_,(.list ap_)] [(.list (.list .int))] _ x_241
noncomputable def fh_ (a0:ad_):Option (Int×Unit) :=
 (((cond (decide (8<(a0.1.length:Int)))
 (some (true,()))
 (cond (decide (12<(a0.2.1.length:Int)))
 (some (true,()))
 (cond (decide (10<(a0.2.2.1.length:Int)))
 (some (true,()))
 (cond (decide (16<(a0.2.2.2.1.length:Int)))
 (some (true,()))
 (cond (decide (24<(a0.2.2.2.2.1.length:Int)))
 (some (true,()))
 (some ((decide (12<(a0.2.2.2.2.2.1.length:Int))),())))))))).bind λv0 =>
 (cond v0.1
 (some (2,()))
 ((ag_ (ρ:=(Unit⊕(Int×Unit))) (λ(v1:(Int×Unit)) =>
 (cond (decide (v1.1<(a0.1.length:Int)))
 ((at? a0.1 v1.1).bind λv2 =>
 ((sub? a0.1 0 v1.1).bind λv3 =>
 ((((fc_ v2).bind λv4 =>
 (cond v4.1
 (cond (decide ((v2.length:Int)≤12))
 ((((ag_ (ρ:=(Unit⊕(Int×Unit))) (λ(v5:(Int×Unit)) =>
 (cond (decide (v5.1<(v3.length:Int)))
 ((at? v3 v5.1).bind λv6 =>
 (cond (v6==v2)
 (some (inr (inr (v5.1,()))))
 (some (inl ((w64 (v5.1+1)),())))))
 (some (inr (inl ()))))) (0,())).bind λv7 =>
 (ce_ v7 (λv8=>(some ((-1),())))
 (λv9=>(some v9))))).bind λv10 =>
 (some ((decide (v10.1<0)),())))
 (some (false,())))
 (some (false,()))))).bind λv11 =>
 (cond (!v11.1)
 (some (inr (inr (22,()))))
 (some (inl ((w64 (v1.1+1)),())))))))
 (some (inr (inl ()))))) (0,())).bind λv12 =>
 (ce_ v12 (λv13=>(cond ((a0.1.length:Int)==0)
 (some (22,()))
 ((ag_ (ρ:=(Unit⊕(Int×Unit))) (λ(v15:(Int×Unit)) =>
 (cond (decide (v15.1<(a0.2.1.length:Int)))
 ((at? a0.2.1 v15.1).bind λv16 =>
 ((((sub? a0.2.1 0 v15.1).bind λv17 =>
 ((((fc_ v16.1).bind λv18 =>
 (cond v18.1
 (cond (decide ((v16.1.length:Int)≤12))
 ((((ag_ (ρ:=(Unit⊕(Int×Unit))) (λ(v19:(Int×Unit)) =>
 (cond (decide (v19.1<(v17.length:Int)))
 ((at? v17 v19.1).bind λv20 =>
 (cond (v20.1==v16.1)
 (some (inr (inr (v19.1,()))))
 (some (inl ((w64 (v19.1+1)),())))))
 (some (inr (inl ()))))) (0,())).bind λv21 =>
 (ce_ v21 (λv22=>(some ((-1),())))
 (λv23=>(some v23))))).bind λv24 =>
 (some ((decide (v24.1<0)),())))
 (some (false,())))
 (some (false,()))))).bind λv25 =>
 (cond (!v25.1)
 (some (true,()))
 ((bb_ v16.2.1 0 (w64 ((a0.1.length:Int) - 1))).bind λv26 =>
 (cond (!v26.1)
 (some (true,()))
 ((bb_ v16.2.2.1 2 6).bind λv27 =>
 (cond (!v27.1)
 (some (true,()))
 ((bb_ v16.2.2.2 0 (w64 (v16.2.2.1 - 1))).bind λv28 =>
 (some ((!v28.1),()))))))))))).bind λv29 =>
 (cond v29.1
 (some (inr (inr (21,()))))
 (some (inl ((w64 (v15.1+1)),()))))))
 (some (inr (inl ()))))) (0,())).bind λv30 =>
 (ce_ v30 (λv31=>((ag_ (ρ:=(Unit⊕(Int×Unit))) (λ(v33:(Int×Unit)) =>
 (cond (decide (v33.1<(a0.2.2.1.length:Int)))
 ((at? a0.2.2.1 v33.1).bind λv34 =>
 ((((sub? a0.2.2.1 0 v33.1).bind λv35 =>
 ((((fc_ v34.1).bind λv36 =>
 (cond v36.1
 (cond (decide ((v34.1.length:Int)≤12))
 ((((ag_ (ρ:=(Unit⊕(Int×Unit))) (λ(v37:(Int×Unit)) =>
 (cond (decide (v37.1<(v35.length:Int)))
 ((at? v35 v37.1).bind λv38 =>
 (cond (v38.1==v34.1)
 (some (inr (inr (v37.1,()))))
 (some (inl ((w64 (v37.1+1)),())))))
 (some (inr (inl ()))))) (0,())).bind λv39 =>
 (ce_ v39 (λv40=>(some ((-1),())))
 (λv41=>(some v41))))).bind λv42 =>
 (some ((decide (v42.1<0)),())))
 (some (false,())))
 (some (false,()))))).bind λv43 =>
 (cond (!v43.1)
 (some (true,()))
 ((bb_ v34.2.1 0 (w64 ((a0.1.length:Int) - 1))).bind λv44 =>
 (cond (!v44.1)
 (some ((v34.2.1 != (-1)),()))
 (some (false,())))))))).bind λv45 =>
 (cond v45.1
 (some (inr (inr (24,()))))
 ((dt_ a0 v34.2.2).bind λv46 =>
 (cond (!v46.1)
 (some (inr (inr (25,()))))
 (some (inl ((w64 (v33.1+1)),()))))))))
 (some (inr (inl ()))))) (0,())).bind λv47 =>
 (ce_ v47 (λv48=>((ag_ (ρ:=(Unit⊕(Int×Unit))) (λ(v50:(Int×Unit)) =>
 (cond (decide (v50.1<(a0.2.2.2.1.length:Int)))
 ((at? a0.2.2.2.1 v50.1).bind λv51 =>
 ((((bb_ v51.1 0 (w64 ((a0.1.length:Int) - 1))).bind λv52 =>
 (cond (!v52.1)
 (some (true,()))
 ((bb_ v51.2.1 0 (w64 ((a0.1.length:Int) - 1))).bind λv53 =>
 (cond (!v53.1)
 (some (true,()))
 (some ((v51.1==v51.2.1),()))))))).bind λv54 =>
 (cond v54.1
 (some (inr (inr (23,()))))
 ((dt_ a0 v51.2.2).bind λv55 =>
 (cond (!v55.1)
 (some (inr (inr (25,()))))
 (some (inl ((w64 (v50.1+1)),()))))))))
 (some (inr (inl ()))))) (0,())).bind λv56 =>
 (ce_ v56 (λv57=>((ag_ (ρ:=(Unit⊕(Int×Unit))) (λ(v59:(Int×Unit)) =>
 (cond (decide (v59.1<(a0.2.2.2.2.1.length:Int)))
 ((at? a0.2.2.2.2.1 v59.1).bind λv60 =>
 ((pg_ a0 v59.1 v60).bind λv61 =>
 (cond (!v61.1)
 (some (inr (inr (26,()))))
 ((dt_ a0 v60.2.2.2.2.1).bind λv62 =>
 (cond (!v62.1)
 (some (inr (inr (25,()))))
 (some (inl ((w64 (v59.1+1)),()))))))))
 (some (inr (inl ()))))) (0,())).bind λv63 =>
 (ce_ v63 (λv64=>((ag_ (ρ:=(Unit⊕(Int×Unit))) (λ(v66:(Int×Unit)) =>
 (cond (decide (v66.1<(a0.2.2.2.2.2.1.length:Int)))
 ((at? a0.2.2.2.2.2.1 v66.1).bind λv67 =>
 ((fd_ a0 v67.2.1 v67.2.2).bind λv68 =>
 (cond (!v68.1)
 (some (inr (inr (27,()))))
 ((dt_ a0 v67.1).bind λv69 =>
 (cond (!v69.1)
 (some (inr (inr (25,()))))
 (some (inl ((w64 (v66.1+1)),()))))))))
 (some (inr (inl ()))))) (0,())).bind λv70 =>
 (ce_ v70 (λv71=>((bb_ a0.2.2.2.2.2.2.1 1 4).bind λv73 =>
 (cond (!v73.1)
 (some (1,()))
 ((dt_ a0 a0.2.2.2.2.2.2.2).bind λv74 =>
 (cond (!v74.1)
 (some (25,()))
 (some (0,())))))))
 (λv72=>(some v72)))))
 (λv65=>(some v65)))))
 (λv58=>(some v58)))))
 (λv49=>(some v49)))))
 (λv32=>(some v32))))))
 (λv14=>(some v14))))))
theorem x_76:au_ (P:=prog) (cxI (λk=>cond (Nat.beq k 127) (.p .z (.j0 [.v 6 .bool] .z .z)) (cond (Nat.beq k 129) (.p .z (.j0 [.v 6 .bool] .z .z)) (cond (Nat.beq k 131) (.p .z (.j0 [.v 6 .bool] .z .z)) (cond (Nat.beq k 172) (.p .z (.j0 [.v 6 .int] .z .z)) (cond (Nat.beq k 173) (.p .z (.j0 [.v 6 .int] .z .z)) (cond (Nat.beq k 174) (.p .z (.j0 [.v 6 .int] .z .z)) (cond (Nat.beq k 210) (.p .z (.p (.p .z (.ls [.v 8 .int] [] [] 0 .z)) .z)) (cond (Nat.beq k 211) (.p .z (.p (.q [] .z .z) .z)) (cond (Nat.beq k 212) (.p .z (.p (.p .z (.ls [.v 8 .int] [] [] 0 .z)) .z)) (cond (Nat.beq k 213) (.p .z (.p (.q [] .z .z) .z)) (cond (Nat.beq k 214) (.p .z (.p (.p .z (.ls [.v 8 .int] [] [] 0 .z)) .z)) (cond (Nat.beq k 215) (.p .z (.p (.q [] .z .z) .z)) (.z))))))))))))) (λk=>Nat.beq k 126||Nat.beq k 128||Nat.beq k 130||Nat.beq k 132||Nat.beq k 133||Nat.beq k 134||Nat.beq k 135||Nat.beq k 171||false) (cxC [bw8,c_128,c_130,c_132,c_133,c_134,cj2,c_171] []) 12) (.p .z (.p (.j0 [.v 49 .bool] .z .z) (.p .z (.p (.p .z (.ls [.v 54 .int] [] [] 0 .z)) (.p .z (.p (.p .z (.ls [.v 74 .int] [] [] 2 (.p .z (.p .z (.p (.p .z (.j0 [.v 108 .bool] .z .z)) .z))))) (.p (.p .z (.ls [.v 113 .int] [] [] 4 (.p .z (.p .z (.p (.p .z (.p (.j0 [.v 137 .bool] .z .z) .z)) .z))))) (.p (.p .z (.ls [.v 147 .int] [] [] 6 (.p .z (.p .z (.p (.p .z (.p (.j0 [.v 169 .bool] .z .z) .z)) .z))))) (.p (.p .z (.ls [.v 179 .int] [] [] 8 .z)) (.p (.p .z (.ls [.v 198 .int] [] [] 10 .z)) .z)))))))))) 76 [ao_] [.int]=λx=>fh_ x.1:=by kernel_rfl
noncomputable def c_76:Con prog:=av_ _ _ 76 [ao_] [.int] _ x_76
noncomputable def ea_ (a0:ac_) (a1:(List Int)):Option (Int×Unit) :=
 ((hk_ a0 [a1]).bind λv0 =>
 (some (v0.1,())))
theorem x_78:au_ (P:=prog) (cxC [c_137] []) .z 78 [al_,(.list .int)] [.int]=λx=>ea_ x.1 x.2.1:=by kernel_rfl
noncomputable def c_78:Con prog:=av_ _ _ 78 [al_,(.list .int)] [.int] _ x_78
noncomputable def fw_ (a0:ac_) (a1:ak_):Option (Int×Unit) :=
 ((eg_ a0).bind λv0 =>
 (cond (v0.1 != 0)
 (some (v0.1,()))
 ((dl_ a0 a1).bind λv1 =>
 (cond (!v1.1)
 (some (11,()))
 (some (0,()))))))
theorem x_187:au_ (P:=prog) (cxC [c_77,c_221] []) .z 187 [al_,ap_] [.int]=λx=>fw_ x.1 x.2.1:=by kernel_rfl
noncomputable def c_187:Con prog:=av_ _ _ 187 [al_,ap_] [.int] _ x_187
noncomputable def ew_ (a0:ac_) (a1:(List ak_)):Option (Int×Unit) :=
 ((eg_ a0).bind λv0 =>
 (cond (v0.1 != 0)
 (some (v0.1,()))
 (cond (decide (20<(a1.length:Int)))
 (some (2,()))
 ((((ag_ (ρ:=(Unit⊕(Bool×Unit))) (λ(v1:(Int×Unit)) =>
 (cond (decide (v1.1<(a1.length:Int)))
 ((at? a1 v1.1).bind λv2 =>
 ((dl_ a0 v2).bind λv3 =>
 (cond (!v3.1)
 (some (inr (inr ((decide (0≤v1.1)),()))))
 (some (inl ((w64 (v1.1+1)),()))))))
 (some (inr (inl ()))))) (0,())).bind λv4 =>
 (ce_ v4 (λv5=>(some ((decide (0≤(-1))),())))
 (λv6=>(some v6))))).bind λv7 =>
 (cond v7.1
 (some (11,()))
 (some (0,())))))))
theorem x_205:au_ (P:=prog) (cxI (λk=>cond (Nat.beq k 229) (.p .z (.j0 [.v 4 .bool] .z .z)) (cond (Nat.beq k 242) (.p .z (.p (.p .z (.ls [.v 8 .int] [] [] 0 .z)) .z)) (.z))) (λk=>Nat.beq k 77||Nat.beq k 221||false) (cxC [c_77,c_221] []) 4) .z 205 [al_,(.list ap_)] [.int]=λx=>ew_ x.1 x.2.1:=by kernel_rfl
noncomputable def c_205:Con prog:=av_ _ _ 205 [al_,(.list ap_)] [.int] _ x_205
noncomputable def ev_ (a0:ac_) (a1:(List ak_)):Option (Int×Unit) :=
 ((mk? (α:=Int) a0.1 0).bind λv0 =>
 ((ag_ (ρ:=((Unit×(Unit×((List Int)×((Int×Unit)×Unit))))⊕(Int×Unit))) (λ(v1:(Unit×(Unit×((List Int)×((Int×Unit)×Unit))))) =>
 ((fv_ a1 v1.2.2.1).bind λv2 =>
 (cond (decide (v2.1<0))
 ((ag_ (ρ:=(Int×((List Int)×Unit))) (λ(v3:(Int×((List Int)×Unit))) =>
 (((cond (decide (0≤v3.1))
 ((at? v3.2.1 v3.1).bind λv4 =>
 ((at? v3.2.1 v3.1).bind λv5 =>
 (some ((v5==(w64 (a0.2 - 1))),()))))
 (some (false,())))).bind λv6 =>
 (cond v6.1
 ((at? v3.2.1 v3.1).bind λv7 =>
 ((at? v3.2.1 v3.1).bind λv8 =>
 (some (inl ((w64 (v3.1 - 1)),((v3.2.1.set v3.1.toNat 0),()))))))
 (some (inr (v3.1,(v3.2.1,()))))))) ((w64 (a0.1 - 1)),(v1.2.2.1,()))).bind λv9 =>
 (cond (decide (v9.1<0))
 (some (inr (inr ((w64 (v1.2.2.2.1.1+1)),()))))
 ((at? v9.2.1 v9.1).bind λv10 =>
 ((at? v9.2.1 v9.1).bind λv11 =>
 ((at? v9.2.1 v9.1).bind λv12 =>
 ((at? v9.2.1 v9.1).bind λv13 =>
 (some (inl ((),((),((v9.2.1.set v9.1.toNat (w64 (v11+1))),(((w64 (v1.2.2.2.1.1+1)),()),()))))))))))))
 ((ag_ (ρ:=(Int×((List Int)×Unit))) (λ(v14:(Int×((List Int)×Unit))) =>
 (((cond (decide (0≤v14.1))
 ((at? v14.2.1 v14.1).bind λv15 =>
 ((at? v14.2.1 v14.1).bind λv16 =>
 (some ((v16==(w64 (a0.2 - 1))),()))))
 (some (false,())))).bind λv17 =>
 (cond v17.1
 ((at? v14.2.1 v14.1).bind λv18 =>
 ((at? v14.2.1 v14.1).bind λv19 =>
 (some (inl ((w64 (v14.1 - 1)),((v14.2.1.set v14.1.toNat 0),()))))))
 (some (inr (v14.1,(v14.2.1,()))))))) ((w64 (a0.1 - 1)),(v1.2.2.1,()))).bind λv20 =>
 (cond (decide (v20.1<0))
 (some (inr (inr (v1.2.2.2.1.1,()))))
 ((at? v20.2.1 v20.1).bind λv21 =>
 ((at? v20.2.1 v20.1).bind λv22 =>
 ((at? v20.2.1 v20.1).bind λv23 =>
 ((at? v20.2.1 v20.1).bind λv24 =>
 (some (inl ((),((),((v20.2.1.set v20.1.toNat (w64 (v22+1))),((v1.2.2.2.1.1,()),()))))))))))))))) ((),((),(v0,((0,()),()))))).bind λv25 =>
 (ce_ v25 (λv26=>(some (v26.2.2.2.1.1,())))
 (λv27=>(some v27)))))
theorem x_206:au_ (P:=prog) (cxI (λk=>cond (Nat.beq k 243) (.p .z (.p .z (.rf [2,3] .z .z))) (cond (Nat.beq k 249) (.p .z (.ls [] [] [.y (.c (.y (.s 0) 3) 0),.y (.s 0),.o (.s 3) .int,.b (.y (.c (.y (.s 0) 3) 0) 4) [.val .int]] 0 (.p .z (.p .z (.p (.lp [.v 4 .int] [.v 4 .int] [.o (.s 3) .int] 2 (.p (.j0 [.v 26 .bool] .z .z) .z)) .z))))) (.z))) (λk=>Nat.beq k 245||false) (cxC [c_245] []) 9) (.p .z (.p (.p .z (.rf [4] .z .z)) .z)) 206 [al_,(.list ap_)] [.int]=λx=>ev_ x.1 x.2.1:=by kernel_rfl
noncomputable def c_206:Con prog:=av_ _ _ 206 [al_,(.list ap_)] [.int] _ x_206
end
end Go.Proofs.YtdibamopklkilaaGreatDoor.Rx
namespace Go.Proofs.YtdibamopklkilaaGreatDoor.Rx
open Go Pad Rex Sum
section
theorem ou_ {α:Type} {l:List α} {i:Nat} (h:i≤l.length):sub? l 0 (i:Int)=some (l.take i):=by
  unfold sub?
  rw[if_pos ⟨l1_ 0,by omega,by omega⟩]
  simp
def twN {α:Type} (nm:α→List UInt8) (l:List α) (i:Nat) (t:List UInt8):Bool:=(l.take i).any λy=>nm y==t
theorem qa_ {l:List (List UInt8)} {i:Nat} {x:List UInt8} (hl:Sm l.length) (hx:l[i]?=some x):fp_ l (i:Int)=some (twN id l i x,()):=by
  have hi:=an_ hx
  have hle:(l.take i).length=i:=by rw[c7_];omega
  unfold fp_
  refine bn_ (l.take i) (λ_ y=>cond (id y==x) (some (inr (true,()):Unit⊕(Bool×Unit))) none) (λi=>((i:Int),())) (r0:=inl ()) (λk y hy => ?_) ?_ ?_
  · have hk:=an_ hy
    have hy':l[k]?=some y:=by
      rw[i4_] at hy
      split at hy
      · exact hy
      · cases hy
    simp only[dlt (show k<i by omega),a4_,ah_ hy',ah_ hx,a0_,ay_ (show Sm k by omega),id]
    cases y==x<;>rfl
  · rw[hle]
    simp only[dnl,a2_]
  · rw[hd_ (q:=λy=>id y==x)]
    unfold twN
    cases (l.take i).any λy=>id y==x<;>rfl
theorem hs_ {r:ad_} (p:Int):cv_ r p=some (wi p 0 (w64 ((r.1.length:Int) - 1)),()):=by
  unfold cv_
  rw[fn_,a0_]
structure SmR (r:ad_):Prop where
  pl:Sm r.1.length
  th:Sm r.2.1.length
  pr:Sm r.2.2.1.length
  wy:Sm r.2.2.2.1.length
  ac:Sm r.2.2.2.2.1.length
  au:Sm r.2.2.2.2.2.1.length
  go:Sm r.2.2.2.2.2.2.2.length
  pln:∀ x ∈ r.1,Sm x.length
  thn:∀ x ∈ r.2.1,Sm x.1.length
  prn:∀ x ∈ r.2.2.1,Sm x.1.length∧Sm x.2.2.length
  wyn:∀ x ∈ r.2.2.2.1,Sm x.2.2.length
  acn:∀ x ∈ r.2.2.2.2.1,Sm x.1.length∧Sm x.2.2.2.1.length∧Sm x.2.2.2.2.1.length∧Sm x.2.2.2.2.2.1.length∧Sm x.2.2.2.2.2.2.1.length∧Sm x.2.2.2.2.2.2.2.length
  aun:∀ x ∈ r.2.2.2.2.2.1,Sm x.1.length
theorem ax_ {α:Type} {l:List α} {i:Nat} {x:α} (h:l[i]?=some x):x ∈ l:=b4_ h
def rc_ (r:ad_) (p:Int):Bool:=wi p 0 (w64 ((r.1.length:Int) - 1))
def frN {α:Type} (nm:α→List UInt8) (l:List α) (i:Nat) (t:List UInt8):Bool:=okN t&&!(twN nm l i t)
def plOk (r:ad_) (i:Nat) (x:List UInt8):Bool:=frN id r.1 i x
def bi5 (r:ad_) (i:Nat) (x:gr_):Bool:=frN (·.1) r.2.1 i x.1&&(rc_ r x.2.1&&(wi x.2.2.1 2 6&&wi x.2.2.2 0 (w64 (x.2.2.1 - 1))))
def ce3 (r:ad_) (i:Nat) (x:jx_):Bool:=frN (·.1) r.2.2.1 i x.1&&(rc_ r x.2.1||x.2.1==(-1))
def bz6 (r:ad_) (x:ok_):Bool:=rc_ r x.1&&(rc_ r x.2.1&&!(x.1==x.2.1))
def rk_ (a:Bool) (e:Int) (b:Bool) (f:Int):Option Int:=cond a (cond b none (some f)) (some e)
def jb_ (a:Bool) (e:Int):Option Int:=cond a none (some e)
def left (o:Option Int):Unit⊕(Int×Unit):=match o with
  | none=>.inl ()
  | some e=>.inr (e,())
theorem ax4 (o:Option Int):(o.map λe=>(inr (e,()):Unit⊕(Int×Unit))).getD (inl ())=left o:=by cases o<;>rfl
theorem bv_ {α:Type} (l:List α) (p:Nat→α→Option Int) {body:(Int×Unit)→Option ((Int×Unit)⊕(Unit⊕(Int×Unit)))} {τ:Type} {K:(Unit⊕(Int×Unit))→Option τ} {x:Option τ}
    (h:∀ (i:Nat) y,l[i]?=some y→body ((i:Int),())=some (match p i y with | none=>.inl (((i+1:Nat):Int),()) | some e=>.inr (.inr (e,())))) (e:body ((l.length:Int),())=some (.inr (.inl ()))) (hk:K (left (fm_ p 0 l))=x) :
    (ag_ body (0,())).bind K=x:=by
  refine bn_ l (λi y=>(p i y).map λe=>(inr (e,()):Unit⊕(Int×Unit))) (λi=>((i:Int),())) (r0:=inl ()) (λi y hy => ?_) e ?_
  · rw[h i y hy]
    cases p i y<;>rfl
  · rw[zf_,ax4]
    exact hk
theorem yu_ {α β:Type} (l:List α) (p:Nat→α→Option Int) (F:Nat→β) {body:(β×(Int×Unit))→Option ((β×(Int×Unit))⊕(Unit⊕(Int×Unit)))} {τ:Type} {K:(Unit⊕(Int×Unit))→Option τ} {x:Option τ} {b0:β} (h0:F 0=b0)
    (h:∀ (i:Nat) y,l[i]?=some y→body (F i,((i:Int),()))=some (match p i y with | none=>.inl (F (i+1),(((i+1:Nat):Int),())) | some e=>.inr (.inr (e,())))) (e:body (F l.length,((l.length:Int),()))=some (.inr (.inl ()))) (hk:K (left (fm_ p 0 l))=x) :
    (ag_ body (b0,(0,()))).bind K=x:=by
  subst h0
  refine bn_ l (λi y=>(p i y).map λe=>(inr (e,()):Unit⊕(Int×Unit))) (λi=>(F i,((i:Int),()))) (r0:=inl ()) (λi y hy => ?_) e ?_
  · rw[h i y hy]
    cases p i y<;>rfl
  · rw[zf_,ax4]
    exact hk
theorem ep_ {o:Option Int} {K:Unit→Option (Int×Unit)} {k:Int} (h:K ()=some (k,())):ce_ (left o) K (λy=>some y)=some (o.getD k,()):=by
  cases o with
  | none=>exact h
  | some e=>rfl
end
section
def qr_ (r:ad_) (l:List ac_) (i:Nat) (x:ac_):Bool:=nh_ r.2.1 x.1 x.2&&!((l.take i).any λy=>y.1==x.1)
def tz_ (r:ad_) (i:Nat) (a:co_):Bool :=
  frN (·.1) r.2.2.2.2.1 i a.1&&(rc_ r a.2.1&&(wi a.2.2.1 (-1) 7&&(kq_ r.2.2.1.length a.2.2.2.1&&(kq_ r.2.2.1.length a.2.2.2.2.2.2.1&&(kq_ r.2.2.1.length a.2.2.2.2.2.2.2&&(!(decide (6<(a.2.2.2.2.2.1.length:Int)))
    && ((a.2.2.2.2.2.2.1.all λp=>a.2.2.2.1.contains p)&&(!(a.2.2.2.2.2.2.2.any λp=>a.2.2.2.1.contains p)
      && (fm_ (λi x=>cond (qr_ r a.2.2.2.2.2.1 i x) none (some ())) 0 a.2.2.2.2.2.1).isNone))))))))
theorem ru_ {α ρ:Type} {q:Nat→α→Bool} {r:ρ}:∀ (l:List α) (i:Nat),fm_ (λi x=>cond (q i x) none (some r)) i l=cond (fm_ (λi x=>cond (q i x) none (some ())) i l).isNone none (some r)
  | [],_=>rfl
  | x::l,i=>by
    unfold fm_
    cases q i x with
    | false=>rfl
    | true=>exact ru_ l (i+1)
theorem ui_ {α:Type} {l:List α} (hl:Sm l.length) (nm:α→List UInt8) {t:List UInt8} (ht:Sm t.length) :
    ((fc_ t).bind λv1=>cond v1.1 (cond (decide ((t.length:Int)≤12)) ((((ag_ (ρ:=Unit⊕(Int×Unit)) (λ(v:Int×Unit)=>cond (decide (v.1<(l.length:Int))) ((at? l v.1).bind λy=>cond (nm y==t) (some (inr (inr (v.1,())))) (some (inl (w64 (v.1+1),())))) (some (inr (inl ())))) (0,())).bind λv=>ce_ v (λ_=>some ((-1:Int),())) (λw=>some w))).bind λv=>some (decide (v.1<0),())) (some (false,()))) (some (false,())))
      = some (okN t&&!(l.any λy=>nm y==t),()):=by
  rw[bl0 ht,a0_]
  obtain⟨n,h1,h2,_⟩:=if_lt hl (λy=>nm y==t) (body:=λ(v:Int×Unit)=>cond (decide (v.1<(l.length:Int))) ((at? l v.1).bind λy=>cond (nm y==t) (some (inr (inr (v.1,())))) (some (inl (w64 (v.1+1),())))) (some (inr (inl ())))) (λi y hy=>by
    simp only[dlt (an_ hy),a4_,ah_ hy,a0_]
    cases nm y==t<;>rfl) (by simp only[dnl,a2_])
  rw[h1,a0_,h2]
  unfold okN
  cases okW t with
  | false=>rw[f8_,e3_];rfl
  | true=>cases decide ((t.length:Int)≤12)<;>rfl
theorem uz_ {α:Type} {l:List α} (h:Sm l.length) (i:Nat):Sm (l.take i).length:=by
  rw[c7_]
  exact c4_ (m1_ _ _) h
theorem cd3 {r:ad_} (h:SmR r) {i:Nat} {a:co_} (ha:r.2.2.2.2.1[i]?=some a):pg_ r (i:Int) a=some (tz_ r i a,()):=by
  have hi:=an_ ha
  obtain⟨s1,s2,s3,s4,s5,s6⟩:=h.acn a (ax_ ha)
  unfold pg_
  refine e0_ (congrArg (λo=>Option.bind o _) (?_:_=some (!(frN (·.1) r.2.2.2.2.1 i a.1&&(rc_ r a.2.1&&wi a.2.2.1 (-1) 7)),()))) ?_
  · rw[ou_ (f9_ hi),a0_]
    refine e0_ (congrArg (λo=>Option.bind o _) (ui_ (uz_ h.ac i) (·.1) s1)) ?_
    unfold frN twN rc_
    rw[a0_]
    cases okN a.1&&!((r.2.2.2.2.1.take i).any λy=>y.1==a.1) with
    | false=>rfl
    | true =>
      simp only[dv_,a0_]
      cases wi a.2.1 0 (w64 ((r.1.length:Int) - 1)) with
      | false=>rfl
      | true=>rfl
  · rw[a0_]
    unfold tz_
    cases frN (·.1) r.2.2.2.2.1 i a.1 with
    | false=>rfl
    | true =>
    cases rc_ r a.2.1 with
    | false=>rfl
    | true =>
    cases wi a.2.2.1 (-1) 7 with
    | false=>rfl
    | true =>
      simp only[e5_,a2_,c0_,rw_ s2,rw_ s5,rw_ s6,a0_]
      cases kq_ r.2.2.1.length a.2.2.2.1 with
      | false=>rfl
      | true =>
      cases kq_ r.2.2.1.length a.2.2.2.2.2.2.1 with
      | false=>rfl
      | true =>
      cases kq_ r.2.2.1.length a.2.2.2.2.2.2.2 with
      | false=>rfl
      | true =>
      cases h6:decide (6<(a.2.2.2.2.2.1.length:Int)) with
      | true=>rfl
      | false =>
      simp only[e5_,g6_,a2_,c0_,a0_]
      refine e0_ (congrArg (λo=>Option.bind o _) (?_:_=some (!((a.2.2.2.2.2.2.1.all λp=>a.2.2.2.1.contains p)&&!(a.2.2.2.2.2.2.2.any λp=>a.2.2.2.1.contains p)),()))) ?_
      · refine e0_ (congrArg (λo=>Option.bind o _) (oe_ s5 (λp=>!(a.2.2.2.1.contains p)) (λi y hy => ?_) ?_)) ?_
        · simp only[dlt (an_ hy),a4_,ah_ hy,a0_,ol_ s2]
          cases a.2.2.2.1.contains y<;>rfl
        · simp only[dnl,a2_]
        rw[a0_,← sv_ a.2.2.2.2.2.2.1]
        cases a.2.2.2.2.2.2.1.any λp=>!(a.2.2.2.1.contains p) with
        | true=>rfl
        | false =>
        refine e0_ (congrArg (λo=>Option.bind o _) (oe_ s6 (λp=>a.2.2.2.1.contains p) (λi y hy => ?_) ?_)) ?_
        · simp only[dlt (an_ hy),a4_,ah_ hy,a0_,ol_ s2]
          cases a.2.2.2.1.contains y<;>rfl
        · simp only[dnl,a2_]
        cases a.2.2.2.2.2.2.2.any λp=>a.2.2.2.1.contains p<;>rfl
      · rw[a0_]
        cases a.2.2.2.2.2.2.1.all λp=>a.2.2.2.1.contains p with
        | false=>rfl
        | true =>
        cases a.2.2.2.2.2.2.2.any λp=>a.2.2.2.1.contains p with
        | true=>rfl
        | false =>
          simp only[e5_,g6_,a2_,c0_]
          refine bn_ a.2.2.2.2.2.1 (λi x=>cond (qr_ r a.2.2.2.2.2.1 i x) none (some (inr (false,()):Unit⊕(Bool×Unit)))) (λi=>((i:Int),())) (r0:=inl ()) (λk y hy => ?_) ?_ ?_
          · have hk:=an_ hy
            simp only[dlt hk,a4_,ah_ hy,a0_,ay_ (show Sm k by omega),ou_ (f9_ hk)]
            refine e0_ (congrArg (λo=>Option.bind o _) (oe_ (uz_ s4 k) (λz=>z.1==y.1) (λn z hz => ?_) ?_)) ?_
            · simp only[dlt (an_ hz),a4_,ah_ hz,a0_]
              cases z.1==y.1<;>rfl
            · simp only[dnl,a2_]
            · rw[a0_,oy_ h.th]
              unfold qr_
              cases nh_ r.2.1 y.1 y.2 with
              | false=>rfl
              | true =>
                cases (a.2.2.2.2.2.1.take k).any λz=>z.1==y.1<;>rfl
          · simp only[dnl,a2_]
          · rw[ru_]
            cases (fm_ (λi x=>cond (qr_ r a.2.2.2.2.2.1 i x) none (some ())) 0 a.2.2.2.2.2.1).isNone<;>rfl
end
section
def aa5 (r:ad_):Bool:=decide (8<(r.1.length:Int))||(decide (12<(r.2.1.length:Int))||(decide (10<(r.2.2.1.length:Int))||(decide (16<(r.2.2.2.1.length:Int))||(decide (24<(r.2.2.2.2.1.length:Int))||decide (12<(r.2.2.2.2.2.1.length:Int))))))
theorem bq0 (r:ad_):(cond (decide (8<(r.1.length:Int)))
 (some (true,()))
 (cond (decide (12<(r.2.1.length:Int)))
 (some (true,()))
 (cond (decide (10<(r.2.2.1.length:Int)))
 (some (true,()))
 (cond (decide (16<(r.2.2.2.1.length:Int)))
 (some (true,()))
 (cond (decide (24<(r.2.2.2.2.1.length:Int)))
 (some (true,()))
 (some ((decide (12<(r.2.2.2.2.2.1.length:Int))),())))))))=some (aa5 r,()):=by
  unfold aa5
  cases decide (8<(r.1.length:Int)) with
  | true=>rfl
  | false =>
  cases decide (12<(r.2.1.length:Int)) with
  | true=>rfl
  | false =>
  cases decide (10<(r.2.2.1.length:Int)) with
  | true=>rfl
  | false =>
  cases decide (16<(r.2.2.2.1.length:Int)) with
  | true=>rfl
  | false =>
  cases decide (24<(r.2.2.2.2.1.length:Int)) with
  | true=>rfl
  | false=>rfl
def ct_ (r:ad_):Int :=
  cond (aa5 r) 2 ((fm_ (λi x=>jb_ (plOk r i x) 22) 0 r.1).getD
    (cond ((r.1.length:Int)==0) 22 ((fm_ (λi x=>jb_ (bi5 r i x) 21) 0 r.2.1).getD
      ((fm_ (λi x=>rk_ (ce3 r i x) 24 (cOk r.2.1 x.2.2) 25) 0 r.2.2.1).getD
        ((fm_ (λ_ x=>rk_ (bz6 r x) 23 (cOk r.2.1 x.2.2) 25) 0 r.2.2.2.1).getD
          ((fm_ (λi x=>rk_ (tz_ r i x) 26 (cOk r.2.1 x.2.2.2.2.1) 25) 0 r.2.2.2.2.1).getD
            ((fm_ (λ_ x=>rk_ (nh_ r.2.1 x.2.1 x.2.2) 27 (cOk r.2.1 x.1) 25) 0 r.2.2.2.2.2.1).getD
              (cond (wi r.2.2.2.2.2.2.1 1 4) (cond (cOk r.2.1 r.2.2.2.2.2.2.2) 0 25) 1))))))))
theorem rx_ {r:ad_} (h:SmR r):fh_ r=some (ct_ r,()):=by
  unfold fh_
  refine e0_ (congrArg (λo=>Option.bind o _) (bq0 r)) ?_
  rw[a0_]
  unfold ct_
  cases aa5 r with
  | true=>rfl
  | false =>
  simp only[a2_]
  refine bv_ r.1 (λi x=>jb_ (plOk r i x) 22) (λi y hy => ?_) ?_ (ep_ ?_)
  · have hi:=an_ hy
    simp only[dlt hi,a4_,ah_ hy,a0_,ay_ (show Sm i from c4_ (f9_ hi) h.pl),ou_ (f9_ hi)]
    refine e0_ (congrArg (λo=>Option.bind o _) (ui_ (uz_ h.pl i) id (h.pln y (ax_ hy)))) ?_
    unfold jb_ plOk frN twN
    rw[a0_]
    cases okN y&&!((r.1.take i).any λz=>id z==y)<;>rfl
  · simp only[dnl,a2_]
  cases (r.1.length:Int)==0 with
  | true=>rfl
  | false =>
  simp only[a2_]
  refine bv_ r.2.1 (λi x=>jb_ (bi5 r i x) 21) (λi y hy => ?_) ?_ (ep_ ?_)
  · have hi:=an_ hy
    simp only[dlt hi,a4_,ah_ hy,a0_,ay_ (show Sm i from c4_ (f9_ hi) h.th),ou_ (f9_ hi)]
    refine e0_ (congrArg (λo=>Option.bind o _) (e0_ (congrArg (λo=>Option.bind o _) (ui_ (uz_ h.th i) (·.1) (h.thn y (ax_ hy)))) (?_:_=some (!(bi5 r i y),())))) ?_
    · simp only[dv_,a0_]
      unfold bi5 frN twN rc_
      cases okN y.1&&!((r.2.1.take i).any λz=>z.1==y.1) with
      | false=>rfl
      | true =>
        cases wi y.2.1 0 (w64 ((r.1.length:Int) - 1)) with
        | false=>rfl
        | true =>
          cases wi y.2.2.1 2 6 with
          | false=>rfl
          | true=>rfl
    · rw[a0_]
      unfold jb_
      cases bi5 r i y<;>rfl
  · simp only[dnl,a2_]
  refine bv_ r.2.2.1 (λi x=>rk_ (ce3 r i x) 24 (cOk r.2.1 x.2.2) 25) (λi y hy => ?_) ?_ (ep_ ?_)
  · have hi:=an_ hy
    simp only[dlt hi,a4_,ah_ hy,a0_,ay_ (show Sm i from c4_ (f9_ hi) h.pr),ou_ (f9_ hi)]
    refine e0_ (congrArg (λo=>Option.bind o _) (e0_ (congrArg (λo=>Option.bind o _) (ui_ (uz_ h.pr i) (·.1) (h.prn y (ax_ hy)).1)) (?_:_=some (!(ce3 r i y),())))) ?_
    · simp only[dv_,a0_]
      unfold ce3 frN twN rc_
      cases okN y.1&&!((r.2.2.1.take i).any λz=>z.1==y.1) with
      | false=>rfl
      | true =>
        cases wi y.2.1 0 (w64 ((r.1.length:Int) - 1)) with
        | false=>rfl
        | true=>rfl
    · rw[a0_,ju_ h.th,a0_]
      unfold rk_
      cases ce3 r i y with
      | false=>rfl
      | true=>cases cOk r.2.1 y.2.2<;>rfl
  · simp only[dnl,a2_]
  refine bv_ r.2.2.2.1 (λi x=>rk_ (bz6 r x) 23 (cOk r.2.1 x.2.2) 25) (λi y hy => ?_) ?_ (ep_ ?_)
  · have hi:=an_ hy
    simp only[dlt hi,a4_,ah_ hy,a0_,ay_ (show Sm i from c4_ (f9_ hi) h.wy)]
    refine e0_ (congrArg (λo=>Option.bind o _) (?_:_=some (!(bz6 r y),()))) ?_
    · simp only[dv_,a0_]
      unfold bz6 rc_
      cases wi y.1 0 (w64 ((r.1.length:Int) - 1)) with
      | false=>rfl
      | true =>
        cases wi y.2.1 0 (w64 ((r.1.length:Int) - 1)) with
        | false=>rfl
        | true=>simp
    · rw[a0_,ju_ h.th,a0_]
      unfold rk_
      cases bz6 r y with
      | false=>rfl
      | true=>cases cOk r.2.1 y.2.2<;>rfl
  · simp only[dnl,a2_]
  refine bv_ r.2.2.2.2.1 (λi x=>rk_ (tz_ r i x) 26 (cOk r.2.1 x.2.2.2.2.1) 25) (λi y hy => ?_) ?_ (ep_ ?_)
  · have hi:=an_ hy
    simp only[dlt hi,a4_,ah_ hy,a0_,ay_ (show Sm i from c4_ (f9_ hi) h.ac),cd3 h hy,ju_ h.th]
    unfold rk_
    cases tz_ r i y with
    | false=>rfl
    | true=>cases cOk r.2.1 y.2.2.2.2.1<;>rfl
  · simp only[dnl,a2_]
  refine bv_ r.2.2.2.2.2.1 (λi x=>rk_ (nh_ r.2.1 x.2.1 x.2.2) 27 (cOk r.2.1 x.1) 25) (λi y hy => ?_) ?_ (ep_ ?_)
  · have hi:=an_ hy
    simp only[dlt hi,a4_,ah_ hy,a0_,ay_ (show Sm i from c4_ (f9_ hi) h.au),oy_ h.th,ju_ h.th]
    unfold rk_
    cases nh_ r.2.1 y.2.1 y.2.2 with
    | false=>rfl
    | true=>cases cOk r.2.1 y.1<;>rfl
  · simp only[dnl,a2_]
  rw[dv_,a0_,ju_ h.th,a0_]
  cases wi r.2.2.2.2.2.2.1 1 4 with
  | false=>rfl
  | true=>cases cOk r.2.1 r.2.2.2.2.2.2.2<;>rfl
end
section
theorem tm_ {α ρ σ τ:Type} (l:List α) (k:Nat) (hk:k≤l.length) (p:Nat→α→Option ρ) (F:Nat→σ) {r0:ρ} {body:σ→Option (σ⊕ρ)} {K:ρ→Option τ} {x:Option τ}
    (h:∀ i x,i<k→l[i]?=some x→body (F i)=some (match p i x with | none=>.inl (F (i+1)) | some r=>.inr r)) (e:body (F k)=some (.inr r0)) (hx:K ((fm_ p 0 (l.take k)).getD r0)=x) :
    (ag_ body (F 0)).bind K=x:=by
  have hle:(l.take k).length=k:=by rw[c7_];omega
  refine bn_ (l.take k) p F (λi x hx => ?_) (by rw[hle];exact e) hx
  rw[i4_] at hx
  split at hx
  · exact h i x ‹_› hx
  · cases hx
theorem bl6 {r:ad_} (h:SmR r) {i:Nat} {a:co_} (ha:r.2.2.2.2.1[i]?=some a):mr_ r (i:Int)=some (tz_ r i a,()):=by
  have hi:=an_ ha
  have hac:=h.ac
  obtain⟨s1,s2,s3,s4,s5,s6⟩:=h.acn a (ax_ ha)
  unfold mr_
  rw[ah_ ha,a0_]
  refine tm_ r.2.2.2.2.1 i (f9_ hi) (λ_ y=>cond (y.1==a.1) (some (inr (false,()):Unit⊕(Bool×Unit))) none) (λi=>((i:Int),())) (r0:=inl ()) (λk y hk hy => ?_) ?_ ?_
  · simp only[dlt hk,a4_,ah_ hy,a0_,ay_ (show Sm k by omega)]
    cases y.1==a.1<;>rfl
  · simp only[dnl,a2_]
  rw[hd_ (q:=λy:co_=>y.1==a.1)]
  unfold tz_ frN twN
  cases (r.2.2.2.2.1.take i).any λy=>y.1==a.1 with
  | true=>rw[e5_,f8_,e3_];rfl
  | false =>
  simp only[a2_,i6_,yx_,g6_,h2_]
  refine e0_ (congrArg (λo=>Option.bind o _) (?_:_=some (!(okN a.1&&(rc_ r a.2.1&&(wi a.2.2.1 (-1) 7&&(kq_ r.2.2.1.length a.2.2.2.1&&(kq_ r.2.2.1.length a.2.2.2.2.2.2.1&&(kq_ r.2.2.1.length a.2.2.2.2.2.2.2&&!(decide (6<(a.2.2.2.2.2.1.length:Int))))))))),()))) ?_
  · simp only[kc_ s1,hs_,fn_,kb_ h.pr s2,kb_ h.pr s5,kb_ h.pr s6,a0_]
    unfold rc_
    cases okN a.1 with
    | false=>rfl
    | true =>
    cases wi a.2.1 0 (w64 ((r.1.length:Int) - 1)) with
    | false=>rfl
    | true =>
    cases wi a.2.2.1 (-1) 7 with
    | false=>rfl
    | true =>
    cases kq_ r.2.2.1.length a.2.2.2.1 with
    | false=>rfl
    | true =>
    cases kq_ r.2.2.1.length a.2.2.2.2.2.2.1 with
    | false=>rfl
    | true =>
    cases kq_ r.2.2.1.length a.2.2.2.2.2.2.2 with
    | false=>rfl
    | true=>simp
  rw[a0_]
  cases okN a.1 with
  | false=>rfl
  | true =>
  cases rc_ r a.2.1 with
  | false=>rfl
  | true =>
  cases wi a.2.2.1 (-1) 7 with
  | false=>rfl
  | true =>
  cases kq_ r.2.2.1.length a.2.2.2.1 with
  | false=>rfl
  | true =>
  cases kq_ r.2.2.1.length a.2.2.2.2.2.2.1 with
  | false=>rfl
  | true =>
  cases kq_ r.2.2.1.length a.2.2.2.2.2.2.2 with
  | false=>rfl
  | true =>
  cases decide (6<(a.2.2.2.2.2.1.length:Int)) with
  | true=>rfl
  | false =>
  simp only[c0_,e5_,g6_,a2_]
  refine bn_ a.2.2.2.2.2.2.1 (λ_ y=>cond (a.2.2.2.1.contains y) none (some (inr (false,()):Unit⊕(Bool×Unit)))) (λi=>((i:Int),())) (r0:=inl ()) (λk y hy => ?_) ?_ ?_
  · have hk:=an_ hy
    simp only[dlt hk,a4_,ah_ hy,a0_,ay_ (show Sm k by omega),av4 s2]
    cases a.2.2.2.1.contains y<;>rfl
  · simp only[dnl,a2_]
  rw[jd_ (q:=λy=>a.2.2.2.1.contains y)]
  cases a.2.2.2.2.2.2.1.all λy=>a.2.2.2.1.contains y with
  | false=>rfl
  | true =>
  simp only[a4_,i6_,yx_,c0_]
  refine bn_ a.2.2.2.2.2.2.2 (λ_ y=>cond (a.2.2.2.1.contains y) (some (inr (false,()):Unit⊕(Bool×Unit))) none) (λi=>((i:Int),())) (r0:=inl ()) (λk y hy => ?_) ?_ ?_
  · have hk:=an_ hy
    simp only[dlt hk,a4_,ah_ hy,a0_,ay_ (show Sm k by omega),av4 s2]
    cases a.2.2.2.1.contains y<;>rfl
  · simp only[dnl,a2_]
  rw[hd_ (q:=λy=>a.2.2.2.1.contains y)]
  cases a.2.2.2.2.2.2.2.any λy=>a.2.2.2.1.contains y with
  | true=>rfl
  | false =>
  simp only[a2_,i6_,yx_,g6_,c0_]
  refine bn_ a.2.2.2.2.2.1 (λi x=>cond (qr_ r a.2.2.2.2.2.1 i x) none (some (inr (false,()):Unit⊕(Bool×Unit)))) (λi=>((i:Int),())) (r0:=inl ()) (λk y hy => ?_) ?_ ?_
  · have hk:=an_ hy
    simp only[dlt hk,a4_,ah_ hy,a0_,ay_ (show Sm k by omega),qv_ h.th]
    unfold qr_
    cases nh_ r.2.1 y.1 y.2 with
    | false=>rfl
    | true =>
    simp only[e5_,a2_,c0_]
    refine tm_ a.2.2.2.2.2.1 k (f9_ hk) (λ_ z=>cond (z.1==y.1) (some (inr (inr (inr (false,()))):Unit⊕((Int×Unit)⊕(Unit⊕(Bool×Unit))))) none) (λi=>((i:Int),())) (r0:=inl ()) (λn z hn hz => ?_) ?_ ?_
    · simp only[dlt hn,a4_,ah_ hz,a0_,ay_ (show Sm n by omega)]
      cases z.1==y.1<;>rfl
    · simp only[dnl,a2_]
    rw[hd_ (q:=λz:ac_=>z.1==y.1)]
    cases (a.2.2.2.2.2.1.take k).any λz=>z.1==y.1<;>rfl
  · simp only[dnl,a2_]
  rw[ru_]
  cases (fm_ (λi x=>cond (qr_ r a.2.2.2.2.2.1 i x) none (some ())) 0 a.2.2.2.2.2.1).isNone<;>rfl
theorem ai1 {α:Type} {nm:α→List UInt8} {l:List α} (hl:Sm l.length) {i:Nat} {x:α} (hx:l[i]?=some x):push? (α:=List UInt8) ((l.take i).map nm) [nm x]=some ((l.take (i+1)).map nm):=by
  have hi:=an_ hx
  unfold push?
  rw[if_pos (by
    simp only[d1_,c7_,d3_]
    omega)]
  rw[d5_,hx,j3_]
  rfl
theorem bi2 {α:Type} {nm:α→List UInt8} {l:List α} {i:Nat} {t:List UInt8}:twN id ((l.take (i+1)).map nm) i t=twN nm l i t:=by
  unfold twN
  rw[← List.map_take,List.take_take,Nat.min_eq_left (Nat.le_succ i),List.any_map]
  rfl
theorem cn1 {α:Type} {nm:α→List UInt8} {l:List α} {i:Nat} {x:α} (hx:l[i]?=some x):((l.take (i+1)).map nm)[i]?=some (nm x):=by
  rw[d6_,i4_,if_pos (Nat.lt_succ_self i),hx]
  rfl
theorem qb_ {r:ad_} (h:SmR r):fr_ r=some (ct_ r,()):=by
  unfold fr_
  refine e0_ (congrArg (λo=>Option.bind o _) (bq0 r)) ?_
  rw[a0_]
  unfold ct_
  cases aa5 r with
  | true=>rfl
  | false =>
  simp only[a2_]
  cases he:(r.1.length:Int)==0 with
  | true =>
    have:r.1=[]:=by
      have:=f5_.1 he
      exact h1_ (by omega)
    rw[this]
    rfl
  | false =>
  simp only[a2_]
  refine bv_ r.1 (λi x=>jb_ (plOk r i x) 22) (λi y hy => ?_) ?_ (ep_ ?_)
  · have hi:=an_ hy
    simp only[dlt hi,a4_,ah_ hy,a0_,ay_ (show Sm i from c4_ (f9_ hi) h.pl),kc_ (h.pln y (ax_ hy)),qa_ h.pl hy]
    unfold jb_ plOk frN
    cases okN y with
    | false=>rfl
    | true=>cases twN id r.1 i y<;>rfl
  · simp only[dnl,a2_]
  refine yu_ r.2.1 (λi x=>jb_ (bi5 r i x) 21) (λi=>(r.2.1.take i).map (·.1)) rfl (λi y hy => ?_) ?_ (ep_ ?_)
  · have hi:=an_ hy
    have hs:Sm ((r.2.1.take (i+1)).map (·.1)).length:=by
      rw[d1_,c7_]
      exact c4_ (m1_ _ _) h.th
    simp only[dlt hi,a4_,ah_ hy,a0_,ay_ (show Sm i from c4_ (f9_ hi) h.th),ai1 h.th hy,kc_ (h.thn y (ax_ hy)),qa_ hs (cn1 hy),bi2,hs_,fn_]
    unfold jb_ bi5 frN rc_
    cases okN y.1 with
    | false=>rfl
    | true =>
    cases twN (·.1) r.2.1 i y.1 with
    | true=>rfl
    | false =>
    cases wi y.2.1 0 (w64 ((r.1.length:Int) - 1)) with
    | false=>rfl
    | true =>
    cases wi y.2.2.1 2 6 with
    | false=>rfl
    | true=>cases wi y.2.2.2 0 (w64 (y.2.2.1 - 1))<;>rfl
  · simp only[dnl,a2_]
  refine yu_ r.2.2.1 (λi x=>rk_ (ce3 r i x) 24 (cOk r.2.1 x.2.2) 25) (λi=>(r.2.2.1.take i).map (·.1)) rfl (λi y hy => ?_) ?_ (ep_ ?_)
  · have hi:=an_ hy
    obtain⟨s1,s2⟩:=h.prn y (ax_ hy)
    have hs:Sm ((r.2.2.1.take (i+1)).map (·.1)).length:=by
      rw[d1_,c7_]
      exact c4_ (m1_ _ _) h.pr
    simp only[dlt hi,a4_,ah_ hy,a0_,ay_ (show Sm i from c4_ (f9_ hi) h.pr),ai1 h.pr hy,kc_ s1,qa_ hs (cn1 hy),bi2,hs_,gs_ h.th s2]
    unfold rk_ ce3 frN rc_
    cases okN y.1 with
    | false=>rfl
    | true =>
    cases twN (·.1) r.2.2.1 i y.1 with
    | true=>rfl
    | false =>
    have e:(y.2.1 != -1) = !(y.2.1==-1):=rfl
    rw[e]
    cases y.2.1==-1 with
    | true =>
      cases wi y.2.1 0 (w64 ((r.1.length:Int) - 1))<;>cases cOk r.2.1 y.2.2<;>rfl
    | false =>
      cases wi y.2.1 0 (w64 ((r.1.length:Int) - 1))<;>cases cOk r.2.1 y.2.2<;>rfl
  · simp only[dnl,a2_]
  refine bv_ r.2.2.2.1 (λi x=>rk_ (bz6 r x) 23 (cOk r.2.1 x.2.2) 25) (λi y hy => ?_) ?_ (ep_ ?_)
  · have hi:=an_ hy
    simp only[dlt hi,a4_,ah_ hy,a0_,ay_ (show Sm i from c4_ (f9_ hi) h.wy),hs_,gs_ h.th (h.wyn y (ax_ hy))]
    unfold rk_ bz6 rc_
    cases wi y.1 0 (w64 ((r.1.length:Int) - 1)) with
    | false=>rfl
    | true =>
    cases wi y.2.1 0 (w64 ((r.1.length:Int) - 1)) with
    | false=>rfl
    | true=>cases y.1==y.2.1<;>cases cOk r.2.1 y.2.2<;>rfl
  · simp only[dnl,a2_]
  refine bv_ r.2.2.2.2.1 (λi x=>rk_ (tz_ r i x) 26 (cOk r.2.1 x.2.2.2.2.1) 25) (λi y hy => ?_) ?_ (ep_ ?_)
  · have hi:=an_ hy
    simp only[dlt hi,a4_,ah_ hy,a0_,ay_ (show Sm i from c4_ (f9_ hi) h.ac),bl6 h hy,gs_ h.th (h.acn y (ax_ hy)).2.2.1]
    unfold rk_
    cases tz_ r i y with
    | false=>rfl
    | true=>cases cOk r.2.1 y.2.2.2.2.1<;>rfl
  · simp only[dnl,a2_]
  refine bv_ r.2.2.2.2.2.1 (λi x=>rk_ (nh_ r.2.1 x.2.1 x.2.2) 27 (cOk r.2.1 x.1) 25) (λi y hy => ?_) ?_ (ep_ ?_)
  · have hi:=an_ hy
    simp only[dlt hi,a4_,ah_ hy,a0_,ay_ (show Sm i from c4_ (f9_ hi) h.au),qv_ h.th,gs_ h.th (h.aun y (ax_ hy))]
    unfold rk_
    cases nh_ r.2.1 y.2.1 y.2.2 with
    | false=>rfl
    | true=>cases cOk r.2.1 y.1<;>rfl
  · simp only[dnl,a2_]
  rw[fn_,a0_,gs_ h.th h.go,a0_]
  cases wi r.2.2.2.2.2.2.1 1 4 with
  | false=>rfl
  | true=>cases cOk r.2.1 r.2.2.2.2.2.2.2<;>rfl
end
section
theorem ia_ {α τ:Type} (l:List α) (hl:Sm l.length) (q:α→Bool) {body:(Int×Unit)→Option ((Int×Unit)⊕(Unit⊕(Bool×Unit)))} {K:(Unit⊕(Bool×Unit))→Option τ} {x:Option τ}
    (h:∀ (i:Nat) y,l[i]?=some y→body ((i:Int),())=some (cond (q y) (.inr (.inr (true,()))) (.inl (w64 ((i:Int)+1),())))) (e:body ((l.length:Int),())=some (.inr (.inl ()))) (hx:K (cond (l.any q) (.inr (true,())) (.inl ()))=x) :
    (ag_ body (0,())).bind K=x:=by
  refine bn_ l (λi y=>cond (q y) (some (inr (true,()):Unit⊕(Bool×Unit))) none) (λi=>((i:Int),())) (r0:=inl ()) (λi y hy => ?_) e ?_
  · have hi:=an_ hy
    rw[h i y hy,ay_ (show Sm i by omega)]
    cases q y<;>rfl
  · rw[hd_ (q:=q)]
    cases hq:l.any q<;>rw[hq] at hx<;>exact hx
theorem hm_ {α:Type} {l:List α} {q:α→Bool} (h:l.any q=false):∀ x ∈ l,q x=false:=by
  intro x hx
  cases hq:q x with
  | false=>rfl
  | true=>rw[j8_.2 ⟨x,hx,hq⟩] at h;cases h
theorem nlt {n:Nat} {k:Int} (h:decide (k<(n:Int))=false) (hk:k≤1000000000):Sm n:=by
  have:=d0_ h
  omega
def cg2 (r:ad_):Bool:=decide (12<(r.1.length:Int))||(decide (15<(r.2.1.length:Int))||(decide (14<(r.2.2.1.length:Int))||(decide (20<(r.2.2.2.1.length:Int))||(decide (30<(r.2.2.2.2.1.length:Int))||(decide (15<(r.2.2.2.2.2.1.length:Int))||decide (20<(r.2.2.2.2.2.2.2.length:Int)))))))
theorem cg1 (r:ad_):(cond (decide (12<(r.1.length:Int)))
 (some (true,()))
 (cond (decide (15<(r.2.1.length:Int)))
 (some (true,()))
 (cond (decide (14<(r.2.2.1.length:Int)))
 (some (true,()))
 (cond (decide (20<(r.2.2.2.1.length:Int)))
 (some (true,()))
 (cond (decide (30<(r.2.2.2.2.1.length:Int)))
 (some (true,()))
 (cond (decide (15<(r.2.2.2.2.2.1.length:Int)))
 (some (true,()))
 (some ((decide (20<(r.2.2.2.2.2.2.2.length:Int))),()))))))))=some (cg2 r,()):=by
  unfold cg2
  cases decide (12<(r.1.length:Int)) with
  | true=>rfl
  | false =>
  cases decide (15<(r.2.1.length:Int)) with
  | true=>rfl
  | false =>
  cases decide (14<(r.2.2.1.length:Int)) with
  | true=>rfl
  | false =>
  cases decide (20<(r.2.2.2.1.length:Int)) with
  | true=>rfl
  | false =>
  cases decide (30<(r.2.2.2.2.1.length:Int)) with
  | true=>rfl
  | false =>
  cases decide (15<(r.2.2.2.2.2.1.length:Int)) with
  | true=>rfl
  | false=>rfl
theorem bq9 (r:ad_):∃ b,mu_ r=some (b,())∧(b=false→SmR r∧r.2.1.length≤15∧r.2.2.2.2.2.2.2.length≤20∧r.2.2.2.2.1.length≤30):=by
  unfold mu_
  have e0:=cg1 r
  cases hm:cg2 r with
  | true =>
    rw[hm] at e0
    exact⟨true,e0_ (congrArg (λo=>Option.bind o _) e0) rfl,λh=>by cases h⟩
  | false =>
  rw[hm] at e0
  unfold cg2 at hm
  simp only[c1_] at hm
  obtain⟨h1,h2,h3,h4,h5,h6,h7⟩:=hm
  have l1:=nlt h1 (by decide)
  have l2:=nlt h2 (by decide)
  have l3:=nlt h3 (by decide)
  have l4:=nlt h4 (by decide)
  have l5:=nlt h5 (by decide)
  have l6:=nlt h6 (by decide)
  have l7:=nlt h7 (by decide)
  have b2:=d0_ h2
  have b5:=d0_ h5
  have b7:=d0_ h7
  let qa:co_→Bool:=λy=>decide (100<(y.1.length:Int))||(decide (20<(y.2.2.2.2.1.length:Int))||(decide (20<(y.2.2.2.1.length:Int))||(decide (20<(y.2.2.2.2.2.1.length:Int))||(decide (20<(y.2.2.2.2.2.2.1.length:Int))||decide (20<(y.2.2.2.2.2.2.2.length:Int))))))
  let b1:=r.1.any λx=>decide (100<(x.length:Int))
  let bt:=r.2.1.any λx=>decide (100<(x.1.length:Int))
  let bp:=r.2.2.1.any λx=>decide (100<(x.1.length:Int))||decide (20<(x.2.2.length:Int))
  let bw:=r.2.2.2.1.any λx=>decide (20<(x.2.2.length:Int))
  let ba:=r.2.2.2.2.1.any qa
  let bo:=r.2.2.2.2.2.1.any λx=>decide (20<(x.1.length:Int))
  refine⟨b1||(bt||(bp||(bw||(ba||bo)))),?_,?_⟩
  · refine e0_ (congrArg (λo=>Option.bind o _) e0) ?_
    rw[a0_]
    simp only[a2_]
    refine ia_ r.1 l1 (λx=>decide (100<(x.length:Int))) (λi y hy => ?_) ?_ ?_
    · simp only[dlt (an_ hy),a4_,ah_ hy,a0_]
      cases decide (100<(y.length:Int))<;>rfl
    · simp only[dnl,a2_]
    show ce_ (cond b1 _ _) _ _=_
    cases b1 with
    | true=>rfl
    | false =>
    refine ia_ r.2.1 l2 (λx=>decide (100<(x.1.length:Int))) (λi y hy => ?_) ?_ ?_
    · simp only[dlt (an_ hy),a4_,ah_ hy,a0_]
      cases decide (100<(y.1.length:Int))<;>rfl
    · simp only[dnl,a2_]
    show ce_ (cond bt _ _) _ _=_
    cases bt with
    | true=>rfl
    | false =>
    refine ia_ r.2.2.1 l3 (λx=>decide (100<(x.1.length:Int))||decide (20<(x.2.2.length:Int))) (λi y hy => ?_) ?_ ?_
    · simp only[dlt (an_ hy),a4_,ah_ hy,a0_]
      cases decide (100<(y.1.length:Int)) with
      | true=>rfl
      | false=>cases decide (20<(y.2.2.length:Int))<;>rfl
    · simp only[dnl,a2_]
    show ce_ (cond bp _ _) _ _=_
    cases bp with
    | true=>rfl
    | false =>
    refine ia_ r.2.2.2.1 l4 (λx=>decide (20<(x.2.2.length:Int))) (λi y hy => ?_) ?_ ?_
    · simp only[dlt (an_ hy),a4_,ah_ hy,a0_]
      cases decide (20<(y.2.2.length:Int))<;>rfl
    · simp only[dnl,a2_]
    show ce_ (cond bw _ _) _ _=_
    cases bw with
    | true=>rfl
    | false =>
    refine ia_ r.2.2.2.2.1 l5 qa (λi y hy => ?_) ?_ ?_
    · simp only[dlt (an_ hy),a4_,ah_ hy,a0_,qa]
      cases decide (100<(y.1.length:Int)) with
      | true=>rfl
      | false =>
      cases decide (20<(y.2.2.2.2.1.length:Int)) with
      | true=>rfl
      | false =>
      cases decide (20<(y.2.2.2.1.length:Int)) with
      | true=>rfl
      | false =>
      cases decide (20<(y.2.2.2.2.2.1.length:Int)) with
      | true=>rfl
      | false =>
      cases decide (20<(y.2.2.2.2.2.2.1.length:Int)) with
      | true=>rfl
      | false=>cases decide (20<(y.2.2.2.2.2.2.2.length:Int))<;>rfl
    · simp only[dnl,a2_]
    show ce_ (cond ba _ _) _ _=_
    cases ba with
    | true=>rfl
    | false =>
    refine ia_ r.2.2.2.2.2.1 l6 (λx=>decide (20<(x.1.length:Int))) (λi y hy => ?_) ?_ ?_
    · simp only[dlt (an_ hy),a4_,ah_ hy,a0_]
      cases decide (20<(y.1.length:Int))<;>rfl
    · simp only[dnl,a2_]
    show ce_ (cond bo _ _) _ _=_
    cases bo<;>rfl
  · intro hb
    simp only[c1_] at hb
    obtain⟨g1,g2,g3,g4,g5,g6⟩:=hb
    refine⟨⟨l1,l2,l3,l4,l5,l6,l7,λx hx=>nlt (hm_ g1 x hx) (by decide),λx hx=>nlt (hm_ g2 x hx) (by decide),λx hx => ?_,λx hx=>nlt (hm_ g4 x hx) (by decide),λx hx => ?_,λx hx=>nlt (hm_ g6 x hx) (by decide)⟩,by omega,by omega,by omega⟩
    · have:=hm_ g3 x hx
      simp only[c1_] at this
      exact⟨nlt this.1 (by decide),nlt this.2 (by decide)⟩
    · have:=hm_ g5 x hx
      simp only[qa,c1_] at this
      obtain⟨a1,a2,a3,a4,a5,a6⟩:=this
      exact⟨nlt a1 (by decide),nlt a3 (by decide),nlt a2 (by decide),nlt a4 (by decide),nlt a5 (by decide),nlt a6 (by decide)⟩
structure SmG (g:ab_):Prop where
  room:SmR g.1
  th:g.1.2.1.length≤15
  go:g.1.2.2.2.2.2.2.2.length≤20
  ac:g.1.2.2.2.2.1.length≤30
  lk:g.2.1.length≤10
  cd:g.2.2.1.length≤10
  nt:g.2.2.2.1.length≤20
  lkn:∀ x ∈ g.2.1,¬ (3<x.1∧5<x.2)
  cdn:∀ x ∈ g.2.2.1,x.length≤10
  ntn:∀ x ∈ g.2.2.2.1,x.1.length≤100∧x.2.2.2.1.length≤20∧x.2.2.2.2.2.2.2.2.2.1.length≤10
theorem bq8 (g:ab_):∃ b,kl_ g=some (b,())∧(b=false→SmG g):=by
  unfold kl_
  obtain⟨b0,e0,h0⟩:=bq9 g.1
  rw[e0]
  simp only[a0_]
  cases b0 with
  | true=>exact⟨true,rfl,λh=>by cases h⟩
  | false =>
  obtain⟨r1,r2,r3,r4⟩:=h0 rfl
  cases h1:decide (10<(g.2.1.length:Int)) with
  | true=>exact⟨true,rfl,λh=>by cases h⟩
  | false =>
  cases h2:decide (10<(g.2.2.1.length:Int)) with
  | true=>exact⟨true,rfl,λh=>by cases h⟩
  | false =>
  cases h3:decide (20<(g.2.2.2.1.length:Int)) with
  | true=>exact⟨true,rfl,λh=>by cases h⟩
  | false =>
  have l1:=nlt h1 (by decide)
  have l2:=nlt h2 (by decide)
  have l3:=nlt h3 (by decide)
  let ql:ac_→Bool:=λy=>decide (3<y.1)&&decide (5<y.2)
  let qn:cs_→Bool:=λy=>decide (100<(y.1.length:Int))||(decide (20<(y.2.2.2.1.length:Int))||decide (10<(y.2.2.2.2.2.2.2.2.2.1.length:Int)))
  let b1:=g.2.1.any ql
  let b2:=g.2.2.1.any λx=>decide (10<(x.length:Int))
  let b3:=g.2.2.2.1.any qn
  refine⟨b1||(b2||b3),?_,?_⟩
  · simp only[a0_,a2_]
    refine ia_ g.2.1 l1 ql (λi y hy => ?_) ?_ ?_
    · simp only[dlt (an_ hy),a4_,ah_ hy,a0_,ql]
      cases decide (3<y.1) with
      | false=>rfl
      | true=>cases decide (5<y.2)<;>rfl
    · simp only[dnl,a2_]
    show ce_ (cond b1 _ _) _ _=_
    cases b1 with
    | true=>rfl
    | false =>
    refine ia_ g.2.2.1 l2 (λx=>decide (10<(x.length:Int))) (λi y hy => ?_) ?_ ?_
    · simp only[dlt (an_ hy),a4_,ah_ hy,a0_]
      cases decide (10<(y.length:Int))<;>rfl
    · simp only[dnl,a2_]
    show ce_ (cond b2 _ _) _ _=_
    cases b2 with
    | true=>rfl
    | false =>
    refine ia_ g.2.2.2.1 l3 qn (λi y hy => ?_) ?_ ?_
    · simp only[dlt (an_ hy),a4_,ah_ hy,a0_,qn]
      cases decide (100<(y.1.length:Int)) with
      | true=>rfl
      | false =>
      cases decide (20<(y.2.2.2.1.length:Int)) with
      | true=>rfl
      | false=>cases decide (10<(y.2.2.2.2.2.2.2.2.2.1.length:Int))<;>rfl
    · simp only[dnl,a2_]
    show ce_ (cond b3 _ _) _ _=_
    cases b3<;>rfl
  · intro hb
    simp only[c1_] at hb
    obtain⟨g1,g2,g3⟩:=hb
    have c1:=d0_ h1
    have c2:=d0_ h2
    have c3:=d0_ h3
    refine⟨r1,r2,r3,r4,by omega,by omega,by omega,λx hx => ?_,λx hx => ?_,λx hx => ?_⟩
    · have:=hm_ g1 x hx
      intro hc
      simp only[ql,b1_ hc.1,b1_ hc.2] at this
      cases this
    · have:=d0_ (hm_ g2 x hx)
      omega
    · have:=hm_ g3 x hx
      simp only[qn,c1_] at this
      have d1:=d0_ this.1
      have d2:=d0_ this.2.1
      have d3:=d0_ this.2.2
      omega
end
end Go.Proofs.YtdibamopklkilaaGreatDoor.Rx
namespace Go.Proofs.YtdibamopklkilaaGreatDoor.Rx
open Go Pad Rex Go.Proofs Go.Proofs.Tryz Sum
section
set_option maxRecDepth 100000
set_option maxHeartbeats 0
noncomputable def hh_ (a0:ab_):Option (Int×Unit) :=
 ((fr_ a0.1).bind λv0 =>
 (cond (v0.1 != 0)
 (some (v0.1,()))
 (((cond (decide (8<(a0.2.1.length:Int)))
 (some (true,()))
 (some ((decide (16<(a0.2.2.2.1.length:Int))),())))).bind λv1 =>
 (cond v1.1
 (some (2,()))
 ((ag_ (ρ:=(Unit⊕(Int×Unit))) (λ(v2:(Int×Unit)) =>
 (cond (decide (v2.1<(a0.2.1.length:Int)))
 ((at? a0.2.1 v2.1).bind λv3 =>
 ((ef_ v3).bind λv4 =>
 (cond (v4.1 != 0)
 (some (inr (inr (v4.1,()))))
 (some (inl ((w64 (v2.1+1)),()))))))
 (some (inr (inl ()))))) (0,())).bind λv5 =>
 (ce_ v5 (λv6=>(cond ((a0.2.2.1.length:Int) != (a0.2.1.length:Int))
 (some (12,()))
 ((ag_ (ρ:=(Unit⊕(Int×Unit))) (λ(v8:(Int×Unit)) =>
 (cond (decide (v8.1<(a0.2.2.1.length:Int)))
 ((at? a0.2.1 v8.1).bind λv9 =>
 ((at? a0.2.2.1 v8.1).bind λv10 =>
 ((fs_ v9 v10).bind λv11 =>
 (cond (v11.1 != 0)
 (some (inr (inr (12,()))))
 (some (inl ((w64 (v8.1+1)),())))))))
 (some (inr (inl ()))))) (0,())).bind λv12 =>
 (ce_ v12 (λv13=>((ag_ (ρ:=(Unit⊕(Int×Unit))) (λ(v15:(Int×Unit)) =>
 (cond (decide (v15.1<(a0.1.2.2.2.2.1.length:Int)))
 ((at? a0.1.2.2.2.2.1 v15.1).bind λv16 =>
 (cond (decide ((a0.2.1.length:Int)≤v16.2.2.1))
 (some (inr (inr (26,()))))
 (some (inl ((w64 (v15.1+1)),())))))
 (some (inr (inl ()))))) (0,())).bind λv17 =>
 (ce_ v17 (λv18=>((ag_ (ρ:=(Unit⊕(Int×Unit))) (λ(v20:(Int×Unit)) =>
 (cond (decide (v20.1<(a0.2.2.2.1.length:Int)))
 ((jh_ a0 v20.1).bind λv21 =>
 (cond (!v21.1)
 (some (inr (inr (40,()))))
 ((at? a0.2.2.2.1 v20.1).bind λv22 =>
 ((cw_ a0.1 v22.2.2.2.1).bind λv23 =>
 (cond (!v23.1)
 (some (inr (inr (25,()))))
 (some (inl ((w64 (v20.1+1)),()))))))))
 (some (inr (inl ()))))) (0,())).bind λv24 =>
 (ce_ v24 (λv25=>((im_ a0.2.2.2.2 1 100).bind λv27 =>
 (cond (!v27.1)
 (some (1,()))
 (some (0,())))))
 (λv26=>(some v26)))))
 (λv19=>(some v19)))))
 (λv14=>(some v14))))))
 (λv7=>(some v7))))))))
theorem x_31:au_ (P:=prog) (cxC [c_64,c_65,c_66,c_67,c_68,c_69] []) (.p .z (.p .z (.p .z (.p (.j0 [.v 24 .bool] .z .z) (.p (.p .z (.ls [.v 4 .int] [] [] 0 .z)) (.p .z (.p (.p .z (.ls [.v 6 .int] [] [] 2 (.p .z (.p (.p (.q [] .z .z) .z) .z)))) (.p (.p .z (.ls [.v 7 .int] [] [] 4 (.p .z (.p (.p (.q [] .z .z) .z) .z)))) (.p (.p .z (.ls [.v 8 .int] [] [] 6 (.p .z (.p (.p .z (.p (.q [] .z .z) .z)) .z)))) .z))))))))) 31 [am_] [.int]=λx=>hh_ x.1:=by kernel_rfl
noncomputable def c_31:Con prog:=av_ _ _ 31 [am_] [.int] _ x_31
noncomputable def et_ (a0:ad_) (a1:ai_):Option (Int×Unit) :=
 ((fr_ a0).bind λv0 =>
 (cond (v0.1 != 0)
 (some (v0.1,()))
 (((cond ((a1.1.length:Int) != (a0.2.1.length:Int))
 (some (true,()))
 (cond ((a1.2.1.length:Int) != (a0.2.2.1.length:Int))
 (some (true,()))
 (some (((a1.2.2.length:Int) != a0.2.2.2.2.2.2.1),()))))).bind λv1 =>
 (cond v1.1
 (some (28,()))
 ((ag_ (ρ:=(Unit⊕(Int×Unit))) (λ(v2:(Int×Unit)) =>
 (cond (decide (v2.1<(a1.1.length:Int)))
 ((at? a1.1 v2.1).bind λv3 =>
 ((gp_ a0 v2.1 v3).bind λv4 =>
 (cond (!v4.1)
 (some (inr (inr (28,()))))
 (some (inl ((w64 (v2.1+1)),()))))))
 (some (inr (inl ()))))) (0,())).bind λv5 =>
 (ce_ v5 (λv6=>((ag_ (ρ:=(Unit⊕(Int×Unit))) (λ(v8:(Int×Unit)) =>
 (cond (decide (v8.1<(a1.2.1.length:Int)))
 ((at? a1.2.1 v8.1).bind λv9 =>
 ((((cv_ a0 v9).bind λv10 =>
 (cond (!v10.1)
 (cond (v9 != (-1))
 ((br_ v9 (w64 ((w64 ((-2) - a0.2.2.2.2.2.2.1))+1)) (-2)).bind λv11 =>
 (some ((!v11.1),())))
 (some (false,())))
 (some (false,()))))).bind λv12 =>
 (cond v12.1
 (some (inr (inr (28,()))))
 (some (inl ((w64 (v8.1+1)),()))))))
 (some (inr (inl ()))))) (0,())).bind λv13 =>
 (ce_ v13 (λv14=>((ag_ (ρ:=(Unit⊕(Int×Unit))) (λ(v16:(Int×Unit)) =>
 (cond (decide (v16.1<(a1.2.2.length:Int)))
 ((at? a1.2.2 v16.1).bind λv17 =>
 ((cv_ a0 v17).bind λv18 =>
 (cond (!v18.1)
 (some (inr (inr (28,()))))
 (some (inl ((w64 (v16.1+1)),()))))))
 (some (inr (inl ()))))) (0,())).bind λv19 =>
 (ce_ v19 (λv20=>(some (0,())))
 (λv21=>(some v21)))))
 (λv15=>(some v15)))))
 (λv7=>(some v7))))))))
theorem x_91:au_ (P:=prog) (cxC [c_64,c_116,ar9,cj3] []) (.p .z (.p .z (.p .z (.p (.j0 [.v 38 .bool] .z .z) (.p (.p .z (.ls [.v 6 .int] [] [] 0 (.p .z (.p (.p (.q [] .z .z) .z) .z)))) (.p (.p .z (.ls [.v 7 .int] [] [] 2 (.p .z (.p (.p .z (.j0 [.v 83 .bool] .z .z)) .z)))) (.p (.p .z (.ls [.v 9 .int] [] [] 4 (.p .z (.p (.p (.q [] .z .z) .z) .z)))) .z))))))) 91 [ao_,ar_] [.int]=λx=>et_ x.1 x.2.1:=by kernel_rfl
noncomputable def c_91:Con prog:=av_ _ _ 91 [ao_,ar_] [.int] _ x_91
noncomputable def jo_ (a0:ac_) (a1:(List ak_)):Option (Int×Int×Unit) :=
 ((eu_ a0 a1).bind λv0 =>
 (cond (v0.1 != 0)
 (some (0,(v0.1,())))
 ((ms_ a0 a1).bind λv1 =>
 (some ((v1.1.length:Int),(0,()))))))
theorem x_227:au_ (P:=prog) (cxC [c_240,c_241] []) .z 227 [al_,(.list ap_)] [.int,.int]=λx=>jo_ x.1 x.2.1:=by kernel_rfl
noncomputable def c_227:Con prog:=av_ _ _ 227 [al_,(.list ap_)] [.int,.int] _ x_227
noncomputable def jr_ (a0:ac_) (a1:ak_) (a2:(List Int)):Option (Bool×Int×Unit) :=
 ((fw_ a0 a1).bind λv0 =>
 (cond (v0.1 != 0)
 (some (false,(v0.1,())))
 ((ea_ a0 a2).bind λv1 =>
 (cond (v1.1 != 0)
 (some (false,(v1.1,())))
 ((fu_ a1 a2).bind λv2 =>
 (some (v2.1,(0,()))))))))
theorem x_142:au_ (P:=prog) (cxC [c_78,c_187,c_188] []) .z 142 [al_,ap_,(.list .int)] [.bool,.int]=λx=>jr_ x.1 x.2.1 x.2.2.1:=by kernel_rfl
noncomputable def c_142:Con prog:=av_ _ _ 142 [al_,ap_,(.list .int)] [.bool,.int] _ x_142
noncomputable def ii_ (a0:ad_):Option (ai_×Int×Unit) :=
 ((fh_ a0).bind λv0 =>
 (cond (v0.1 != 0)
 (some (([],([],[])),(v0.1,())))
 ((mk? (α:=Int) a0.2.2.2.2.2.2.1 0).bind λv1 =>
 ((ag_ (ρ:=(((List Int)×Unit)×Unit)) (λ(v2:(Int×(((List Int)×Unit)×Unit))) =>
 (cond (decide (v2.1<(a0.2.1.length:Int)))
 ((at? a0.2.1 v2.1).bind λv3 =>
 ((push? (α:=Int) v2.2.1.1 [v3.2.2.2]).bind λv4 =>
 (some (inl ((w64 (v2.1+1)),((v4,()),()))))))
 (some (inr ((v2.2.1.1,()),()))))) (0,(([],()),()))).bind λv5 =>
 ((ag_ (ρ:=(((List Int)×Unit)×Unit)) (λ(v6:(Int×(((List Int)×Unit)×Unit))) =>
 (cond (decide (v6.1<(a0.2.2.1.length:Int)))
 ((at? a0.2.2.1 v6.1).bind λv7 =>
 ((push? (α:=Int) v6.2.1.1 [v7.2.1]).bind λv8 =>
 (some (inl ((w64 (v6.1+1)),((v8,()),()))))))
 (some (inr ((v6.2.1.1,()),()))))) (0,(([],()),()))).bind λv9 =>
 ((push? (α:=Int) [] v5.1.1).bind λv10 =>
 ((push? (α:=Int) [] v9.1.1).bind λv11 =>
 ((push? (α:=Int) [] v1).bind λv12 =>
 ((((ag_ (ρ:=(((List Int)×Unit)⊕(Bool×((List Int)×Unit)))) (λ(v13:(Int×((List Int)×Unit))) =>
 (cond (decide (v13.1<101))
 ((((ag_ (ρ:=(Unit⊕(Int×Unit))) (λ(v14:(Int×Unit)) =>
 (cond (decide (v14.1<(a0.2.2.2.2.2.1.length:Int)))
 ((at? a0.2.2.2.2.2.1 v14.1).bind λv15 =>
 ((((at? v13.2.1 v15.2.1).bind λv16 =>
 ((at? v13.2.1 v15.2.1).bind λv17 =>
 (cond (v17 != v15.2.2)
 ((ba_ (a0,(v13.2.1,(v11,v12))) v15.1).bind λv18 =>
 (some (v18.1,())))
 (some (false,())))))).bind λv19 =>
 (cond v19.1
 (some (inr (inr (v14.1,()))))
 (some (inl ((w64 (v14.1+1)),()))))))
 (some (inr (inl ()))))) (0,())).bind λv20 =>
 (ce_ v20 (λv21=>(some ((-1),())))
 (λv22=>(some v22))))).bind λv23 =>
 (cond (decide (v23.1<0))
 (some (inr (inr ((!true),(v13.2.1,())))))
 ((at? a0.2.2.2.2.2.1 v23.1).bind λv24 =>
 ((at? a0.2.2.2.2.2.1 v23.1).bind λv25 =>
 ((at? v13.2.1 v24.2.1).bind λv26 =>
 ((at? v13.2.1 v24.2.1).bind λv27 =>
 (some (inl ((w64 (v13.1+1)),((v13.2.1.set v24.2.1.toNat v25.2.2),()))))))))))
 (some (inr (inl (v13.2.1,())))))) (0,(v10,()))).bind λv28 =>
 (ce_ v28 (λv29=>(some ((!false),(v29.1,()))))
 (λv30=>(some v30))))).bind λv31 =>
 (cond v31.1
 (some (([],([],[])),(27,())))
 (some ((v31.2.1,(v11,v12)),(0,())))))))))))))
theorem x_40:au_ (P:=prog) (cxI (λk=>cond (Nat.beq k 83) (.p .z (.p (.j0 [.v 6 .bool,.o (.c (.s 0) 8) .int] .z .z) .z)) (cond (Nat.beq k 145) (.p .z (.p (.p .z (.ls [.v 4 .int] [] [.o (.c (.s 0) 8) .int] 0 (.p .z (.p .z (.p (.j0 [.v 3 .int] .z .z) .z))))) .z)) (cond (Nat.beq k 190) (.p .z (.p (.p .z (.ls [.v 8 .int] [] [] 0 .z)) .z)) (cond (Nat.beq k 191) (.p .z (.j0 [.v 3 .bool] .z .z)) (.z))))) (λk=>Nat.beq k 76||Nat.beq k 86||Nat.beq k 147||false) (cxC [c_76,bw6] [ar6]) 6) (.p .z (.p .z (.p .z (.p (.p .z (.lp [.v 23 .int] [] [.b (.s 5) [.row .int 3,.keep,.keep]] 0 .z)) (.p (.p .z (.lp [.v 38 .int] [] [.b (.s 5) [.keep,.row .int 3,.keep]] 2 .z)) .z))))) 40 [ao_] [ar_,.int]=λx=>ii_ x.1:=by kernel_rfl
noncomputable def c_40:Con prog:=av_ _ _ 40 [ao_] [ar_,.int] _ x_40
noncomputable def bz_ (a0:ad_) (a1:ai_):Option (Int×Unit) :=
 ((fh_ a0).bind λv0 =>
 (cond (v0.1 != 0)
 (some (v0.1,()))
 (((cond ((a1.1.length:Int) != (a0.2.1.length:Int))
 (some (true,()))
 (cond ((a1.2.1.length:Int) != (a0.2.2.1.length:Int))
 (some (true,()))
 (some (((a1.2.2.length:Int) != a0.2.2.2.2.2.2.1),()))))).bind λv1 =>
 (cond v1.1
 (some (28,()))
 ((ag_ (ρ:=(Unit⊕(Int×Unit))) (λ(v2:(Int×Unit)) =>
 (cond (decide (v2.1<(a1.1.length:Int)))
 ((at? a1.1 v2.1).bind λv3 =>
 ((fd_ a0 v2.1 v3).bind λv4 =>
 (cond (!v4.1)
 (some (inr (inr (28,()))))
 (some (inl ((w64 (v2.1+1)),()))))))
 (some (inr (inl ()))))) (0,())).bind λv5 =>
 (ce_ v5 (λv6=>((ag_ (ρ:=(Unit⊕(Int×Unit))) (λ(v8:(Int×Unit)) =>
 (cond (decide (v8.1<(a1.2.1.length:Int)))
 ((at? a1.2.1 v8.1).bind λv9 =>
 ((bb_ v9 (w64 ((w64 ((-2) - a0.2.2.2.2.2.2.1))+1)) (w64 ((a0.1.length:Int) - 1))).bind λv10 =>
 (cond (!v10.1)
 (some (inr (inr (28,()))))
 (some (inl ((w64 (v8.1+1)),()))))))
 (some (inr (inl ()))))) (0,())).bind λv11 =>
 (ce_ v11 (λv12=>((ag_ (ρ:=(Unit⊕(Int×Unit))) (λ(v14:(Int×Unit)) =>
 (cond (decide (v14.1<(a1.2.2.length:Int)))
 ((at? a1.2.2 v14.1).bind λv15 =>
 ((bb_ v15 0 (w64 ((a0.1.length:Int) - 1))).bind λv16 =>
 (cond (!v16.1)
 (some (inr (inr (28,()))))
 (some (inl ((w64 (v14.1+1)),()))))))
 (some (inr (inl ()))))) (0,())).bind λv17 =>
 (ce_ v17 (λv18=>(some (0,())))
 (λv19=>(some v19)))))
 (λv13=>(some v13)))))
 (λv7=>(some v7))))))))
theorem x_146:au_ (P:=prog) (cxC [c_76,bw8,cj2] []) (.p .z (.p .z (.p (.j0 [.v 40 .bool] .z .z) (.p (.p .z (.ls [.v 44 .int] [] [] 0 .z)) (.p (.p .z (.ls [.v 58 .int] [] [] 2 .z)) (.p (.p .z (.ls [.v 77 .int] [] [] 4 .z)) .z)))))) 146 [ao_,ar_] [.int]=λx=>bz_ x.1 x.2.1:=by kernel_rfl
noncomputable def bw7:Con prog:=av_ _ _ 146 [ao_,ar_] [.int] _ x_146
noncomputable def cj_ (a0:ac_) (a1:(List ak_)):Option (Int×Int×Unit) :=
 ((ew_ a0 a1).bind λv0 =>
 (cond (v0.1 != 0)
 (some (0,(v0.1,())))
 ((ev_ a0 a1).bind λv1 =>
 (some (v1.1,(0,()))))))
theorem x_164:au_ (P:=prog) (cxC [c_205,c_206] []) .z 164 [al_,(.list ap_)] [.int,.int]=λx=>cj_ x.1 x.2.1:=by kernel_rfl
noncomputable def c_164:Con prog:=av_ _ _ 164 [al_,(.list ap_)] [.int,.int] _ x_164
end
end Go.Proofs.YtdibamopklkilaaGreatDoor.Rx
namespace Go.Proofs.YtdibamopklkilaaGreatDoor.Rx
open Go Pad Rex Sum
section
theorem ka_ {α ρ:Type} {p:Nat→α→Option ρ} {e:ρ} (h:∀ i x,p i x≠some e):∀ (l:List α) (i:Nat),fm_ p i l≠some e
  | [],_=>by simp[fm_]
  | x::l,i=>by
    unfold fm_
    cases hp:p i x with
    | some r =>
      intro he
      cases he
      exact h i x hp
    | none=>exact ka_ h l (i+1)
theorem gf_ {o:Option Int} {k:Int} (h:o.getD k=0) (hn:o≠some 0):o=none∧k=0:=by
  cases o with
  | none=>exact⟨rfl,h⟩
  | some e =>
    have:e=0:=h
    subst this
    exact absurd rfl hn
theorem wv_ {a:Bool} {e:Int} (h:e≠0):jb_ a e≠some 0:=by
  unfold jb_
  cases a with
  | true=>simp
  | false=>simpa using h
theorem wu_ {a b:Bool} {e f:Int} (h:e≠0) (k:f≠0):rk_ a e b f≠some 0:=by
  unfold rk_
  cases a with
  | false=>simpa using h
  | true =>
    cases b with
    | true=>simp
    | false=>simpa using k
theorem km_ {a:Bool} {e:Int} (h:jb_ a e=none):a=true:=by cases a with
  | true=>rfl
  | false=>cases h
theorem ny_ {a b:Bool} {e f:Int} (h:rk_ a e b f=none):a=true∧b=true:=by
  cases a with
  | false=>cases h
  | true=>cases b with
    | true=>exact⟨rfl,rfl⟩
    | false=>cases h
theorem dh_ {α ρ:Type} {p:Nat→α→Option ρ} {l:List α} (h:fm_ p 0 l=none) {i:Nat} {x:α} (hx:l[i]?=some x):p i x=none:=by
  have:=(ie_ l 0).1 h i x hx
  rwa [b0_] at this
structure OkR (r:ad_):Prop where
  many:aa5 r=false
  pl:∀ (i:Nat) x,r.1[i]?=some x→plOk r i x=true
  ne:r.1≠[]
  th:∀ (i:Nat) x,r.2.1[i]?=some x→bi5 r i x=true
  pr:∀ (i:Nat) x,r.2.2.1[i]?=some x→ce3 r i x=true∧cOk r.2.1 x.2.2=true
  wy:∀ (i:Nat) x,r.2.2.2.1[i]?=some x→bz6 r x=true∧cOk r.2.1 x.2.2=true
  ac:∀ (i:Nat) x,r.2.2.2.2.1[i]?=some x→tz_ r i x=true∧cOk r.2.1 x.2.2.2.2.1=true
  au:∀ (i:Nat) x,r.2.2.2.2.2.1[i]?=some x→nh_ r.2.1 x.2.1 x.2.2=true∧cOk r.2.1 x.1=true
  py:wi r.2.2.2.2.2.2.1 1 4=true
  go:cOk r.2.1 r.2.2.2.2.2.2.2=true
theorem bq_ {r:ad_} (h:ct_ r=0):OkR r:=by
  unfold ct_ at h
  cases hm:aa5 r with
  | true=>rw[hm] at h;exact absurd (show (2:Int)=0 from h) (by decide)
  | false =>
  rw[hm] at h
  have h:(fm_ (λi x=>jb_ (plOk r i x) 22) 0 r.1).getD _=0:=h
  obtain⟨h1,h⟩:=gf_ h (ka_ (λi x=>wv_ (by decide)) _ _)
  cases he:(r.1.length:Int)==0 with
  | true=>rw[he] at h;exact absurd (show (22:Int)=0 from h) (by decide)
  | false =>
  rw[he] at h
  have h:(fm_ (λi x=>jb_ (bi5 r i x) 21) 0 r.2.1).getD _=0:=h
  obtain⟨h2,h⟩:=gf_ h (ka_ (λi x=>wv_ (by decide)) _ _)
  obtain⟨h3,h⟩:=gf_ h (ka_ (λi x=>wu_ (by decide) (by decide)) _ _)
  obtain⟨h4,h⟩:=gf_ h (ka_ (λi x=>wu_ (by decide) (by decide)) _ _)
  obtain⟨h5,h⟩:=gf_ h (ka_ (λi x=>wu_ (by decide) (by decide)) _ _)
  obtain⟨h6,h⟩:=gf_ h (ka_ (λi x=>wu_ (by decide) (by decide)) _ _)
  cases h7:wi r.2.2.2.2.2.2.1 1 4 with
  | false=>rw[h7] at h;exact absurd (show (1:Int)=0 from h) (by decide)
  | true =>
  rw[h7] at h
  cases h8:cOk r.2.1 r.2.2.2.2.2.2.2 with
  | false=>rw[h8] at h;exact absurd (show (25:Int)=0 from h) (by decide)
  | true =>
  refine⟨hm,λi x hx=>km_ (dh_ h1 hx),λe => ?_,λi x hx=>km_ (dh_ h2 hx),λi x hx=>ny_ (dh_ h3 hx),λi x hx=>ny_ (dh_ h4 hx),λi x hx=>ny_ (dh_ h5 hx),λi x hx=>ny_ (dh_ h6 hx),h7,h8⟩
  rw[e] at he
  cases he
def inR (r:ad_) (p:Int):Bool:=wi p (w64 ((w64 ((-2) - r.2.2.2.2.2.2.1))+1)) (w64 ((r.1.length:Int) - 1))
def aa7 (r:ad_) (s:ai_):Bool:=((s.1.length:Int) != (r.2.1.length:Int))||(((s.2.1.length:Int) != (r.2.2.1.length:Int))||((s.2.2.length:Int) != r.2.2.2.2.2.2.1))
def ckS (r:ad_) (s:ai_):Int :=
  cond (aa7 r s) 28 ((fm_ (λi n=>jb_ (nh_ r.2.1 (i:Int) n) 28) 0 s.1).getD ((fm_ (λ_ p=>jb_ (inR r p) 28) 0 s.2.1).getD ((fm_ (λ_ p=>jb_ (rc_ r p) 28) 0 s.2.2).getD 0)))
def mx_ (r:ad_) (s:ai_):Int:=cond (ct_ r != 0) (ct_ r) (ckS r s)
theorem bq6 (r:ad_) (s:ai_):(cond ((s.1.length:Int) != (r.2.1.length:Int))
 (some (true,()))
 (cond ((s.2.1.length:Int) != (r.2.2.1.length:Int))
 (some (true,()))
 (some (((s.2.2.length:Int) != r.2.2.2.2.2.2.1),()))))=some (aa7 r s,()):=by
  unfold aa7
  cases (s.1.length:Int) != (r.2.1.length:Int) with
  | true=>rfl
  | false =>
  cases (s.2.1.length:Int) != (r.2.2.1.length:Int) with
  | true=>rfl
  | false=>rfl
theorem ax3 {r:ad_} {s:ai_} (h:aa7 r s=false):s.1.length=r.2.1.length∧s.2.1.length=r.2.2.1.length∧(s.2.2.length:Int)=r.2.2.2.2.2.2.1:=by
  unfold aa7 at h
  simp only[c1_,p7_] at h
  omega
theorem fb_ {r:ad_} (h:SmR r) (s:ai_):bz_ r s=some (mx_ r s,()):=by
  unfold bz_ mx_
  rw[rx_ h,a0_]
  cases hr:ct_ r != 0 with
  | true=>rfl
  | false =>
  have ok:=bq_ (by simpa using hr)
  simp only[a2_]
  refine e0_ (congrArg (λo=>Option.bind o _) (bq6 r s)) ?_
  rw[a0_]
  unfold ckS
  cases hl:aa7 r s with
  | true=>rfl
  | false =>
  obtain⟨l1,l2,l3⟩:=ax3 hl
  have hp:=cf_.1 ok.py
  have m1:Sm s.1.length:=by rw[l1];exact h.th
  have m2:Sm s.2.1.length:=by rw[l2];exact h.pr
  have m3:Sm s.2.2.length:=by show s.2.2.length≤1000000000;omega
  simp only[a2_]
  refine bv_ s.1 (λi n=>jb_ (nh_ r.2.1 (i:Int) n) 28) (λi y hy => ?_) ?_ (ep_ ?_)
  · have hi:=an_ hy
    simp only[dlt hi,a4_,ah_ hy,a0_,ay_ (show Sm i by omega),oy_ h.th]
    unfold jb_
    cases nh_ r.2.1 (i:Int) y<;>rfl
  · simp only[dnl,a2_]
  refine bv_ s.2.1 (λ_ p=>jb_ (inR r p) 28) (λi y hy => ?_) ?_ (ep_ ?_)
  · have hi:=an_ hy
    simp only[dlt hi,a4_,ah_ hy,a0_,ay_ (show Sm i by omega),dv_]
    unfold jb_ inR
    cases wi y (w64 ((w64 ((-2) - r.2.2.2.2.2.2.1))+1)) (w64 ((r.1.length:Int) - 1))<;>rfl
  · simp only[dnl,a2_]
  refine bv_ s.2.2 (λ_ p=>jb_ (rc_ r p) 28) (λi y hy => ?_) ?_ (ep_ ?_)
  · have hi:=an_ hy
    simp only[dlt hi,a4_,ah_ hy,a0_,ay_ (show Sm i by omega),dv_]
    unfold jb_ rc_
    cases wi y 0 (w64 ((r.1.length:Int) - 1))<;>rfl
  · simp only[dnl,a2_]
  rfl
theorem cn3 {r:ad_} (h:SmR r) (hp:wi r.2.2.2.2.2.2.1 1 4=true) (p:Int):inR r p=(rc_ r p||(p==-1||wi p (w64 ((w64 ((-2) - r.2.2.2.2.2.2.1))+1)) (-2))):=by
  have hp:=cf_.1 hp
  have hpl:=h.pl
  have e1:w64 ((r.1.length:Int) - 1)=(r.1.length:Int) - 1:=eo_ (by omega) (by omega)
  have e2:w64 ((-2) - r.2.2.2.2.2.2.1)=(-2) - r.2.2.2.2.2.2.1:=eo_ (by omega) (by omega)
  have e3:w64 (((-2) - r.2.2.2.2.2.2.1)+1)=((-2) - r.2.2.2.2.2.2.1)+1:=eo_ (by omega) (by omega)
  unfold inR rc_
  rw[e1,e2,e3,j5_]
  simp only[c5_,cf_,f5_]
  omega
theorem tr_ {r:ad_} (h:SmR r) (s:ai_):et_ r s=some (mx_ r s,()):=by
  unfold et_ mx_
  rw[qb_ h,a0_]
  cases hr:ct_ r != 0 with
  | true=>rfl
  | false =>
  have ok:=bq_ (by simpa using hr)
  simp only[a2_]
  refine e0_ (congrArg (λo=>Option.bind o _) (bq6 r s)) ?_
  rw[a0_]
  unfold ckS
  cases hl:aa7 r s with
  | true=>rfl
  | false =>
  obtain⟨l1,l2,l3⟩:=ax3 hl
  have hp:=cf_.1 ok.py
  have m1:Sm s.1.length:=by rw[l1];exact h.th
  have m2:Sm s.2.1.length:=by rw[l2];exact h.pr
  have m3:Sm s.2.2.length:=by show s.2.2.length≤1000000000;omega
  simp only[a2_]
  refine bv_ s.1 (λi n=>jb_ (nh_ r.2.1 (i:Int) n) 28) (λi y hy => ?_) ?_ (ep_ ?_)
  · have hi:=an_ hy
    simp only[dlt hi,a4_,ah_ hy,a0_,ay_ (show Sm i by omega),qv_ h.th]
    unfold jb_
    cases nh_ r.2.1 (i:Int) y<;>rfl
  · simp only[dnl,a2_]
  refine bv_ s.2.1 (λ_ p=>jb_ (inR r p) 28) (λi y hy => ?_) ?_ (ep_ ?_)
  · have hi:=an_ hy
    simp only[dlt hi,a4_,ah_ hy,a0_,ay_ (show Sm i by omega),hs_,fn_]
    rw[cn3 h ok.py]
    unfold jb_ rc_
    have e:(y != -1) = !(y==-1):=rfl
    rw[e]
    cases wi y 0 (w64 ((r.1.length:Int) - 1)) with
    | true=>rfl
    | false =>
    cases y==-1 with
    | true=>rfl
    | false=>cases wi y (w64 ((w64 ((-2) - r.2.2.2.2.2.2.1))+1)) (-2)<;>rfl
  · simp only[dnl,a2_]
  refine bv_ s.2.2 (λ_ p=>jb_ (rc_ r p) 28) (λi y hy => ?_) ?_ (ep_ ?_)
  · have hi:=an_ hy
    simp only[dlt hi,a4_,ah_ hy,a0_,ay_ (show Sm i by omega),hs_]
    unfold jb_ rc_
    cases wi y 0 (w64 ((r.1.length:Int) - 1))<;>rfl
  · simp only[dnl,a2_]
  rfl
end
section
def gi (l:List Int) (i:Int):Int:=(at? l i).getD 0
theorem mq_ {l:List Int} {i x:Int} (h:at? l i=some x):gi l i=x:=by unfold gi;rw[h];rfl
theorem mc_ {l:List Int} {i:Int} (h0:0≤i) (h1:i<l.length):at? l i=some (gi l i):=by
  obtain⟨x,hx⟩:=bd_ (l:=l) (i:=i.toNat) (by omega)
  have:at? l i=some x:=by rw[show i=((i.toNat:Nat):Int) by omega];exact ah_ hx
  rw[this,mq_ this]
def InC (n:Nat) (c:List bc_):Prop:=∀ l ∈ c,0≤l.1∧l.1<n
theorem tk_ {things:List gr_} (hl:Sm things.length) {c:List bc_} (h:cOk things c=true):InC things.length c∧c.length≤8:=by
  unfold cOk at h
  rw[a1_] at h
  refine⟨λl hm => ?_,by have:=g7_ h.1;omega⟩
  have h2:=e7_.1 h.2 l hm
  unfold nh_ at h2
  rw[a1_] at h2
  have:=cf_.1 h2.1
  rw[eo_ (by omega) (by omega)] at this
  omega
def dn_ (th:List Int) (c:List bc_):Bool:=c.all λl=>!((gi th l.1==l.2.1)==l.2.2)
theorem by3 {α:Type} (l:List α) (q:α→Bool):(!(l.any q))=l.all λx=>!(q x):=by
  induction l with
  | nil=>rfl
  | cons x l ih =>
    rw[p2_,List.all_cons,← ih]
    cases q x<;>rfl
theorem me_ {t:hb_} {c:List bc_} (hc:Sm c.length) (hi:InC t.2.1.length c):ba_ t c=some (dn_ t.2.1 c,()):=by
  unfold ba_ dn_
  refine e0_ (congrArg (λo=>Option.bind o _) (oe_ hc (λl=>(gi t.2.1 l.1==l.2.1)==l.2.2) (λi y hy => ?_) ?_)) ?_
  · have:=hi y (ax_ hy)
    simp only[dlt (an_ hy),a4_,ah_ hy,mc_ this.1 this.2,a0_]
    cases (gi t.2.1 y.1==y.2.1)==y.2.2<;>rfl
  · simp only[dnl,a2_]
  · rw[a0_]
    exact congrArg (λb=>some (b,())) (by3 c _)
theorem jf_ {s:ai_} {c:List bc_} (hc:Sm c.length) (hi:InC s.1.length c):bm_ s c=some (dn_ s.1 c,()):=by
  unfold bm_ dn_
  refine bn_ c (λi l=>cond ((gi s.1 l.1==l.2.1)==l.2.2) (some (inr (false,()):Unit⊕(Bool×Unit))) none) (λi=>((i:Int),())) (r0:=inl ()) (λi y hy => ?_) ?_ ?_
  · have:=hi y (ax_ hy)
    have hl:=an_ hy
    simp only[dlt hl,a4_,ah_ hy,mc_ this.1 this.2,a0_,ay_ (show Sm i by omega)]
    cases (gi s.1 y.1==y.2.1)==y.2.2<;>rfl
  · simp only[dnl,a2_]
  · rw[hd_ (q:=λl:bc_=>(gi s.1 l.1==l.2.1)==l.2.2),← by3]
    cases c.any λl=>(gi s.1 l.1==l.2.1)==l.2.2<;>rfl
end
end Go.Proofs.YtdibamopklkilaaGreatDoor.Rx
namespace Go.Proofs.YtdibamopklkilaaGreatDoor.Rx
open Go Pad Rex Go.Proofs Go.Proofs.Tryz Sum
section
set_option maxRecDepth 100000
set_option maxHeartbeats 0
noncomputable def ib_ (a0:ad_) (a1:ai_):Option (ai_×Int×Unit) :=
 ((et_ a0 a1).bind λv0 =>
 (cond (v0.1 != 0)
 (some (([],([],[])),(v0.1,())))
 ((gg_ a0 a1).bind λv1 =>
 (cond (!v1.2.1)
 (some (([],([],[])),(27,())))
 (some (v1.1,(0,())))))))
theorem x_156:au_ (P:=prog) (cxC [c_91,c_159] []) .z 156 [ao_,ar_] [ar_,.int]=λx=>ib_ x.1 x.2.1:=by kernel_rfl
noncomputable def c_156:Con prog:=av_ _ _ 156 [ao_,ar_] [ar_,.int] _ x_156
noncomputable def ix_ (a0:ab_) (a1:Int) (a2:(List Int)):Option (Int×Unit) :=
 ((at? a0.2.1 a1).bind λv0 =>
 ((ji_ a0 a2).bind λv1 =>
 ((jo_ v0 v1.1).bind λv2 =>
 (some (v2.1,())))))
theorem x_203:au_ (P:=prog) (cxC [c_227,c_228] []) (.p .z (.p (.q [] .z .z) .z)) 203 [am_,.int,(.list .int)] [.int]=λx=>ix_ x.1 x.2.1 x.2.2.1:=by kernel_rfl
noncomputable def c_203:Con prog:=av_ _ _ 203 [am_,.int,(.list .int)] [.int] _ x_203
noncomputable def le_ (a0:ab_) (a1:Int) (a2:cs_):Option (Bool×Unit) :=
 ((sub? a0.2.2.2.1 0 a1).bind λv0 =>
 ((((ag_ (ρ:=(Unit⊕(Bool×Unit))) (λ(v1:(Int×Unit)) =>
 (cond (decide (v1.1<(v0.length:Int)))
 ((at? v0 v1.1).bind λv2 =>
 (cond (v2.1==a2.1)
 (some (inr (inr ((decide (0≤v1.1)),()))))
 (some (inl ((w64 (v1.1+1)),())))))
 (some (inr (inl ()))))) (0,())).bind λv3 =>
 (ce_ v3 (λv4=>(some ((decide (0≤(-1))),())))
 (λv5=>(some v5))))).bind λv6 =>
 ((((mt_ a2.1).bind λv7 =>
 (cond (!v7.1)
 (some (true,()))
 (cond (decide (12<(a2.1.length:Int)))
 (some (true,()))
 (cond v6.1
 (some (true,()))
 ((bs_ a2.2.1 0 (w64 ((a0.1.1.length:Int) - 1))).bind λv8 =>
 (cond (!v8.1)
 (some (true,()))
 ((bs_ a2.2.2.1 (-1) (w64 ((a0.2.1.length:Int) - 1))).bind λv9 =>
 (some ((!v9.1),())))))))))).bind λv10 =>
 (cond v10.1
 (some (false,()))
 (cond (decide (a2.2.2.1<0))
 ((kj_ a2.2.2.2.2).bind λv11 =>
 (some (v11.1,())))
 ((at? a0.2.1 a2.2.2.1).bind λv12 =>
 ((at? a0.2.2.1 a2.2.2.1).bind λv13 =>
 ((jr_ v12 a2.2.2.2.2 v13).bind λv14 =>
 (cond (v14.2.1==0)
 (some (v14.1,()))
 (some (false,())))))))))))
theorem x_79:au_ (P:=prog) (cxI (λk=>cond (Nat.beq k 138) (.p .z (.j0 [.v 4 .bool] .z .z)) (cond (Nat.beq k 186) (.p .z (.p (.p .z (.ls [.v 8 .int] [] [] 0 .z)) .z)) (.z))) (λk=>Nat.beq k 81||Nat.beq k 140||Nat.beq k 141||Nat.beq k 142||false) (cxC [c_81,c_140,c_141,c_142] []) 4) (.p .z (.p .z (.p (.j0 [.v 49 .bool] .z .z) (.p .z (.p (.q [] .z .z) .z))))) 79 [am_,.int,ot_] [.bool]=λx=>le_ x.1 x.2.1 x.2.2.1:=by kernel_rfl
noncomputable def c_79:Con prog:=av_ _ _ 79 [am_,.int,ot_] [.bool] _ x_79
noncomputable def fg_ (a0:ad_) (a1:ai_) (a2:(List bc_)):Option (Bool×Int×Unit) :=
 ((bz_ a0 a1).bind λv0 =>
 (cond (v0.1 != 0)
 (some (false,(v0.1,())))
 ((dt_ a0 a2).bind λv1 =>
 (cond (!v1.1)
 (some (false,(25,())))
 ((push? (α:=Int) [] a1.1).bind λv2 =>
 ((push? (α:=Int) [] a1.2.1).bind λv3 =>
 ((push? (α:=Int) [] a1.2.2).bind λv4 =>
 ((ba_ (a0,(v2,(v3,v4))) a2).bind λv5 =>
 (some (v5.1,(0,())))))))))))
theorem x_84:au_ (P:=prog) (cxI (λk=>.z) (λk=>Nat.beq k 86||Nat.beq k 133||Nat.beq k 146||Nat.beq k 147||false) (cxC [c_133,bw7,bw6] [ar6]) 2) .z 84 [ao_,ar_,(.list ca_)] [.bool,.int]=λx=>fg_ x.1 x.2.1 x.2.2.1:=by kernel_rfl
noncomputable def c_84:Con prog:=av_ _ _ 84 [ao_,ar_,(.list ca_)] [.bool,.int] _ x_84
noncomputable def fe_ (a0:ad_) (a1:ai_) (a2:ae_):Option (ai_×Int×Unit) :=
 ((bz_ a0 a1).bind λv0 =>
 (cond (v0.1 != 0)
 (some (([],([],[])),(v0.1,())))
 ((push? (α:=Int) [] a1.1).bind λv1 =>
 ((push? (α:=Int) [] a1.2.1).bind λv2 =>
 ((push? (α:=Int) [] a1.2.2).bind λv3 =>
 ((db_ (a0,(v1,(v2,v3))) a2).bind λv4 =>
 (cond (!v4.1)
 (some (([],([],[])),(29,())))
 (((cond (a2.2.1==1)
 ((at? a0.2.2.2.1 a2.2.2).bind λv5 =>
 ((at? v3 a2.1).bind λv6 =>
 ((at? v3 a2.1).bind λv7 =>
 ((at? v3 a2.1).bind λv8 =>
 ((at? v3 a2.1).bind λv9 =>
 (some (v1,(v2,((v3.set a2.1.toNat (w64 ((w64 (v5.1+v5.2.1)) - v7))),())))))))))
 (cond (a2.2.1==2)
 ((at? v2 a2.2.2).bind λv10 =>
 ((at? v2 a2.2.2).bind λv11 =>
 (some (v1,((v2.set a2.2.2.toNat (w64 ((-2) - a2.1))),(v3,()))))))
 (cond (a2.2.1==3)
 ((at? v3 a2.1).bind λv12 =>
 ((at? v3 a2.1).bind λv13 =>
 ((at? v2 a2.2.2).bind λv14 =>
 ((at? v2 a2.2.2).bind λv15 =>
 (some (v1,((v2.set a2.2.2.toNat v13),(v3,()))))))))
 (cond (a2.2.1==4)
 ((at? a0.2.2.2.2.1 a2.2.2).bind λv16 =>
 ((ag_ (ρ:=((List Int)×Unit)) (λ(v17:(Int×((List Int)×Unit))) =>
 (cond (decide (v17.1<(v16.2.2.2.2.2.2.1.length:Int)))
 ((at? v16.2.2.2.2.2.2.1 v17.1).bind λv18 =>
 ((at? v17.2.1 v18).bind λv19 =>
 ((at? v17.2.1 v18).bind λv20 =>
 (some (inl ((w64 (v17.1+1)),((v17.2.1.set v18.toNat (-1)),())))))))
 (some (inr (v17.2.1,()))))) (0,(v2,()))).bind λv21 =>
 ((ag_ (ρ:=((List Int)×Unit)) (λ(v22:(Int×((List Int)×Unit))) =>
 (cond (decide (v22.1<(v16.2.2.2.2.2.2.2.length:Int)))
 ((at? v16.2.2.2.2.2.2.2 v22.1).bind λv23 =>
 ((at? v22.2.1 v23).bind λv24 =>
 ((at? v22.2.1 v23).bind λv25 =>
 (some (inl ((w64 (v22.1+1)),((v22.2.1.set v23.toNat (w64 ((-2) - a2.1))),())))))))
 (some (inr (v22.2.1,()))))) (0,(v21.1,()))).bind λv26 =>
 ((ag_ (ρ:=((List Int)×Unit)) (λ(v27:(Int×((List Int)×Unit))) =>
 (cond (decide (v27.1<(v16.2.2.2.2.2.1.length:Int)))
 ((at? v16.2.2.2.2.2.1 v27.1).bind λv28 =>
 ((at? v27.2.1 v28.1).bind λv29 =>
 ((at? v27.2.1 v28.1).bind λv30 =>
 (some (inl ((w64 (v27.1+1)),((v27.2.1.set v28.1.toNat v28.2),())))))))
 (some (inr (v27.2.1,()))))) (0,(v1,()))).bind λv31 =>
 (some (v31.1,(v26.1,(v3,()))))))))
 (some (v1,(v2,(v3,()))))))))).bind λv32 =>
 ((((ag_ (ρ:=(((List Int)×Unit)⊕(Bool×((List Int)×Unit)))) (λ(v33:(Int×((List Int)×Unit))) =>
 (cond (decide (v33.1<101))
 ((((ag_ (ρ:=(Unit⊕(Int×Unit))) (λ(v34:(Int×Unit)) =>
 (cond (decide (v34.1<(a0.2.2.2.2.2.1.length:Int)))
 ((at? a0.2.2.2.2.2.1 v34.1).bind λv35 =>
 ((((at? v33.2.1 v35.2.1).bind λv36 =>
 ((at? v33.2.1 v35.2.1).bind λv37 =>
 (cond (v37 != v35.2.2)
 ((ba_ (a0,(v33.2.1,(v32.2.1,v32.2.2.1))) v35.1).bind λv38 =>
 (some (v38.1,())))
 (some (false,())))))).bind λv39 =>
 (cond v39.1
 (some (inr (inr (v34.1,()))))
 (some (inl ((w64 (v34.1+1)),()))))))
 (some (inr (inl ()))))) (0,())).bind λv40 =>
 (ce_ v40 (λv41=>(some ((-1),())))
 (λv42=>(some v42))))).bind λv43 =>
 (cond (decide (v43.1<0))
 (some (inr (inr ((!true),(v33.2.1,())))))
 ((at? a0.2.2.2.2.2.1 v43.1).bind λv44 =>
 ((at? a0.2.2.2.2.2.1 v43.1).bind λv45 =>
 ((at? v33.2.1 v44.2.1).bind λv46 =>
 ((at? v33.2.1 v44.2.1).bind λv47 =>
 (some (inl ((w64 (v33.1+1)),((v33.2.1.set v44.2.1.toNat v45.2.2),()))))))))))
 (some (inr (inl (v33.2.1,())))))) (0,(v32.1,()))).bind λv48 =>
 (ce_ v48 (λv49=>(some ((!false),(v49.1,()))))
 (λv50=>(some v50))))).bind λv51 =>
 (cond v51.1
 (some (([],([],[])),(27,())))
 (some ((v51.2.1,(v32.2.1,v32.2.2.1)),(0,())))))))))))))
theorem x_90:au_ (P:=prog) (cxI (λk=>cond (Nat.beq k 83) (.p .z (.p (.j0 [.v 6 .bool,.o (.c (.s 0) 8) .int] .z .z) .z)) (cond (Nat.beq k 145) (.p .z (.p (.p .z (.ls [.v 4 .int] [] [.o (.c (.s 0) 8) .int] 0 (.p .z (.p .z (.p (.j0 [.v 3 .int] .z .z) .z))))) .z)) (cond (Nat.beq k 149) (.p .z (.p .z (.p .z (.p .z (.p .z (.p .z (.p .z (.p .z (.p .z (.p .z (.p (.p .z (.p (.p .z (.lp [.v 96 .int] [] [.o (.c (.s 0) 9) .int] 1 .z)) (.p (.p .z (.lp [.v 111 .int] [] [.o (.c (.s 0) 9) .int] 3 .z)) (.p .z (.lp [.v 127 .int] [] [.o (.c (.s 0) 8) .int] 5 .z))))) .z))))))))))) (cond (Nat.beq k 190) (.p .z (.p (.p .z (.ls [.v 8 .int] [] [] 0 .z)) .z)) (cond (Nat.beq k 191) (.p .z (.j0 [.v 3 .bool] .z .z)) (.z)))))) (λk=>Nat.beq k 86||Nat.beq k 146||Nat.beq k 147||Nat.beq k 148||false) (cxC [bw7,bw6,c_148] [ar6]) 7) (.p .z (.p .z (.p .z (.p .z (.j0 [.o (.c (.s 9) 8) .int,.o (.c (.s 9) 9) .int,.o (.c (.s 9) 10) .int] .z .z))))) 90 [ao_,ar_,aq_] [ar_,.int]=λx=>fe_ x.1 x.2.1 x.2.2.1:=by kernel_rfl
noncomputable def c_90:Con prog:=av_ _ _ 90 [ao_,ar_,aq_] [ar_,.int] _ x_90
noncomputable def ff_ (a0:ad_) (a1:ai_):Option ((List ae_)×Int×Unit) :=
 ((bz_ a0 a1).bind λv0 =>
 (cond (v0.1 != 0)
 (some ([],(v0.1,())))
 ((push? (α:=Int) [] a1.1).bind λv1 =>
 ((push? (α:=Int) [] a1.2.1).bind λv2 =>
 ((push? (α:=Int) [] a1.2.2).bind λv3 =>
 ((ag_ (ρ:=(Unit×(((List ae_)×Unit)×Unit))) (λ(v4:(Int×(Unit×(((List ae_)×Unit)×Unit)))) =>
 (cond (decide (v4.1<a0.2.2.2.2.2.2.1))
 ((ag_ (ρ:=(Unit×(((List ae_)×Unit)×Unit))) (λ(v5:(Int×(Unit×(((List ae_)×Unit)×Unit)))) =>
 (cond (decide (v5.1<(([0,(a0.2.2.2.1.length:Int),(a0.2.2.1.length:Int),(a0.2.2.1.length:Int),(a0.2.2.2.2.1.length:Int)]).length:Int)))
 ((at? [0,(a0.2.2.2.1.length:Int),(a0.2.2.1.length:Int),(a0.2.2.1.length:Int),(a0.2.2.2.2.1.length:Int)] v5.1).bind λv6 =>
 ((at? [0,(a0.2.2.2.1.length:Int),(a0.2.2.1.length:Int),(a0.2.2.1.length:Int),(a0.2.2.2.2.1.length:Int)] v5.1).bind λv7 =>
 ((ag_ (ρ:=(Unit×(((List ae_)×Unit)×Unit))) (λ(v8:(Int×(Unit×(((List ae_)×Unit)×Unit)))) =>
 (cond (decide (v8.1<v7))
 ((((db_ (a0,(v1,(v2,v3))) (v4.1,(v5.1,v8.1))).bind λv9 =>
 (cond v9.1
 ((push? (α:=ae_) v8.2.2.1.1 [(v4.1,(v5.1,v8.1))]).bind λv10 =>
 (some ((),((v10,()),()))))
 (some ((),((v8.2.2.1.1,()),())))))).bind λv11 =>
 (some (inl ((w64 (v8.1+1)),((),((v11.2.1.1,()),()))))))
 (some (inr ((),((v8.2.2.1.1,()),())))))) (0,((),((v5.2.2.1.1,()),())))).bind λv12 =>
 (some (inl ((w64 (v5.1+1)),((),((v12.2.1.1,()),()))))))))
 (some (inr ((),((v5.2.2.1.1,()),())))))) (0,((),((v4.2.2.1.1,()),())))).bind λv13 =>
 (some (inl ((w64 (v4.1+1)),((),((v13.2.1.1,()),()))))))
 (some (inr ((),((v4.2.2.1.1,()),())))))) (0,((),(([],()),())))).bind λv14 =>
 (some (v14.2.1.1,(0,())))))))))
theorem x_152:au_ (P:=prog) (cxI (λk=>cond (Nat.beq k 226) (.p .z (.lp [.v 9 .int] [] [.y (.s 0),.b (.y (.s 0) 4) [.row aq_ 59]] 0 (.p .z (.p .z (.p (.p .z (.p .z (.lp [.v 26 .int] [] [.y (.s 0),.b (.y (.s 0) 4) [.row aq_ 59]] 2 (.p .z (.p .z (.p (.p .z (.p .z (.lp [.v 32 .int] [] [.y (.s 0),.b (.y (.s 0) 4) [.row aq_ 59]] 4 (.p .z (.p .z (.j0 [.y (.s 0),.b (.y (.s 0) 4) [.row aq_ 59]] .z .z)))))) .z)))))) .z))))) (.z)) (λk=>Nat.beq k 86||Nat.beq k 146||Nat.beq k 148||false) (cxC [bw7,c_148] [ar6]) 6) (.p .z (.p .z (.p .z (.p (.p .z (.rf [4,7] .z .z)) .z)))) 152 [ao_,ar_] [(.list aq_),.int]=λx=>ff_ x.1 x.2.1:=by kernel_rfl
noncomputable def c_152:Con prog:=av_ _ _ 152 [ao_,ar_] [(.list aq_),.int] _ x_152
noncomputable abbrev pt_:Gb:=⟨Gb.ev,λc p=>cond (Nat.beq c 901810192&&eqS p "room.go:184") true (cond (Nat.beq c 197138433&&eqS p "room.go:183") true (cond (Nat.beq c 130027520&&eqS p "room.go:183") true (Gb.fz c p))),Gb.gd,Gb.gl,λc=>cond (Nat.beq c 901810192) (some ez_) (cond (Nat.beq c 197138433) (some ar_) (cond (Nat.beq c 130027520) (some ao_) (none))),Gb.rw⟩
def an_98:An:=.z
def at_98:FuncId→An:=λk=>.z
noncomputable def cs_98:List (@Con pt_ prog _):=[@cvG instGb pt_ prog _ (λ_=>rfl) (λ_=>rfl) bw7,@cvG instGb pt_ prog _ (λ_=>rfl) (λ_=>rfl) bw6,@cpCon pt_ prog _ ar6]
noncomputable def cx_98:@Cx pt_ prog _:=@cxI pt_ prog _ at_98 (λk=>Nat.beq k 86||Nat.beq k 146||Nat.beq k 147||false) (@cxC pt_ prog _ cs_98 []) 2
noncomputable def hw_ (a0:ad_) (a1:ai_):Option (Bool×Int×Unit) :=
 ((bz_ a0 a1).bind λv0 =>
 (cond (v0.1 != 0)
 (some (false,(v0.1,())))
 ((((push? (α:=Int) [] a1.1).bind λv1 =>
 (some (v1,())))).bind λv2 =>
 ((((push? (α:=Int) [] a1.2.1).bind λv3 =>
 (some (v3,())))).bind λv4 =>
 ((((push? (α:=Int) [] a1.2.2).bind λv5 =>
 (some (v5,())))).bind λv6 =>
 ((ba_ (a0,(v2.1,(v4.1,v6.1))) a0.2.2.2.2.2.2.2).bind λv7 =>
 (some (v7.1,(0,())))))))))
theorem x_98:@au_ pt_ prog _ cx_98 an_98 98 [ao_,ar_] [.bool,.int]=λx=>hw_ x.1 x.2.1:=by kernel_rfl
noncomputable def c_98:Con prog:=@cvG pt_ instGb prog _ (λ_=>rfl) (λ_=>rfl) <| @av_ pt_ prog _ _ _ 98 [ao_,ar_] [.bool,.int] _ x_98
end
section
set_option maxRecDepth 100000
set_option maxHeartbeats 0
noncomputable def jm_ (a0:ad_):Option (ai_×Int×Unit) :=
 ((fr_ a0).bind λv0 =>
 (cond (v0.1 != 0)
 (some (([],([],[])),(v0.1,())))
 ((mk? (α:=Int) a0.2.2.2.2.2.2.1 0).bind λv1 =>
 ((ag_ (ρ:=(((List Int)×Unit)×Unit)) (λ(v2:(Int×(((List Int)×Unit)×Unit))) =>
 (cond (decide (v2.1<(a0.2.1.length:Int)))
 ((at? a0.2.1 v2.1).bind λv3 =>
 ((push? (α:=Int) v2.2.1.1 [v3.2.2.2]).bind λv4 =>
 (some (inl ((w64 (v2.1+1)),((v4,()),()))))))
 (some (inr ((v2.2.1.1,()),()))))) (0,(([],()),()))).bind λv5 =>
 ((ag_ (ρ:=(((List Int)×Unit)×Unit)) (λ(v6:(Int×(((List Int)×Unit)×Unit))) =>
 (cond (decide (v6.1<(a0.2.2.1.length:Int)))
 ((at? a0.2.2.1 v6.1).bind λv7 =>
 ((push? (α:=Int) v6.2.1.1 [v7.2.1]).bind λv8 =>
 (some (inl ((w64 (v6.1+1)),((v8,()),()))))))
 (some (inr ((v6.2.1.1,()),()))))) (0,(([],()),()))).bind λv9 =>
 ((ib_ a0 (v5.1.1,(v9.1.1,v1))).bind λv10 =>
 (some (v10.1,(v10.2.1,())))))))))
theorem x_100:au_ (P:=prog) (cxC [c_64,c_156] []) (.p .z (.p .z (.p .z (.p .z (.p (.p .z (.lp [.v 6 .int] [] [.b (.s 5) [.row .int 3,.keep,.keep]] 0 .z)) (.p (.p .z (.lp [.v 7 .int] [] [.b (.s 5) [.keep,.row .int 3,.keep]] 2 .z)) .z)))))) 100 [ao_] [ar_,.int]=λx=>jm_ x.1:=by kernel_rfl
noncomputable def c_100:Con prog:=av_ _ _ 100 [ao_] [ar_,.int] _ x_100
noncomputable def la_ (a0:ab_) (a1:aa_) (a2:Int):Option (Bool×Unit) :=
 ((hg_ a0 a1 a2).bind λv0 =>
 ((ix_ a0 a2 v0.1).bind λv1 =>
 (some ((decide (v1.1≤a0.2.2.2.2)),()))))
theorem x_158:au_ (P:=prog) (cxC [c_203,c_204] []) (.p .z (.p (.q [] .z .z) .z)) 158 [am_,aj_,.int] [.bool]=λx=>la_ x.1 x.2.1 x.2.2.1:=by kernel_rfl
noncomputable def c_158:Con prog:=av_ _ _ 158 [am_,aj_,.int] [.bool] _ x_158
noncomputable def gx_ (a0:ab_):Option (Int×Unit) :=
 ((fh_ a0.1).bind λv0 =>
 (cond (v0.1 != 0)
 (some (v0.1,()))
 (((cond (decide (8<(a0.2.1.length:Int)))
 (some (true,()))
 (some ((decide (16<(a0.2.2.2.1.length:Int))),())))).bind λv1 =>
 (cond v1.1
 (some (2,()))
 ((ag_ (ρ:=(Unit⊕(Int×Unit))) (λ(v2:(Int×Unit)) =>
 (cond (decide (v2.1<(a0.2.1.length:Int)))
 ((at? a0.2.1 v2.1).bind λv3 =>
 ((eg_ v3).bind λv4 =>
 (cond (v4.1 != 0)
 (some (inr (inr (v4.1,()))))
 (some (inl ((w64 (v2.1+1)),()))))))
 (some (inr (inl ()))))) (0,())).bind λv5 =>
 (ce_ v5 (λv6=>(cond ((a0.2.2.1.length:Int) != (a0.2.1.length:Int))
 (some (12,()))
 ((ag_ (ρ:=(Unit⊕(Int×Unit))) (λ(v8:(Int×Unit)) =>
 (cond (decide (v8.1<(a0.2.1.length:Int)))
 ((at? a0.2.1 v8.1).bind λv9 =>
 ((at? a0.2.2.1 v8.1).bind λv10 =>
 ((ea_ v9 v10).bind λv11 =>
 (cond (v11.1 != 0)
 (some (inr (inr (12,()))))
 (some (inl ((w64 (v8.1+1)),())))))))
 (some (inr (inl ()))))) (0,())).bind λv12 =>
 (ce_ v12 (λv13=>((ag_ (ρ:=(Unit⊕(Int×Unit))) (λ(v15:(Int×Unit)) =>
 (cond (decide (v15.1<(a0.1.2.2.2.2.1.length:Int)))
 ((at? a0.1.2.2.2.2.1 v15.1).bind λv16 =>
 (cond (decide ((a0.2.1.length:Int)≤v16.2.2.1))
 (some (inr (inr (26,()))))
 (some (inl ((w64 (v15.1+1)),())))))
 (some (inr (inl ()))))) (0,())).bind λv17 =>
 (ce_ v17 (λv18=>((ag_ (ρ:=(Unit⊕(Int×Unit))) (λ(v20:(Int×Unit)) =>
 (cond (decide (v20.1<(a0.2.2.2.1.length:Int)))
 ((at? a0.2.2.2.1 v20.1).bind λv21 =>
 ((le_ a0 v20.1 v21).bind λv22 =>
 (cond (!v22.1)
 (some (inr (inr (40,()))))
 ((ld_ a0.1 v21.2.2.2.1).bind λv23 =>
 (cond (!v23.1)
 (some (inr (inr (25,()))))
 (some (inl ((w64 (v20.1+1)),()))))))))
 (some (inr (inl ()))))) (0,())).bind λv24 =>
 (ce_ v24 (λv25=>((bs_ a0.2.2.2.2 1 100).bind λv27 =>
 (cond (!v27.1)
 (some (1,()))
 (some (0,())))))
 (λv26=>(some v26)))))
 (λv19=>(some v19)))))
 (λv14=>(some v14))))))
 (λv7=>(some v7))))))))
theorem x_39:au_ (P:=prog) (cxC [c_76,c_77,c_78,c_79,c_80,c_81] []) (.p .z (.p .z (.p (.j0 [.v 28 .bool] .z .z) (.p (.p .z (.ls [.v 32 .int] [] [] 0 .z)) (.p .z (.p (.p .z (.ls [.v 52 .int] [] [] 2 .z)) (.p (.p .z (.ls [.v 70 .int] [] [] 4 .z)) (.p (.p .z (.ls [.v 84 .int] [] [] 6 .z)) .z)))))))) 39 [am_] [.int]=λx=>gx_ x.1:=by kernel_rfl
noncomputable def c_39:Con prog:=av_ _ _ 39 [am_] [.int] _ x_39
end
section
set_option maxRecDepth 100000
set_option maxHeartbeats 0
noncomputable def jk_ (a0:ab_):Option (aa_×Int×Unit) :=
 ((hh_ a0).bind λv0 =>
 (cond (v0.1 != 0)
 (some ((([],([],[])),[]),(v0.1,())))
 ((jm_ a0.1).bind λv1 =>
 (cond (v1.2.1 != 0)
 (some ((([],([],[])),[]),(v1.2.1,())))
 ((mk? (α:=Bool) (a0.2.2.2.1.length:Int) false).bind λv2 =>
 ((il_ a0 (v1.1,v2)).bind λv3 =>
 (some (v3.1,(0,())))))))))
theorem x_52:au_ (P:=prog) (cxC [c_31,c_100,c_101] []) .z 52 [am_] [aj_,.int]=λx=>jk_ x.1:=by kernel_rfl
noncomputable def c_52:Con prog:=av_ _ _ 52 [am_] [aj_,.int] _ x_52
noncomputable def gl_ (a0:ab_) (a1:aa_) (a2:ae_):Option (Bool×Unit) :=
 ((gh_ a0.1 a1.1 a2).bind λv0 =>
 (cond (!v0.2.1)
 (some (false,()))
 (cond (a2.2.1 != 4)
 (some (true,()))
 ((at? a0.1.2.2.2.2.1 a2.2.2).bind λv1 =>
 (cond (decide (v1.2.2.1<0))
 (some (true,()))
 ((at? a0.1.2.2.2.2.1 a2.2.2).bind λv2 =>
 ((la_ a0 a1 v2.2.2.1).bind λv3 =>
 (some (v3.1,())))))))))
theorem x_104:au_ (P:=prog) (cxC [c_105,c_158] []) (.p .z (.p .z (.p .z (.p (.q [] .z .z) .z)))) 104 [am_,aj_,aq_] [.bool]=λx=>gl_ x.1 x.2.1 x.2.2.1:=by kernel_rfl
noncomputable def c_104:Con prog:=av_ _ _ 104 [am_,aj_,aq_] [.bool] _ x_104
noncomputable def lf_ (a0:ab_):Option (aa_×Int×Unit) :=
 ((gx_ a0).bind λv0 =>
 (cond (v0.1 != 0)
 (some ((([],([],[])),[]),(v0.1,())))
 ((ii_ a0.1).bind λv1 =>
 (cond (v1.2.1 != 0)
 (some ((([],([],[])),[]),(v1.2.1,())))
 ((mk? (α:=Bool) (a0.2.2.2.1.length:Int) false).bind λv2 =>
 ((ag_ (ρ:=((List Bool)×((List ac_)×Unit))) (λ(v3:(Int×((List Bool)×((List ac_)×Unit)))) =>
 (cond (decide (v3.1<(a0.2.2.2.1.length:Int)))
 ((((at? a0.2.2.2.1 v3.1).bind λv4 =>
 ((fg_ a0.1 v1.1 v4.2.2.2.1).bind λv5 =>
 (((cond v5.1
 ((bi_ v1.1.2.2 v4.2.1).bind λv6 =>
 (cond v6.1
 ((at? v3.2.1 v3.1).bind λv7 =>
 ((at? v3.2.1 v3.1).bind λv8 =>
 (some ((!v8),()))))
 (some (false,()))))
 (some (false,())))).bind λv9 =>
 (cond v9.1
 ((at? v3.2.1 v3.1).bind λv10 =>
 ((at? v3.2.1 v3.1).bind λv11 =>
 (some ((v3.2.1.set v3.1.toNat true),((bf0 v3.2.2.1 v4.2.2.1),())))))
 (some (v3.2.1,(v3.2.2.1,())))))))).bind λv12 =>
 (some (inl ((w64 (v3.1+1)),(v12.1,(v12.2.1,()))))))
 (some (inr (v3.2.1,(v3.2.2.1,())))))) (0,(v2,([],())))).bind λv13 =>
 ((push? (α:=Int) [] v1.1.1).bind λv14 =>
 ((push? (α:=Int) [] v1.1.2.1).bind λv15 =>
 ((push? (α:=Int) [] v1.1.2.2).bind λv16 =>
 ((push? (α:=Bool) [] v13.1).bind λv17 =>
 (some (((v14,(v15,v16)),v17),(0,())))))))))))))
theorem x_13:au_ (P:=prog) (cxI (λk=>cond (Nat.beq k 41) (.p .z (.lp [.v 12 .int] [] [.o (.c (.s 0) 15) .bool,.m (.c (.s 0) 16) .int .int] 0 (.p .z (.p .z (.j0 [.o (.c (.s 0) 15) .bool,.m (.c (.s 0) 16) .int .int] (.p .z (.p .z (.j0 [.v 55 .bool] .z .z))) .z))))) (.z)) (λk=>Nat.beq k 39||Nat.beq k 40||Nat.beq k 84||Nat.beq k 85||Nat.beq k 86||Nat.beq k 87||false) (cxC [c_39,c_40,c_84,c_85] [ar6,ci7]) 3) .z 13 [am_] [aj_,.int]=λx=>lf_ x.1:=by kernel_rfl
noncomputable def c_13:Con prog:=av_ _ _ 13 [am_] [aj_,.int] _ x_13
noncomputable def cy_ (a0:ab_) (a1:aa_):Option (Int×Unit) :=
 ((gx_ a0).bind λv0 =>
 (cond (v0.1 != 0)
 (some (v0.1,()))
 ((bz_ a0.1 a1.1).bind λv1 =>
 (cond (v1.1 != 0)
 (some (v1.1,()))
 (cond ((a1.2.length:Int) != (a0.2.2.2.1.length:Int))
 (some (28,()))
 (some (0,())))))))
theorem x_88:au_ (P:=prog) (cxC [c_39,bw7] []) .z 88 [am_,aj_] [.int]=λx=>cy_ x.1 x.2.1:=by kernel_rfl
noncomputable def c_88:Con prog:=av_ _ _ 88 [am_,aj_] [.int] _ x_88
end
section
set_option maxRecDepth 100000
set_option maxHeartbeats 0
noncomputable def jj_ (a0:ab_) (a1:aa_):Option ((List ae_)×Unit) :=
 ((es_ a0.1 a1.1).bind λv0 =>
 ((ag_ (ρ:=((List ae_)×Unit)) (λ(v1:((List ae_)×(Int×Unit))) =>
 (cond (decide (v1.2.1<(v0.1.length:Int)))
 ((((at? v0.1 v1.2.1).bind λv2 =>
 ((gl_ a0 a1 v2).bind λv3 =>
 (cond v3.1
 ((at? v0.1 v1.2.1).bind λv4 =>
 ((push? (α:=ae_) v1.1 [v4]).bind λv5 =>
 (some (v5,()))))
 (some (v1.1,())))))).bind λv6 =>
 (some (inl (v6.1,((w64 (v1.2.1+1)),())))))
 (some (inr (v1.1,()))))) ([],(0,()))).bind λv7 =>
 (some (v7.1,()))))
theorem x_54:au_ (P:=prog) (cxC [c_103,c_104] []) (.p .z (.p .z (.p .z (.p (.p .z (.lp [.r 5 aq_ 59,.v 7 .int] [.r 5 aq_ 59] [] 0 (.p .z (.j0 [.r 5 aq_ 59] (.p (.q [] .z .z) .z) .z)))) .z)))) 54 [am_,aj_] [(.list aq_)]=λx=>jj_ x.1 x.2.1:=by kernel_rfl
noncomputable def c_54:Con prog:=av_ _ _ 54 [am_,aj_] [(.list aq_)] _ x_54
noncomputable def kk_ (a0:ab_) (a1:aa_) (a2:ae_):Option (aa_×Int×Unit) :=
 ((cy_ a0 a1).bind λv0 =>
 (cond (v0.1 != 0)
 (cond (v0.1 != 0)
 (some ((([],([],[])),[]),(v0.1,())))
 none)
 ((push? (α:=Bool) [] a1.2).bind λv1 =>
 (((((cond (a2.2.1==4)
 ((bs_ a2.2.2 0 (w64 ((a0.1.2.2.2.2.1.length:Int) - 1))).bind λv2 =>
 (cond v2.1
 ((at? a0.1.2.2.2.2.1 a2.2.2).bind λv3 =>
 (cond (decide (v3.2.2.1<0))
 (some ((!true),([],())))
 ((((ag_ (ρ:=((List Int)×((List ak_)×Unit))) (λ(v4:((List Int)×((List ak_)×(Int×Unit)))) =>
 (cond (decide (v4.2.2.1<(a0.2.2.2.1.length:Int)))
 ((((at? a0.2.2.2.1 v4.2.2.1).bind λv5 =>
 (((cond (v5.2.2.1==v3.2.2.1)
 ((at? v1 v4.2.2.1).bind λv6 =>
 ((at? v1 v4.2.2.1).bind λv7 =>
 (some (v7,()))))
 (some (false,())))).bind λv8 =>
 (cond v8.1
 ((push? (α:=Int) v4.1 [v4.2.2.1]).bind λv9 =>
 ((push? (α:=ak_) v4.2.1 [v5.2.2.2.2]).bind λv10 =>
 (some (v9,(v10,())))))
 (some (v4.1,(v4.2.1,()))))))).bind λv11 =>
 (some (inl (v11.1,(v11.2.1,((w64 (v4.2.2.1+1)),()))))))
 (some (inr (v4.1,(v4.2.1,())))))) ([],([],(0,())))).bind λv12 =>
 ((at? a0.2.1 v3.2.2.1).bind λv13 =>
 ((cj_ v13 v12.2.1).bind λv14 =>
 (((cond (v14.2.1==0)
 (some ((decide (v14.1≤a0.2.2.2.2)),()))
 (some (false,())))).bind λv15 =>
 (cond v15.1
 (some ((ir_ (ir_ [] v3.2.2.1 2) v3.2.2.1 1),()))
 (some ((ir_ [] v3.2.2.1 2),())))))))).bind λv16 =>
 (some ((!((ej_ 0 v16.1 v3.2.2.1)==1)),(v16.1,()))))))
 (some (false,([],())))))
 (some (false,([],()))))).bind λv17 =>
 (cond v17.1
 (some ((!false),(v1,(v17.2.1,((a1.1.1,(a1.1.2.1,(a1.1.2.2,()))),())))))
 ((fe_ a0.1 a1.1 a2).bind λv18 =>
 (cond (v18.2.1 != 0)
 (some ((!false),(v1,(v17.2.1,((a1.1.1,(a1.1.2.1,(a1.1.2.2,()))),())))))
 ((ag_ (ρ:=((List Bool)×((List ac_)×Unit))) (λ(v19:(Int×((List Bool)×((List ac_)×Unit)))) =>
 (cond (decide (v19.1<(a0.2.2.2.1.length:Int)))
 ((((at? a0.2.2.2.1 v19.1).bind λv20 =>
 ((fg_ a0.1 v18.1 v20.2.2.2.1).bind λv21 =>
 (((cond v21.1
 ((bi_ v18.1.2.2 v20.2.1).bind λv22 =>
 (cond v22.1
 ((at? v19.2.1 v19.1).bind λv23 =>
 ((at? v19.2.1 v19.1).bind λv24 =>
 (some ((!v24),()))))
 (some (false,()))))
 (some (false,())))).bind λv25 =>
 (cond v25.1
 ((at? v19.2.1 v19.1).bind λv26 =>
 ((at? v19.2.1 v19.1).bind λv27 =>
 (some ((v19.2.1.set v19.1.toNat true),((bf0 v19.2.2.1 v20.2.2.1),())))))
 (some (v19.2.1,(v19.2.2.1,())))))))).bind λv28 =>
 (some (inl ((w64 (v19.1+1)),(v28.1,(v28.2.1,()))))))
 (some (inr (v19.2.1,(v19.2.2.1,())))))) (0,(v1,(v17.2.1,())))).bind λv29 =>
 (some ((!true),(v29.1,(v29.2.1,((v18.1.1,(v18.1.2.1,(v18.1.2.2,()))),()))))))))))).bind λv30 =>
 (cond v30.1
 (some ((([],([],[])),[]),(29,())))
 ((push? (α:=Int) [] v30.2.2.2.1.1).bind λv31 =>
 ((push? (α:=Int) [] v30.2.2.2.1.2.1).bind λv32 =>
 ((push? (α:=Int) [] v30.2.2.2.1.2.2.1).bind λv33 =>
 ((push? (α:=Bool) [] v30.2.1).bind λv34 =>
 (some (((v31,(v32,v33)),v34),(0,()))))))))))))
theorem x_17:au_ (P:=prog) (cxI (λk=>cond (Nat.beq k 41) (.p .z (.lp [.v 12 .int] [] [.o (.c (.s 0) 15) .bool,.m (.c (.s 0) 16) .int .int] 0 (.p .z (.p .z (.j0 [.o (.c (.s 0) 15) .bool,.m (.c (.s 0) 16) .int .int] (.p .z (.p .z (.j0 [.v 55 .bool] .z .z))) .z))))) (cond (Nat.beq k 44) (.p .z (.p (.j0 [.v 38 .bool,.m (.c (.s 0) 16) .int .int] .z .z) .z)) (cond (Nat.beq k 89) (.p .z (.p .z (.j0 [.m (.c (.s 0) 16) .int .int] (.p .z (.p (.p .z (.p .z (.j0 [.v 37 .bool] .z .z))) .z)) .z))) (cond (Nat.beq k 162) (.p .z (.p (.p .z (.lp [.r 6 .int 3,.r 7 ap_ 94,.v 13 .int] [.r 6 .int 3,.r 7 ap_ 94] [] 0 (.p .z (.p .z (.j0 [.r 6 .int 3,.r 7 ap_ 94] (.p .z (.j0 [.v 26 .bool] .z .z)) .z))))) .z)) (.z))))) (λk=>Nat.beq k 81||Nat.beq k 84||Nat.beq k 85||Nat.beq k 86||Nat.beq k 87||Nat.beq k 88||Nat.beq k 90||Nat.beq k 164||false) (cxC [c_81,c_84,c_85,c_88,c_90,c_164] [ar6,ci7]) 9) (.p .z (.p .z (.p .z (.p (.j0 [.v 23 .bool,.o (.c (.s 8) 15) .bool,.m (.c (.s 8) 16) .int .int,.b (.s 8) [.keep,.keep,.keep,.keep,.keep,.keep,.keep,.keep,.keep,.keep,.keep,.keep,.val (.list .int),.val (.list .int),.val (.list .int),.keep,.keep]] .z .z) .z)))) 17 [am_,aj_,aq_] [aj_,.int]=λx=>kk_ x.1 x.2.1 x.2.2.1:=by kernel_rfl
noncomputable def c_17:Con prog:=av_ _ _ 17 [am_,aj_,aq_] [aj_,.int] _ x_17
noncomputable def ph_ (a0:ab_) (a1:aa_):Option ((List ae_)×Int×Unit) :=
 ((cy_ a0 a1).bind λv0 =>
 (cond (v0.1 != 0)
 (cond (v0.1 != 0)
 (some ([],(v0.1,())))
 ((ff_ a0.1 a1.1).bind λv1 =>
 (cond (v1.2.1 != 0)
 (some ([],(v1.2.1,())))
 none)))
 ((push? (α:=Bool) [] a1.2).bind λv2 =>
 ((ff_ a0.1 a1.1).bind λv3 =>
 (cond (v3.2.1 != 0)
 (some ([],(v3.2.1,())))
 ((ag_ (ρ:=((List ae_)×((List ac_)×Unit))) (λ(v4:((List ae_)×(Int×((List ac_)×Unit)))) =>
 (cond (decide (v4.2.1<(v3.1.length:Int)))
 ((((at? v3.1 v4.2.1).bind λv5 =>
 ((((push? (α:=Bool) [] v2).bind λv6 =>
 (((((cond (v5.2.1==4)
 ((bs_ v5.2.2 0 (w64 ((a0.1.2.2.2.2.1.length:Int) - 1))).bind λv7 =>
 (some (v7.1,())))
 (some (false,())))).bind λv8 =>
 (cond v8.1
 ((at? a0.1.2.2.2.2.1 v5.2.2).bind λv9 =>
 (((cond (decide (v9.2.2.1<0))
 (some (v4.2.2.1,()))
 (((cond ((ej_ 0 v4.2.2.1 v9.2.2.1)==0)
 ((ag_ (ρ:=((List Int)×((List ak_)×Unit))) (λ(v10:((List Int)×((List ak_)×(Int×Unit)))) =>
 (cond (decide (v10.2.2.1<(a0.2.2.2.1.length:Int)))
 ((((at? a0.2.2.2.1 v10.2.2.1).bind λv11 =>
 (((cond (v11.2.2.1==v9.2.2.1)
 ((at? v2 v10.2.2.1).bind λv12 =>
 ((at? v2 v10.2.2.1).bind λv13 =>
 (some (v13,()))))
 (some (false,())))).bind λv14 =>
 (cond v14.1
 ((push? (α:=Int) v10.1 [v10.2.2.1]).bind λv15 =>
 ((push? (α:=ak_) v10.2.1 [v11.2.2.2.2]).bind λv16 =>
 (some (v15,(v16,())))))
 (some (v10.1,(v10.2.1,()))))))).bind λv17 =>
 (some (inl (v17.1,(v17.2.1,((w64 (v10.2.2.1+1)),()))))))
 (some (inr (v10.1,(v10.2.1,())))))) ([],([],(0,())))).bind λv18 =>
 ((at? a0.2.1 v9.2.2.1).bind λv19 =>
 ((cj_ v19 v18.2.1).bind λv20 =>
 (((cond (v20.2.1==0)
 (some ((decide (v20.1≤a0.2.2.2.2)),()))
 (some (false,())))).bind λv21 =>
 (cond v21.1
 (some ((ir_ (ir_ v4.2.2.1 v9.2.2.1 2) v9.2.2.1 1),()))
 (some ((ir_ v4.2.2.1 v9.2.2.1 2),())))))))
 (some (v4.2.2.1,())))).bind λv22 =>
 (some (v22.1,()))))).bind λv23 =>
 (some (v23.1,((ir_ [] v9.2.2.1 (ej_ 0 v23.1 v9.2.2.1)),())))))
 (some (v4.2.2.1,([],())))))).bind λv24 =>
 (((((cond (v5.2.1==4)
 ((bs_ v5.2.2 0 (w64 ((a0.1.2.2.2.2.1.length:Int) - 1))).bind λv25 =>
 (cond v25.1
 ((at? a0.1.2.2.2.2.1 v5.2.2).bind λv26 =>
 (cond (decide (v26.2.2.1<0))
 (some ((!true),(v24.2.1,())))
 (((cond ((ej_ 0 v24.2.1 v26.2.2.1)==0)
 ((ag_ (ρ:=((List Int)×((List ak_)×Unit))) (λ(v27:((List Int)×((List ak_)×(Int×Unit)))) =>
 (cond (decide (v27.2.2.1<(a0.2.2.2.1.length:Int)))
 ((((at? a0.2.2.2.1 v27.2.2.1).bind λv28 =>
 (((cond (v28.2.2.1==v26.2.2.1)
 ((at? v6 v27.2.2.1).bind λv29 =>
 ((at? v6 v27.2.2.1).bind λv30 =>
 (some (v30,()))))
 (some (false,())))).bind λv31 =>
 (cond v31.1
 ((push? (α:=Int) v27.1 [v27.2.2.1]).bind λv32 =>
 ((push? (α:=ak_) v27.2.1 [v28.2.2.2.2]).bind λv33 =>
 (some (v32,(v33,())))))
 (some (v27.1,(v27.2.1,()))))))).bind λv34 =>
 (some (inl (v34.1,(v34.2.1,((w64 (v27.2.2.1+1)),()))))))
 (some (inr (v27.1,(v27.2.1,())))))) ([],([],(0,())))).bind λv35 =>
 ((at? a0.2.1 v26.2.2.1).bind λv36 =>
 ((cj_ v36 v35.2.1).bind λv37 =>
 (((cond (v37.2.1==0)
 (some ((decide (v37.1≤a0.2.2.2.2)),()))
 (some (false,())))).bind λv38 =>
 (cond v38.1
 (some ((ir_ (ir_ v24.2.1 v26.2.2.1 2) v26.2.2.1 1),()))
 (some ((ir_ v24.2.1 v26.2.2.1 2),())))))))
 (some (v24.2.1,())))).bind λv39 =>
 (some ((!((ej_ 0 v39.1 v26.2.2.1)==1)),(v39.1,()))))))
 (some (false,(v24.2.1,())))))
 (some (false,(v24.2.1,()))))).bind λv40 =>
 (cond v40.1
 (some ((!false),(v6,(v40.2.1,((a1.1.1,(a1.1.2.1,(a1.1.2.2,()))),())))))
 ((fe_ a0.1 a1.1 v5).bind λv41 =>
 (cond (v41.2.1 != 0)
 (some ((!false),(v6,(v40.2.1,((a1.1.1,(a1.1.2.1,(a1.1.2.2,()))),())))))
 ((ag_ (ρ:=((List Bool)×((List ac_)×Unit))) (λ(v42:(Int×((List Bool)×((List ac_)×Unit)))) =>
 (cond (decide (v42.1<(a0.2.2.2.1.length:Int)))
 ((((at? a0.2.2.2.1 v42.1).bind λv43 =>
 ((fg_ a0.1 v41.1 v43.2.2.2.1).bind λv44 =>
 (((cond v44.1
 ((bi_ v41.1.2.2 v43.2.1).bind λv45 =>
 (cond v45.1
 ((at? v42.2.1 v42.1).bind λv46 =>
 ((at? v42.2.1 v42.1).bind λv47 =>
 (some ((!v47),()))))
 (some (false,()))))
 (some (false,())))).bind λv48 =>
 (cond v48.1
 ((at? v42.2.1 v42.1).bind λv49 =>
 ((at? v42.2.1 v42.1).bind λv50 =>
 (some ((v42.2.1.set v42.1.toNat true),((bf0 v42.2.2.1 v43.2.2.1),())))))
 (some (v42.2.1,(v42.2.2.1,())))))))).bind λv51 =>
 (some (inl ((w64 (v42.1+1)),(v51.1,(v51.2.1,()))))))
 (some (inr (v42.2.1,(v42.2.2.1,())))))) (0,(v6,(v40.2.1,())))).bind λv52 =>
 (some ((!true),(v52.1,(v52.2.1,((v41.1.1,(v41.1.2.1,(v41.1.2.2,()))),()))))))))))).bind λv53 =>
 (cond v53.1
 (some (false,(v24.1,())))
 (some (true,(v24.1,())))))))).bind λv54 =>
 (cond v54.1
 ((push? (α:=ae_) v4.1 [v5]).bind λv55 =>
 (some (v55,(v54.2.1,()))))
 (some (v4.1,(v54.2.1,()))))))).bind λv56 =>
 (some (inl (v56.1,((w64 (v4.2.1+1)),(v56.2.1,()))))))
 (some (inr (v4.1,(v4.2.2.1,())))))) ([],(0,([],())))).bind λv57 =>
 (some (v57.1,(0,())))))))))
theorem x_94:au_ (P:=prog) (cxI (λk=>cond (Nat.beq k 41) (.p .z (.lp [.v 12 .int] [] [.o (.c (.s 0) 15) .bool,.m (.c (.s 0) 16) .int .int] 0 (.p .z (.p .z (.j0 [.o (.c (.s 0) 15) .bool,.m (.c (.s 0) 16) .int .int] (.p .z (.p .z (.j0 [.v 55 .bool] .z .z))) .z))))) (cond (Nat.beq k 44) (.p .z (.p (.j0 [.v 38 .bool,.m (.c (.s 0) 16) .int .int] .z .z) .z)) (cond (Nat.beq k 89) (.p .z (.p .z (.j0 [.m (.c (.s 0) 16) .int .int] (.p .z (.p (.p .z (.p .z (.j0 [.v 37 .bool] .z .z))) .z)) .z))) (cond (Nat.beq k 153) (.p .z (.p .z (.j0 [.m (.c (.s 0) 16) .int .int,.m (.s 23) .int .int] (.j0 [.v 41 .bool] .z (.p (.p .z (.j0 [.m (.c (.s 0) 16) .int .int] .z .z)) .z)) (.p (.j0 [.v 70 .bool,.o (.s 21) .bool,.m (.s 23) .int .int,.b (.s 5) [.keep,.keep,.keep,.keep,.keep,.keep,.keep,.keep,.keep,.keep,.keep,.keep,.val (.list .int),.val (.list .int),.val (.list .int),.keep,.keep]] .z .z) .z)))) (cond (Nat.beq k 162) (.p .z (.p (.p .z (.lp [.r 6 .int 3,.r 7 ap_ 94,.v 13 .int] [.r 6 .int 3,.r 7 ap_ 94] [] 0 (.p .z (.p .z (.j0 [.r 6 .int 3,.r 7 ap_ 94] (.p .z (.j0 [.v 26 .bool] .z .z)) .z))))) .z)) (.z)))))) (λk=>Nat.beq k 81||Nat.beq k 84||Nat.beq k 85||Nat.beq k 87||Nat.beq k 88||Nat.beq k 90||Nat.beq k 152||Nat.beq k 164||false) (cxC [c_81,c_84,c_85,c_88,c_90,c_152,c_164] [ci7]) 9) (.p .z (.p .z (.p .z (.p .z (.p .z (.p (.p .z (.lp [.r 4 aq_ 59,.v 32 .int] [.r 4 aq_ 59] [.m (.c (.s 6) 16) .int .int] 0 (.p .z (.p .z (.j0 [.r 4 aq_ 59,.m (.c (.s 6) 16) .int .int] (.p .z (.j0 [.v 39 .bool,.m (.c (.s 6) 16) .int .int] .z .z)) .z))))) .z)))))) 94 [am_,aj_] [(.list aq_),.int]=λx=>ph_ x.1 x.2.1:=by kernel_rfl
noncomputable def c_94:Con prog:=av_ _ _ 94 [am_,aj_] [(.list aq_),.int] _ x_94
noncomputable def ek_ (a0:ab_) (a1:aa_) (a2:Int):Option (Int×Unit) :=
 ((cy_ a0 a1).bind λv0 =>
 (cond (v0.1 != 0)
 (some (v0.1,()))
 ((ln_ a0 a2).bind λv1 =>
 (some (v1.1,())))))
theorem x_107:au_ (P:=prog) (cxC [c_88,c_161] []) .z 107 [am_,aj_,.int] [.int]=λx=>ek_ x.1 x.2.1 x.2.2.1:=by kernel_rfl
noncomputable def c_107:Con prog:=av_ _ _ 107 [am_,aj_,.int] [.int] _ x_107
end
section
set_option maxRecDepth 100000
set_option maxHeartbeats 0
noncomputable def cx_ (a0:ab_):Option (bw_×Int×Unit) :=
 ((jk_ a0).bind λv0 =>
 (cond (v0.2.1 != 0)
 (some (([],[]),(v0.2.1,())))
 ((hx_ v0.1).bind λv1 =>
 ((ag_ (ρ:=(((List ((List UInt8)×Int))×(((List aa_)×((List (List af_))×Unit))×(((List aa_)×((List (List af_))×Unit))×Unit)))⊕(bw_×(Int×Unit)))) (λ(v2:(Int×((List ((List UInt8)×Int))×(((List aa_)×((List (List af_))×Unit))×(((List aa_)×((List (List af_))×Unit))×Unit))))) =>
 (cond (decide (v2.1<(v2.2.2.2.1.1.length:Int)))
 ((at? v2.2.2.2.1.1 v2.1).bind λv3 =>
 ((at? v2.2.2.2.1.1 v2.1).bind λv4 =>
 ((jj_ a0 v4).bind λv5 =>
 ((ag_ (ρ:=(((List af_)×((List ((List UInt8)×Int))×(((List aa_)×((List (List af_))×Unit))×(((List aa_)×Unit)×Unit))))⊕((Int×((List ((List UInt8)×Int))×(((List aa_)×((List (List af_))×Unit))×(((List aa_)×((List (List af_))×Unit))×Unit))))⊕(((List ((List UInt8)×Int))×(((List aa_)×((List (List af_))×Unit))×(((List aa_)×((List (List af_))×Unit))×Unit)))⊕(bw_×(Int×Unit)))))) (λ(v6:((List af_)×(Int×((List ((List UInt8)×Int))×(((List aa_)×((List (List af_))×Unit))×(((List aa_)×Unit)×Unit)))))) =>
 (cond (decide (v6.2.1<(v5.1.length:Int)))
 ((at? v6.2.2.2.2.1.1 v2.1).bind λv7 =>
 ((at? v6.2.2.2.2.1.1 v2.1).bind λv8 =>
 ((at? v5.1 v6.2.1).bind λv9 =>
 ((lb_ a0 v8 v9).bind λv10 =>
 ((hx_ v10.1).bind λv11 =>
 (((cond (!(aw7 v6.2.2.1 v11.1))
 (cond ((v6.2.2.2.2.1.1.length:Int)==3000)
 (some (inr (inr (inr (inr (inr (([],[]),(2,()))))))))
 ((hx_ v10.1).bind λv12 =>
 ((push? (α:=aa_) v6.2.2.2.2.1.1 [v10.1]).bind λv13 =>
 (some (inl ((v6.2.2.2.2.1.1.length:Int),((ir_ v6.2.2.1 v12.1 (v6.2.2.2.2.1.1.length:Int)),((v6.2.2.2.1.1,(v6.2.2.2.1.2.1,())),((v13,()),())))))))))
 (some (inl ((ej_ 0 v6.2.2.1 v11.1),(v6.2.2.1,((v6.2.2.2.1.1,(v6.2.2.2.1.2.1,())),((v6.2.2.2.2.1.1,()),())))))))).bind λv14 =>
 (ce_ v14 (λv15=>((at? v5.1 v6.2.1).bind λv17 =>
 ((push? (α:=af_) v6.1 [(v17,v15.1)]).bind λv18 =>
 (some (inl (v18,((w64 (v6.2.1+1)),(v15.2.1,((v15.2.2.1.1,(v15.2.2.1.2.1,())),((v15.2.2.2.1.1,()),()))))))))))
 (λv16=>(some v16)))))))))
 (some (inr (inl (v6.1,(v6.2.2.1,((v6.2.2.2.1.1,(v6.2.2.2.1.2.1,())),((v6.2.2.2.2.1.1,()),()))))))))) ([],(0,(v2.2.1,((v2.2.2.1.1,(v2.2.2.1.2.1,())),((v2.2.2.2.1.1,()),())))))).bind λv19 =>
 (ce_ v19 (λv20=>((push? (α:=(List af_)) v2.2.2.2.1.2.1 [v20.1]).bind λv22 =>
 (some (inl ((w64 (v2.1+1)),(v20.2.1,((v20.2.2.1.1,(v20.2.2.1.2.1,())),((v20.2.2.2.1.1,(v22,())),()))))))))
 (λv21=>(some v21)))))))
 (some (inr (inl (v2.2.1,((v2.2.2.1.1,(v2.2.2.1.2.1,())),((v2.2.2.2.1.1,(v2.2.2.2.1.2.1,())),())))))))) (0,((ir_ [] v1.1 0),(([],([],())),(([v0.1],([],())),()))))).bind λv23 =>
 (ce_ v23 (λv24=>(some ((v24.2.2.1.1,v24.2.2.1.2.1),(0,()))))
 (λv25=>(some v25)))))))
theorem x_22:au_ (P:=prog) (cxC [c_52,c_53,c_54,c_55] []) (.p .z (.p .z (.p .z (.p .z (.p .z (.p (.p .z (.ls [.v 8 .int] [] [.m (.s 7) .str .int,.b (.s 2) [.val (.list aj_),.val (.list (.list ck_))],.b (.s 6) [.row aj_ 50,.row (.list ck_) 84]] 0 (.p .z (.p (.p .z (.p .z (.p (.p .z (.ls [.r 10 ck_ 86,.v 11 .int] [.r 10 ck_ 86] [.m (.s 7) .str .int,.b (.s 2) [.val (.list aj_),.val (.list (.list ck_))],.b (.s 6) [.row aj_ 50,.keep]] 2 (.p .z (.p (.p .z (.p .z (.js [.v 13 .int,.m (.s 7) .str .int,.b (.s 2) [.val (.list aj_),.val (.list (.list ck_))],.b (.s 6) [.row aj_ 50,.keep]] .z .z))) .z)))) .z))) .z)))) .z)))))) 22 [am_] [fa_,.int]=λx=>cx_ x.1:=by kernel_rfl
noncomputable def c_22:Con prog:=av_ _ _ 22 [am_] [fa_,.int] _ x_22
noncomputable def cc_ (a0:ab_):Option (bw_×Int×Unit) :=
 ((lf_ a0).bind λv0 =>
 (cond (v0.2.1 != 0)
 (some (([],[]),(v0.2.1,())))
 ((((ki_ v0.1).bind λv1 =>
 (some ((ir_ [] v1.1 0),((([]++[v0.1]),()),()))))).bind λv2 =>
 ((ag_ (ρ:=(((List ((List UInt8)×Int))×(((List aa_)×((List (List af_))×Unit))×(((List aa_)×((List (List af_))×Unit))×Unit)))⊕(bw_×(Int×Unit)))) (λ(v3:(Int×((List ((List UInt8)×Int))×(((List aa_)×((List (List af_))×Unit))×(((List aa_)×((List (List af_))×Unit))×Unit))))) =>
 (cond (decide (v3.1<(v3.2.2.2.1.1.length:Int)))
 ((at? v3.2.2.2.1.1 v3.1).bind λv4 =>
 ((at? v3.2.2.2.1.1 v3.1).bind λv5 =>
 ((ph_ a0 v5).bind λv6 =>
 (cond (v6.2.1 != 0)
 (some (inr (inr (([],[]),(v6.2.1,())))))
 ((ag_ (ρ:=(((List af_)×((List ((List UInt8)×Int))×(((List aa_)×((List (List af_))×Unit))×(((List aa_)×Unit)×Unit))))⊕((Int×((List ((List UInt8)×Int))×(((List aa_)×((List (List af_))×Unit))×(((List aa_)×((List (List af_))×Unit))×Unit))))⊕(((List ((List UInt8)×Int))×(((List aa_)×((List (List af_))×Unit))×(((List aa_)×((List (List af_))×Unit))×Unit)))⊕(bw_×(Int×Unit)))))) (λ(v7:((List af_)×(Int×((List ((List UInt8)×Int))×(((List aa_)×((List (List af_))×Unit))×(((List aa_)×Unit)×Unit)))))) =>
 (cond (decide (v7.2.1<(v6.1.length:Int)))
 ((at? v6.1 v7.2.1).bind λv8 =>
 ((at? v7.2.2.2.2.1.1 v3.1).bind λv9 =>
 ((at? v7.2.2.2.2.1.1 v3.1).bind λv10 =>
 ((kk_ a0 v10 v8).bind λv11 =>
 (cond (v11.2.1 != 0)
 (some (inr (inr (inr (inr (([],[]),(v11.2.1,())))))))
 ((((ki_ v11.1).bind λv12 =>
 (cond (aw7 v7.2.2.1 v12.1)
 (some ((ej_ 0 v7.2.2.1 v12.1),(true,(v7.2.2.1,((v7.2.2.2.2.1.1,()),())))))
 (cond ((v7.2.2.2.2.1.1.length:Int)==3000)
 (some (0,(false,(v7.2.2.1,((v7.2.2.2.2.1.1,()),())))))
 ((push? (α:=aa_) v7.2.2.2.2.1.1 [v11.1]).bind λv13 =>
 (some ((v7.2.2.2.2.1.1.length:Int),(true,((ir_ v7.2.2.1 v12.1 (v7.2.2.2.2.1.1.length:Int)),((v13,()),())))))))))).bind λv14 =>
 (cond (!v14.2.1)
 (some (inr (inr (inr (inr (([],[]),(2,())))))))
 ((push? (α:=af_) v7.1 [(v8,v14.1)]).bind λv15 =>
 (some (inl (v15,((w64 (v7.2.1+1)),(v14.2.2.1,((v7.2.2.2.1.1,(v7.2.2.2.1.2.1,())),((v14.2.2.2.1.1,()),())))))))))))))))
 (some (inr (inl (v7.1,(v7.2.2.1,((v7.2.2.2.1.1,(v7.2.2.2.1.2.1,())),((v7.2.2.2.2.1.1,()),()))))))))) ([],(0,(v3.2.1,((v3.2.2.1.1,(v3.2.2.1.2.1,())),((v3.2.2.2.1.1,()),())))))).bind λv16 =>
 (ce_ v16 (λv17=>((push? (α:=(List af_)) v3.2.2.2.1.2.1 [v17.1]).bind λv19 =>
 (some (inl ((w64 (v3.1+1)),(v17.2.1,((v17.2.2.1.1,(v17.2.2.1.2.1,())),((v17.2.2.2.1.1,(v19,())),()))))))))
 (λv18=>(some v18))))))))
 (some (inr (inl (v3.2.1,((v3.2.2.1.1,(v3.2.2.1.2.1,())),((v3.2.2.2.1.1,(v3.2.2.2.1.2.1,())),())))))))) (0,(v2.1,(([],([],())),((v2.2.1.1,([],())),()))))).bind λv20 =>
 (ce_ v20 (λv21=>(some ((v21.2.2.1.1,v21.2.2.1.2.1),(0,()))))
 (λv22=>(some v22)))))))
theorem x_47:au_ (P:=prog) (cxI (λk=>.z) (λk=>Nat.beq k 13||Nat.beq k 17||Nat.beq k 94||Nat.beq k 151||false) (cxC [c_13,c_17,c_94,c_151] []) 2) (.p .z (.p .z (.p .z (.p .z (.j0 [.m (.s 26) .str .int,.b (.s 6) [.row aj_ 50,.keep,.keep]] .z (.p (.p .z (.ls [.v 7 .int] [] [.m (.s 26) .str .int,.b (.s 2) [.val (.list aj_),.val (.list (.list ck_))],.b (.s 6) [.row aj_ 50,.row (.list ck_) 84,.keep]] 0 (.p .z (.p (.p .z (.p .z (.p .z (.p (.p .z (.ls [.r 10 ck_ 86,.v 61 .int] [.r 10 ck_ 86] [.m (.s 26) .str .int,.b (.s 2) [.val (.list aj_),.val (.list (.list ck_))],.b (.s 6) [.row aj_ 50,.keep,.keep]] 2 (.p .z (.p .z (.p (.p .z (.p .z (.p .z (.j0 [.v 15 .int,.v 16 .bool,.m (.s 26) .str .int,.b (.s 6) [.row aj_ 50,.keep,.keep]] .z .z)))) .z))))) .z)))) .z)))) .z)))))) 47 [am_] [fa_,.int]=λx=>cc_ x.1:=by kernel_rfl
noncomputable def c_47:Con prog:=av_ _ _ 47 [am_] [fa_,.int] _ x_47
noncomputable def dz_ (a0:ab_) (a1:aa_) (a2:Int):Option (Int×Int×Unit) :=
 ((ek_ a0 a1 a2).bind λv0 =>
 (cond (v0.1 != 0)
 (some (0,(v0.1,())))
 ((cy_ a0 a1).bind λv1 =>
 (cond (v1.1 != 0)
 none
 ((push? (α:=Bool) [] a1.2).bind λv2 =>
 ((ag_ (ρ:=((List Int)×((List ak_)×Unit))) (λ(v3:((List Int)×((List ak_)×(Int×Unit)))) =>
 (cond (decide (v3.2.2.1<(a0.2.2.2.1.length:Int)))
 ((((at? a0.2.2.2.1 v3.2.2.1).bind λv4 =>
 (((cond (v4.2.2.1==a2)
 ((at? v2 v3.2.2.1).bind λv5 =>
 ((at? v2 v3.2.2.1).bind λv6 =>
 (some (v6,()))))
 (some (false,())))).bind λv7 =>
 (cond v7.1
 ((push? (α:=Int) v3.1 [v3.2.2.1]).bind λv8 =>
 ((push? (α:=ak_) v3.2.1 [v4.2.2.2.2]).bind λv9 =>
 (some (v8,(v9,())))))
 (some (v3.1,(v3.2.1,()))))))).bind λv10 =>
 (some (inl (v10.1,(v10.2.1,((w64 (v3.2.2.1+1)),()))))))
 (some (inr (v3.1,(v3.2.1,())))))) ([],([],(0,())))).bind λv11 =>
 ((at? a0.2.1 a2).bind λv12 =>
 ((cj_ v12 v11.2.1).bind λv13 =>
 (some (v13.1,(v13.2.1,())))))))))))
theorem x_57:au_ (P:=prog) (cxI (λk=>cond (Nat.beq k 162) (.p .z (.p (.p .z (.lp [.r 6 .int 3,.r 7 ap_ 94,.v 13 .int] [.r 6 .int 3,.r 7 ap_ 94] [] 0 (.p .z (.p .z (.j0 [.r 6 .int 3,.r 7 ap_ 94] (.p .z (.j0 [.v 26 .bool] .z .z)) .z))))) .z)) (.z)) (λk=>Nat.beq k 87||Nat.beq k 88||Nat.beq k 107||Nat.beq k 164||false) (cxC [c_88,c_107,c_164] [ci7]) 5) .z 57 [am_,aj_,.int] [.int,.int]=λx=>dz_ x.1 x.2.1 x.2.2.1:=by kernel_rfl
noncomputable def c_57:Con prog:=av_ _ _ 57 [am_,aj_,.int] [.int,.int] _ x_57
end
section
set_option maxRecDepth 100000
set_option maxHeartbeats 0
noncomputable def jq_ (a0:ab_):Option (Bool×Unit) :=
 ((((kl_ a0).bind λv0 =>
 (cond v0.1
 (some (true,()))
 ((hh_ a0).bind λv1 =>
 (some ((v1.1 != 0),())))))).bind λv2 =>
 (cond v2.1
 ((kl_ a0).bind λv3 =>
 (some (v3.1,())))
 (((cond (decide (4<(a0.1.1.length:Int)))
 (some (true,()))
 (cond (decide (4<(a0.1.2.1.length:Int)))
 (some (true,()))
 (cond (decide (3<(a0.1.2.2.1.length:Int)))
 (some (true,()))
 (cond (decide (2<a0.1.2.2.2.2.2.2.1))
 (some (true,()))
 (cond (decide (6<(a0.1.2.2.2.2.1.length:Int)))
 (some (true,()))
 (cond (decide (4<(a0.1.2.2.2.2.2.1.length:Int)))
 (some (true,()))
 (cond (decide (5<(a0.2.2.2.1.length:Int)))
 (some (true,()))
 (some ((decide (3<(a0.2.1.length:Int))),())))))))))).bind λv4 =>
 (cond v4.1
 (some (true,()))
 ((cx_ a0).bind λv5 =>
 (cond (v5.2.1==2)
 (some (true,()))
 (some ((decide (200<(v5.1.1.length:Int))),()))))))))
theorem x_7:au_ (P:=prog) (cxC [c_22,c_30,c_31] []) (.p .z (.p .z (.p (.j0 [.v 14 .bool] .z .z) (.p (.j0 [.v 61 .bool] .z .z) .z)))) 7 [am_] [.bool]=λx=>jq_ x.1:=by kernel_rfl
noncomputable def c_7:Con prog:=av_ _ _ 7 [am_] [.bool] _ x_7
noncomputable def dc_ (a0:ab_):Option ((List ae_)×Int×Unit) :=
 ((cc_ a0).bind λv0 =>
 (cond (v0.2.1 != 0)
 (cond (v0.2.1 != 0)
 (some ([],(v0.2.1,())))
 none)
 ((dy_ [(-1)] (v0.1.1.length:Int)).bind λv1 =>
 ((ag_ (ρ:=((List Int)×((List Int)×Unit))) (λ(v2:((List Int)×(Int×((List Int)×Unit)))) =>
 (cond (decide (v2.2.1<(v0.1.1.length:Int)))
 ((((at? v0.1.1 v2.2.1).bind λv3 =>
 ((hw_ a0.1 v3.1).bind λv4 =>
 (((cond (v4.2.1==0)
 (some (v4.1,()))
 (some (false,())))).bind λv5 =>
 (cond v5.1
 ((at? v2.2.2.1 v2.2.1).bind λv6 =>
 ((at? v2.2.2.1 v2.2.1).bind λv7 =>
 ((push? (α:=Int) v2.1 [v2.2.1]).bind λv8 =>
 (some (v8,((v2.2.2.1.set v2.2.1.toNat 0),()))))))
 (some (v2.1,(v2.2.2.1,())))))))).bind λv9 =>
 (some (inl (v9.1,((w64 (v2.2.1+1)),(v9.2.1,()))))))
 (some (inr (v2.1,(v2.2.2.1,())))))) ([],(0,(v1,())))).bind λv10 =>
 ((mk? (α:=(List Int)) (v0.1.1.length:Int) []).bind λv11 =>
 ((ag_ (ρ:=((List (List Int))×Unit)) (λ(v12:(Int×((List (List Int))×Unit))) =>
 (cond (decide (v12.1<(v0.1.2.length:Int)))
 ((at? v0.1.2 v12.1).bind λv13 =>
 ((ag_ (ρ:=((List (List Int))×Unit)) (λ(v14:(Int×((List (List Int))×Unit))) =>
 (cond (decide (v14.1<(v13.length:Int)))
 ((((at? v13 v14.1).bind λv15 =>
 ((at? v14.2.1 v15.2).bind λv16 =>
 ((at? v14.2.1 v15.2).bind λv17 =>
 ((push? (α:=Int) v17 [v12.1]).bind λv18 =>
 ((at? v14.2.1 v15.2).bind λv19 =>
 (cond ((v15.2==v15.2)&&true)
 ((at? v14.2.1 v15.2).bind λv20 =>
 (some ((v14.2.1.set v15.2.toNat v18),())))
 none))))))).bind λv21 =>
 (some (inl ((w64 (v14.1+1)),(v21.1,())))))
 (some (inr (v14.2.1,()))))) (0,(v12.2.1,()))).bind λv22 =>
 (some (inl ((w64 (v12.1+1)),(v22.1,()))))))
 (some (inr (v12.2.1,()))))) (0,(v11,()))).bind λv23 =>
 ((ag_ (ρ:=((List Int)×Unit)) (λ(v24:((List Int)×((List Int)×Unit))) =>
 (cond (decide (0<(v24.1.length:Int)))
 ((at? v24.1 0).bind λv25 =>
 ((at? v24.1 0).bind λv26 =>
 ((sub? v24.1 1 (v24.1.length:Int)).bind λv27 =>
 ((at? v23.1 v26).bind λv28 =>
 ((ag_ (ρ:=((List Int)×((List Int)×Unit))) (λ(v29:((List Int)×(Int×((List Int)×Unit)))) =>
 (cond (decide (v29.2.1<(v28.length:Int)))
 ((((at? v28 v29.2.1).bind λv30 =>
 ((at? v29.2.2.1 v30).bind λv31 =>
 ((at? v29.2.2.1 v30).bind λv32 =>
 (cond (decide (v32<0))
 ((at? v29.2.2.1 v26).bind λv33 =>
 ((at? v29.2.2.1 v26).bind λv34 =>
 ((at? v29.2.2.1 v30).bind λv35 =>
 ((at? v29.2.2.1 v30).bind λv36 =>
 ((push? (α:=Int) v29.1 [v30]).bind λv37 =>
 (some (v37,((v29.2.2.1.set v30.toNat (w64 (v34+1))),()))))))))
 (some (v29.1,(v29.2.2.1,())))))))).bind λv38 =>
 (some (inl (v38.1,((w64 (v29.2.1+1)),(v38.2.1,()))))))
 (some (inr (v29.1,(v29.2.2.1,())))))) (v27,(0,(v24.2.1,())))).bind λv39 =>
 (some (inl (v39.1,(v39.2.1,())))))))))
 (some (inr (v24.2.1,()))))) (v10.1,(v10.2.1,()))).bind λv40 =>
 ((at? v40.1 0).bind λv41 =>
 ((at? v40.1 0).bind λv42 =>
 (cond (decide (v42<0))
 (some ([],(50,())))
 ((ag_ (ρ:=(((List ae_)×Unit)×Unit)) (λ(v43:(Int×(((List ae_)×Unit)×Unit))) =>
 ((at? v40.1 v43.1).bind λv44 =>
 ((at? v40.1 v43.1).bind λv45 =>
 (cond (decide (0<v45))
 ((((at? v0.1.2 v43.1).bind λv46 =>
 ((ag_ (ρ:=(((List Int)×(Unit×(((List ae_)×Unit)×Unit)))⊕((List Int)×(((List ae_)×Unit)×Unit)))) (λ(v47:(Int×((List Int)×(Unit×(((List ae_)×Unit)×Unit))))) =>
 (cond (decide (v47.1<(v46.length:Int)))
 ((at? v46 v47.1).bind λv48 =>
 ((at? v40.1 v48.2).bind λv49 =>
 ((at? v40.1 v48.2).bind λv50 =>
 ((at? v40.1 v43.1).bind λv51 =>
 ((at? v40.1 v43.1).bind λv52 =>
 (cond (v50==(w64 (v52 - 1)))
 ((at? v40.1 v43.1).bind λv53 =>
 ((at? v40.1 v43.1).bind λv54 =>
 (cond (decide (0<v54))
 ((push? (α:=ae_) v47.2.2.2.1.1 [v48.1]).bind λv55 =>
 ((at? v47.2.1 0).bind λv56 =>
 (some (inr (inr ((v47.2.1.set (0:Int).toNat v48.2),((v55,()),())))))))
 (some (inl ((w64 (v47.1+1)),(v47.2.1,((),((v47.2.2.2.1.1,()),())))))))))
 (some (inl ((w64 (v47.1+1)),(v47.2.1,((),((v47.2.2.2.1.1,()),()))))))))))))
 (some (inr (inl (v47.2.1,((),((v47.2.2.2.1.1,()),())))))))) (0,([v43.1],((),((v43.2.1.1,()),()))))).bind λv57 =>
 (ce_ v57 (λv58=>(some (v58.1,((v58.2.2.1.1,()),()))))
 (λv59=>(some v59)))))).bind λv60 =>
 ((at? v60.1 0).bind λv61 =>
 (some (inl (v61,((v60.2.1.1,()),()))))))
 (some (inr ((v43.2.1.1,()),()))))))) (0,(([],()),()))).bind λv62 =>
 (some (v62.1.1,(0,()))))))))))))))
theorem x_18:au_ (P:=prog) (cxI (λk=>cond (Nat.beq k 46) (.p .z (.p (.p .z (.lp [.a 3 .int 3] [] [.b (.s 2) [.row aq_ 59]] 0 (.p .z (.j0 [.o (.s 3) .int,.b (.s 2) [.row aq_ 59]] (.p .z (.rf [2,3] .z .z)) .z)))) .z)) (cond (Nat.beq k 49) (.p .z (.p .z (.p .z (.p (.p .z (.lp [.r 8 .int 3,.v 33 .int] [.r 8 .int 3] [.o (.s 27) .int] 0 (.p .z (.p .z (.j0 [.r 8 .int 3,.o (.s 27) .int] (.p .z (.p .z (.j0 [.v 50 .bool] .z .z))) .z))))) (.p .z (.p (.p .z (.lp [.v 69 .int] [] [.g (.s 13) (.list .int)] 2 (.p .z (.p .z (.p (.p .z (.p .z (.lp [.v 76 .int] [] [.g (.s 13) (.list .int)] 4 (.p .z (.p .z (.j0 [.g (.s 13) (.list .int)] .z .z)))))) .z))))) (.q [(.s 13)] (.lp [.r 8 .int 3] [] [.o (.s 27) .int] 6 (.p .z (.p .z (.p .z (.p .z (.lp [.r 8 .int 3,.v 110 .int] [.r 8 .int 3] [.o (.s 27) .int] 8 (.p .z (.p .z (.j0 [.r 8 .int 3,.o (.s 27) .int] .z .z))))))))) .z))))))) (cond (Nat.beq k 150) (.p .z (.ls [.v 15 .int] [] [.o (.y (.s 0) 3) .int,.y (.s 0),.b (.y (.s 0) 2) [.row aq_ 59]] 0 (.p .z (.p .z (.p (.p .z (.p (.sp 38 41) .z)) .z))))) (.z)))) (λk=>Nat.beq k 47||Nat.beq k 73||Nat.beq k 97||Nat.beq k 98||false) (cxR [rp_97] [c_47,c_73,c_98] []) 8) .z 18 [am_] [(.list aq_),.int]=λx=>dc_ x.1:=by kernel_rfl
noncomputable def c_18:Con prog:=av_ _ _ 18 [am_] [(.list aq_),.int] _ x_18
noncomputable def jp_ (a0:ab_):Option (Int×Int×Unit) :=
 ((cc_ a0).bind λv0 =>
 (cond (v0.2.1 != 0)
 (some (0,(v0.2.1,())))
 ((ag_ (ρ:=(((Int×Unit)×Unit)⊕(Int×(Int×Unit)))) (λ(v1:(Int×((Int×Unit)×Unit))) =>
 (cond (decide (v1.1≤100))
 ((cc_ (a0.1,(a0.2.1,(a0.2.2.1,(a0.2.2.2.1,v1.1))))).bind λv2 =>
 (cond (v2.2.1 != 0)
 (cond (v2.2.1 != 0)
 (some (inr (inr (0,(v2.2.1,())))))
 none)
 ((dy_ [(-1)] (v2.1.1.length:Int)).bind λv3 =>
 ((ag_ (ρ:=((List Int)×((List Int)×Unit))) (λ(v4:((List Int)×(Int×((List Int)×Unit)))) =>
 (cond (decide (v4.2.1<(v2.1.1.length:Int)))
 ((((at? v2.1.1 v4.2.1).bind λv5 =>
 ((hw_ a0.1 v5.1).bind λv6 =>
 (((cond (v6.2.1==0)
 (some (v6.1,()))
 (some (false,())))).bind λv7 =>
 (cond v7.1
 ((at? v4.2.2.1 v4.2.1).bind λv8 =>
 ((at? v4.2.2.1 v4.2.1).bind λv9 =>
 ((push? (α:=Int) v4.1 [v4.2.1]).bind λv10 =>
 (some (v10,((v4.2.2.1.set v4.2.1.toNat 0),()))))))
 (some (v4.1,(v4.2.2.1,())))))))).bind λv11 =>
 (some (inl (v11.1,((w64 (v4.2.1+1)),(v11.2.1,()))))))
 (some (inr (v4.1,(v4.2.2.1,())))))) ([],(0,(v3,())))).bind λv12 =>
 ((mk? (α:=(List Int)) (v2.1.1.length:Int) []).bind λv13 =>
 ((ag_ (ρ:=((List (List Int))×Unit)) (λ(v14:(Int×((List (List Int))×Unit))) =>
 (cond (decide (v14.1<(v2.1.2.length:Int)))
 ((at? v2.1.2 v14.1).bind λv15 =>
 ((ag_ (ρ:=((List (List Int))×Unit)) (λ(v16:(Int×((List (List Int))×Unit))) =>
 (cond (decide (v16.1<(v15.length:Int)))
 ((((at? v15 v16.1).bind λv17 =>
 ((at? v16.2.1 v17.2).bind λv18 =>
 ((at? v16.2.1 v17.2).bind λv19 =>
 ((push? (α:=Int) v19 [v14.1]).bind λv20 =>
 ((at? v16.2.1 v17.2).bind λv21 =>
 (cond ((v17.2==v17.2)&&true)
 ((at? v16.2.1 v17.2).bind λv22 =>
 (some ((v16.2.1.set v17.2.toNat v20),())))
 none))))))).bind λv23 =>
 (some (inl ((w64 (v16.1+1)),(v23.1,())))))
 (some (inr (v16.2.1,()))))) (0,(v14.2.1,()))).bind λv24 =>
 (some (inl ((w64 (v14.1+1)),(v24.1,()))))))
 (some (inr (v14.2.1,()))))) (0,(v13,()))).bind λv25 =>
 ((ag_ (ρ:=((List Int)×Unit)) (λ(v26:((List Int)×((List Int)×Unit))) =>
 (cond (decide (0<(v26.1.length:Int)))
 ((at? v26.1 0).bind λv27 =>
 ((at? v26.1 0).bind λv28 =>
 ((sub? v26.1 1 (v26.1.length:Int)).bind λv29 =>
 ((at? v25.1 v28).bind λv30 =>
 ((ag_ (ρ:=((List Int)×((List Int)×Unit))) (λ(v31:((List Int)×(Int×((List Int)×Unit)))) =>
 (cond (decide (v31.2.1<(v30.length:Int)))
 ((((at? v30 v31.2.1).bind λv32 =>
 ((at? v31.2.2.1 v32).bind λv33 =>
 ((at? v31.2.2.1 v32).bind λv34 =>
 (cond (decide (v34<0))
 ((at? v31.2.2.1 v28).bind λv35 =>
 ((at? v31.2.2.1 v28).bind λv36 =>
 ((at? v31.2.2.1 v32).bind λv37 =>
 ((at? v31.2.2.1 v32).bind λv38 =>
 ((push? (α:=Int) v31.1 [v32]).bind λv39 =>
 (some (v39,((v31.2.2.1.set v32.toNat (w64 (v36+1))),()))))))))
 (some (v31.1,(v31.2.2.1,())))))))).bind λv40 =>
 (some (inl (v40.1,((w64 (v31.2.1+1)),(v40.2.1,()))))))
 (some (inr (v31.1,(v31.2.2.1,())))))) (v29,(0,(v26.2.1,())))).bind λv41 =>
 (some (inl (v41.1,(v41.2.1,())))))))))
 (some (inr (v26.2.1,()))))) (v12.1,(v12.2.1,()))).bind λv42 =>
 ((at? v42.1 0).bind λv43 =>
 ((at? v42.1 0).bind λv44 =>
 (cond (decide (0≤v44))
 (some (inr (inr (v1.1,(0,())))))
 ((ag_ (ρ:=(Int×((List ((List UInt8)×Int))×Unit))) (λ(v45:(Int×(Int×((List ((List UInt8)×Int))×Unit)))) =>
 (cond (decide (v45.2.1<(v2.1.1.length:Int)))
 ((((at? v2.1.1 v45.2.1).bind λv46 =>
 ((gw_ v46).bind λv47 =>
 (cond ((ej_ 0 v45.2.2.1 v47.1)==1)
 (some (v45.1,(v45.2.2.1,())))
 ((ag_ (ρ:=(Int×Unit)) (λ(v48:(Int×(Int×Unit))) =>
 (cond (decide (v48.2.1<(a0.2.1.length:Int)))
 ((((dz_ (a0.1,(a0.2.1,(a0.2.2.1,(a0.2.2.2.1,v1.1)))) v46 v48.2.1).bind λv49 =>
 (((cond (v49.2.1==0)
 (some ((decide (v1.1<v49.1)),()))
 (some (false,())))).bind λv50 =>
 (cond v50.1
 (some ((ap9 v48.1 v49.1),()))
 (some (v48.1,())))))).bind λv51 =>
 (some (inl (v51.1,((w64 (v48.2.1+1)),())))))
 (some (inr (v48.1,()))))) (v45.1,(0,()))).bind λv52 =>
 (some (v52.1,((ir_ v45.2.2.1 v47.1 1),())))))))).bind λv53 =>
 (some (inl (v53.1,((w64 (v45.2.1+1)),(v53.2.1,()))))))
 (some (inr (v45.1,(v45.2.2.1,())))))) (101,(0,([],())))).bind λv54 =>
 (some (inl (v54.1,((v1.1,()),())))))))))))))))
 (some (inr (inl ((v1.2.1.1,()),())))))) (1,((a0.2.2.2.2,()),()))).bind λv55 =>
 (ce_ v55 (λv56=>(some (0,(50,()))))
 (λv57=>(some v57))))))
theorem x_23:au_ (P:=prog) (cxI (λk=>cond (Nat.beq k 49) (.p .z (.p .z (.p .z (.p (.p .z (.lp [.r 8 .int 3,.v 33 .int] [.r 8 .int 3] [.o (.s 27) .int] 0 (.p .z (.p .z (.j0 [.r 8 .int 3,.o (.s 27) .int] (.p .z (.p .z (.j0 [.v 50 .bool] .z .z))) .z))))) (.p .z (.p (.p .z (.lp [.v 69 .int] [] [.g (.s 13) (.list .int)] 2 (.p .z (.p .z (.p (.p .z (.p .z (.lp [.v 76 .int] [] [.g (.s 13) (.list .int)] 4 (.p .z (.p .z (.j0 [.g (.s 13) (.list .int)] .z .z)))))) .z))))) (.q [(.s 13)] (.lp [.r 8 .int 3] [] [.o (.s 27) .int] 6 (.p .z (.p .z (.p .z (.p .z (.lp [.r 8 .int 3,.v 110 .int] [.r 8 .int 3] [.o (.s 27) .int] 8 (.p .z (.p .z (.j0 [.r 8 .int 3,.o (.s 27) .int] .z .z))))))))) .z))))))) (.z)) (λk=>Nat.beq k 47||Nat.beq k 56||Nat.beq k 57||Nat.beq k 73||Nat.beq k 97||Nat.beq k 98||false) (cxR [rp_97] [c_47,c_56,c_57,c_73,c_98] []) 3) (.p .z (.p .z (.p (.p .z (.ls [.v 6 .int] [] [.b (.s 1) [.keep,.keep,.keep,.keep,.keep,.keep,.keep,.keep,.keep,.keep,.keep,.val .int]] 0 (.p .z (.p .z (.p .z (.p .z (.p .z (.p .z (.p .z (.p (.p .z (.lp [.v 9 .int,.v 52 .int] [.v 9 .int] [.m (.s 10) .str .int] 2 (.p .z (.p .z (.j0 [.v 9 .int,.m (.s 10) .str .int] (.p .z (.p .z (.p .z (.p .z (.p .z (.lp [.v 9 .int,.v 67 .int] [.v 9 .int] [] 4 (.p .z (.p .z (.j0 [.v 9 .int] (.p .z (.p .z (.j0 [.v 83 .bool] .z .z))) .z))))))))) .z))))) .z)))))))))) .z))) 23 [am_] [.int,.int]=λx=>jp_ x.1:=by kernel_rfl
noncomputable def c_23:Con prog:=av_ _ _ 23 [am_] [.int,.int] _ x_23
noncomputable def hf_ (a0:ab_):Option ((List ae_)×Int×Unit) :=
 ((cx_ a0).bind λv0 =>
 (cond (v0.2.1 != 0)
 (some ([],(v0.2.1,())))
 ((cp_ a0 v0.1 (-1)).bind λv1 =>
 ((ij_ v0.1 v1.1 (-1)).bind λv2 =>
 (cond (!v2.2.1)
 (some ([],(50,())))
 (some (v2.1,(0,()))))))))
theorem x_58:au_ (P:=prog) (cxC [c_22,c_38,c_109] []) .z 58 [am_] [(.list aq_),.int]=λx=>hf_ x.1:=by kernel_rfl
noncomputable def c_58:Con prog:=av_ _ _ 58 [am_] [(.list aq_),.int] _ x_58
end
section
set_option maxRecDepth 100000
set_option maxHeartbeats 0
noncomputable def dd_  : Option (Bool×Unit) :=
 ((dc_ (([[104,97,108,108],[118,97,117,108,116]],([([98,111,120],(0,(2,0))),([100,111,111,114],(0,(2,0)))],([([107,101,121],(0,[(0,(1,false))]))],([(0,(1,[(1,(1,false))]))],([([111,112,101,110],(0,(0,([],([],([(0,1)],([],[]))))))),([116,117,114,110],(0,((-1),([0],([],([(1,1)],([0],[])))))))],([],(1,[(1,(1,false))]))))))),([(2,4)],([[3,1]],([([108,101,97,102],(0,(0,([],(2,(0,(1,(4,(0,([],false)))))))))),([98,97,99,107],(0,(0,([(0,(0,false))],(3,(1,(0,(0,(0,([],false)))))))))),([99,97,114,100],(1,((-1),([],(0,(0,(0,(0,(0,([],false))))))))))],1))))).bind λv0 =>
 (cond (v0.2.1==0)
 (cond ((v0.1.length:Int)==3)
 ((at? v0.1 0).bind λv1 =>
 (cond ((v1.1==0)&&((v1.2.1==4)&&(v1.2.2==0)))
 ((at? v0.1 1).bind λv2 =>
 (cond (v2.2.1==2)
 ((at? v0.1 2).bind λv3 =>
 (some ((v3.2.2==1),())))
 (some (false,()))))
 (some (false,()))))
 (some (false,())))
 (some (false,()))))
theorem x_8:au_ (P:=prog) (cxC [c_18,c_32] []) .z 8 [] [.bool]=λx=>dd_:=by kernel_rfl
noncomputable def c_8:Con prog:=av_ _ _ 8 [] [.bool] _ x_8
noncomputable def jg_ (a0:ab_):Option (Int×Int×Unit) :=
 ((cx_ a0).bind λv0 =>
 (cond (v0.2.1 != 0)
 (some (0,(v0.2.1,())))
 ((ag_ (ρ:=(((Int×Unit)×Unit)⊕(Int×(Int×Unit)))) (λ(v1:(Int×((Int×Unit)×Unit))) =>
 (cond (decide (v1.1≤100))
 ((hf_ (a0.1,(a0.2.1,(a0.2.2.1,(a0.2.2.2.1,v1.1))))).bind λv2 =>
 (cond (v2.2.1 != 50)
 (((cond (v2.2.1 != 0)
 (some (0,()))
 (some (v1.1,())))).bind λv3 =>
 (some (inr (inr (v3.1,(v2.2.1,()))))))
 (some (inl ((w64 (v1.1+1)),((v1.1,()),()))))))
 (some (inr (inl ((v1.2.1.1,()),())))))) (1,((a0.2.2.2.2,()),()))).bind λv4 =>
 (ce_ v4 (λv5=>(some (0,(50,()))))
 (λv6=>(some v6))))))
theorem x_24:au_ (P:=prog) (cxC [c_22,c_58] []) (.p .z (.p .z (.p .z (.p .z (.p (.p .z (.ls [.v 7 .int] [] [.b (.s 6) [.keep,.keep,.keep,.keep,.keep,.keep,.keep,.keep,.keep,.keep,.keep,.val .int]] 0 (.p .z (.p (.p .z (.p .z (.p .z (.p (.j0 [.v 7 .int] .z .z) .z)))) .z)))) .z))))) 24 [am_] [.int,.int]=λx=>jg_ x.1:=by kernel_rfl
noncomputable def c_24:Con prog:=av_ _ _ 24 [am_] [.int,.int] _ x_24
end
section
set_option maxRecDepth 100000
set_option maxHeartbeats 0
noncomputable def hj_ (a0:ab_):Option (Bool×Unit) :=
 ((jq_ a0).bind λv0 =>
 (cond v0.1
 ((dd_).bind λv1 =>
 (some (v1.1,())))
 ((cx_ a0).bind λv2 =>
 (((cond (v2.2.1 != 0)
 (some (true,()))
 (some ((decide (40<(v2.1.1.length:Int))),())))).bind λv3 =>
 (cond v3.1
 ((dd_).bind λv4 =>
 (some (v4.1,())))
 ((ag_ (ρ:=(Unit⊕(Bool×Unit))) (λ(v5:(Int×Unit)) =>
 (cond (decide (v5.1<(a0.2.1.length:Int)))
 ((at? a0.2.1 v5.1).bind λv6 =>
 (cond (decide (2<v6.1))
 ((dd_).bind λv7 =>
 (some (inr (inr (v7.1,())))))
 (some (inl ((w64 (v5.1+1)),())))))
 (some (inr (inl ()))))) (0,())).bind λv8 =>
 (ce_ v8 (λv9=>((io_ a0).bind λv11 =>
 ((jp_ v11.1).bind λv12 =>
 ((jg_ a0).bind λv13 =>
 (((cond (v12.1 != v13.1)
 (some (true,()))
 (some ((v12.2.1 != v13.2.1),())))).bind λv14 =>
 (cond v14.1
 (some (false,()))
 (cond (v12.2.1 != 0)
 ((dd_).bind λv15 =>
 (some (v15.1,())))
 ((io_ a0).bind λv16 =>
 ((dc_ (v16.1.1,(v16.1.2.1,(v16.1.2.2.1,(v16.1.2.2.2.1,v12.1))))).bind λv17 =>
 (cond (v17.2.1 != 0)
 (some (false,()))
 (cond (v12.1==1)
 ((dd_).bind λv18 =>
 (some (v18.1,())))
 ((dc_ (v16.1.1,(v16.1.2.1,(v16.1.2.2.1,(v16.1.2.2.2.1,(w64 (v12.1 - 1))))))).bind λv19 =>
 (cond (v19.2.1==50)
 ((dd_).bind λv20 =>
 (some (v20.1,())))
 (some (false,())))))))))))))))
 (λv10=>(some v10)))))))))
theorem x_5:au_ (P:=prog) (cxC [c_7,c_8,c_9,c_18,c_22,c_23,c_24] []) (.p .z (.p .z (.p (.p .z (.j0 [.v 30 .bool] .z .z)) (.p (.p .z (.ls [.v 5 .int] [] [] 0 .z)) (.p .z (.p .z (.p (.j0 [.v 65 .bool] .z .z) .z))))))) 5 [am_] [.bool]=λx=>hj_ x.1:=by kernel_rfl
noncomputable def c_5:Con prog:=av_ _ _ 5 [am_] [.bool] _ x_5
end
end Go.Proofs.YtdibamopklkilaaGreatDoor.Rx
namespace Go.Proofs.YtdibamopklkilaaGreatDoor.Rx
open Go Pad Rex Sum
section
theorem aw_ {α:Type} {l:List α} (h:Sm l.length):push? [] l=some l:=by
  rw[zs_ (by simp only[j4_];omega)]
  rfl
theorem cg_ {α:Type} {l:List α} {x:α} (h:Sm l.length):push? l [x]=some (l++[x]):=zs_ (by simp only[c6_,j4_];omega)
theorem qs_ {α:Type} {l:List α} {i:Nat} {x:α} (h:l[i]?=some x):l.set ((i:Nat):Int).toNat x=l:=by
  show l.set i x=l
  refine f3_ λj => ?_
  rw[h6_]
  split
  · next e =>
    subst e
    rw[if_pos (an_ h),h]
  · rfl
theorem rm_ (c:List bc_) (h:Sm c.length):cl_ c=some (c,()):=by
  unfold cl_
  rw[aw_ h]
  rfl
theorem ad2 (c:List Int) (h:Sm c.length):dp_ c=some (c,()):=by
  unfold dp_
  rw[aw_ h]
  rfl
theorem oi_ {α τ:Type} {l:List α} (hl:Sm l.length) {body:(Int×(List α×Unit))→Option ((Int×(List α×Unit))⊕(List α×Unit))} {K:(List α×Unit)→Option τ} {x:Option τ}
    (h:∀ (i:Nat) y,l[i]?=some y→body ((i:Int),(l,()))=some (.inl ((w64 ((i:Int)+1)),(l,())))) (e:body ((l.length:Int),(l,()))=some (.inr (l,()))) (hk:K (l,())=x):(ag_ body (0,(l,()))).bind K=x:=by
  refine bn_ l (λ_ _=>none) (λi=>((i:Int),(l,()))) (r0:=(l,())) (λi y hy => ?_) e ?_
  · have hi:=an_ hy
    rw[h i y hy,ay_ (show Sm i by omega)]
  · have:fm_ (λ(_:Nat) (_:α)=>(none:Option (List α×Unit))) 0 l=none:=(ie_ l 0).2 λ_ _ _=>rfl
    rw[this]
    exact hk
theorem be3 {r:ad_} (h:SmR r):lc_ r=some (r,()):=by
  unfold lc_
  simp only[aw_ h.pl,aw_ h.th,aw_ h.pr,aw_ h.wy,aw_ h.ac,aw_ h.au,rm_ _ h.go,a0_]
  refine oi_ h.pr (λi y hy => ?_) ?_ ?_
  · have:=h.prn y (ax_ hy)
    simp only[dlt (an_ hy),a4_,ah_ hy,a0_,rm_ _ this.2,qs_ hy]
  · simp only[dnl,a2_]
  refine oi_ h.wy (λi y hy => ?_) ?_ ?_
  · have:=h.wyn y (ax_ hy)
    simp only[dlt (an_ hy),a4_,ah_ hy,a0_,rm_ _ this,qs_ hy]
  · simp only[dnl,a2_]
  refine oi_ h.ac (λi y hy => ?_) ?_ ?_
  · obtain⟨h1,h2,h3,h4,h5,h6⟩:=h.acn y (ax_ hy)
    simp only[dlt (an_ hy),a4_,ah_ hy,a0_,rm_ _ h3,ad2 _ h2,ad2 _ h5,ad2 _ h6,aw_ h4,qs_ hy]
  · simp only[dnl,a2_]
  refine oi_ h.au (λi y hy => ?_) ?_ ?_
  · have:=h.aun y (ax_ hy)
    simp only[dlt (an_ hy),a4_,ah_ hy,a0_,rm_ _ this,qs_ hy]
  · simp only[dnl,a2_]
  rfl
theorem xm_ (c:ak_) (h:Sm c.2.2.2.2.2.1.length):gm_ c=some (c,()):=by
  unfold gm_
  rw[aw_ h]
  rfl
theorem be1 {g:ab_} (h:SmG g):io_ g=some (g,()):=by
  have hl:Sm g.2.1.length:=by have:=h.lk;omega
  have hn:Sm g.2.2.2.1.length:=by have:=h.nt;omega
  have hc:Sm g.2.2.1.length:=by have:=h.cd;omega
  unfold io_
  rw[be3 h.room]
  simp only[aw_ hl,aw_ hn,a0_]
  have hgo:=kg_ g.2.2.1 (λ_ t x=>t++[x]) (λi t=>((i:Int),((t,()),()))) (λt=>((t,()),())) [] (body:=(λ(v3:(Int×(((List (List Int))×Unit)×Unit))) =>
 (cond (decide (v3.1<(g.2.2.1.length:Int)))
 ((at? g.2.2.1 v3.1).bind λv4 =>
 ((push? (α:=Int) [] v4).bind λv5 =>
 ((push? (α:=(List Int)) v3.2.1.1 [v5]).bind λv6 =>
 (some (inl ((w64 (v3.1+1)),((v6,()),())))))))
 (some (inr ((v3.2.1.1,()),())))))) (λi t=>t=g.2.2.1.take i) (by simp) (λi x t hx ht=>by
    have hi:=an_ hx
    have hx2:Sm x.length:=by have:=h.cdn x (ax_ hx);omega
    have ht2:Sm t.length:=by rw[ht,c7_];omega
    refine⟨?_,?_⟩
    · simp only[dlt hi,a4_,ah_ hx,a0_,aw_ hx2,cg_ ht2,ay_ (show Sm i by omega)]
    · rw[ht,d5_,hx]
      rfl) (λt ht=>by simp only[dnl,a2_])
  obtain⟨t,ht,hw⟩:=hgo
  rw[d8_] at ht
  subst ht
  refine e0_ (congrArg (λo=>Option.bind o _) hw) ?_
  rw[a0_]
  refine oi_ hn (λi y hy => ?_) ?_ ?_
  · have hy2:=h.ntn y (ax_ hy)
    simp only[dlt (an_ hy),a4_,ah_ hy,a0_,aw_ (show Sm y.2.2.2.1.length by omega),qs_ hy,xm_ _ (show Sm y.2.2.2.2.2.2.2.2.2.1.length by omega)]
  · simp only[dnl,a2_]
  rfl
end
section
set_option maxRecDepth 10000
theorem at8 {σ ρ τ:Type} (n:Nat) (F:Nat→τ→σ) (R:τ→ρ) (t0:τ) {body:σ→Option (σ⊕ρ)} (I:Nat→τ→Prop) (h0:I 0 t0)
    (h:∀ i t,i<n→I i t→Tot (body (F i t)) (λr=>∃ t',r = .inl (F (i+1) t')∧I (i+1) t')) (e:∀ t,I n t→body (F n t)=some (.inr (R t))) :
    Tot (ag_ body (F 0 t0)) (λr=>∃ t,r=R t∧I n t):=by
  refine jt_ (λi s=>∃ t,s=F i t∧I i t) _ n 0 (F 0 t0) ⟨t0,rfl,h0⟩ (λj s h1 h2 hs => ?_) (λs hs => ?_)
  · obtain⟨t,rfl,ht⟩:=hs
    obtain⟨r,hr,t',rfl,ht'⟩:=h j t (by omega) ht
    exact .inl ⟨_,hr,t',rfl,ht'⟩
  · obtain⟨t,rfl,ht⟩:=hs
    rw[b0_] at ht ⊢
    exact⟨_,e t ht,t,rfl,ht⟩
structure VS (r:ad_) (s:ai_):Prop where
  l1:s.1.length=r.2.1.length
  l2:s.2.1.length=r.2.2.1.length
  l3:(s.2.2.length:Int)=r.2.2.2.2.2.2.1
  th:∀ (i:Nat) n,s.1[i]?=some n→nh_ r.2.1 (i:Int) n=true
  pr:∀ (i:Nat) p,s.2.1[i]?=some p→inR r p=true
  py:∀ (i:Nat) p,s.2.2[i]?=some p→rc_ r p=true
theorem ci8 {r:ad_} {s:ai_} (h:VS r s):ckS r s=0:=by
  unfold ckS
  have hl:aa7 r s=false:=by
    unfold aa7
    have:=h.l1
    have:=h.l2
    have:=h.l3
    simp only[c1_,p7_]
    omega
  rw[hl,a2_]
  rw[(ie_ s.1 0).2 (λj x hx=>by rw[b0_,h.th j x hx];rfl),i6_]
  rw[(ie_ s.2.1 0).2 (λj x hx=>by rw[h.pr j x hx];rfl),i6_]
  rw[(ie_ s.2.2 0).2 (λj x hx=>by rw[h.py j x hx];rfl),i6_]
theorem mg_ {r:ad_} (h:SmR r) (ok:OkR r) {i n:Int} (hs:nh_ r.2.1 i n=true):(0≤i∧i<r.2.1.length)∧(0≤n∧n≤5):=by
  unfold nh_ at hs
  rw[a1_] at hs
  have hi:=cf_.1 hs.1
  have hth:=h.th
  rw[eo_ (by omega) (by omega)] at hi
  obtain⟨t,ht,hg⟩:=bx8 (l:=r.2.1) (i:=i) (by omega) (by omega)
  have h2:=hs.2
  rw[ht] at h2
  have hn:=cf_.1 h2
  have:=ok.th _ _ hg
  unfold bi5 at this
  simp only[a1_] at this
  have h3:=cf_.1 this.2.2.1
  rw[eo_ (by omega) (by omega)] at hn
  omega
end
end Go.Proofs.YtdibamopklkilaaGreatDoor.Rx
namespace Go.Proofs.YtdibamopklkilaaGreatDoor.Rx
open Go Pad Rex Go.Proofs Go.Proofs.Tryz Sum
section
set_option maxRecDepth 100000
noncomputable def autB (a0:ad_) (th pr py:List Int):(Int×Unit)→Option ((Int×Unit)⊕(Unit⊕(Int×Unit))) :=
 (λ(v14:(Int×Unit)) =>
 (cond (decide (v14.1<(a0.2.2.2.2.2.1.length:Int)))
 ((at? a0.2.2.2.2.2.1 v14.1).bind λv15 =>
 ((((at? th v15.2.1).bind λv16 =>
 ((at? th v15.2.1).bind λv17 =>
 (cond (v17 != v15.2.2)
 ((ba_ (a0,(th,(pr,py))) v15.1).bind λv18 =>
 (some (v18.1,())))
 (some (false,())))))).bind λv19 =>
 (cond v19.1
 (some (inr (inr (v14.1,()))))
 (some (inl ((w64 (v14.1+1)),()))))))
 (some (inr (inl ())))))
noncomputable def setB (a0:ad_) (v11 v12:List Int):(Int×((List Int)×Unit))→Option ((Int×((List Int)×Unit))⊕(((List Int)×Unit)⊕(Bool×((List Int)×Unit)))) :=
 (λ(v13:(Int×((List Int)×Unit))) =>
 (cond (decide (v13.1<101))
 ((((ag_ (ρ:=(Unit⊕(Int×Unit))) (autB a0 v13.2.1 v11 v12) (0,())).bind λv20 =>
 (ce_ v20 (λv21=>(some ((-1),())))
 (λv22=>(some v22))))).bind λv23 =>
 (cond (decide (v23.1<0))
 (some (inr (inr ((!true),(v13.2.1,())))))
 ((at? a0.2.2.2.2.2.1 v23.1).bind λv24 =>
 ((at? a0.2.2.2.2.2.1 v23.1).bind λv25 =>
 ((at? v13.2.1 v24.2.1).bind λv26 =>
 ((at? v13.2.1 v24.2.1).bind λv27 =>
 (some (inl ((w64 (v13.1+1)),((v13.2.1.set v24.2.1.toNat v25.2.2),()))))))))))
 (some (inr (inl (v13.2.1,()))))))
noncomputable def thgB (a0:ad_):(Int×(((List Int)×Unit)×Unit))→Option ((Int×(((List Int)×Unit)×Unit))⊕(((List Int)×Unit)×Unit)) :=
 (λ(v2:(Int×(((List Int)×Unit)×Unit))) =>
 (cond (decide (v2.1<(a0.2.1.length:Int)))
 ((at? a0.2.1 v2.1).bind λv3 =>
 ((push? (α:=Int) v2.2.1.1 [v3.2.2.2]).bind λv4 =>
 (some (inl ((w64 (v2.1+1)),((v4,()),()))))))
 (some (inr ((v2.2.1.1,()),())))))
noncomputable def prpB (a0:ad_):(Int×(((List Int)×Unit)×Unit))→Option ((Int×(((List Int)×Unit)×Unit))⊕(((List Int)×Unit)×Unit)) :=
 (λ(v6:(Int×(((List Int)×Unit)×Unit))) =>
 (cond (decide (v6.1<(a0.2.2.1.length:Int)))
 ((at? a0.2.2.1 v6.1).bind λv7 =>
 ((push? (α:=Int) v6.2.1.1 [v7.2.1]).bind λv8 =>
 (some (inl ((w64 (v6.1+1)),((v8,()),()))))))
 (some (inr ((v6.2.1.1,()),())))))
noncomputable def rbegX (a0:ad_):Option (ai_×(Int×Unit)) :=
 ((fh_ a0).bind λv0 =>
 (cond (v0.1 != 0)
 (some (([],([],[])),(v0.1,())))
 ((mk? (α:=Int) a0.2.2.2.2.2.2.1 0).bind λv1 =>
 ((ag_ (ρ:=(((List Int)×Unit)×Unit)) (thgB a0) (0,(([],()),()))).bind λv5 =>
 ((ag_ (ρ:=(((List Int)×Unit)×Unit)) (prpB a0) (0,(([],()),()))).bind λv9 =>
 ((push? (α:=Int) [] v5.1.1).bind λv10 =>
 ((push? (α:=Int) [] v9.1.1).bind λv11 =>
 ((push? (α:=Int) [] v1).bind λv12 =>
 ((((ag_ (ρ:=(((List Int)×Unit)⊕(Bool×((List Int)×Unit)))) (setB a0 v11 v12) (0,(v10,()))).bind λv28 =>
 (ce_ v28 (λv29=>(some ((!false),(v29.1,()))))
 (λv30=>(some v30))))).bind λv31 =>
 (cond v31.1
 (some (([],([],[])),(27,())))
 (some ((v31.2.1,(v11,v12)),(0,())))))))))))))
theorem cd8:ii_=rbegX:=by kernel_rfl
end
end Go.Proofs.YtdibamopklkilaaGreatDoor.Rx
namespace Go.Proofs.YtdibamopklkilaaGreatDoor.Rx
open Go Pad Rex Sum
section
set_option maxRecDepth 10000
def VT (r:ad_) (th:List Int):Prop:=th.length=r.2.1.length∧∀ (i:Nat) n,th[i]?=some n→nh_ r.2.1 (i:Int) n=true
theorem by5 {r:ad_} (h:SmR r) (ok:OkR r) {th:List Int} (hv:VT r th) {i n:Int} (hs:nh_ r.2.1 i n=true):VT r (th.set i.toNat n):=by
  refine⟨by rw[g1_];exact hv.1,λj m hj => ?_⟩
  have hi:=(mg_ h ok hs).1
  rw[h6_] at hj
  split at hj
  · next e =>
    split at hj
    · obtain rfl:=a6_ hj
      rw[show (j:Int)=i by omega]
      exact hs
    · cases hj
  · exact hv.2 j m hj
theorem at9 {r:ad_} (h:SmR r):ag_ (thgB r) (0,(([],()),()))=some ((r.2.1.map (·.2.2.2),()),()):=by
  have hth:=h.th
  obtain⟨z,hz,q,rfl,hq⟩:=at8 r.2.1.length (λi (q:List Int)=>((i:Int),((q,()),()))) (λq=>((q,()),())) [] (body:=thgB r) (λi q=>q=(r.2.1.take i).map (·.2.2.2)) rfl (λi q hi hq=>by
    obtain⟨x,hx⟩:=bd_ hi
    have hq2:Sm q.length:=by rw[hq,d1_,c7_];omega
    refine⟨_,?_,q++[x.2.2.2],rfl,?_⟩
    · unfold thgB
      simp only[dlt hi,a4_,ah_ hx,a0_,cg_ hq2,ay_ (show Sm i by omega)]
    · rw[d5_,hx,hq,j3_]
      rfl) (λq hq=>by
    unfold thgB
    simp only[dnl,a2_])
  rw[d8_] at hq
  subst hq
  exact hz
theorem av6 {r:ad_} (h:SmR r):ag_ (prpB r) (0,(([],()),()))=some ((r.2.2.1.map (·.2.1),()),()):=by
  have hth:=h.pr
  obtain⟨z,hz,q,rfl,hq⟩:=at8 r.2.2.1.length (λi (q:List Int)=>((i:Int),((q,()),()))) (λq=>((q,()),())) [] (body:=prpB r) (λi q=>q=(r.2.2.1.take i).map (·.2.1)) rfl (λi q hi hq=>by
    obtain⟨x,hx⟩:=bd_ hi
    have hq2:Sm q.length:=by rw[hq,d1_,c7_];omega
    refine⟨_,?_,q++[x.2.1],rfl,?_⟩
    · unfold prpB
      simp only[dlt hi,a4_,ah_ hx,a0_,cg_ hq2,ay_ (show Sm i by omega)]
    · rw[d5_,hx,hq,j3_]
      rfl) (λq hq=>by
    unfold prpB
    simp only[dnl,a2_])
  rw[d8_] at hq
  subst hq
  exact hz
end
end Go.Proofs.YtdibamopklkilaaGreatDoor.Rx
namespace Go.Proofs.YtdibamopklkilaaGreatDoor.Rx
open Go Pad Rex Go.Proofs Go.Proofs.Tryz Sum
section
set_option maxRecDepth 100000
noncomputable def pbgB (a0:ab_) (s:ai_):(Int×((List Bool)×((List ac_)×Unit)))→Option ((Int×((List Bool)×((List ac_)×Unit)))⊕((List Bool)×((List ac_)×Unit))) :=
 (λ(v3:(Int×((List Bool)×((List ac_)×Unit)))) =>
 (cond (decide (v3.1<(a0.2.2.2.1.length:Int)))
 ((((at? a0.2.2.2.1 v3.1).bind λv4 =>
 ((fg_ a0.1 s v4.2.2.2.1).bind λv5 =>
 (((cond v5.1
 ((bi_ s.2.2 v4.2.1).bind λv6 =>
 (cond v6.1
 ((at? v3.2.1 v3.1).bind λv7 =>
 ((at? v3.2.1 v3.1).bind λv8 =>
 (some ((!v8),()))))
 (some (false,()))))
 (some (false,())))).bind λv9 =>
 (cond v9.1
 ((at? v3.2.1 v3.1).bind λv10 =>
 ((at? v3.2.1 v3.1).bind λv11 =>
 (some ((v3.2.1.set v3.1.toNat true),((bf0 v3.2.2.1 v4.2.2.1),())))))
 (some (v3.2.1,(v3.2.2.1,())))))))).bind λv12 =>
 (some (inl ((w64 (v3.1+1)),(v12.1,(v12.2.1,()))))))
 (some (inr (v3.2.1,(v3.2.2.1,()))))))
noncomputable def pbegX (a0:ab_):Option (aa_×(Int×Unit)) :=
 ((gx_ a0).bind λv0 =>
 (cond (v0.1 != 0)
 (some ((([],([],[])),[]),(v0.1,())))
 ((ii_ a0.1).bind λv1 =>
 (cond (v1.2.1 != 0)
 (some ((([],([],[])),[]),(v1.2.1,())))
 ((mk? (α:=Bool) (a0.2.2.2.1.length:Int) false).bind λv2 =>
 ((ag_ (ρ:=((List Bool)×((List ac_)×Unit))) (pbgB a0 v1.1) (0,(v2,([],())))).bind λv13 =>
 ((push? (α:=Int) [] v1.1.1).bind λv14 =>
 ((push? (α:=Int) [] v1.1.2.1).bind λv15 =>
 ((push? (α:=Int) [] v1.1.2.2).bind λv16 =>
 ((push? (α:=Bool) [] v13.1).bind λv17 =>
 (some (((v14,(v15,v16)),v17),(0,())))))))))))))
theorem ce6:lf_=pbegX:=by kernel_rfl
end
end Go.Proofs.YtdibamopklkilaaGreatDoor.Rx
namespace Go.Proofs.YtdibamopklkilaaGreatDoor.Rx
open Go Pad Rex Sum
section
set_option maxRecDepth 10000
theorem pq_ {r:ad_} (h:SmR r) (ok:OkR r) {s:ai_} (hv:VS r s):Sm s.1.length∧Sm s.2.1.length∧Sm s.2.2.length:=by
  have:=cf_.1 ok.py
  have h1:=hv.l1
  have h2:=hv.l2
  have h3:=hv.l3
  have:=h.th
  have:=h.pr
  refine⟨by show s.1.length≤1000000000;omega,by show s.2.1.length≤1000000000;omega,by show s.2.2.length≤1000000000;omega⟩
theorem gy_ {r:ad_} {s:ai_} (h0:ct_ r=0) (hv:VS r s):mx_ r s=0:=by
  unfold mx_
  rw[h0]
  exact ci8 hv
end
section
theorem lg_ (a b c:Int):bx_ a b c=some (wi a b c,()):=bc5 a b c
theorem nk_ (a b c:Int):bl_ a b c=some (wi a b c,()):=bc5 a b c
def okL (l:ac_):Bool:=wi l.1 1 4&&wi l.2 2 10
structure Lk (l:ac_):Prop where
  w1:1≤l.1
  w2:l.1≤4
  s1:2≤l.2
  s2:l.2≤10
theorem no_ {l:ac_}:okL l=true↔Lk l:=by
  unfold okL
  rw[a1_,cf_,cf_]
  exact⟨λh=>⟨h.1.1,h.1.2,h.2.1,h.2.2⟩,λh=>⟨⟨h.w1,h.w2⟩,h.s1,h.s2⟩⟩
theorem kx_ (l:ac_):ef_ l=some (if okL l then 0 else 10,()):=by
  unfold ef_ okL
  simp only[nk_,a0_]
  cases wi l.1 1 4<;>cases wi l.2 2 10<;>rfl
theorem lh_ (l:ac_):eg_ l=some (if okL l then 0 else 10,()):=by
  unfold eg_ okL
  simp only[lg_,a0_]
  cases wi l.1 1 4<;>cases wi l.2 2 10<;>rfl
def df_ (l:ac_) (c:List Int):Bool:=decide ((c.length:Int)=l.1)&&c.all λn=>wi n 0 (l.2 - 1)
theorem Lk.ws {l:ac_} (h:Lk l):w64 (l.2 - 1)=l.2 - 1:=by have:=h.s1;have:=h.s2;exact ku_ (by omega) (by omega)
theorem Lk.ww {l:ac_} (h:Lk l):w64 (l.1 - 1)=l.1 - 1:=by have:=h.w1;have:=h.w2;exact ku_ (by omega) (by omega)
theorem ma_ {l:ac_} (h:Lk l) (n:Int):cq_ l n=some (wi n 0 (l.2 - 1),()):=by
  unfold cq_
  rw[lg_,h.ws]
  rfl
theorem tx_ {l:ac_} (h:Lk l) (n:Int):bt_ l n=some (wi n 0 (l.1 - 1),()):=by
  unfold bt_
  rw[lg_,h.ww]
  rfl
theorem all_any {α:Type} (l:List α) (q:α→Bool):(!(l.any λx=>!(q x)))=l.all q:=sv_ l q
theorem tb_ {l:ac_} (h:Lk l) (c:List Int):gi_ l c=some (df_ l c,()):=by
  have w2:=h.w2
  unfold gi_ df_
  by_cases he:(c.length:Int)=l.1
  · have hb:((c.length:Int) != l.1)=false:=by simp[he]
    rw[hb,b1_ he,c0_,a2_]
    refine bn_ c (λ_ y=>cond (wi y 0 (l.2 - 1)) none (some (inr (false,()):Unit⊕(Bool×Unit)))) (λi=>((i:Int),())) (r0:=inl ()) (λi y hy => ?_) ?_ ?_
    · have hi:=an_ hy
      simp only[dlt hi,a4_,ah_ hy,a0_,nk_,h.ws,ay_ (show Sm i by unfold Sm;omega)]
      cases wi y 0 (l.2 - 1)<;>rfl
    · simp only[dnl,a2_]
    · rw[jd_ (q:=λy=>wi y 0 (l.2 - 1))]
      cases c.all λy=>wi y 0 (l.2 - 1)<;>rfl
  · have hb:((c.length:Int) != l.1)=true:=by simp[he]
    rw[hb,b9_ he]
    rfl
theorem oc_ {l:ac_} (h:Lk l) (c:List Int):dk_ l c=some (df_ l c,()):=by
  have w2:=h.w2
  unfold dk_ df_
  by_cases he:(c.length:Int)=l.1
  · have hb:((c.length:Int)==l.1)=true:=by simp[he]
    rw[hb,b1_ he,c0_,a4_,oe_ (l:=c) (by unfold Sm;omega) (λn=>!(wi n 0 (l.2 - 1))) (λi y hy=>by
      simp only[dlt (an_ hy),a4_,ah_ hy,a0_,ma_ h]
      cases wi y 0 (l.2 - 1)<;>rfl) (by simp only[dnl,a2_]),a0_,all_any]
  · have hb:((c.length:Int)==l.1)=false:=by simp[he]
    rw[hb,b9_ he]
    rfl
theorem ts_ (l:ac_) (c:List Int):fs_ l c=some (if okL l then (if df_ l c then 0 else 12) else 10,()):=by
  unfold fs_
  rw[kx_,a0_]
  cases h:okL l with
  | true =>
    rw[if_pos rfl,tb_ (no_.1 h)]
    cases df_ l c<;>rfl
  | false=>rfl
theorem ne_ (l:ac_) (c:List Int):ea_ l c=some (if okL l then (if df_ l c then 0 else 12) else 10,()):=by
  unfold ea_ hk_
  rw[lh_,a0_]
  cases h:okL l with
  | true =>
    have hl:=no_.1 h
    have:=oe_ (l:=[c]) (by unfold Sm;simp) (λc=>!(df_ l c)) (body:=λ(v1:(Int×Unit)) =>
      (cond (decide (v1.1<(([c]:List (List Int)).length:Int)))
      ((at? [c] v1.1).bind λv2 =>
      ((dk_ l v2).bind λv3 =>
      (cond (!v3.1)
      (some (inr (inr ((decide (0≤v1.1)),()))))
      (some (inl ((w64 (v1.1+1)),()))))))
      (some (inr (inl ()))))) (λi y hy=>by
      simp only[dlt (an_ hy),a4_,ah_ hy,a0_,oc_ hl]
      cases df_ l y<;>rfl) (by simp only[dnl,a2_])
    rw[this]
    simp only[p2_,List.any_nil,i3_]
    cases df_ l c<;>rfl
  | false=>rfl
theorem bk0 {α:Type} [BEq α] [LawfulBEq α] [DecidableEq α] {a b:List α} (ha:Sm a.length) (he:a.length=b.length) {body:(Int×Unit)→Option ((Int×Unit)⊕(Unit⊕(Bool×Unit)))} {K:(Unit⊕(Bool×Unit))→Option (Bool×Unit)}
    (h:∀ (i:Nat) x y,a[i]?=some x→b[i]?=some y→body ((i:Int),())=some (cond (x != y) (.inr (.inr (false,()))) (.inl (w64 ((i:Int)+1),())))) (e:body ((a.length:Int),())=some (.inr (.inl ()))) (k1:K (.inl ())=some (true,())) (k2:K (.inr (false,()))=some (false,())) :
    (ag_ body (0,())).bind K=some (decide (a=b),()):=by
  refine bn_ (a.zip b) (λ_ p=>cond (p.1==p.2) none (some (inr (false,()):Unit⊕(Bool×Unit)))) (λi=>((i:Int),())) (r0:=inl ()) (λi p hp => ?_) ?_ ?_
  · obtain⟨h1,h2⟩:=h0_.1 hp
    rw[h i p.1 p.2 h1 h2,ay_ (show Sm i by have:=an_ h1;unfold Sm at *; omega)]
    cases hq:p.1==p.2<;>simp[bne,hq]
  · rw[m9_,← he,Nat.min_self]
    exact e
  · rw[jd_ (q:=λp:α×α=>p.1==p.2)]
    have hk:((a.zip b).all λp=>p.1==p.2)=decide (a=b):=by
      refine j5_.2 ?_
      rw[e7_,g3_]
      constructor
      · intro hz
        refine f3_ λi => ?_
        by_cases hi:i<a.length
        · obtain⟨x,hx⟩:=bd_ hi
          obtain⟨y,hy⟩:=bd_ (l:=b) (i:=i) (by omega)
          have:=hz (x,y) (b4_ (h0_.2 ⟨hx,hy⟩))
          rw[hx,hy,show x=y from eq_of_beq this]
        · rw[b7_ (by omega),b7_ (by omega)]
      · rintro rfl p hp
        obtain⟨i,hi⟩:=f7_ hp
        obtain⟨h1,h2⟩:=h0_.1 hi
        rw[h1] at h2
        exact f5_.2 (a6_ h2)
    rw[hk]
    cases decide (a=b)
    · exact k2
    · exact k1
theorem xn_ {a b:List Int} (ha:Sm a.length):gn_ a b=some (decide (a=b),()):=by
  unfold gn_
  by_cases he:a.length=b.length
  · have hb:((a.length:Int) != (b.length:Int))=false:=by simp[he]
    rw[hb,a2_]
    refine bk0 ha he (λi x y hx hy => ?_) ?_ rfl rfl
    · simp only[dlt (an_ hx),a4_,ah_ hx,ah_ hy,a0_]
      cases x != y<;>rfl
    · simp only[dnl,a2_]
  · have hb:((a.length:Int) != (b.length:Int))=true:=by simp;omega
    rw[hb,b9_ (λe=>he (by rw[e]))]
    rfl
def dg_ (l:ac_) (c:ak_):Bool :=
  if c.1=1 then wi c.2.1 0 (l.1 - 1)&&(wi c.2.2.2.1 0 (l.2 - 1)&&(c.2.2.1==0&&(c.2.2.2.2.1==0&&decide (c.2.2.2.2.2.1=[]))))
  else if c.1=2 then wi c.2.1 0 (l.1 - 1)&&(wi c.2.2.1 0 (l.1 - 1)&&(decide (c.2.1≤c.2.2.1)&&(wi c.2.2.2.1 0 100&&(c.2.2.2.2.1==0&&decide (c.2.2.2.2.2.1=[])))))
  else if c.1=3∨c.1=4 then wi c.2.1 0 (l.1 - 1)&&(wi c.2.2.1 0 (l.1 - 1)&&(c.2.1 != c.2.2.1&&(c.2.2.2.1==0&&(c.2.2.2.2.1==0&&decide (c.2.2.2.2.2.1=[])))))
  else if c.1=5 then wi c.2.2.2.1 0 (l.2 - 1)&&(wi c.2.2.2.2.1 0 l.1&&(c.2.1==0&&(c.2.2.1==0&&decide (c.2.2.2.2.2.1=[]))))
  else if c.1=6 then df_ l c.2.2.2.2.2.1&&(wi c.2.2.2.1 0 l.1&&(wi c.2.2.2.2.1 0 l.1&&(c.2.1==0&&c.2.2.1==0)))
  else if c.1=7 then wi c.2.1 0 (l.1 - 1)&&(wi c.2.2.2.1 2 10&&(wi c.2.2.2.2.1 0 (c.2.2.2.1 - 1)&&(c.2.2.1==0&&decide (c.2.2.2.2.2.1=[]))))
  else false
theorem len0 (l:List Int):((l.length:Int)==((([]:List Int)).length:Int))=decide (l=[]):=by cases l<;>simp<;>omega
theorem tc_ {l:ac_} (h:Lk l) {c:ak_} (hs:Sm c.2.2.2.2.2.1.length):gj_ l c=some (dg_ l c,()):=by
  unfold gj_ dg_ iy_
  simp only[nk_,tb_ h,xn_ hs,a0_,h.ww,h.ws,d4_,a4_]
  by_cases h1:c.1=1
  · simp only[h1]
    cases wi c.2.1 0 (l.1 - 1)<;>cases wi c.2.2.2.1 0 (l.2 - 1)<;>simp only[a4_,a2_,a0_,d4_,c0_,e3_,Int.reduceBEq,k7_,h7_,Int.reduceEq,n3_,n2_,m7_]<;>cases c.2.2.1==0<;>cases c.2.2.2.2.1==0<;>rfl
  by_cases h2:c.1=2
  · simp only[h2]
    cases wi c.2.1 0 (l.1 - 1)<;>cases wi c.2.2.1 0 (l.1 - 1)<;>cases decide (c.2.1≤c.2.2.1)<;>cases wi c.2.2.2.1 0 100<;>simp only[a4_,a2_,a0_,d4_,c0_,e3_,Int.reduceBEq,k7_,h7_,Int.reduceEq,n3_,n2_,m7_]<;>cases c.2.2.2.2.1==0<;>rfl
  by_cases h3:c.1=3
  · simp only[h3]
    cases wi c.2.1 0 (l.1 - 1)<;>cases wi c.2.2.1 0 (l.1 - 1)<;>cases c.2.1 != c.2.2.1<;>simp only[a4_,a2_,a0_,d4_,c0_,e3_,Int.reduceBEq,k7_,h7_,Int.reduceEq,n3_,n2_,m7_]<;>cases c.2.2.2.1==0<;>cases c.2.2.2.2.1==0<;>rfl
  by_cases h4:c.1=4
  · simp only[h4]
    cases wi c.2.1 0 (l.1 - 1)<;>cases wi c.2.2.1 0 (l.1 - 1)<;>cases c.2.1 != c.2.2.1<;>simp only[a4_,a2_,a0_,d4_,c0_,e3_,Int.reduceBEq,k7_,h7_,Int.reduceEq,n3_,n2_,m7_]<;>cases c.2.2.2.1==0<;>cases c.2.2.2.2.1==0<;>rfl
  by_cases h5:c.1=5
  · simp only[h5]
    cases wi c.2.2.2.1 0 (l.2 - 1)<;>cases wi c.2.2.2.2.1 0 l.1<;>simp only[a4_,a2_,a0_,d4_,c0_,e3_,Int.reduceBEq,k7_,h7_,Int.reduceEq,n3_,n2_,m7_]<;>cases c.2.1==0<;>cases c.2.2.1==0<;>rfl
  by_cases h6:c.1=6
  · simp only[h6]
    cases df_ l c.2.2.2.2.2.1<;>cases wi c.2.2.2.1 0 l.1<;>cases wi c.2.2.2.2.1 0 l.1<;>simp only[a4_,a2_,a0_,d4_,c0_,e3_,Int.reduceBEq,k7_,h7_,Int.reduceEq,n3_,n2_,m7_]<;>cases c.2.1==0<;>cases c.2.2.1==0<;>simp
  by_cases h7:c.1=7
  · simp only[h7]
    cases wi c.2.1 0 (l.1 - 1)
    · rfl
    cases hn:wi c.2.2.2.1 2 10
    · rfl
    have:=cf_.1 hn
    rw[ku_ (n:=c.2.2.2.1 - 1) (by omega) (by omega)]
    cases wi c.2.2.2.2.1 0 (c.2.2.2.1 - 1)<;>simp only[a4_,a2_,a0_,d4_,c0_,e3_,Int.reduceBEq,k7_,h7_,Int.reduceEq,n3_,n2_,m7_]<;>cases c.2.2.1==0<;>rfl
  have b1:(c.1==1)=false:=by simp[h1]
  have b2:(c.1==2)=false:=by simp[h2]
  have b3:(c.1==3)=false:=by simp[h3]
  have b4:(c.1==4)=false:=by simp[h4]
  have b5:(c.1==5)=false:=by simp[h5]
  have b6:(c.1==6)=false:=by simp[h6]
  have b7:(c.1==7)=false:=by simp[h7]
  simp only[b1,b2,b3,b4,b5,b6,b7,h1,h2,h3,h4,h5,h6,h7,a2_,a0_,h7_,m7_]
theorem od_ {l:ac_} (h:Lk l) (c:ak_):dl_ l c=some (dg_ l c,()):=by
  unfold dl_ dg_
  simp only[lg_,tx_ h,ma_ h,oc_ h,a0_]
  by_cases h1:c.1=1
  · simp only[h1]
    cases wi c.2.1 0 (l.1 - 1)<;>cases wi c.2.2.2.1 0 (l.2 - 1)<;>simp only[a4_,a2_,a0_,d4_,c0_,e3_,Int.reduceBEq,k7_,h7_,Int.reduceEq,n3_,n2_,m7_,len0]<;>cases c.2.2.1==0<;>cases c.2.2.2.2.1==0<;>rfl
  by_cases h2:c.1=2
  · simp only[h2]
    cases wi c.2.1 0 (l.1 - 1)<;>cases wi c.2.2.1 0 (l.1 - 1)<;>cases decide (c.2.1≤c.2.2.1)<;>cases wi c.2.2.2.1 0 100<;>simp only[a4_,a2_,a0_,d4_,c0_,e3_,Int.reduceBEq,k7_,h7_,Int.reduceEq,n3_,n2_,m7_,len0]<;>cases c.2.2.2.2.1==0<;>rfl
  by_cases h3:c.1=3
  · simp only[h3]
    cases wi c.2.1 0 (l.1 - 1)<;>cases wi c.2.2.1 0 (l.1 - 1)<;>cases c.2.1 != c.2.2.1<;>simp only[a4_,a2_,a0_,d4_,c0_,e3_,Int.reduceBEq,k7_,h7_,Int.reduceEq,n3_,n2_,m7_,len0]<;>cases c.2.2.2.1==0<;>cases c.2.2.2.2.1==0<;>rfl
  by_cases h4:c.1=4
  · simp only[h4]
    cases wi c.2.1 0 (l.1 - 1)<;>cases wi c.2.2.1 0 (l.1 - 1)<;>cases c.2.1 != c.2.2.1<;>simp only[a4_,a2_,a0_,d4_,c0_,e3_,Int.reduceBEq,k7_,h7_,Int.reduceEq,n3_,n2_,m7_,len0]<;>cases c.2.2.2.1==0<;>cases c.2.2.2.2.1==0<;>rfl
  by_cases h5:c.1=5
  · simp only[h5]
    cases wi c.2.2.2.1 0 (l.2 - 1)<;>cases wi c.2.2.2.2.1 0 l.1<;>simp only[a4_,a2_,a0_,d4_,c0_,e3_,Int.reduceBEq,k7_,h7_,Int.reduceEq,n3_,n2_,m7_,len0]<;>cases c.2.1==0<;>cases c.2.2.1==0<;>rfl
  by_cases h6:c.1=6
  · simp only[h6]
    cases df_ l c.2.2.2.2.2.1<;>cases wi c.2.2.2.1 0 l.1<;>cases wi c.2.2.2.2.1 0 l.1<;>simp only[a4_,a2_,a0_,d4_,c0_,e3_,Int.reduceBEq,k7_,h7_,Int.reduceEq,n3_,n2_,m7_,len0]<;>cases c.2.1==0<;>cases c.2.2.1==0<;>rfl
  by_cases h7:c.1=7
  · simp only[h7]
    cases wi c.2.1 0 (l.1 - 1)
    · rfl
    cases hn:wi c.2.2.2.1 2 10
    · rfl
    have:=cf_.1 hn
    rw[ku_ (n:=c.2.2.2.1 - 1) (by omega) (by omega)]
    cases wi c.2.2.2.2.1 0 (c.2.2.2.1 - 1)<;>simp only[a4_,a2_,a0_,d4_,c0_,e3_,Int.reduceBEq,k7_,h7_,Int.reduceEq,n3_,n2_,m7_,len0]<;>cases c.2.2.1==0<;>rfl
  have b1:(c.1==1)=false:=by simp[h1]
  have b2:(c.1==2)=false:=by simp[h2]
  have b3:(c.1==3)=false:=by simp[h3]
  have b4:(c.1==4)=false:=by simp[h4]
  have b5:(c.1==5)=false:=by simp[h5]
  have b6:(c.1==6)=false:=by simp[h6]
  have b7:(c.1==7)=false:=by simp[h7]
  simp only[b1,b2,b3,b4,b5,b6,b7,h1,h2,h3,h4,h5,h6,h7,a2_,a0_,h7_,m7_]
theorem tt_ {l:ac_} (hl:Lk l) {c:ak_} (hs:Sm c.2.2.2.2.2.1.length):ft_ l c=some (cond (dg_ l c) 0 11,()):=by
  unfold ft_
  rw[kx_,no_.2 hl,if_pos rfl,a0_,tc_ hl hs]
  cases dg_ l c<;>rfl
theorem ty_ {l:ac_} (hl:Lk l) (c:ak_):fw_ l c=some (cond (dg_ l c) 0 11,()):=by
  unfold fw_
  rw[lh_,no_.2 hl,if_pos rfl,a0_,od_ hl]
  cases dg_ l c<;>rfl
end
end Go.Proofs.YtdibamopklkilaaGreatDoor.Rx
