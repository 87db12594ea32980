/- A part of the proof: what the functions of the program compute, shown over the model. -/
import Derived.Test.YtdibamopklkilaaGreatDoorPart3
set_option linter.unusedSectionVars false
set_option linter.unusedVariables false
set_option linter.unusedSimpArgs false
namespace Go.Proofs.YtdibamopklkilaaGreatDoor.Rx
open Go Pad Rex Go.Proofs Go.Proofs.Tryz Sum
section
set_option maxRecDepth 100000
set_option maxHeartbeats 400000
def ivs (l:List Int):List Value:=l.map λn=>.int .i64 n
def aq1 (m n:Nat) (a:Int):List Int:=List.replicate n a++List.replicate (m - n) 0
theorem az9 {P:Program} {n d:Nat} {ro:Option Nat} {f:Pad.Fr} {w:World} {K:Pad.Fr→World→Prop} {ty T E B:TypeId} {pos:String} {af:Array Edge} {gd:Option (Nat×Bool)} {x y:Operand} {S:PH} {O:List HP} {g o dl dc sl sc:Nat} {ad:Addr} {cs:Array Value} {ys:List Value}
    (hd:Nat.blt d n=true) (hT:P.underlying T=some (.slice E)) (hs:(P.info? E).map (·.size)=some 1) (hx:Pad.ev f x = .slice (some ⟨g,o,none⟩) dl dc) (hy:Pad.ev f y = .slice (some ad) sl sc) (hI:Inv w S (lf_ g B cs::O))
    (hn:ys.length=Nat.min sl dl) (hsrc:∀ j v,ys[j]?=some v→w.cell? (ad.add j)=some v) (hfit:o+ys.length≤cs.size) (h1:∀ v ∈ ys,v.oneCell'=true)
    (k:∀ w',Inv w' S (lf_ g B (cs.toList.take o++ys++cs.toList.drop (o+ys.length)).toArray::O)→K (upd f d (.int .i64 (ys.length:Nat))) w') :
    OP P n ro ⟨some d,.call ⟨.builtin .copy,#[x,y],#[T,T]⟩,ty,pos,af,gd⟩ f w K:=by
  have h:=run_copy_row (P:=P) w T T ty E g o dl dc ad sl sc cs B ys hT hs hI.blk hn hsrc hfit h1
  exact ek_ hd (by simp[execOp,resolve,invoke,builtin,hx,hy,h,Result.andThen];rfl) (k _ hI.setRow)
theorem ck0 {P:Program} {n d:Nat} {ro:Option Nat} {f:Pad.Fr} {w:World} {K:Pad.Fr→World→Prop} {ty T E:TypeId} {pos:String} {af:Array Edge} {gd:Option (Nat×Bool)} {x y:Operand} {dl dc sl sc:Nat} {ap ad:Option Addr}
    (hd:Nat.blt d n=true) (hT:P.underlying T=some (.slice E)) (hs:(P.info? E).map (·.size)=some 1) (hx:Pad.ev f x = .slice ap dl dc) (hy:Pad.ev f y = .slice ad sl sc)
    (hn:Nat.min sl dl=0) (k:K (upd f d (.int .i64 0)) w) :
    OP P n ro ⟨some d,.call ⟨.builtin .copy,#[x,y],#[T,T]⟩,ty,pos,af,gd⟩ f w K:=by
  have h:=run_copy_none (P:=P) w T T ty E ap ad dl dc sl sc hT hs hn
  exact ek_ hd (by simp[execOp,resolve,invoke,builtin,hx,hy,h,Result.andThen];rfl) k
theorem op_make {n d:Nat} {ro:Option Nat} {f:Pad.Fr} {w:World} {K:Pad.Fr→World→Prop} {ty:TypeId} {pos:String} {af:Array Edge} {gd:Option (Nat×Bool)} {x y:Operand} {S:PH} {O:List HP} {m:Nat}
    (hd:Nat.blt d n=true) (hx:Pad.ev f x = .int .i64 m) (hy:Pad.ev f y = .int .i64 m) (hm:m≤2147483648) (hI:Inv w S O)
    (k:∀ g w',Inv w' S (lf_ g 3 (ivs (List.replicate m 0)).toArray::O)→K (upd f d (.slice (some ⟨g,0,none⟩) m m)) w') :
    OP prog n ro ⟨some d,.makeSlice 45 x y,ty,pos,af,gd⟩ f w K:=by
  obtain⟨bytes,zv,⟨ei,hE⟩,hb,hr⟩:=lg_ (show rc_ prog 3 .int=some (0:Int) by kernel_rfl)
  have hzv:zv = .int .i64 0:=mk_ (hr S)
  have hbb:(ei.bytes:Int) * (m:Int)≤281474976710656:=by
    have h1:(ei.bytes:Int)≤65536:=by rw[hE.hb];omega
    have h2:(ei.bytes:Int) * (m:Int)≤65536 * 2147483648:=Int.mul_le_mul h1 (by omega) (by omega) (by omega)
    omega
  have h:=run_make (P:=prog) w 45 3 ei zv underlying45 hE.hi hE.hz .i64 .i64 m m (by omega) (n5_ _) hbb (by omega)
  have hsz:ei.size=1:=hE.hs
  have hc:madeCells zv.cells ((m:Int).toNat * ei.size)=(ivs (List.replicate m 0)).toArray:=by
    have h2:=oj_ zv.cells m
    have h3:zv.cells.size=1:=by rw[hzv];rfl
    rw[h3] at h2
    rw[hsz,c3_]
    apply Array.toList_inj.1
    rw[h2,hzv]
    simp[Value.cells,ivs]
  rw[hc] at h
  exact ek_ hd (by rw[c3_] at h;simp[execOp,Sem.run_bind,hx,hy,h,Result.andThen]) (k _ _ (hI.alloc 3 _))
theorem cb_155:eu_ prog 155:=⟨_,func155,rfl,by kernel_rfl⟩
theorem cf6 {m:Nat} (h:m≤2147483648):wu64 (m:Int)=(m:Int):=by
  unfold wu64 IntKind.wrap
  simp[IntKind.signed,IntKind.bits]
  omega
theorem in3:(prog.info? 3).map (·.size)=some 1:=by kernel_rfl
theorem bw1 {m n q:Nat} {a:Int} (h:n+q≤m):(ivs (aq1 m n a)).take n++ivs (List.replicate q a)++(ivs (aq1 m n a)).drop (n+q)=ivs (aq1 m (n+q) a):=by
  unfold ivs aq1
  rw[← List.map_take,← List.map_drop,← j0_,← j0_]
  congr 1
  have h1:(List.replicate n a++List.replicate (m - n) (0:Int)).take n=List.replicate n a:=by
    rw[List.take_append_of_le_length (by simp),g9_ (by simp)]
  have h2:(List.replicate n a++List.replicate (m - n) (0:Int)).drop (n+q)=List.replicate (m - (n+q)) 0:=by
    rw[List.drop_append,List.drop_of_length_le (by simp)]
    simp
    omega
  rw[h1,h2,List.replicate_append_replicate]
theorem ivs_len (l:List Int):(ivs l).length=l.length:=by simp[ivs]
theorem ci0 {m n:Nat} {a:Int} (h:n≤m):(aq1 m n a).length=m:=by simp[aq1];omega
theorem rowR_at {m n j:Nat} {a:Int} (h:j<n):(ivs (aq1 m n a))[j]?=some (.int .i64 a):=by
  unfold ivs aq1
  rw[d6_,b2_ (by simpa using h),j9_,if_pos h]
  rfl
theorem ivs_one {l:List Int}:∀ v ∈ ivs l,v.oneCell'=true:=by
  intro v hv
  obtain⟨n,_,rfl⟩:=d8_.1 hv
  rfl
theorem sl_l {f:Pad.Fr} {w:World} {d m n g:Nat} {x y:Operand} {ty:TypeId} {pos:String} {af:Array Edge} {gd:Option (Nat×Bool)} (hx:Pad.ev f x = .slice (some ⟨g,0,none⟩) m m) (hy:Pad.ev f y = .int .i64 n) (h:n<m) :
    (execOp (Pad.ev f) ⟨some d,.slice 45 x (some y) none none,ty,pos,af,gd⟩).run prog w = .ok (.value (.slice (some ⟨g,n,none⟩) (m - n) (m - n))) w:=by
  have:=cr7 (P:=prog) (w:=w) (T:=45) (E:=3) (a:=some ⟨g,0,none⟩) (len:=m) (cap:=m) (lo:=(n:Int)) underlying45 sh3' (by omega) (by omega)
  have hne:¬ m=n:=by omega
  have e:(⟨g,0,none⟩:Addr).add (n * 1)=⟨g,n,none⟩:=by rw[Nat.mul_one,gl_,b0_]
  simp only[sliced,hne,i3_,g6_,c3_,e] at this
  simp[execOp,hx,hy,this,Result.andThen]
theorem sl_h {f:Pad.Fr} {w:World} {d m n g:Nat} {x y:Operand} {ty:TypeId} {pos:String} {af:Array Edge} {gd:Option (Nat×Bool)} (hx:Pad.ev f x = .slice (some ⟨g,0,none⟩) m m) (hy:Pad.ev f y = .int .i64 n) (h:n<m) :
    (execOp (Pad.ev f) ⟨some d,.slice 45 x none (some y) none,ty,pos,af,gd⟩).run prog w = .ok (.value (.slice (some ⟨g,0,none⟩) n m)) w:=by
  have:=cr8 (P:=prog) (w:=w) (T:=45) (E:=3) (a:=some ⟨g,0,none⟩) (len:=m) (cap:=m) (hi:=(n:Int)) underlying45 sh3' (by omega) (by omega)
  have hne:¬ m=0:=by omega
  simp[sliced,hne,Addr.add] at this
  simp[execOp,hx,hy,this,Result.andThen]
theorem op_uI {n d:Nat} {ro:Option Nat} {f:Pad.Fr} {w:World} {K:Pad.Fr→World→Prop} {ty:TypeId} {pos:String} {af:Array Edge} {gd:Option (Nat×Bool)} {x:Operand} {m:Nat} (hd:Nat.blt d n=true) (hx:Pad.ev f x = .int .u64 (m:Int)) (hm:m≤2147483648)
    (k:K (upd f d (.int .i64 (m:Int))) w):OP prog n ro ⟨some d,.convert 221 3 x,ty,pos,af,gd⟩ f w K:=by
  have h64:IntKind.i64.wrap (m:Int)=m:=by rw[IntKind.wrap_i64];omega
  exact ek_ hd (by simp[execOp,hx,convert,run_underlying underlying221,run_underlying underlying3,Conv.intToInt,h64]) k
theorem ay6 {S:PH}:∀ (l:List Int),@RepL Int Ty.int.enc S (ivs l) l
  | []=>rfl
  | a::l=>⟨[.int .i64 a],ivs l,rfl,rfl,ay6 l⟩
def RI (m g:Nat) (a:Int) (S:PH) (Fr:List HP) (k:Nat) (f:Pad.Fr) (w:World):Prop :=
  k≤m∧(0<m→0<k)∧∃ S',S.Le S'∧Inv w S' (lf_ g 3 (ivs (aq1 m k a)).toArray::Fr)∧f 7 = .slice (some ⟨g,0,none⟩) m m∧f 8 = .int .i64 (k:Int)∧f.ds=[]
theorem ci4 {w:World} {S:PH} {Fr:List HP} {v:Value} {m:Nat} {a:Int} (hI:Inv w S Fr) (hr:RVt (.list .int) S v [a]) (hm:m≤2147483648) :
    Calls prog 97 [v,.int .i64 (m:Int)].toArray w λe w'=>∃ u S',e = .returned u∧S.Le S'∧Inv w' S' (@Row Int Ty.int.enc 3 u (List.replicate m a)::Fr):=by
  obtain⟨a0,cap0,hv2,_,hmax,hnil,hrow⟩:=@ij_ Int Ty.int.enc S v [a] hr
  obtain⟨ad,rfl⟩:∃ ad,a0=some ad:=by
    cases a0 with
    | none=>have:=(hnil rfl).1;simp at this
    | some ad=>exact⟨ad,rfl⟩
  refine qw_ (n:=48) func97 rfl rfl rfl ?_
  refine bp_ (bf_ (wa_ (v:=sn) rfl rfl (ec_ ?_)))
  refine bp_ (bp_ (bf_ (wm_ (v:=.int .i64 m) rfl rfl (wo_ (zg_ (a:=(m:Int)) (b:=0) rfl rfl rfl (ec_ ?_))))))
  refine kl_ rfl (b1_ (by omega)) (mv_ ?_)
  refine bp_ (bf_ (wm_ (v:=v) rfl rfl (wo_ (az8 rfl underlying45 hv2 ?_))))
  refine wo_ (cs3 (a:=1) rfl rfl underlying3 underlying221 (wm_ (v:=.int .i64 m) rfl rfl (wo_ (cs3 (a:=(m:Int)) rfl rfl underlying3 underlying221 ?_))))
  rw[cf6 hm,show wu64 1=((1:Nat):Int) from rfl]
  refine wo_ (az7 (vs:=[.int .u64 ((1:Nat):Int),.int .u64 (m:Int)]) rfl cb_155 rfl (args2 rfl rfl) (sh_Mul 1 m (by omega) (by omega) w) λe w2 he => ?_)
  obtain⟨rfl,rfl⟩:=he
  rw[show (1 * m / 18446744073709551616:Nat)=0 by omega,show (1 * m % 18446744073709551616:Nat)=m by omega]
  refine⟨_,rfl,?_⟩
  refine wm_ (v:=.tuple #[.int .u64 ((0:Nat):Int),.int .u64 (m:Int)]) rfl rfl (wo_ (zh_ (v:=.int .u64 ((0:Nat):Int)) rfl rfl rfl (wo_ (zh_ (v:=.int .u64 (m:Int)) rfl rfl rfl (wa_ (v:=.int .u64 ((0:Nat):Int)) rfl rfl (wa_ (v:=.int .u64 (m:Int)) rfl rfl (ec_ ?_)))))))
  refine bp_ (bp_ (bf_ (wm_ (v:=.int .u64 ((0:Nat):Int)) rfl rfl (wo_ (cs4 (a:=((0:Nat):Int)) (b:=0) rfl rfl rfl (wm_ (v:=.bool false) rfl rfl (wk_ rfl rfl rfl (nb_ (v:=.int .u64 (m:Int)) rfl rfl (wk_ rfl rfl rfl (cs4 (a:=(m:Int)) (b:=9223372036854775807) rfl rfl rfl ?_))))))))))
  have hdf:decide ((9223372036854775807:Int)<(m:Int))=false:=b1_ (by omega)
  rw[hdf]
  refine wo_ (br8 (b:=.bool false) rfl rfl rfl rfl (ec_ (kl_ rfl rfl (mv_ ?_))))
  refine bp_ (bf_ (wm_ (v:=.int .u64 (m:Int)) rfl rfl (wo_ (op_uI (m:=m) rfl rfl hm ?_))))
  refine wo_ (op_make (m:=m) rfl rfl rfl hm hI λg w3 I3=>wa_ (v:=.slice (some ⟨g,0,none⟩) m m) rfl rfl (ec_ ?_))
  have hcell:w3.cell? ad=some (.int .i64 a):=by
    obtain⟨es,h1,h2⟩:=hrow ad rfl 0 a rfl
    have h1:es=[.int .i64 a]:=h1
    have h3:=PH.cell_in I3.in_ (h2 0 (.int .i64 a) (by rw[h1];rfl))
    simpa [Addr.add] using h3
  have hl3:(ivs (List.replicate m (0:Int))).length=m:=by simp[ivs]
  refine bp_ (aq4 (λf w'=>∃ k,RI m g a S Fr k f w') ?_ ?_)
  · refine bf_ (wm_ (v:=.slice (some ⟨g,0,none⟩) m m) rfl rfl (wm_ (v:=v) rfl rfl ?_))
    by_cases h0:m=0
    · subst h0
      refine wo_ (ck0 (dl:=0) (dc:=0) (sl:=1) (sc:=cap0) rfl underlying45 in3 rfl hv2 rfl (wa_ (v:=.int .i64 0) rfl rfl (ec_ ?_)))
      exact⟨0,c4_ _,λh=>h,S,lr,I3,rfl,rfl,rfl⟩
    · refine wo_ (az9 (g:=g) (o:=0) (dl:=m) (dc:=m) (sl:=1) (sc:=cap0) (ad:=ad) (ys:=[.int .i64 a]) rfl underlying45 in3 rfl hv2 I3 ?_ ?_ ?_ ?_ λw4 I4=>wa_ (v:=.int .i64 1) rfl rfl (ec_ ?_))
      · show 1=Nat.min 1 m
        exact (q6_ (by omega)).symm
      · intro j u hj
        cases j with
        | zero =>
          obtain rfl:=a5_ hj
          simpa [Addr.add] using hcell
        | succ j=>simp at hj
      · simp[hl3]
        omega
      · intro u hu
        simp at hu
        subst hu
        rfl
      · refine⟨1,by omega,λ_=>by omega,S,lr,?_,rfl,rfl,rfl⟩
        have:=bw1 (m:=m) (n:=0) (q:=1) (a:=a) (by omega)
        have e0:aq1 m 0 a=List.replicate m 0:=by simp[aq1]
        rw[e0] at this
        rw[← this]
        exact I4
  · rintro f w4 ⟨k0,hk0⟩
    refine bp_ (gp_ (vq_ (I:=λk f w'=>RI m g a S Fr k f w') (λk=>m - k) k0 hk0 ?_))
    rintro k f w5 ⟨r1,r2,S5,le5,r3,r4,r5,r6⟩
    refine bp_ (bp_ (bf_ (wm_ rfl r5 (wm_ rfl r4 (wo_ (az8 rfl underlying45 rfl (wo_ (zg_ rfl rfl rfl (ec_ ?_)))))))))
    by_cases hkm:k<m
    · refine ns_ rfl (len_t hkm) (mv_ ?_)
      refine gp_ (wp_draw (sps:=[spV 38 [] 0 (.int .i64 k),spV 39 [] 1 (.slice (some ⟨g,0,none⟩) m m),spV 40 [] 2 (.int .i64 k),spV 41 [1,2] 3 (.slice (some ⟨g,k,none⟩) (m - k) (m - k)),spV 42 [] 4 (.slice (some ⟨g,0,none⟩) m m),spV 43 [] 5 (.int .i64 k),
        spV 44 [4,5] 6 (.slice (some ⟨g,0,none⟩) k m),⟨some 45,[1,2,3,4,5,6],[7],λvs _=>fr0 vs 0 = .int .i64 (Nat.min k (m - k):Nat),[],[0],[1],λ_ h=>h⟩,spV 46 [0,1,2,3,4,5,6,7] 8 (.int .i64 ((k+Nat.min k (m - k):Nat):Int)),spV 8 (lrg 9) 9 (.int .i64 ((k+Nat.min k (m - k):Nat):Int))])
        (tks:=[⟨none,some 7,[],λ_=>lf_ g 3 (ivs (aq1 m k a)).toArray⟩,⟨some 7,none,[],λ_=>lf_ g 3 (ivs (aq1 m (k+Nat.min k (m - k)) a)).toArray⟩]) (O:=Fr) rfl (by kernel_rfl) r3
        ⟨ob_ rfl λl A K I=>nb_ rfl ((K 8 (wy_ rfl)).trans r5) (fo I),ob_ rfl λl A K I=>nb_ rfl ((K 7 (wy_ rfl)).trans r4) (fo I),ob_ rfl λl A K I=>nb_ rfl ((K 8 (wy_ rfl)).trans r5) (fo I),
          ob_ rfl λl A K I=>ek_ rfl (sl_l (A.v 0 rfl) (A.v 1 rfl) hkm) (fo I),ob_ rfl λl A K I=>nb_ rfl ((K 7 (wy_ rfl)).trans r4) (fo I),ob_ rfl λl A K I=>nb_ rfl ((K 8 (wy_ rfl)).trans r5) (fo I),
          ob_ rfl λl A K I=>ek_ rfl (sl_h (A.v 0 rfl) (A.v 1 rfl) hkm) (fo I),?_,?_,ob_ rfl λl A K I=>oa_ rfl (A.v 8 rfl) (fo I),trivial⟩ ?_)
      · intro vs f w_ U X le A K I
        have hq:Nat.min k (m - k)≤k∧k+Nat.min k (m - k)≤m:=⟨Nat.min_le_left _ _,by have:Nat.min k (m - k)≤m - k:=n3_ _ _;omega⟩
        refine pl_ rfl (az9 (g:=g) (o:=k) (dl:=m - k) (dc:=m - k) (sl:=k) (sc:=m) (ad:=⟨g,0,none⟩) (ys:=ivs (List.replicate (Nat.min k (m - k)) a)) rfl underlying45 in3 (A.v 2 rfl) (A.v 5 rfl) I (by simp[ivs]) ?_ ?_ ivs_one λw6 I6 => ?_)
        · intro j u hj
          have hj2:j<Nat.min k (m - k):=by
            have:=(a3_.1 hj).1
            simpa [ivs] using this
          have e:u = .int .i64 a:=by
            unfold ivs at hj
            rw[d6_,j9_,if_pos hj2] at hj
            exact (a5_ hj).symm
          rw[gl_,b0_,I.cell,e]
          have:=rowR_at (m:=m) (n:=k) (j:=j) (a:=a) (by omega)
          simpa using this
        · have:(ivs (aq1 m k a)).toArray.size=m:=by simp[ivs_len,ci0 r1]
          rw[this]
          simpa [ivs] using hq.2
        · have el:(ivs (List.replicate (Nat.min k (m - k)) a)).length=Nat.min k (m - k):=by simp[ivs]
          have e:=bw1 (m:=m) (n:=k) (q:=Nat.min k (m - k)) (a:=a) hq.2
          rw[el] at I6
          refine⟨_,U,rfl,lr,by rw[el];rfl,?_⟩
          show Inv w6 U (lf_ g 3 (ivs (aq1 m (k+Nat.min k (m - k)) a)).toArray::_)
          rw[← e]
          exact I6
      · intro vs f w_ U X le A K I
        have hq:k+Nat.min k (m - k)≤m:=by
          have:Nat.min k (m - k)≤m - k:=n3_ _ _
          omega
        have e:w64 ((k:Int)+(Nat.min k (m - k):Nat))=((k+Nat.min k (m - k):Nat):Int):=by
          rw[lh_ (by omega) (by omega)]
          rfl
        refine pl_ rfl (bs0 rfl (A.v 0 rfl) (A.v 7 rfl) ?_)
        rw[e]
        exact fo I
      · intro vs f6 w6 S6 ds6 le6 hF hK hI6
        have hq:0<Nat.min k (m - k)∧k+Nat.min k (m - k)≤m:=by
          have h1:Nat.min k (m - k)≤m - k:=n3_ _ _
          refine⟨Nat.lt_min.2 ⟨r2 (by omega),by omega⟩,by omega⟩
        have e8:f6 8 = .int .i64 ((k+Nat.min k (m - k):Nat):Int):=hF.v 9 rfl
        have e7:f6 7 = .slice (some ⟨g,0,none⟩) m m:=(hK 7 (cm1 rfl)).trans r4
        exact⟨k+Nat.min k (m - k),by omega,hq.2,λ_=>by omega,S6,le5.trans le6,hI6,e7,e8,ds6.trans r6⟩
    · refine kl_ rfl (b1_ (by omega)) (uw_ ?_)
      obtain rfl:k=m:=by omega
      refine bp_ (bf_ (wm_ rfl r4 (wa_ (v:=.slice (some ⟨g,0,none⟩) k k) rfl rfl (ec_ (vp_ ⟨r6,.slice (some ⟨g,0,none⟩) k k,res1 rfl rfl,_,S5,rfl,le5,?_⟩)))))
      refine Inv.shut (A:=@Row Int Ty.int.enc 3 _ (List.replicate k a)) r3 (.inr ⟨g,k,[],ivs (List.replicate k a),[],by simp,by simp[aq1],ay6 _,by simp,by simp only[maxLen];omega,by simp⟩)
noncomputable def dm_ (a0:List Int) (a1:Int):Option (List Int):=match a0 with
  | [a]=>mk? a1 a
  | _=>none
noncomputable def rp_97:Rpt prog:=⟨97,[.list .int,.int],.int,3,λx=>dm_ x.1 x.2.1,λ{w S Fr hv vs x r} hG hI ha hF=>by
  obtain⟨l,c,u⟩:=x
  match vs,ha with
  | [v1,v2],⟨h1,h2,_⟩ =>
    have hF:dm_ l c=some r:=hF
    match l,hF,h1 with
    | [a],hF,h1 =>
      obtain⟨c0,c1,rfl⟩:=ad8 (show mk? c a=some r from hF)
      obtain⟨m,rfl⟩:=g5_ c0
      obtain rfl:v2 = .int .i64 (m:Int):=mk_ (S:=S) (qq_ (hv:=hv) (t:=.int) h2)
      have hr:RVt (.list .int) S v1 [a]:=qq_ (hv:=hv) h1
      rw[c3_]
      refine (ci4 hI hr (by omega)).mono λe w' he => ?_
      obtain⟨u,S',h3,h4,h5⟩:=he
      exact⟨u,S',h3,h4,h5⟩⟩
end
section
set_option maxRecDepth 100000
set_option maxHeartbeats 0
theorem cz_86:rc_ prog 3 .int=some (show Int from 0):=by kernel_rfl
theorem ce_86:Rex.elemOf prog 45=some 3:=by kernel_rfl
noncomputable def av5:Cpy prog:=⟨86,.int,3,λhc hI h=>be1 func86 rfl rfl rfl ce_86 cz_86 rfl hc hI h⟩
theorem cz_87:rc_ prog 4 .bool=some (show Bool from false):=by kernel_rfl
theorem ce_87:Rex.elemOf prog 48=some 4:=by kernel_rfl
noncomputable def cp_87:Cpy prog:=⟨87,.bool,4,λhc hI h=>be1 func87 rfl rfl rfl ce_87 cz_87 rfl hc hI h⟩
end
section
set_option maxRecDepth 100000
set_option maxHeartbeats 0
noncomputable def bs_ (a0:Int) (a1:Int) (a2:Int):Option (Bool×Unit) :=
 (cond (decide (a1≤a0))
 (some ((decide (a0≤a2)),()))
 (some (false,())))
theorem x_117:av_ (P:=prog) (cxC [] []) .z 117 [.int,.int,.int] [.bool]=λx=>bs_ x.1 x.2.1 x.2.2.1:=by kernel_rfl
noncomputable def av8:Con prog:=ax_ _ _ 117 [.int,.int,.int] [.bool] _ x_117
noncomputable def ag5  : Option ((List (List UInt8))×Unit) :=
 (some ([[97,116],[115,116,97,116,101,115],[115,116,97,114,116],[103,111,110,101],[105,102],[108,111,99,107],[119,105,116,104],[115,101,116,115],[115,112,101,110,100,115],[98,114,105,110,103,115]],()))
theorem x_207:av_ (P:=prog) (cxC [] []) .z 207 [] [(.list .str)]=λx=>ag5:=by kernel_rfl
noncomputable def c_207:Con prog:=ax_ _ _ 207 [] [(.list .str)] _ x_207
noncomputable def fz_ (a0:(List (List UInt8))) (a1:Int):Option (Bool×Unit) :=
 ((ag_ (ρ:=(Unit⊕(Bool×Unit))) (λ(v0:(Int×Unit)) =>
 (cond (decide (v0.1<a1))
 ((at? a0 v0.1).bind λv1 =>
 ((at? a0 a1).bind λv2 =>
 (cond (v1==v2)
 (some (inr (inr (true,()))))
 (some (inl ((w64 (v0.1+1)),()))))))
 (some (inr (inl ()))))) (0,())).bind λv3 =>
 (bx_ v3 (λv4=>(some (false,())))
 (λv5=>(some v5))))
theorem x_115:av_ (P:=prog) (cxC [] []) (.p .z (.p (.p .z (.ls [.v 5 .int] [] [] 0 (.p .z (.p (.p (.q [] .z .z) .z) .z)))) .z)) 115 [(.list .str),.int] [.bool]=λx=>fz_ x.1 x.2.1:=by kernel_rfl
noncomputable def c_115:Con prog:=ax_ _ _ 115 [(.list .str),.int] [.bool] _ x_115
noncomputable def mr_ (a0:(List Int)) (a1:Int):Option (Bool×Unit) :=
 ((ag_ (ρ:=(Unit⊕(Bool×Unit))) (λ(v0:(Int×Unit)) =>
 (cond (decide (v0.1<(a0.length:Int)))
 ((at? a0 v0.1).bind λv1 =>
 (cond (v1==a1)
 (some (inr (inr (true,()))))
 (some (inl ((w64 (v0.1+1)),())))))
 (some (inr (inl ()))))) (0,())).bind λv2 =>
 (bx_ v2 (λv3=>(some (false,())))
 (λv4=>(some v4))))
theorem x_167:av_ (P:=prog) (cxC [] []) (.p .z (.p (.p .z (.ls [.v 5 .int] [] [] 0 .z)) .z)) 167 [(.list .int),.int] [.bool]=λx=>mr_ x.1 x.2.1:=by kernel_rfl
noncomputable def c_167:Con prog:=ax_ _ _ 167 [(.list .int),.int] [.bool] _ x_167
noncomputable def bm_ (a0:Int) (a1:Int) (a2:Int):Option (Bool×Unit) :=
 (cond (decide (a1≤a0))
 (some ((decide (a0≤a2)),()))
 (some (false,())))
theorem x_120:av_ (P:=prog) (cxC [] []) .z 120 [.int,.int,.int] [.bool]=λx=>bm_ x.1 x.2.1 x.2.2.1:=by kernel_rfl
noncomputable def c_120:Con prog:=ax_ _ _ 120 [.int,.int,.int] [.bool] _ x_120
noncomputable def jd_ (a0:Int) (a1:Int) (a2:Int):Option (Bool×Unit) :=
 (cond (decide (a1≤a0))
 (some ((decide (a0≤a2)),()))
 (some (false,())))
theorem x_69:av_ (P:=prog) (cxC [] []) .z 69 [.int,.int,.int] [.bool]=λx=>jd_ x.1 x.2.1 x.2.2.1:=by kernel_rfl
noncomputable def c_69:Con prog:=ax_ _ _ 69 [.int,.int,.int] [.bool] _ x_69
noncomputable def ln_ (a0:al_):Option (Bool×Unit) :=
 (cond (a0.1==0)
 (cond (a0.2.1==0)
 (cond (a0.2.2.1==0)
 (cond (a0.2.2.2.1==0)
 (cond (a0.2.2.2.2.1==0)
 (cond ((a0.2.2.2.2.2.1.length:Int)==0)
 (some ((!a0.2.2.2.2.2.2),()))
 (some (false,())))
 (some (false,())))
 (some (false,())))
 (some (false,())))
 (some (false,())))
 (some (false,())))
theorem x_122:av_ (P:=prog) (cxC [] []) .z 122 [ar_] [.bool]=λx=>ln_ x.1:=by kernel_rfl
noncomputable def c_122:Con prog:=ax_ _ _ 122 [ar_] [.bool] _ x_122
noncomputable def hb_ (a0:(List Int)) (a1:(List Int)):Option (Bool×Unit) :=
 (cond ((a0.length:Int) != (a1.length:Int))
 (some (false,()))
 ((ag_ (ρ:=(Unit⊕(Bool×Unit))) (λ(v0:(Int×Unit)) =>
 (cond (decide (v0.1<(a0.length:Int)))
 ((at? a0 v0.1).bind λv1 =>
 ((at? a1 v0.1).bind λv2 =>
 (cond (v1 != v2)
 (some (inr (inr (false,()))))
 (some (inl ((w64 (v0.1+1)),()))))))
 (some (inr (inl ()))))) (0,())).bind λv3 =>
 (bx_ v3 (λv4=>(some (true,())))
 (λv5=>(some v5)))))
theorem x_232:av_ (P:=prog) (cxC [] []) (.p .z (.p .z (.p (.p .z (.ls [.v 5 .int] [] [] 0 (.p .z (.p (.p (.q [] .z .z) .z) .z)))) .z))) 232 [(.list .int),(.list .int)] [.bool]=λx=>hb_ x.1 x.2.1:=by kernel_rfl
noncomputable def c_232:Con prog:=ax_ _ _ 232 [(.list .int),(.list .int)] [.bool] _ x_232
noncomputable def eo_ (a0:(List Int)) (a1:Int):Option (Int×Unit) :=
 ((ag_ (ρ:=(Int×Unit)) (λ(v0:(Int×(Int×Unit))) =>
 (cond (decide (v0.2.1<(a0.length:Int)))
 ((((at? a0 v0.2.1).bind λv1 =>
 (cond (v1==a1)
 (some ((w64 (v0.1+1)),()))
 (some (v0.1,()))))).bind λv2 =>
 (some (inl (v2.1,((w64 (v0.2.1+1)),())))))
 (some (inr (v0.1,()))))) (0,(0,()))).bind λv3 =>
 (some (v3.1,())))
theorem x_169:av_ (P:=prog) (cxC [] []) (.p .z (.p .z (.p (.p .z (.lp [.v 5 .int,.v 6 .int] [.v 5 .int] [] 0 (.p .z (.j0 [.v 5 .int] .z .z)))) .z))) 169 [(.list .int),.int] [.int]=λx=>eo_ x.1 x.2.1:=by kernel_rfl
noncomputable def c_169:Con prog:=ax_ _ _ 169 [(.list .int),.int] [.int] _ x_169
noncomputable def bh_ (a0:ai_) (a1:(List bd_)):Option (Bool×Unit) :=
 ((ag_ (ρ:=(Unit⊕(Bool×Unit))) (λ(v0:(Int×Unit)) =>
 (cond (decide (v0.1<(a1.length:Int)))
 ((at? a1 v0.1).bind λv1 =>
 ((at? a0.1 v1.1).bind λv2 =>
 ((at? a1 v0.1).bind λv3 =>
 ((at? a1 v0.1).bind λv4 =>
 (cond ((v2==v3.2.1)==v4.2.2)
 (some (inr (inr (false,()))))
 (some (inl ((w64 (v0.1+1)),()))))))))
 (some (inr (inl ()))))) (0,())).bind λv5 =>
 (bx_ v5 (λv6=>(some (true,())))
 (λv7=>(some v7))))
theorem x_16:av_ (P:=prog) (cxC [] []) (.p .z (.p (.p .z (.ls [.v 5 .int] [] [] 0 (.p .z (.p (.p (.q [] .z .z) .z) .z)))) .z)) 16 [ap_,(.list cc_)] [.bool]=λx=>bh_ x.1 x.2.1:=by kernel_rfl
noncomputable def c_16:Con prog:=ax_ _ _ 16 [ap_,(.list cc_)] [.bool] _ x_16
noncomputable def gb_ (a0:ai_):Option (ai_×Unit) :=
 ((push? (α:=Int) [] a0.1).bind λv0 =>
 ((push? (α:=Int) [] a0.2.1).bind λv1 =>
 ((push? (α:=Int) [] a0.2.2).bind λv2 =>
 (some ((v0,(v1,v2)),())))))
theorem x_51:av_ (P:=prog) (cxC [] []) .z 51 [ap_] [ap_]=λx=>gb_ x.1:=by kernel_rfl
noncomputable def c_51:Con prog:=ax_ _ _ 51 [ap_] [ap_] _ x_51
def an_102:An:=.z
noncomputable def cs_102 (f:List (Con prog)):List (Con prog):=f++[]
noncomputable def cl_102:List (Cpy prog):=[]
noncomputable def cx_102 (f:List (Con prog)):Cx prog:=cxC (cs_102 f) cl_102
noncomputable def g_102 (ce_:Int→Option ((List UInt8)×Unit)) (a0:Int):Option ((List UInt8)×Unit) :=
 ((sub? [48,49,50,51,52,53,54,55,56,57] (Int.tmod a0 10) (w64 ((Int.tmod a0 10)+1))).bind λv0 =>
 (cond (decide (a0<10))
 (some (v0,()))
 ((ce_ (w64 (Int.tdiv a0 10))).bind λv1 =>
 ((cat? v1.1 v0).bind λv2 =>
 (some (v2,()))))))
theorem xr_102:(λ(F:Int→Option ((List UInt8)×Unit)) (h:ce0 prog 102 [.int] [.str] (λx=>F x.1))=>av_ (cx_102 [cnv 102 [.int] [.str] _ h]) an_102 102 [.int] [.str])=λF h x=>g_102 F x.1:=by kernel_rfl
noncomputable def ds_:Nat→Int→Option ((List UInt8)×Unit)
  | 0=>λ_=>none
  | n+1=>g_102 (ds_ n)
theorem cs5:∀ n,ce0 prog 102 [.int] [.str] (λx=>ds_ n x.1)
  | 0=>λ_ _ _ h=>(by cases h)
  | n+1=>λhG hI ha h=>(ax_ _ _ 102 [.int] [.str] _ (congrFun (congrFun xr_102 (ds_ n)) (cs5 n))).ok hG hI ha h
noncomputable def ce_ (a0:Int):Option ((List UInt8)×Unit):=ds_ 20 a0
noncomputable def c_102:Con prog:=cnv 102 [.int] [.str] (λx=>ce_ x.1) (cs5 20)
noncomputable def hk_ (a0:ai_) (a1:Int):Option (Int×Unit) :=
 ((ag_ (ρ:=(Int×Unit)) (λ(v0:(Int×(Int×Unit))) =>
 (cond (decide (v0.2.1<(a0.2.1.length:Int)))
 ((((at? a0.2.1 v0.2.1).bind λv1 =>
 (cond (v1==(w64 ((-2) - a1)))
 (some ((w64 (v0.1+1)),()))
 (some (v0.1,()))))).bind λv2 =>
 (some (inl (v2.1,((w64 (v0.2.1+1)),())))))
 (some (inr (v0.1,()))))) (0,(0,()))).bind λv3 =>
 (some (v3.1,())))
theorem x_202:av_ (P:=prog) (cxC [] []) (.p .z (.p .z (.p (.p .z (.lp [.v 5 .int,.v 6 .int] [.v 5 .int] [] 0 (.p .z (.j0 [.v 5 .int] .z .z)))) .z))) 202 [ap_,.int] [.int]=λx=>hk_ x.1 x.2.1:=by kernel_rfl
noncomputable def c_202:Con prog:=ax_ _ _ 202 [ap_,.int] [.int] _ x_202
noncomputable def ju_ (a0:ab_) (a1:(List Int)):Option ((List al_)×Unit) :=
 ((ag_ (ρ:=((List al_)×Unit)) (λ(v0:((List al_)×(Int×Unit))) =>
 (cond (decide (v0.2.1<(a1.length:Int)))
 ((at? a1 v0.2.1).bind λv1 =>
 ((at? a0.2.2.2.1 v1).bind λv2 =>
 ((push? (α:=al_) v0.1 [v2.2.2.2.2]).bind λv3 =>
 (some (inl (v3,((w64 (v0.2.1+1)),())))))))
 (some (inr (v0.1,()))))) ([],(0,()))).bind λv4 =>
 (some (v4.1,())))
theorem x_228:av_ (P:=prog) (cxC [] []) (.p .z (.p .z (.p (.p .z (.lp [.r 5 ar_ 94,.v 6 .int] [.r 5 ar_ 94] [] 0 .z)) .z))) 228 [an_,(.list .int)] [(.list ar_)]=λx=>ju_ x.1 x.2.1:=by kernel_rfl
noncomputable def c_228:Con prog:=ax_ _ _ 228 [an_,(.list .int)] [(.list ar_)] _ x_228
noncomputable def hy_ (a0:ab_) (a1:aa_) (a2:Int):Option ((List Int)×Unit) :=
 ((ag_ (ρ:=((List Int)×Unit)) (λ(v0:((List Int)×(Int×Unit))) =>
 (cond (decide (v0.2.1<(a0.2.2.2.1.length:Int)))
 ((((((at? a1.2 v0.2.1).bind λv1 =>
 (cond v1
 ((at? a0.2.2.2.1 v0.2.1).bind λv2 =>
 (some ((v2.2.2.1==a2),())))
 (some (false,()))))).bind λv3 =>
 (cond v3.1
 ((push? (α:=Int) v0.1 [v0.2.1]).bind λv4 =>
 (some (v4,())))
 (some (v0.1,()))))).bind λv5 =>
 (some (inl (v5.1,((w64 (v0.2.1+1)),())))))
 (some (inr (v0.1,()))))) ([],(0,()))).bind λv6 =>
 (some (v6.1,())))
theorem x_204:av_ (P:=prog) (cxC [] []) (.p .z (.p .z (.p (.p .z (.lp [.r 7 .int 3,.v 8 .int] [.r 7 .int 3] [] 0 (.p .z (.j0 [.r 7 .int 3] (.j0 [.v 30 .bool] .z .z) .z)))) .z))) 204 [an_,aj_,.int] [(.list .int)]=λx=>hy_ x.1 x.2.1 x.2.2.1:=by kernel_rfl
noncomputable def c_204:Con prog:=ax_ _ _ 204 [an_,aj_,.int] [(.list .int)] _ x_204
noncomputable def nj_ (a0:af_):Option (Bool×Unit) :=
 (((cond (decide (12<(a0.1.length:Int)))
 (some (true,()))
 (cond (decide (15<(a0.2.1.length:Int)))
 (some (true,()))
 (cond (decide (14<(a0.2.2.1.length:Int)))
 (some (true,()))
 (cond (decide (20<(a0.2.2.2.1.length:Int)))
 (some (true,()))
 (cond (decide (30<(a0.2.2.2.2.1.length:Int)))
 (some (true,()))
 (cond (decide (15<(a0.2.2.2.2.2.1.length:Int)))
 (some (true,()))
 (some ((decide (20<(a0.2.2.2.2.2.2.2.length:Int))),()))))))))).bind λv0 =>
 (cond v0.1
 (some (true,()))
 ((ag_ (ρ:=(Unit⊕(Bool×Unit))) (λ(v1:(Int×Unit)) =>
 (cond (decide (v1.1<(a0.1.length:Int)))
 ((at? a0.1 v1.1).bind λv2 =>
 (cond (decide (100<(v2.length:Int)))
 (some (inr (inr (true,()))))
 (some (inl ((w64 (v1.1+1)),())))))
 (some (inr (inl ()))))) (0,())).bind λv3 =>
 (bx_ v3 (λv4=>((ag_ (ρ:=(Unit⊕(Bool×Unit))) (λ(v6:(Int×Unit)) =>
 (cond (decide (v6.1<(a0.2.1.length:Int)))
 ((at? a0.2.1 v6.1).bind λv7 =>
 (cond (decide (100<(v7.1.length:Int)))
 (some (inr (inr (true,()))))
 (some (inl ((w64 (v6.1+1)),())))))
 (some (inr (inl ()))))) (0,())).bind λv8 =>
 (bx_ v8 (λv9=>((ag_ (ρ:=(Unit⊕(Bool×Unit))) (λ(v11:(Int×Unit)) =>
 (cond (decide (v11.1<(a0.2.2.1.length:Int)))
 ((((at? a0.2.2.1 v11.1).bind λv12 =>
 (cond (decide (100<(v12.1.length:Int)))
 (some (true,()))
 ((at? a0.2.2.1 v11.1).bind λv13 =>
 (some ((decide (20<(v13.2.2.length:Int))),())))))).bind λv14 =>
 (cond v14.1
 (some (inr (inr (true,()))))
 (some (inl ((w64 (v11.1+1)),())))))
 (some (inr (inl ()))))) (0,())).bind λv15 =>
 (bx_ v15 (λv16=>((ag_ (ρ:=(Unit⊕(Bool×Unit))) (λ(v18:(Int×Unit)) =>
 (cond (decide (v18.1<(a0.2.2.2.1.length:Int)))
 ((at? a0.2.2.2.1 v18.1).bind λv19 =>
 (cond (decide (20<(v19.2.2.length:Int)))
 (some (inr (inr (true,()))))
 (some (inl ((w64 (v18.1+1)),())))))
 (some (inr (inl ()))))) (0,())).bind λv20 =>
 (bx_ v20 (λv21=>((ag_ (ρ:=(Unit⊕(Bool×Unit))) (λ(v23:(Int×Unit)) =>
 (cond (decide (v23.1<(a0.2.2.2.2.1.length:Int)))
 ((at? a0.2.2.2.2.1 v23.1).bind λv24 =>
 (((cond (decide (100<(v24.1.length:Int)))
 (some (true,()))
 (cond (decide (20<(v24.2.2.2.2.1.length:Int)))
 (some (true,()))
 (cond (decide (20<(v24.2.2.2.1.length:Int)))
 (some (true,()))
 (cond (decide (20<(v24.2.2.2.2.2.1.length:Int)))
 (some (true,()))
 (cond (decide (20<(v24.2.2.2.2.2.2.1.length:Int)))
 (some (true,()))
 (some ((decide (20<(v24.2.2.2.2.2.2.2.length:Int))),())))))))).bind λv25 =>
 (cond v25.1
 (some (inr (inr (true,()))))
 (some (inl ((w64 (v23.1+1)),()))))))
 (some (inr (inl ()))))) (0,())).bind λv26 =>
 (bx_ v26 (λv27=>((ag_ (ρ:=(Unit⊕(Bool×Unit))) (λ(v29:(Int×Unit)) =>
 (cond (decide (v29.1<(a0.2.2.2.2.2.1.length:Int)))
 ((at? a0.2.2.2.2.2.1 v29.1).bind λv30 =>
 (cond (decide (20<(v30.1.length:Int)))
 (some (inr (inr (true,()))))
 (some (inl ((w64 (v29.1+1)),())))))
 (some (inr (inl ()))))) (0,())).bind λv31 =>
 (bx_ v31 (λv32=>(some (false,())))
 (λv33=>(some v33)))))
 (λv28=>(some v28)))))
 (λv22=>(some v22)))))
 (λv17=>(some v17)))))
 (λv10=>(some v10)))))
 (λv5=>(some v5))))))
theorem x_63:av_ (P:=prog) (cxC [] []) (.p .z (.p (.j0 [.v 49 .bool] .z .z) (.p (.p .z (.ls [.v 3 .int] [] [] 0 .z)) (.p (.p .z (.ls [.v 4 .int] [] [] 2 .z)) (.p (.p .z (.ls [.v 5 .int] [] [] 4 (.p .z (.p (.j0 [.v 103 .bool] .z .z) .z)))) (.p (.p .z (.ls [.v 6 .int] [] [] 6 .z)) (.p (.p .z (.ls [.v 7 .int] [] [] 8 (.p .z (.p (.p .z (.j0 [.v 164 .bool] .z .z)) .z)))) (.p (.p .z (.ls [.v 9 .int] [] [] 10 .z)) .z)))))))) 63 [ao_] [.bool]=λx=>nj_ x.1:=by kernel_rfl
noncomputable def c_63:Con prog:=ax_ _ _ 63 [ao_] [.bool] _ x_63
noncomputable def bc_ (a0:Int) (a1:Int) (a2:Int):Option (Bool×Unit) :=
 (cond (decide (a1≤a0))
 (some ((decide (a0≤a2)),()))
 (some (false,())))
theorem x_126:av_ (P:=prog) (cxC [] []) .z 126 [.int,.int,.int] [.bool]=λx=>bc_ x.1 x.2.1 x.2.2.1:=by kernel_rfl
noncomputable def cb0:Con prog:=ax_ _ _ 126 [.int,.int,.int] [.bool] _ x_126
noncomputable def du_ (a0:(List (List UInt8))) (a1:(List UInt8)):Option (Int×Unit) :=
 ((ag_ (ρ:=(Unit⊕(Int×Unit))) (λ(v0:(Int×Unit)) =>
 (cond (decide (v0.1<(a0.length:Int)))
 ((at? a0 v0.1).bind λv1 =>
 (cond (a1==v1)
 (some (inr (inr (v0.1,()))))
 (some (inl ((w64 (v0.1+1)),())))))
 (some (inr (inl ()))))) (0,())).bind λv2 =>
 (bx_ v2 (λv3=>(some ((-1),())))
 (λv4=>(some v4))))
theorem x_233:av_ (P:=prog) (cxC [] []) (.p .z (.p (.p .z (.ls [.v 8 .int] [] [] 0 .z)) .z)) 233 [(.list .str),.str] [.int]=λx=>du_ x.1 x.2.1:=by kernel_rfl
noncomputable def c_233:Con prog:=ax_ _ _ 233 [(.list .str),.str] [.int] _ x_233
noncomputable def us_ (a0:(List UInt8)):Option ((List UInt8)×Unit) :=
 (some (a0,()))
theorem x_128:av_ (P:=prog) (cxC [] []) .z 128 [.str] [.str]=λx=>us_ x.1:=by kernel_rfl
noncomputable def c_128:Con prog:=ax_ _ _ 128 [.str] [.str] _ x_128
noncomputable def ur_ (a0:hg_):Option ((List UInt8)×Unit) :=
 (some (a0.1,()))
theorem x_130:av_ (P:=prog) (cxC [] []) .z 130 [qh_] [.str]=λx=>ur_ x.1:=by kernel_rfl
noncomputable def c_130:Con prog:=ax_ _ _ 130 [qh_] [.str] _ x_130
noncomputable def xn_ (a0:kk_):Option ((List UInt8)×Unit) :=
 (some (a0.1,()))
theorem x_132:av_ (P:=prog) (cxC [] []) .z 132 [pf_] [.str]=λx=>xn_ x.1:=by kernel_rfl
noncomputable def c_132:Con prog:=ax_ _ _ 132 [pf_] [.str] _ x_132
noncomputable def yr_ (a0:cv_):Option ((List UInt8)×Unit) :=
 (some (a0.1,()))
theorem x_177:av_ (P:=prog) (cxC [] []) .z 177 [mi_] [.str]=λx=>yr_ x.1:=by kernel_rfl
noncomputable def c_177:Con prog:=ax_ _ _ 177 [mi_] [.str] _ x_177
noncomputable def hj_ (a0:af_) (a1:(List Int)):Option (Bool×Unit) :=
 ((ag_ (ρ:=(Unit⊕(Bool×Unit))) (λ(v0:(Int×(Int×Unit))) =>
 (cond (decide (v0.2.1<(a1.length:Int)))
 ((at? a1 v0.2.1).bind λv1 =>
 (((cond (decide (v1≤v0.1))
 (some (true,()))
 (some ((decide ((a0.2.2.1.length:Int)≤v1)),())))).bind λv2 =>
 (cond v2.1
 (some (inr (inr (false,()))))
 (some (inl (v1,((w64 (v0.2.1+1)),())))))))
 (some (inr (inl ()))))) ((-1),(0,()))).bind λv3 =>
 (bx_ v3 (λv4=>(some (true,())))
 (λv5=>(some v5))))
theorem x_178:av_ (P:=prog) (cxC [] []) (.p .z (.p .z (.p (.p .z (.ls [.v 5 .int,.v 10 .int] [] [] 0 (.p .z (.p .z (.p (.p .z (.p (.j0 [.v 23 .bool] .z .z) .z)) .z))))) .z))) 178 [ao_,(.list .int)] [.bool]=λx=>hj_ x.1 x.2.1:=by kernel_rfl
noncomputable def c_178:Con prog:=ax_ _ _ 178 [ao_,(.list .int)] [.bool] _ x_178
noncomputable def bt_ (a0:(List Int)) (a1:Int):Option (Int×Unit) :=
 ((ag_ (ρ:=(Unit⊕(Int×Unit))) (λ(v0:(Int×Unit)) =>
 (cond (decide (v0.1<(a0.length:Int)))
 ((at? a0 v0.1).bind λv1 =>
 (cond (a1==v1)
 (some (inr (inr (v0.1,()))))
 (some (inl ((w64 (v0.1+1)),())))))
 (some (inr (inl ()))))) (0,())).bind λv2 =>
 (bx_ v2 (λv3=>(some ((-1),())))
 (λv4=>(some v4))))
theorem x_36:av_ (P:=prog) (cxC [] []) (.p .z (.p (.p .z (.ls [.v 8 .int] [] [] 0 .z)) .z)) 36 [(.list .int),.int] [.int]=λx=>bt_ x.1 x.2.1:=by kernel_rfl
noncomputable def c_36:Con prog:=ax_ _ _ 36 [(.list .int),.int] [.int] _ x_36
noncomputable def bz_ (a0:Int) (a1:Int) (a2:Int):Option (Bool×Unit) :=
 (cond (decide (a1≤a0))
 (some ((decide (a0≤a2)),()))
 (some (false,())))
theorem x_136:av_ (P:=prog) (cxC [] []) .z 136 [.int,.int,.int] [.bool]=λx=>bz_ x.1 x.2.1 x.2.2.1:=by kernel_rfl
noncomputable def co5:Con prog:=ax_ _ _ 136 [.int,.int,.int] [.bool] _ x_136
noncomputable def cb_ (a0:Int) (a1:Int) (a2:Int):Option (Bool×Unit) :=
 (cond (decide (a1≤a0))
 (some ((decide (a0≤a2)),()))
 (some (false,())))
theorem x_81:av_ (P:=prog) (cxC [] []) .z 81 [.int,.int,.int] [.bool]=λx=>cb_ x.1 x.2.1 x.2.2.1:=by kernel_rfl
noncomputable def c_81:Con prog:=ax_ _ _ 81 [.int,.int,.int] [.bool] _ x_81
noncomputable def ni_ (a0:(List UInt8)):Option (Bool×Unit) :=
 (((cond (a0==[])
 (some ((a0==[]),()))
 (cond (a0==[97,116])
 (some ((a0==[97,116]),()))
 (cond (a0==[115,116,97,116,101,115])
 (some ((a0==[115,116,97,116,101,115]),()))
 (cond (a0==[115,116,97,114,116])
 (some ((a0==[115,116,97,114,116]),()))
 (cond (a0==[103,111,110,101])
 (some ((a0==[103,111,110,101]),()))
 (cond (a0==[105,102])
 (some ((a0==[105,102]),()))
 (cond (a0==[108,111,99,107])
 (some ((a0==[108,111,99,107]),()))
 (cond (a0==[119,105,116,104])
 (some ((a0==[119,105,116,104]),()))
 (cond (a0==[115,101,116,115])
 (some ((a0==[115,101,116,115]),()))
 (cond (a0==[115,112,101,110,100,115])
 (some ((a0==[115,112,101,110,100,115]),()))
 (some ((a0==[98,114,105,110,103,115]),()))))))))))))).bind λv0 =>
 (cond v0.1
 (some (false,()))
 ((ag_ (ρ:=(Unit⊕(Bool×Unit))) (λ(v1:(Int×Unit)) =>
 (cond (decide (v1.1<(a0.length:Int)))
 ((((at? a0 v1.1).bind λv2 =>
 (cond (decide (((UInt8.toNat v2):Int)<97))
 (some (true,()))
 ((at? a0 v1.1).bind λv3 =>
 (some ((decide (122<((UInt8.toNat v3):Int))),())))))).bind λv4 =>
 (cond v4.1
 (some (inr (inr (false,()))))
 (some (inl ((w64 (v1.1+1)),())))))
 (some (inr (inl ()))))) (0,())).bind λv5 =>
 (bx_ v5 (λv6=>(some (true,())))
 (λv7=>(some v7))))))
theorem x_140:av_ (P:=prog) (cxC [] []) (.p .z (.p (.p .z (.j0 [.v 5 .bool] .z .z)) (.p (.p .z (.ls [.v 19 .int] [] [] 1 (.p .z (.p .z (.p (.p .z (.j0 [.v 31 .bool] .z .z)) .z))))) .z))) 140 [.str] [.bool]=λx=>ni_ x.1:=by kernel_rfl
noncomputable def c_140:Con prog:=ax_ _ _ 140 [.str] [.bool] _ x_140
noncomputable def kw_ (a0:al_):Option (Bool×Unit) :=
 (cond (a0.1==0)
 (cond (a0.2.1==0)
 (cond (a0.2.2.1==0)
 (cond (a0.2.2.2.1==0)
 (cond (a0.2.2.2.2.1==0)
 (cond ((a0.2.2.2.2.2.1.length:Int)==0)
 (some ((!a0.2.2.2.2.2.2),()))
 (some (false,())))
 (some (false,())))
 (some (false,())))
 (some (false,())))
 (some (false,())))
 (some (false,())))
theorem x_141:av_ (P:=prog) (cxC [] []) .z 141 [ar_] [.bool]=λx=>kw_ x.1:=by kernel_rfl
noncomputable def c_141:Con prog:=ax_ _ _ 141 [ar_] [.bool] _ x_141
noncomputable def ix_ (a0:(List Int)) (a1:(List Int)):Option (Int×Int×Unit) :=
 ((ag_ (ρ:=(Int×((List Int)×((List Int)×Unit)))) (λ(v0:(Int×(Int×((List Int)×((List Int)×Unit))))) =>
 (cond (decide (v0.2.1<(a0.length:Int)))
 ((at? a0 v0.2.1).bind λv1 =>
 ((((at? a1 v0.2.1).bind λv2 =>
 (cond (v1==v2)
 (some ((w64 (v0.1+1)),()))
 (some (v0.1,()))))).bind λv3 =>
 (cond (decide (v1<(10:Int)))
 ((at? v0.2.2.1 v1).bind λv4 =>
 ((at? v0.2.2.1 v1).bind λv5 =>
 (cond (decide (v1<(10:Int)))
 ((at? v0.2.2.1 v1).bind λv6 =>
 ((at? v0.2.2.1 v1).bind λv7 =>
 ((at? a1 v0.2.1).bind λv8 =>
 (cond (decide (v8<(10:Int)))
 ((at? v0.2.2.2.1 v8).bind λv9 =>
 ((at? v0.2.2.2.1 v8).bind λv10 =>
 (cond (decide (v8<(10:Int)))
 ((at? v0.2.2.2.1 v8).bind λv11 =>
 ((at? v0.2.2.2.1 v8).bind λv12 =>
 (some (inl (v3.1,((w64 (v0.2.1+1)),((v0.2.2.1.set v1.toNat (w64 (v5+1))),((v0.2.2.2.1.set v8.toNat (w64 (v10+1))),()))))))))
 none)))
 none))))
 none)))
 none)))
 (some (inr (v0.1,(v0.2.2.1,(v0.2.2.2.1,()))))))) (0,(0,([0,0,0,0,0,0,0,0,0,0],([0,0,0,0,0,0,0,0,0,0],()))))).bind λv13 =>
 ((ag_ (ρ:=(Int×Unit)) (λ(v14:(Int×(Int×Unit))) =>
 (cond (decide (v14.2.1<10))
 (cond (decide (v14.2.1<(10:Int)))
 ((at? v13.2.1 v14.2.1).bind λv15 =>
 ((at? v13.2.1 v14.2.1).bind λv16 =>
 (cond (decide (v14.2.1<(10:Int)))
 ((at? v13.2.2.1 v14.2.1).bind λv17 =>
 ((at? v13.2.2.1 v14.2.1).bind λv18 =>
 (some (inl ((w64 (v14.1+(minI v16 v18))),((w64 (v14.2.1+1)),()))))))
 none)))
 none)
 (some (inr (v14.1,()))))) (0,(0,()))).bind λv19 =>
 (some (v13.1,((w64 (v19.1 - v13.1)),())))))
theorem x_237:av_ (P:=prog) (cxC [] []) (.p .z (.p .z (.p (.p .z (.lp [.v 4 .int,.v 13 .int] [.v 4 .int] [.o (.s 6) .int,.o (.s 7) .int] 0 (.p .z (.p .z (.p (.p .z (.j0 [.v 4 .int] .z .z)) .z))))) (.p (.p .z (.lp [.v 5 .int,.v 40 .int] [.v 5 .int] [] 2 .z)) .z)))) 237 [(.list .int),(.list .int)] [.int,.int]=λx=>ix_ x.1 x.2.1:=by kernel_rfl
noncomputable def c_237:Con prog:=ax_ _ _ 237 [(.list .int),(.list .int)] [.int,.int] _ x_237
noncomputable def bb_ (a0:hr_) (a1:(List bd_)):Option (Bool×Unit) :=
 ((((ag_ (ρ:=(Unit⊕(Bool×Unit))) (λ(v0:(Int×Unit)) =>
 (cond (decide (v0.1<(a1.length:Int)))
 ((at? a1 v0.1).bind λv1 =>
 ((at? a0.2.1 v1.1).bind λv2 =>
 (cond ((v2==v1.2.1)==v1.2.2)
 (some (inr (inr ((decide (0≤v0.1)),()))))
 (some (inl ((w64 (v0.1+1)),()))))))
 (some (inr (inl ()))))) (0,())).bind λv3 =>
 (bx_ v3 (λv4=>(some ((decide (0≤(-1))),())))
 (λv5=>(some v5))))).bind λv6 =>
 (some ((!v6.1),())))
theorem x_147:av_ (P:=prog) (cxI (λk=>cond (Nat.beq k 143) (.p .z (.j0 [.v 4 .bool] .z .z)) (cond (Nat.beq k 189) (.p .z (.p (.p .z (.ls [.v 8 .int] [] [] 0 .z)) .z)) (cond (Nat.beq k 192) (.p .z (.p (.q [] .z .z) .z)) (.z)))) (λk=>false) (cxC [] []) 4) .z 147 [(.ref fe_),(.list cc_)] [.bool]=λx=>bb_ x.1 x.2.1:=by kernel_rfl
noncomputable def ca8:Con prog:=ax_ _ _ 147 [(.ref fe_),(.list cc_)] [.bool] _ x_147
noncomputable def dg_ (a0:hr_) (a1:Int):Option (Int×Unit) :=
 ((ag_ (ρ:=(Int×Unit)) (λ(v0:(Int×(Int×Unit))) =>
 (cond (decide (v0.2.1<(a0.2.2.1.length:Int)))
 ((((at? a0.2.2.1 v0.2.1).bind λv1 =>
 (cond (v1==(w64 ((-2) - a1)))
 (some ((w64 (v0.1+1)),()))
 (some (v0.1,()))))).bind λv2 =>
 (some (inl (v2.1,((w64 (v0.2.1+1)),())))))
 (some (inr (v0.1,()))))) (0,(0,()))).bind λv3 =>
 (some (v3.1,())))
theorem x_197:av_ (P:=prog) (cxC [] []) (.p .z (.p (.p .z (.lp [.v 4 .int,.v 13 .int] [.v 4 .int] [] 0 (.p .z (.p .z (.j0 [.v 4 .int] .z .z))))) .z)) 197 [(.ref fe_),.int] [.int]=λx=>dg_ x.1 x.2.1:=by kernel_rfl
noncomputable def c_197:Con prog:=ax_ _ _ 197 [(.ref fe_),.int] [.int] _ x_197
noncomputable def ls_ (a0:aa_):Option ((List UInt8)×Unit) :=
 ((ag_ (ρ:=((List UInt8)×Unit)) (λ(v0:((List UInt8)×(Int×Unit))) =>
 (cond (decide (v0.2.1<(a0.2.length:Int)))
 ((at? a0.2 v0.2.1).bind λv1 =>
 ((ed_ v1).bind λv2 =>
 ((cat? v2.1 [32]).bind λv3 =>
 ((cat? v0.1 v3).bind λv4 =>
 (some (inl (v4,((w64 (v0.2.1+1)),()))))))))
 (some (inr (v0.1,()))))) ([],(0,()))).bind λv5 =>
 (some (v5.1,())))
theorem x_56:av_ (P:=prog) (cxC [c_106] []) (.p .z (.p .z (.p (.p .z (.lp [.v 3 .str,.v 9 .int] [.v 3 .str] [] 0 .z)) .z))) 56 [aj_] [.str]=λx=>ls_ x.1:=by kernel_rfl
noncomputable def c_56:Con prog:=ax_ _ _ 56 [aj_] [.str] _ x_56
noncomputable def ag6 (a0:ad_):Option (Bool×Unit) :=
 (some (true,()))
theorem x_73:av_ (P:=prog) (cxC [] []) .z 73 [cw_] [.bool]=λx=>ag6 x.1:=by kernel_rfl
noncomputable def c_73:Con prog:=ax_ _ _ 73 [cw_] [.bool] _ x_73
noncomputable def xp_  : Option (af_×Unit) :=
 (some (([[104,97,108,108],[118,97,117,108,116]],([([98,111,120],(0,(2,0))),([100,111,111,114],(0,(2,0)))],([([107,101,121],(0,[(0,(1,false))]))],([(0,(1,[(1,(1,false))]))],([([111,112,101,110],(0,(0,([],([],([(0,1)],([],[]))))))),([116,117,114,110],(0,((-1),([0],([],([(1,1)],([0],[])))))))],([],(1,[]))))))),()))
theorem x_70:av_ (P:=prog) (cxC [] []) .z 70 [] [ao_]=λx=>xp_:=by kernel_rfl
noncomputable def c_70:Con prog:=ax_ _ _ 70 [] [ao_] _ x_70
noncomputable def cm_ (a0:(List bd_)):Option ((List bd_)×Unit) :=
 ((push? (α:=bd_) [] a0).bind λv0 =>
 (some (v0,())))
theorem x_71:av_ (P:=prog) (cxC [] []) .z 71 [(.list cc_)] [(.list cc_)]=λx=>cm_ x.1:=by kernel_rfl
noncomputable def c_71:Con prog:=ax_ _ _ 71 [(.list cc_)] [(.list cc_)] _ x_71
noncomputable def dq_ (a0:(List Int)):Option ((List Int)×Unit) :=
 ((push? (α:=Int) [] a0).bind λv0 =>
 (some (v0,())))
theorem x_72:av_ (P:=prog) (cxC [] []) .z 72 [(.list .int)] [(.list .int)]=λx=>dq_ x.1:=by kernel_rfl
noncomputable def c_72:Con prog:=ax_ _ _ 72 [(.list .int)] [(.list .int)] _ x_72
noncomputable def ha_ (a0:al_):Option (al_×Unit) :=
 ((push? (α:=Int) [] a0.2.2.2.2.2.1).bind λv0 =>
 (some ((a0.1,(a0.2.1,(a0.2.2.1,(a0.2.2.2.1,(a0.2.2.2.2.1,(v0,a0.2.2.2.2.2.2)))))),())))
theorem x_34:av_ (P:=prog) (cxC [] []) .z 34 [ar_] [ar_]=λx=>ha_ x.1:=by kernel_rfl
noncomputable def c_34:Con prog:=ax_ _ _ 34 [ar_] [ar_] _ x_34
noncomputable def om_ (a0:ad_) (a1:Int):Option (Bool×Unit) :=
 (cond (a0.1.2.1==4)
 (some ((a0.1.2.2==a1),()))
 (some (false,())))
noncomputable def lx_ (a0:ai_):Option (Bool×Unit) :=
 (cond (decide (30<(a0.1.length:Int)))
 (some (true,()))
 (cond (decide (30<(a0.2.1.length:Int)))
 (some (true,()))
 (some ((decide (30<(a0.2.2.length:Int))),()))))
theorem x_110:av_ (P:=prog) (cxC [] []) .z 110 [ap_] [.bool]=λx=>lx_ x.1:=by kernel_rfl
noncomputable def c_110:Con prog:=ax_ _ _ 110 [ap_] [.bool] _ x_110
noncomputable def cy_ (a0:(List Int)) (a1:(List Int)):Option (Bool×Unit) :=
 (cond ((a0.length:Int) != (a1.length:Int))
 (some (false,()))
 ((ag_ (ρ:=(Unit⊕(Bool×Unit))) (λ(v0:(Int×Unit)) =>
 (cond (decide (v0.1<(a0.length:Int)))
 ((at? a0 v0.1).bind λv1 =>
 ((at? a1 v0.1).bind λv2 =>
 (cond (v1 != v2)
 (some (inr (inr (false,()))))
 (some (inl ((w64 (v0.1+1)),()))))))
 (some (inr (inl ()))))) (0,())).bind λv3 =>
 (bx_ v3 (λv4=>(some (true,())))
 (λv5=>(some v5)))))
theorem x_111:av_ (P:=prog) (cxC [] []) (.p .z (.p .z (.p (.p .z (.ls [.v 13 .int] [] [] 0 (.p .z (.p .z (.p (.p .z (.p (.q [] .z .z) .z)) .z))))) .z))) 111 [(.list .int),(.list .int)] [.bool]=λx=>cy_ x.1 x.2.1:=by kernel_rfl
noncomputable def c_111:Con prog:=ax_ _ _ 111 [(.list .int),(.list .int)] [.bool] _ x_111
noncomputable def dn_ (a0:(List Bool)) (a1:(List Bool)):Option (Bool×Unit) :=
 (cond ((a0.length:Int) != (a1.length:Int))
 (some (false,()))
 ((ag_ (ρ:=(Unit⊕(Bool×Unit))) (λ(v0:(Int×Unit)) =>
 (cond (decide (v0.1<(a0.length:Int)))
 ((at? a0 v0.1).bind λv1 =>
 ((at? a1 v0.1).bind λv2 =>
 (cond (v1 != v2)
 (some (inr (inr (false,()))))
 (some (inl ((w64 (v0.1+1)),()))))))
 (some (inr (inl ()))))) (0,())).bind λv3 =>
 (bx_ v3 (λv4=>(some (true,())))
 (λv5=>(some v5)))))
theorem x_112:av_ (P:=prog) (cxC [] []) (.p .z (.p .z (.p (.p .z (.ls [.v 13 .int] [] [] 0 (.p .z (.p .z (.p (.p .z (.p (.q [] .z .z) .z)) .z))))) .z))) 112 [(.list .bool),(.list .bool)] [.bool]=λx=>dn_ x.1 x.2.1:=by kernel_rfl
noncomputable def c_112:Con prog:=ax_ _ _ 112 [(.list .bool),(.list .bool)] [.bool] _ x_112
noncomputable def dr_ (a0:(List Int)) (a1:(List Int)):Option (Bool×Unit) :=
 (cond ((a0.length:Int) != (a1.length:Int))
 (some (false,()))
 ((ag_ (ρ:=(Unit⊕(Bool×Unit))) (λ(v0:(Int×Unit)) =>
 (cond (decide (v0.1<(a0.length:Int)))
 ((at? a0 v0.1).bind λv1 =>
 ((at? a1 v0.1).bind λv2 =>
 (cond (v1 != v2)
 (some (inr (inr (false,()))))
 (some (inl ((w64 (v0.1+1)),()))))))
 (some (inr (inl ()))))) (0,())).bind λv3 =>
 (bx_ v3 (λv4=>(some (true,())))
 (λv5=>(some v5)))))
theorem x_113:av_ (P:=prog) (cxC [] []) (.p .z (.p .z (.p (.p .z (.ls [.v 5 .int] [] [] 0 (.p .z (.p (.p (.q [] .z .z) .z) .z)))) .z))) 113 [(.list .int),(.list .int)] [.bool]=λx=>dr_ x.1 x.2.1:=by kernel_rfl
noncomputable def c_113:Con prog:=ax_ _ _ 113 [(.list .int),(.list .int)] [.bool] _ x_113
end
section
set_option maxRecDepth 100000
set_option maxHeartbeats 0
noncomputable def hd_ (a0:af_) (a1:Int) (a2:Int):Option (Bool×Unit) :=
 ((bs_ a1 0 (w64 ((a0.2.1.length:Int) - 1))).bind λv0 =>
 (cond v0.1
 ((at? a0.2.1 a1).bind λv1 =>
 ((bs_ a2 0 (w64 (v1.2.2.1 - 1))).bind λv2 =>
 (some (v2.1,()))))
 (some (false,()))))
theorem x_119:av_ (P:=prog) (cxC [av8] []) .z 119 [ao_,.int,.int] [.bool]=λx=>hd_ x.1 x.2.1 x.2.2.1:=by kernel_rfl
noncomputable def co7:Con prog:=ax_ _ _ 119 [ao_,.int,.int] [.bool] _ x_119
noncomputable def hz_ (a0:(List UInt8)):Option (Bool×Unit) :=
 ((ag_ (ρ:=(Unit⊕(Bool×Unit))) (λ(v0:(Int×Unit)) =>
 (cond (decide (v0.1<(a0.length:Int)))
 ((((at? a0 v0.1).bind λv1 =>
 (cond (decide (((UInt8.toNat v1):Int)<97))
 (some (true,()))
 ((at? a0 v0.1).bind λv2 =>
 (some ((decide (122<((UInt8.toNat v2):Int))),())))))).bind λv3 =>
 (cond v3.1
 (some (inr (inr (false,()))))
 (some (inl ((w64 (v0.1+1)),())))))
 (some (inr (inl ()))))) (0,())).bind λv4 =>
 (bx_ v4 (λv5=>((ag_ (ρ:=(Unit⊕(Bool×Unit))) (λ(v7:(Int×Unit)) =>
 (cond (decide (v7.1<(([[97,116],[115,116,97,116,101,115],[115,116,97,114,116],[103,111,110,101],[105,102],[108,111,99,107],[119,105,116,104],[115,101,116,115],[115,112,101,110,100,115],[98,114,105,110,103,115]]).length:Int)))
 ((at? [[97,116],[115,116,97,116,101,115],[115,116,97,114,116],[103,111,110,101],[105,102],[108,111,99,107],[119,105,116,104],[115,101,116,115],[115,112,101,110,100,115],[98,114,105,110,103,115]] v7.1).bind λv8 =>
 (cond (v8==a0)
 (some (inr (inr (false,()))))
 (some (inl ((w64 (v7.1+1)),())))))
 (some (inr (inl ()))))) (0,())).bind λv9 =>
 (bx_ v9 (λv10=>(some ((!(a0==[])),())))
 (λv11=>(some v11)))))
 (λv6=>(some v6))))
theorem x_165:av_ (P:=prog) (cxC [c_207] []) (.p .z (.p (.p .z (.ls [.v 3 .int] [] [] 0 (.p .z (.p (.j0 [.v 21 .bool] .z .z) .z)))) (.p .z (.p (.p .z (.ls [.v 5 .int] [] [] 2 .z)) .z)))) 165 [.str] [.bool]=λx=>hz_ x.1:=by kernel_rfl
noncomputable def c_165:Con prog:=ax_ _ _ 165 [.str] [.bool] _ x_165
noncomputable def ct_ (a0:af_) (a1:Int):Option (Bool×Unit) :=
 ((bs_ a1 0 (w64 ((a0.1.length:Int) - 1))).bind λv0 =>
 (some (v0.1,())))
theorem x_116:av_ (P:=prog) (cxC [av8] []) .z 116 [ao_,.int] [.bool]=λx=>ct_ x.1 x.2.1:=by kernel_rfl
noncomputable def c_116:Con prog:=ax_ _ _ 116 [ao_,.int] [.bool] _ x_116
noncomputable def dh_ (a0:af_) (a1:(List Int)):Option (Bool×Unit) :=
 ((ag_ (ρ:=(Unit⊕(Bool×Unit))) (λ(v0:(Int×Unit)) =>
 (cond (decide (v0.1<(a1.length:Int)))
 ((((at? a1 v0.1).bind λv1 =>
 ((bs_ v1 0 (w64 ((a0.2.2.1.length:Int) - 1))).bind λv2 =>
 (cond (!v2.1)
 (some (true,()))
 (cond (decide (0<v0.1))
 ((at? a1 v0.1).bind λv3 =>
 ((at? a1 (w64 (v0.1 - 1))).bind λv4 =>
 (some ((decide (v3≤v4)),()))))
 (some (false,()))))))).bind λv5 =>
 (cond v5.1
 (some (inr (inr (false,()))))
 (some (inl ((w64 (v0.1+1)),())))))
 (some (inr (inl ()))))) (0,())).bind λv6 =>
 (bx_ v6 (λv7=>(some (true,())))
 (λv8=>(some v8))))
theorem x_166:av_ (P:=prog) (cxC [av8] []) (.p .z (.p (.p .z (.ls [.v 5 .int] [] [] 0 (.p .z (.p (.j0 [.v 37 .bool] (.q [] .z .z) .z) .z)))) .z)) 166 [ao_,(.list .int)] [.bool]=λx=>dh_ x.1 x.2.1:=by kernel_rfl
noncomputable def c_166:Con prog:=ax_ _ _ 166 [ao_,(.list .int)] [.bool] _ x_166
noncomputable def ep_ (a0:ac_):Option (Int×Unit) :=
 ((((bm_ a0.1 1 4).bind λv0 =>
 (cond (!v0.1)
 (some (true,()))
 ((bm_ a0.2 2 10).bind λv1 =>
 (some ((!v1.1),())))))).bind λv2 =>
 (cond v2.1
 (some (10,()))
 (some (0,()))))
theorem x_65:av_ (P:=prog) (cxC [c_120] []) (.p .z (.p (.j0 [.v 12 .bool] .z .z) .z)) 65 [am_] [.int]=λx=>ep_ x.1:=by kernel_rfl
noncomputable def c_65:Con prog:=ax_ _ _ 65 [am_] [.int] _ x_65
noncomputable def gu_ (a0:ac_) (a1:(List Int)):Option (Bool×Unit) :=
 (cond ((a1.length:Int) != a0.1)
 (some (false,()))
 ((ag_ (ρ:=(Unit⊕(Bool×Unit))) (λ(v0:(Int×Unit)) =>
 (cond (decide (v0.1<(a1.length:Int)))
 ((at? a1 v0.1).bind λv1 =>
 ((bm_ v1 0 (w64 (a0.2 - 1))).bind λv2 =>
 (cond (!v2.1)
 (some (inr (inr (false,()))))
 (some (inl ((w64 (v0.1+1)),()))))))
 (some (inr (inl ()))))) (0,())).bind λv3 =>
 (bx_ v3 (λv4=>(some (true,())))
 (λv5=>(some v5)))))
theorem x_121:av_ (P:=prog) (cxC [c_120] []) (.p .z (.p .z (.p (.p .z (.ls [.v 5 .int] [] [] 0 (.p .z (.p (.p (.q [] .z .z) .z) .z)))) .z))) 121 [am_,(.list .int)] [.bool]=λx=>gu_ x.1 x.2.1:=by kernel_rfl
noncomputable def c_121:Con prog:=ax_ _ _ 121 [am_,(.list .int)] [.bool] _ x_121
noncomputable def jm_ (a0:al_) (a1:al_):Option (Bool×Unit) :=
 (cond (a0.1==a1.1)
 (cond (a0.2.1==a1.2.1)
 (cond (a0.2.2.1==a1.2.2.1)
 (cond (a0.2.2.2.1==a1.2.2.2.1)
 (cond (a0.2.2.2.2.1==a1.2.2.2.2.1)
 (cond (a0.2.2.2.2.2.2==a1.2.2.2.2.2.2)
 ((hb_ a0.2.2.2.2.2.1 a1.2.2.2.2.2.1).bind λv0 =>
 (some (v0.1,())))
 (some (false,())))
 (some (false,())))
 (some (false,())))
 (some (false,())))
 (some (false,())))
 (some (false,())))
theorem x_208:av_ (P:=prog) (cxC [c_232] []) .z 208 [ar_,ar_] [.bool]=λx=>jm_ x.1 x.2.1:=by kernel_rfl
noncomputable def c_208:Con prog:=ax_ _ _ 208 [ar_,ar_] [.bool] _ x_208
noncomputable def iv_ (a0:(List Int)) (a1:(List Int)):Option (Int×Int×Unit) :=
 ((ag_ (ρ:=(Int×Unit)) (λ(v0:(Int×(Int×Unit))) =>
 (cond (decide (v0.2.1<(a0.length:Int)))
 ((((at? a0 v0.2.1).bind λv1 =>
 ((at? a1 v0.2.1).bind λv2 =>
 (cond (v1==v2)
 (some ((w64 (v0.1+1)),()))
 (some (v0.1,())))))).bind λv3 =>
 (some (inl (v3.1,((w64 (v0.2.1+1)),())))))
 (some (inr (v0.1,()))))) (0,(0,()))).bind λv4 =>
 ((ag_ (ρ:=(Int×Unit)) (λ(v5:(Int×(Int×Unit))) =>
 (cond (decide (v5.2.1<10))
 ((eo_ a0 v5.2.1).bind λv6 =>
 ((eo_ a1 v5.2.1).bind λv7 =>
 (some (inl ((w64 (v5.1+(minI v6.1 v7.1))),((w64 (v5.2.1+1)),()))))))
 (some (inr (v5.1,()))))) (0,(0,()))).bind λv8 =>
 (some (v4.1,((w64 (v8.1 - v4.1)),())))))
theorem x_170:av_ (P:=prog) (cxC [c_169] []) (.p .z (.p .z (.p (.p .z (.lp [.v 6 .int,.v 8 .int] [.v 6 .int] [] 0 (.p .z (.j0 [.v 6 .int] (.p (.q [] .z .z) .z) .z)))) (.p (.p .z (.lp [.v 7 .int,.v 9 .int] [.v 7 .int] [] 2 .z)) .z)))) 170 [(.list .int),(.list .int)] [.int,.int]=λx=>iv_ x.1 x.2.1:=by kernel_rfl
noncomputable def c_170:Con prog:=ax_ _ _ 170 [(.list .int),(.list .int)] [.int,.int] _ x_170
noncomputable def gs_ (a0:af_) (a1:ai_):Option (ai_×Bool×Unit) :=
 ((push? (α:=Int) [] a1.1).bind λv0 =>
 ((push? (α:=Int) [] a1.2.1).bind λv1 =>
 ((push? (α:=Int) [] a1.2.2).bind λv2 =>
 ((ag_ (ρ:=(((List Int)×(((List Int)×((List Int)×((List Int)×Unit)))×Unit))⊕(ai_×(Bool×Unit)))) (λ(v3:(Int×((List Int)×(((List Int)×((List Int)×((List Int)×Unit)))×Unit)))) =>
 (cond (decide (v3.1≤100))
 ((ag_ (ρ:=(Int×Unit)) (λ(v4:(Int×(Int×Unit))) =>
 (((cond (decide (v4.2.1<(a0.2.2.2.2.2.1.length:Int)))
 (some ((decide (v4.1<0)),()))
 (some (false,())))).bind λv5 =>
 (cond v5.1
 ((((at? a0.2.2.2.2.2.1 v4.2.1).bind λv6 =>
 ((((bh_ (v3.2.1,(v1,v2)) v6.1).bind λv7 =>
 (cond v7.1
 ((at? v3.2.1 v6.2.1).bind λv8 =>
 ((at? v3.2.1 v6.2.1).bind λv9 =>
 (some ((v9 != v6.2.2),()))))
 (some (false,()))))).bind λv10 =>
 (cond v10.1
 (some (v4.2.1,()))
 (some (v4.1,())))))).bind λv11 =>
 (some (inl (v11.1,((w64 (v4.2.1+1)),())))))
 (some (inr (v4.1,())))))) ((-1),(0,()))).bind λv12 =>
 (cond (decide (v12.1<0))
 (some (inr (inr ((v3.2.1,(v1,v2)),(true,())))))
 ((at? a0.2.2.2.2.2.1 v12.1).bind λv13 =>
 ((at? a0.2.2.2.2.2.1 v12.1).bind λv14 =>
 ((at? v3.2.1 v13.2.1).bind λv15 =>
 ((at? v3.2.1 v13.2.1).bind λv16 =>
 (some (inl ((w64 (v3.1+1)),((v3.2.1.set v13.2.1.toNat v14.2.2),((v3.2.2.1.1,(v3.2.2.1.2.1,(v3.2.2.1.2.2.1,()))),())))))))))))
 (some (inr (inl (v3.2.1,((v3.2.2.1.1,(v3.2.2.1.2.1,(v3.2.2.1.2.2.1,()))),()))))))) (0,(v0,(([],([],([],()))),())))).bind λv17 =>
 (bx_ v17 (λv18=>(some (([],([],[])),(false,()))))
 (λv19=>(some v19)))))))
theorem x_159:av_ (P:=prog) (cxI (λk=>.z) (λk=>Nat.beq k 16||false) (cxC [c_16] []) 2) (.p .z (.p .z (.p (.p .z (.ls [.v 7 .int] [] [.o (.c (.s 6) 0) .int,.b (.s 4) [.row .int 3,.row .int 3,.row .int 3]] 0 (.p .z (.p (.p .z (.p (.p .z (.lp [.v 8 .int,.v 9 .int] [.v 8 .int] [] 2 (.p (.j0 [.v 25 .bool] .z .z) (.j0 [.v 8 .int] (.p .z (.j0 [.v 49 .bool] .z .z)) .z)))) .z)) .z)))) .z))) 159 [ao_,ap_] [ap_,.bool]=λx=>gs_ x.1 x.2.1:=by kernel_rfl
noncomputable def c_159:Con prog:=ax_ _ _ 159 [ao_,ap_] [ap_,.bool] _ x_159
noncomputable def jc_ (a0:ab_) (a1:aa_):Option (aa_×Unit) :=
 ((gb_ a1.1).bind λv0 =>
 ((push? (α:=Bool) [] a1.2).bind λv1 =>
 ((ag_ (ρ:=((List Bool)×Unit)) (λ(v2:(Int×((List Bool)×Unit))) =>
 (cond (decide (v2.1<(a0.2.2.2.1.length:Int)))
 ((at? a0.2.2.2.1 v2.1).bind λv3 =>
 ((ag_ (ρ:=((List Bool)×Unit)) (λ(v4:(Int×((List Bool)×Unit))) =>
 (cond (decide (v4.1<(v0.1.2.2.length:Int)))
 ((((((at? v0.1.2.2 v4.1).bind λv5 =>
 (cond (v5==v3.2.1)
 ((bh_ v0.1 v3.2.2.2.1).bind λv6 =>
 (some (v6.1,())))
 (some (false,()))))).bind λv7 =>
 (cond v7.1
 ((at? v4.2.1 v2.1).bind λv8 =>
 ((at? v4.2.1 v2.1).bind λv9 =>
 (some ((v4.2.1.set v2.1.toNat true),()))))
 (some (v4.2.1,()))))).bind λv10 =>
 (some (inl ((w64 (v4.1+1)),(v10.1,())))))
 (some (inr (v4.2.1,()))))) (0,(v2.2.1,()))).bind λv11 =>
 (some (inl ((w64 (v2.1+1)),(v11.1,()))))))
 (some (inr (v2.2.1,()))))) (0,(v1,()))).bind λv12 =>
 (some ((v0.1,v12.1),())))))
theorem x_101:av_ (P:=prog) (cxI (λk=>.z) (λk=>Nat.beq k 16||Nat.beq k 51||false) (cxC [c_16,c_51] []) 2) (.p .z (.p .z (.p (.p .z (.lp [.v 6 .int] [] [.o (.c (.s 5) 3) .bool] 0 (.p .z (.p (.p .z (.p .z (.lp [.v 8 .int] [] [.o (.c (.s 5) 3) .bool] 2 (.p .z (.j0 [.o (.c (.s 5) 3) .bool] (.j0 [.v 46 .bool] .z .z) .z))))) .z)))) .z))) 101 [an_,aj_] [aj_]=λx=>jc_ x.1 x.2.1:=by kernel_rfl
noncomputable def c_101:Con prog:=ax_ _ _ 101 [an_,aj_] [aj_] _ x_101
noncomputable def io_ (a0:aa_):Option ((List UInt8)×Unit) :=
 ((ag_ (ρ:=((List UInt8)×Unit)) (λ(v0:((List UInt8)×(Int×Unit))) =>
 (cond (decide (v0.2.1<(a0.1.1.length:Int)))
 ((at? a0.1.1 v0.2.1).bind λv1 =>
 ((ce_ v1).bind λv2 =>
 ((cat? v0.1 v2.1).bind λv3 =>
 ((cat? v3 [32]).bind λv4 =>
 (some (inl (v4,((w64 (v0.2.1+1)),()))))))))
 (some (inr (v0.1,()))))) ([],(0,()))).bind λv5 =>
 ((ag_ (ρ:=((List UInt8)×Unit)) (λ(v6:((List UInt8)×(Int×Unit))) =>
 (cond (decide (v6.2.1<(a0.1.2.1.length:Int)))
 ((at? a0.1.2.1 v6.2.1).bind λv7 =>
 ((ce_ (w64 (v7+10))).bind λv8 =>
 ((cat? v6.1 v8.1).bind λv9 =>
 ((cat? v9 [32]).bind λv10 =>
 (some (inl (v10,((w64 (v6.2.1+1)),()))))))))
 (some (inr (v6.1,()))))) (v5.1,(0,()))).bind λv11 =>
 ((ag_ (ρ:=((List UInt8)×Unit)) (λ(v12:((List UInt8)×(Int×Unit))) =>
 (cond (decide (v12.2.1<(a0.1.2.2.length:Int)))
 ((at? a0.1.2.2 v12.2.1).bind λv13 =>
 ((ce_ v13).bind λv14 =>
 ((cat? v12.1 v14.1).bind λv15 =>
 ((cat? v15 [32]).bind λv16 =>
 (some (inl (v16,((w64 (v12.2.1+1)),()))))))))
 (some (inr (v12.1,()))))) (v11.1,(0,()))).bind λv17 =>
 ((ag_ (ρ:=((List UInt8)×Unit)) (λ(v18:((List UInt8)×(Int×Unit))) =>
 (cond (decide (v18.2.1<(a0.2.length:Int)))
 ((((at? a0.2 v18.2.1).bind λv19 =>
 (cond v19
 ((ce_ v18.2.1).bind λv20 =>
 ((cat? v18.1 v20.1).bind λv21 =>
 ((cat? v21 [32]).bind λv22 =>
 (some (v22,())))))
 (some (v18.1,()))))).bind λv23 =>
 (some (inl (v23.1,((w64 (v18.2.1+1)),())))))
 (some (inr (v18.1,()))))) (v17.1,(0,()))).bind λv24 =>
 (some (v24.1,()))))))
theorem x_53:av_ (P:=prog) (cxC [c_102] []) (.p .z (.p .z (.p (.p .z (.lp [.v 3 .str,.v 4 .int] [.v 3 .str] [] 0 .z)) (.p (.p .z (.lp [.v 3 .str,.v 5 .int] [.v 3 .str] [] 2 .z)) (.p (.p .z (.lp [.v 3 .str,.v 6 .int] [.v 3 .str] [] 4 .z)) (.p (.p .z (.lp [.v 3 .str,.v 7 .int] [.v 3 .str] [] 6 (.p .z (.j0 [.v 3 .str] .z .z)))) .z)))))) 53 [aj_] [.str]=λx=>io_ x.1:=by kernel_rfl
noncomputable def c_53:Con prog:=ax_ _ _ 53 [aj_] [.str] _ x_53
noncomputable def jx_ (a0:af_) (a1:ai_) (a2:ae_):Option (Bool×Unit) :=
 ((bs_ a2.1 0 (w64 (a0.2.2.2.2.2.2.1 - 1))).bind λv0 =>
 (cond (!v0.1)
 (some (false,()))
 ((at? a1.2.2 a2.1).bind λv1 =>
 (cond (a2.2.1==1)
 ((bs_ a2.2.2 0 (w64 ((a0.2.2.2.1.length:Int) - 1))).bind λv2 =>
 (cond v2.1
 ((at? a0.2.2.2.1 a2.2.2).bind λv3 =>
 (cond (v3.1==v1)
 ((at? a0.2.2.2.1 a2.2.2).bind λv4 =>
 ((bh_ a1 v4.2.2).bind λv5 =>
 (some (v5.1,()))))
 ((at? a0.2.2.2.1 a2.2.2).bind λv6 =>
 (cond (v6.2.1==v1)
 ((at? a0.2.2.2.1 a2.2.2).bind λv7 =>
 ((bh_ a1 v7.2.2).bind λv8 =>
 (some (v8.1,()))))
 (some (false,()))))))
 (some (false,()))))
 (cond (a2.2.1==2)
 ((bs_ a2.2.2 0 (w64 ((a0.2.2.1.length:Int) - 1))).bind λv9 =>
 (cond v9.1
 ((at? a1.2.1 a2.2.2).bind λv10 =>
 (cond (v10==v1)
 ((at? a0.2.2.1 a2.2.2).bind λv11 =>
 ((bh_ a1 v11.2.2).bind λv12 =>
 (cond v12.1
 ((hk_ a1 a2.1).bind λv13 =>
 (some ((decide (v13.1<3)),())))
 (some (false,())))))
 (some (false,()))))
 (some (false,()))))
 (cond (a2.2.1==3)
 ((bs_ a2.2.2 0 (w64 ((a0.2.2.1.length:Int) - 1))).bind λv14 =>
 (cond v14.1
 ((at? a1.2.1 a2.2.2).bind λv15 =>
 (some ((v15==(w64 ((-2) - a2.1))),())))
 (some (false,()))))
 (cond (a2.2.1==4)
 ((bs_ a2.2.2 0 (w64 ((a0.2.2.2.2.1.length:Int) - 1))).bind λv16 =>
 (cond (!v16.1)
 (some (false,()))
 ((at? a0.2.2.2.2.1 a2.2.2).bind λv17 =>
 ((ag_ (ρ:=(Unit⊕(Bool×Unit))) (λ(v18:(Int×Unit)) =>
 (cond (decide (v18.1<(v17.2.2.2.1.length:Int)))
 ((at? v17.2.2.2.1 v18.1).bind λv19 =>
 ((at? a1.2.1 v19).bind λv20 =>
 (cond (v20 != (w64 ((-2) - a2.1)))
 (some (inr (inr (false,()))))
 (some (inl ((w64 (v18.1+1)),()))))))
 (some (inr (inl ()))))) (0,())).bind λv21 =>
 (bx_ v21 (λv22=>((ag_ (ρ:=(Unit⊕(Bool×Unit))) (λ(v24:(Int×Unit)) =>
 (cond (decide (v24.1<(v17.2.2.2.2.2.2.2.length:Int)))
 ((at? v17.2.2.2.2.2.2.2 v24.1).bind λv25 =>
 ((at? a1.2.1 v25).bind λv26 =>
 (cond (v26 != (-1))
 (some (inr (inr (false,()))))
 (some (inl ((w64 (v24.1+1)),()))))))
 (some (inr (inl ()))))) (0,())).bind λv27 =>
 (bx_ v27 (λv28=>(cond (v17.2.1==v1)
 ((bh_ a1 v17.2.2.2.2.1).bind λv30 =>
 (cond v30.1
 ((hk_ a1 a2.1).bind λv31 =>
 (some ((decide ((w64 ((w64 (v31.1 - (v17.2.2.2.2.2.2.1.length:Int)))+(v17.2.2.2.2.2.2.2.length:Int)))≤3)),())))
 (some (false,()))))
 (some (false,()))))
 (λv29=>(some v29)))))
 (λv23=>(some v23)))))))
 (some (false,())))))))))
theorem x_157:av_ (P:=prog) (cxC [c_16,av8,c_202] []) (.p .z (.p .z (.p (.q [] .z .z) (.p (.p .z (.p .z (.p (.p (.q [] .z .z) .z) (.p .z (.p (.p (.q [] .z .z) .z) (.p .z (.p .z (.p .z (.p (.p .z (.p .z (.p (.p .z (.ls [.v 10 .int] [] [] 1 .z)) (.p (.p .z (.ls [.v 11 .int] [] [] 3 .z)) .z)))) .z))))))))) .z)))) 157 [ao_,ap_,aq_] [.bool]=λx=>jx_ x.1 x.2.1 x.2.2.1:=by kernel_rfl
noncomputable def c_157:Con prog:=ax_ _ _ 157 [ao_,ap_,aq_] [.bool] _ x_157
noncomputable def kx_ (a0:ab_):Option (Bool×Unit) :=
 ((((nj_ a0.1).bind λv0 =>
 (cond v0.1
 (some (true,()))
 (cond (decide (10<(a0.2.1.length:Int)))
 (some (true,()))
 (cond (decide (10<(a0.2.2.1.length:Int)))
 (some (true,()))
 (some ((decide (20<(a0.2.2.2.1.length:Int))),()))))))).bind λv1 =>
 (cond v1.1
 (some (true,()))
 ((ag_ (ρ:=(Unit⊕(Bool×Unit))) (λ(v2:(Int×Unit)) =>
 (cond (decide (v2.1<(a0.2.1.length:Int)))
 ((((at? a0.2.1 v2.1).bind λv3 =>
 (cond (decide (3<v3.1))
 ((at? a0.2.1 v2.1).bind λv4 =>
 (some ((decide (5<v4.2)),())))
 (some (false,()))))).bind λv5 =>
 (cond v5.1
 (some (inr (inr (true,()))))
 (some (inl ((w64 (v2.1+1)),())))))
 (some (inr (inl ()))))) (0,())).bind λv6 =>
 (bx_ v6 (λv7=>((ag_ (ρ:=(Unit⊕(Bool×Unit))) (λ(v9:(Int×Unit)) =>
 (cond (decide (v9.1<(a0.2.2.1.length:Int)))
 ((at? a0.2.2.1 v9.1).bind λv10 =>
 (cond (decide (10<(v10.length:Int)))
 (some (inr (inr (true,()))))
 (some (inl ((w64 (v9.1+1)),())))))
 (some (inr (inl ()))))) (0,())).bind λv11 =>
 (bx_ v11 (λv12=>((ag_ (ρ:=(Unit⊕(Bool×Unit))) (λ(v14:(Int×Unit)) =>
 (cond (decide (v14.1<(a0.2.2.2.1.length:Int)))
 ((at? a0.2.2.2.1 v14.1).bind λv15 =>
 (((cond (decide (100<(v15.1.length:Int)))
 (some (true,()))
 (cond (decide (20<(v15.2.2.2.1.length:Int)))
 (some (true,()))
 (some ((decide (10<(v15.2.2.2.2.2.2.2.2.2.1.length:Int))),()))))).bind λv16 =>
 (cond v16.1
 (some (inr (inr (true,()))))
 (some (inl ((w64 (v14.1+1)),()))))))
 (some (inr (inl ()))))) (0,())).bind λv17 =>
 (bx_ v17 (λv18=>(some (false,())))
 (λv19=>(some v19)))))
 (λv13=>(some v13)))))
 (λv8=>(some v8))))))
theorem x_30:av_ (P:=prog) (cxC [c_63] []) (.p .z (.p (.j0 [.v 27 .bool] .z .z) (.p (.p .z (.ls [.v 3 .int] [] [] 0 (.p .z (.p (.j0 [.v 50 .bool] .z .z) .z)))) (.p (.p .z (.ls [.v 4 .int] [] [] 2 .z)) (.p (.p .z (.ls [.v 5 .int] [] [] 4 (.p .z (.p (.p .z (.j0 [.v 93 .bool] .z .z)) .z)))) .z))))) 30 [an_] [.bool]=λx=>kx_ x.1:=by kernel_rfl
noncomputable def c_30:Con prog:=ax_ _ _ 30 [an_] [.bool] _ x_30
noncomputable def cz_ (a0:(List (List UInt8))) (a1:(List UInt8)):Option (Bool×Unit) :=
 ((du_ a0 a1).bind λv0 =>
 (some ((decide (0≤v0.1)),())))
theorem x_209:av_ (P:=prog) (cxC [c_233] []) .z 209 [(.list .str),.str] [.bool]=λx=>cz_ x.1 x.2.1:=by kernel_rfl
noncomputable def c_209:Con prog:=ax_ _ _ 209 [(.list .str),.str] [.bool] _ x_209
noncomputable def fh_ (a0:af_) (a1:Int) (a2:Int):Option (Bool×Unit) :=
 ((bc_ a1 0 (w64 ((a0.2.1.length:Int) - 1))).bind λv0 =>
 (cond v0.1
 ((at? a0.2.1 a1).bind λv1 =>
 ((bc_ a2 0 (w64 (v1.2.2.1 - 1))).bind λv2 =>
 (some (v2.1,()))))
 (some (false,()))))
theorem x_135:av_ (P:=prog) (cxC [cb0] []) .z 135 [ao_,.int,.int] [.bool]=λx=>fh_ x.1 x.2.1 x.2.2.1:=by kernel_rfl
noncomputable def co6:Con prog:=ax_ _ _ 135 [ao_,.int,.int] [.bool] _ x_135
noncomputable def bk_ (a0:(List Int)) (a1:Int):Option (Bool×Unit) :=
 ((bt_ a0 a1).bind λv0 =>
 (some ((decide (0≤v0.1)),())))
theorem x_85:av_ (P:=prog) (cxC [c_36] []) .z 85 [(.list .int),.int] [.bool]=λx=>bk_ x.1 x.2.1:=by kernel_rfl
noncomputable def c_85:Con prog:=ax_ _ _ 85 [(.list .int),.int] [.bool] _ x_85
noncomputable def et_ (a0:ac_):Option (Int×Unit) :=
 ((((bz_ a0.1 1 4).bind λv0 =>
 (cond (!v0.1)
 (some (true,()))
 ((bz_ a0.2 2 10).bind λv1 =>
 (some ((!v1.1),())))))).bind λv2 =>
 (cond v2.1
 (some (10,()))
 (some (0,()))))
theorem x_77:av_ (P:=prog) (cxC [co5] []) (.p .z (.p (.j0 [.v 12 .bool] .z .z) .z)) 77 [am_] [.int]=λx=>et_ x.1:=by kernel_rfl
noncomputable def c_77:Con prog:=ax_ _ _ 77 [am_] [.int] _ x_77
noncomputable def cp_ (a0:ac_) (a1:Int):Option (Bool×Unit) :=
 ((bz_ a1 0 (w64 (a0.2 - 1))).bind λv0 =>
 (some (v0.1,())))
theorem x_220:av_ (P:=prog) (cxC [co5] []) .z 220 [am_,.int] [.bool]=λx=>cp_ x.1 x.2.1:=by kernel_rfl
noncomputable def c_220:Con prog:=ax_ _ _ 220 [am_,.int] [.bool] _ x_220
noncomputable def bu_ (a0:ac_) (a1:Int):Option (Bool×Unit) :=
 ((bz_ a1 0 (w64 (a0.1 - 1))).bind λv0 =>
 (some (v0.1,())))
theorem x_236:av_ (P:=prog) (cxC [co5] []) .z 236 [am_,.int] [.bool]=λx=>bu_ x.1 x.2.1:=by kernel_rfl
noncomputable def c_236:Con prog:=ax_ _ _ 236 [am_,.int] [.bool] _ x_236
noncomputable def nk_ (a0:al_) (a1:(List Int)):Option (Bool×Unit) :=
 (cond (a0.1==1)
 ((at? a1 a0.2.1).bind λv0 =>
 (some ((v0==a0.2.2.2.1),())))
 (cond (a0.1==2)
 ((sub? a1 a0.2.1 (w64 (a0.2.2.1+1))).bind λv1 =>
 ((ag_ (ρ:=(Int×Unit)) (λ(v2:(Int×(Int×Unit))) =>
 (cond (decide (v2.2.1<(v1.length:Int)))
 ((at? v1 v2.2.1).bind λv3 =>
 (some (inl ((w64 (v2.1+v3)),((w64 (v2.2.1+1)),())))))
 (some (inr (v2.1,()))))) (0,(0,()))).bind λv4 =>
 (some ((v4.1==a0.2.2.2.1),()))))
 (cond (a0.1==3)
 ((at? a1 a0.2.1).bind λv5 =>
 ((at? a1 a0.2.2.1).bind λv6 =>
 (some ((decide (v5<v6)),()))))
 (cond (a0.1==4)
 ((at? a1 a0.2.1).bind λv7 =>
 ((at? a1 a0.2.2.1).bind λv8 =>
 (some ((v7==v8),()))))
 (cond (a0.1==5)
 ((ag_ (ρ:=(Int×Unit)) (λ(v9:(Int×(Int×Unit))) =>
 (cond (decide (v9.2.1<(a1.length:Int)))
 ((((at? a1 v9.2.1).bind λv10 =>
 (cond (v10==a0.2.2.2.1)
 (some ((w64 (v9.1+1)),()))
 (some (v9.1,()))))).bind λv11 =>
 (some (inl (v11.1,((w64 (v9.2.1+1)),())))))
 (some (inr (v9.1,()))))) (0,(0,()))).bind λv12 =>
 (some ((v12.1==a0.2.2.2.2.1),())))
 (cond (a0.1==6)
 ((ix_ a1 a0.2.2.2.2.2.1).bind λv13 =>
 (cond (v13.1==a0.2.2.2.1)
 (some ((v13.2.1==a0.2.2.2.2.1),()))
 (some (false,()))))
 ((at? a1 a0.2.1).bind λv14 =>
 ((md v14 a0.2.2.2.1).bind λv15 =>
 (some ((v15==a0.2.2.2.2.1),()))))))))))
theorem x_222:av_ (P:=prog) (cxC [c_237] []) (.p .z (.p (.p .z (.p .z (.p (.p (.q [] .z .z) .z) (.p .z (.p (.p .z (.p (.p .z (.lp [.v 5 .int,.v 35 .int] [.v 5 .int] [] 1 .z)) .z)) (.p .z (.p (.p (.q [] .z .z) .z) (.p .z (.p (.p (.q [] .z .z) .z) (.p .z (.p (.p .z (.p (.p .z (.lp [.v 8 .int,.v 77 .int] [.v 8 .int] [] 3 (.p .z (.p .z (.j0 [.v 8 .int] .z .z))))) .z)) .z))))))))))) (.p (.q [] .z .z) .z))) 222 [ar_,(.list .int)] [.bool]=λx=>nk_ x.1 x.2.1:=by kernel_rfl
noncomputable def c_222:Con prog:=ax_ _ _ 222 [ar_,(.list .int)] [.bool] _ x_222
noncomputable def lu_ (a0:af_) (a1:(List bd_)):Option (Bool×Unit) :=
 (cond (decide ((a1.length:Int)≤8))
 ((((ag_ (ρ:=(Unit⊕(Bool×Unit))) (λ(v0:(Int×Unit)) =>
 (cond (decide (v0.1<(a1.length:Int)))
 ((at? a1 v0.1).bind λv1 =>
 ((((cb_ v1.1 0 (w64 ((a0.2.1.length:Int) - 1))).bind λv2 =>
 (cond (!v2.1)
 (some (true,()))
 ((at? a0.2.1 v1.1).bind λv3 =>
 ((cb_ v1.2.1 0 (w64 (v3.2.2.1 - 1))).bind λv4 =>
 (some ((!v4.1),()))))))).bind λv5 =>
 (cond v5.1
 (some (inr (inr ((decide (0≤v0.1)),()))))
 (some (inl ((w64 (v0.1+1)),()))))))
 (some (inr (inl ()))))) (0,())).bind λv6 =>
 (bx_ v6 (λv7=>(some ((decide (0≤(-1))),())))
 (λv8=>(some v8))))).bind λv9 =>
 (some ((!v9.1),())))
 (some (false,())))
theorem x_80:av_ (P:=prog) (cxI (λk=>cond (Nat.beq k 143) (.p .z (.j0 [.v 4 .bool] .z .z)) (cond (Nat.beq k 144) (.p .z (.j0 [.v 3 .bool] (.q [] .z .z) .z)) (cond (Nat.beq k 189) (.p .z (.p (.p .z (.ls [.v 8 .int] [] [] 0 .z)) .z)) (.z)))) (λk=>Nat.beq k 81||false) (cxC [c_81] []) 4) .z 80 [ao_,(.list cc_)] [.bool]=λx=>lu_ x.1 x.2.1:=by kernel_rfl
noncomputable def c_80:Con prog:=ax_ _ _ 80 [ao_,(.list cc_)] [.bool] _ x_80
noncomputable def da_ (a0:hr_) (a1:ae_):Option (Bool×Unit) :=
 ((bc_ a1.1 0 (w64 ((a0.2.2.2.length:Int) - 1))).bind λv0 =>
 (cond (!v0.1)
 (some (false,()))
 ((at? a0.2.2.2 a1.1).bind λv1 =>
 (cond (a1.2.1==1)
 ((bc_ a1.2.2 0 (w64 ((a0.1.2.2.2.1.length:Int) - 1))).bind λv2 =>
 (cond (!v2.1)
 (some (false,()))
 ((at? a0.1.2.2.2.1 a1.2.2).bind λv3 =>
 (cond (v3.1==v1)
 ((bb_ a0 v3.2.2).bind λv4 =>
 (some (v4.1,())))
 (cond (v3.2.1==v1)
 ((bb_ a0 v3.2.2).bind λv5 =>
 (some (v5.1,())))
 (some (false,())))))))
 (cond (a1.2.1==2)
 ((bc_ a1.2.2 0 (w64 ((a0.2.2.1.length:Int) - 1))).bind λv6 =>
 (cond v6.1
 ((at? a0.2.2.1 a1.2.2).bind λv7 =>
 (cond (v7==v1)
 ((at? a0.1.2.2.1 a1.2.2).bind λv8 =>
 ((bb_ a0 v8.2.2).bind λv9 =>
 (cond v9.1
 ((dg_ a0 a1.1).bind λv10 =>
 (some ((decide (v10.1<3)),())))
 (some (false,())))))
 (some (false,()))))
 (some (false,()))))
 (cond (a1.2.1==3)
 ((bc_ a1.2.2 0 (w64 ((a0.2.2.1.length:Int) - 1))).bind λv11 =>
 (cond v11.1
 ((at? a0.2.2.1 a1.2.2).bind λv12 =>
 (some ((v12==(w64 ((-2) - a1.1))),())))
 (some (false,()))))
 (cond (a1.2.1==4)
 ((bc_ a1.2.2 0 (w64 ((a0.1.2.2.2.2.1.length:Int) - 1))).bind λv13 =>
 (cond (!v13.1)
 (some (false,()))
 ((at? a0.1.2.2.2.2.1 a1.2.2).bind λv14 =>
 (cond (v14.2.1==v1)
 ((((ag_ (ρ:=(Unit⊕(Bool×Unit))) (λ(v15:(Int×Unit)) =>
 (cond (decide (v15.1<(v14.2.2.2.1.length:Int)))
 ((at? v14.2.2.2.1 v15.1).bind λv16 =>
 ((at? a0.2.2.1 v16).bind λv17 =>
 (cond (!(v17==(w64 ((-2) - a1.1))))
 (some (inr (inr ((decide (0≤v15.1)),()))))
 (some (inl ((w64 (v15.1+1)),()))))))
 (some (inr (inl ()))))) (0,())).bind λv18 =>
 (bx_ v18 (λv19=>(some ((decide (0≤(-1))),())))
 (λv20=>(some v20))))).bind λv21 =>
 (cond (!v21.1)
 ((bb_ a0 v14.2.2.2.2.1).bind λv22 =>
 (cond v22.1
 ((((ag_ (ρ:=(Unit⊕(Bool×Unit))) (λ(v23:(Int×Unit)) =>
 (cond (decide (v23.1<(v14.2.2.2.2.2.2.2.length:Int)))
 ((at? v14.2.2.2.2.2.2.2 v23.1).bind λv24 =>
 ((at? a0.2.2.1 v24).bind λv25 =>
 (cond (!(v25==(-1)))
 (some (inr (inr ((decide (0≤v23.1)),()))))
 (some (inl ((w64 (v23.1+1)),()))))))
 (some (inr (inl ()))))) (0,())).bind λv26 =>
 (bx_ v26 (λv27=>(some ((decide (0≤(-1))),())))
 (λv28=>(some v28))))).bind λv29 =>
 (cond (!v29.1)
 ((dg_ a0 a1.1).bind λv30 =>
 (some ((decide ((w64 ((w64 (v30.1 - (v14.2.2.2.2.2.2.1.length:Int)))+(v14.2.2.2.2.2.2.2.length:Int)))≤3)),())))
 (some (false,()))))
 (some (false,()))))
 (some (false,()))))
 (some (false,()))))))
 (some (false,())))))))))
theorem x_148:av_ (P:=prog) (cxI (λk=>cond (Nat.beq k 95) (.p .z (.j0 [.v 4 .bool] .z .z)) (cond (Nat.beq k 154) (.p .z (.p (.p .z (.ls [.v 8 .int] [] [] 0 .z)) .z)) (cond (Nat.beq k 194) (.p .z (.p (.q [] .z .z) .z)) (.z)))) (λk=>Nat.beq k 126||Nat.beq k 147||Nat.beq k 197||false) (cxC [cb0,ca8,c_197] []) 7) (.p .z (.p (.p (.q [] .z .z) .z) (.p (.q [] .z .z) (.p .z (.p .z (.p .z (.p (.p .z (.p .z (.p (.p (.p (.q [] .z .z) .z) .z) (.p .z (.p (.p (.q [] .z .z) .z) (.p .z (.p (.p (.q [] .z .z) .z) (.p .z (.p (.p (.p (.q [] .z .z) .z) .z) .z))))))))) .z))))))) 148 [(.ref fe_),aq_] [.bool]=λx=>da_ x.1 x.2.1:=by kernel_rfl
noncomputable def c_148:Con prog:=ax_ _ _ 148 [(.ref fe_),aq_] [.bool] _ x_148
noncomputable def kv_ (a0:aa_):Option ((List UInt8)×Unit) :=
 ((fq_ [a0.1.1,a0.1.2.1,a0.1.2.2]).bind λv0 =>
 ((ls_ a0).bind λv1 =>
 ((cat? v0.1 v1.1).bind λv2 =>
 (some (v2,())))))
theorem x_151:av_ (P:=prog) (cxC [c_56,c_198] []) .z 151 [aj_] [.str]=λx=>kv_ x.1:=by kernel_rfl
noncomputable def c_151:Con prog:=ax_ _ _ 151 [aj_] [.str] _ x_151
noncomputable def xo_  : Option (ab_×Unit) :=
 (some ((([[104,97,108,108],[118,97,117,108,116]],([([98,111,120],(0,(2,0))),([100,111,111,114],(0,(2,0)))],([([107,101,121],(0,[(0,(1,false))]))],([(0,(1,[(1,(1,false))]))],([([111,112,101,110],(0,(0,([],([],([(0,1)],([],[]))))))),([116,117,114,110],(0,((-1),([0],([],([(1,1)],([0],[])))))))],([],(1,[]))))))),([(2,4)],([[3,1]],([([108,101,97,102],(0,(0,([],(2,(0,(1,(4,(0,([],false)))))))))),([98,97,99,107],(0,(0,([(0,(0,false))],(3,(1,(0,(0,(0,([],false)))))))))),([99,97,114,100],(1,((-1),([],(0,(0,(0,(0,(0,([],false))))))))))],1)))),()))
theorem x_32:av_ (P:=prog) (cxC [c_70] []) .z 32 [] [an_]=λx=>xo_:=by kernel_rfl
noncomputable def c_32:Con prog:=ax_ _ _ 32 [] [an_] _ x_32
noncomputable def lr_ (a0:af_):Option (af_×Unit) :=
 ((push? (α:=(List UInt8)) [] a0.1).bind λv0 =>
 ((push? (α:=hg_) [] a0.2.1).bind λv1 =>
 ((push? (α:=kk_) [] a0.2.2.1).bind λv2 =>
 ((push? (α:=oy_) [] a0.2.2.2.1).bind λv3 =>
 ((push? (α:=cv_) [] a0.2.2.2.2.1).bind λv4 =>
 ((push? (α:=pz_) [] a0.2.2.2.2.2.1).bind λv5 =>
 ((cm_ a0.2.2.2.2.2.2.2).bind λv6 =>
 ((ag_ (ρ:=((List kk_)×Unit)) (λ(v7:(Int×((List kk_)×Unit))) =>
 (cond (decide (v7.1<(v7.2.1.length:Int)))
 ((at? v7.2.1 v7.1).bind λv8 =>
 ((at? v7.2.1 v7.1).bind λv9 =>
 ((cm_ v9.2.2).bind λv10 =>
 ((at? v7.2.1 v7.1).bind λv11 =>
 ((at? v7.2.1 v7.1).bind λv12 =>
 (some (inl ((w64 (v7.1+1)),((v7.2.1.set v7.1.toNat (v12.1,(v12.2.1,v10.1))),())))))))))
 (some (inr (v7.2.1,()))))) (0,(v2,()))).bind λv13 =>
 ((ag_ (ρ:=((List oy_)×Unit)) (λ(v14:(Int×((List oy_)×Unit))) =>
 (cond (decide (v14.1<(v14.2.1.length:Int)))
 ((at? v14.2.1 v14.1).bind λv15 =>
 ((at? v14.2.1 v14.1).bind λv16 =>
 ((cm_ v16.2.2).bind λv17 =>
 ((at? v14.2.1 v14.1).bind λv18 =>
 ((at? v14.2.1 v14.1).bind λv19 =>
 (some (inl ((w64 (v14.1+1)),((v14.2.1.set v14.1.toNat (v19.1,(v19.2.1,v17.1))),())))))))))
 (some (inr (v14.2.1,()))))) (0,(v3,()))).bind λv20 =>
 ((ag_ (ρ:=((List cv_)×Unit)) (λ(v21:(Int×((List cv_)×Unit))) =>
 (cond (decide (v21.1<(v21.2.1.length:Int)))
 ((at? v21.2.1 v21.1).bind λv22 =>
 ((at? v21.2.1 v21.1).bind λv23 =>
 ((dq_ v23.2.2.2.1).bind λv24 =>
 ((dq_ v23.2.2.2.2.2.2.1).bind λv25 =>
 ((dq_ v23.2.2.2.2.2.2.2).bind λv26 =>
 ((cm_ v23.2.2.2.2.1).bind λv27 =>
 ((push? (α:=ac_) [] v23.2.2.2.2.2.1).bind λv28 =>
 ((at? v21.2.1 v21.1).bind λv29 =>
 ((at? v21.2.1 v21.1).bind λv30 =>
 (some (inl ((w64 (v21.1+1)),((v21.2.1.set v21.1.toNat (v23.1,(v23.2.1,(v23.2.2.1,(v24.1,(v27.1,(v28,(v25.1,v26.1)))))))),())))))))))))))
 (some (inr (v21.2.1,()))))) (0,(v4,()))).bind λv31 =>
 ((ag_ (ρ:=((List pz_)×Unit)) (λ(v32:(Int×((List pz_)×Unit))) =>
 (cond (decide (v32.1<(v32.2.1.length:Int)))
 ((at? v32.2.1 v32.1).bind λv33 =>
 ((at? v32.2.1 v32.1).bind λv34 =>
 ((cm_ v34.1).bind λv35 =>
 ((at? v32.2.1 v32.1).bind λv36 =>
 ((at? v32.2.1 v32.1).bind λv37 =>
 (some (inl ((w64 (v32.1+1)),((v32.2.1.set v32.1.toNat (v35.1,v37.2)),())))))))))
 (some (inr (v32.2.1,()))))) (0,(v5,()))).bind λv38 =>
 (some ((v0,(v1,(v13.1,(v20.1,(v31.1,(v38.1,(a0.2.2.2.2.2.2.1,v6.1))))))),())))))))))))))
theorem x_33:av_ (P:=prog) (cxC [c_71,c_72] []) (.p .z (.p .z (.p (.p .z (.lp [.v 4 .int] [] [.o (.s 20) pf_] 0 .z)) (.p (.p .z (.lp [.v 5 .int] [] [.o (.s 24) aj6] 2 .z)) (.p (.p .z (.lp [.v 6 .int] [] [.o (.s 28) mi_] 4 .z)) (.p (.p .z (.lp [.v 8 .int] [] [.o (.s 32) yu_] 6 .z)) .z)))))) 33 [ao_] [ao_]=λx=>lr_ x.1:=by kernel_rfl
noncomputable def c_33:Con prog:=ax_ _ _ 33 [ao_] [ao_] _ x_33
noncomputable def jk_ (a0:ab_) (a1:aa_):Option (Bool×Unit) :=
 ((bh_ a1.1 a0.1.2.2.2.2.2.2.2).bind λv0 =>
 (some (v0.1,())))
noncomputable def ho_ (a0:aa_):Option (Bool×Unit) :=
 ((lx_ a0.1).bind λv0 =>
 (cond v0.1
 (some (true,()))
 (some ((decide (30<(a0.2.length:Int))),()))))
theorem x_59:av_ (P:=prog) (cxC [c_110] []) .z 59 [aj_] [.bool]=λx=>ho_ x.1:=by kernel_rfl
noncomputable def c_59:Con prog:=ax_ _ _ 59 [aj_] [.bool] _ x_59
noncomputable def hl_ (a0:aa_) (a1:aa_):Option (Bool×Unit) :=
 ((cy_ a0.1.1 a1.1.1).bind λv0 =>
 (cond v0.1
 ((cy_ a0.1.2.1 a1.1.2.1).bind λv1 =>
 (cond v1.1
 ((cy_ a0.1.2.2 a1.1.2.2).bind λv2 =>
 (cond v2.1
 ((dn_ a0.2 a1.2).bind λv3 =>
 (some (v3.1,())))
 (some (false,()))))
 (some (false,()))))
 (some (false,()))))
theorem x_60:av_ (P:=prog) (cxC [c_111,c_112] []) .z 60 [aj_,aj_] [.bool]=λx=>hl_ x.1 x.2.1:=by kernel_rfl
noncomputable def c_60:Con prog:=ax_ _ _ 60 [aj_,aj_] [.bool] _ x_60
noncomputable def ga_ (a0:ai_) (a1:ai_):Option (Bool×Unit) :=
 ((dr_ a0.1 a1.1).bind λv0 =>
 (cond v0.1
 ((dr_ a0.2.1 a1.2.1).bind λv1 =>
 (cond v1.1
 ((dr_ a0.2.2 a1.2.2).bind λv2 =>
 (some (v2.1,())))
 (some (false,()))))
 (some (false,()))))
theorem x_62:av_ (P:=prog) (cxC [c_113] []) .z 62 [ap_,ap_] [.bool]=λx=>ga_ x.1 x.2.1:=by kernel_rfl
noncomputable def c_62:Con prog:=ax_ _ _ 62 [ap_,ap_] [.bool] _ x_62
end
section
set_option maxRecDepth 100000
set_option maxHeartbeats 0
noncomputable def cu_ (a0:af_) (a1:(List bd_)):Option (Bool×Unit) :=
 ((ag_ (ρ:=(Unit⊕(Bool×Unit))) (λ(v0:(Int×Unit)) =>
 (cond (decide (v0.1<(a1.length:Int)))
 ((at? a1 v0.1).bind λv1 =>
 ((at? a1 v0.1).bind λv2 =>
 ((hd_ a0 v1.1 v2.2.1).bind λv3 =>
 (cond (!v3.1)
 (some (inr (inr (false,()))))
 (some (inl ((w64 (v0.1+1)),())))))))
 (some (inr (inl ()))))) (0,())).bind λv4 =>
 (bx_ v4 (λv5=>(some ((decide ((a1.length:Int)≤8)),())))
 (λv6=>(some v6))))
theorem x_68:av_ (P:=prog) (cxC [co7] []) (.p .z (.p (.p .z (.ls [.v 5 .int] [] [] 0 (.p .z (.p (.p (.q [] .z .z) .z) .z)))) .z)) 68 [ao_,(.list cc_)] [.bool]=λx=>cu_ x.1 x.2.1:=by kernel_rfl
noncomputable def c_68:Con prog:=ax_ _ _ 68 [ao_,(.list cc_)] [.bool] _ x_68
noncomputable def dw_ (a0:(List UInt8)):Option (Bool×Unit) :=
 (cond (decide ((a0.length:Int)≤12))
 ((hz_ a0).bind λv0 =>
 (some (v0.1,())))
 (some (false,())))
theorem x_114:av_ (P:=prog) (cxC [c_165] []) .z 114 [.str] [.bool]=λx=>dw_ x.1:=by kernel_rfl
noncomputable def c_114:Con prog:=ax_ _ _ 114 [.str] [.bool] _ x_114
noncomputable def gd_ (a0:ac_) (a1:(List Int)):Option (Int×Unit) :=
 ((ep_ a0).bind λv0 =>
 (cond (v0.1 != 0)
 (some (v0.1,()))
 ((gu_ a0 a1).bind λv1 =>
 (cond (!v1.1)
 (some (12,()))
 (some (0,()))))))
theorem x_66:av_ (P:=prog) (cxC [c_65,c_121] []) .z 66 [am_,(.list .int)] [.int]=λx=>gd_ x.1 x.2.1:=by kernel_rfl
noncomputable def c_66:Con prog:=ax_ _ _ 66 [am_,(.list .int)] [.int] _ x_66
noncomputable def gv_ (a0:ac_) (a1:al_):Option (Bool×Unit) :=
 ((bm_ a1.2.1 0 (w64 (a0.1 - 1))).bind λv0 =>
 ((bm_ a1.2.2.1 0 (w64 (a0.1 - 1))).bind λv1 =>
 (((cond (a1.1==1)
 (((cond v0.1
 ((bm_ a1.2.2.2.1 0 (w64 (a0.2 - 1))).bind λv2 =>
 (some (v2.1,())))
 (some (false,())))).bind λv3 =>
 (some (v3.1,((a1.2.1,(0,(a1.2.2.2.1,(0,([],()))))),()))))
 (cond (a1.1==2)
 (((cond v0.1
 (cond v1.1
 (cond (decide (a1.2.1≤a1.2.2.1))
 ((bm_ a1.2.2.2.1 0 100).bind λv4 =>
 (some (v4.1,())))
 (some (false,())))
 (some (false,())))
 (some (false,())))).bind λv5 =>
 (some (v5.1,((a1.2.1,(a1.2.2.1,(a1.2.2.2.1,(0,([],()))))),()))))
 (((cond (a1.1==3)
 (some ((a1.1==3),()))
 (some ((a1.1==4),())))).bind λv6 =>
 (cond v6.1
 (((cond v0.1
 (cond v1.1
 (some ((a1.2.1 != a1.2.2.1),()))
 (some (false,())))
 (some (false,())))).bind λv7 =>
 (some (v7.1,((a1.2.1,(a1.2.2.1,(0,(0,([],()))))),()))))
 (cond (a1.1==5)
 ((((bm_ a1.2.2.2.1 0 (w64 (a0.2 - 1))).bind λv8 =>
 (cond v8.1
 ((bm_ a1.2.2.2.2.1 0 a0.1).bind λv9 =>
 (some (v9.1,())))
 (some (false,()))))).bind λv10 =>
 (some (v10.1,((0,(0,(a1.2.2.2.1,(a1.2.2.2.2.1,([],()))))),()))))
 (cond (a1.1==6)
 ((((gu_ a0 a1.2.2.2.2.2.1).bind λv11 =>
 (cond v11.1
 ((bm_ a1.2.2.2.1 0 a0.1).bind λv12 =>
 (cond v12.1
 ((bm_ a1.2.2.2.2.1 0 a0.1).bind λv13 =>
 (some (v13.1,())))
 (some (false,()))))
 (some (false,()))))).bind λv14 =>
 (some (v14.1,((0,(0,(a1.2.2.2.1,(a1.2.2.2.2.1,(a1.2.2.2.2.2.1,()))))),()))))
 (cond (a1.1==7)
 (((cond v0.1
 ((bm_ a1.2.2.2.1 2 10).bind λv15 =>
 (cond v15.1
 ((bm_ a1.2.2.2.2.1 0 (w64 (a1.2.2.2.1 - 1))).bind λv16 =>
 (some (v16.1,())))
 (some (false,()))))
 (some (false,())))).bind λv17 =>
 (some (v17.1,((a1.2.1,(0,(a1.2.2.2.1,(a1.2.2.2.2.1,([],()))))),()))))
 (some (false,((0,(0,(0,(0,([],()))))),()))))))))))).bind λv18 =>
 (cond v18.1
 ((jm_ a1 (a1.1,(v18.2.1.1,(v18.2.1.2.1,(v18.2.1.2.2.1,(v18.2.1.2.2.2.1,(v18.2.1.2.2.2.2.1,a1.2.2.2.2.2.2))))))).bind λv19 =>
 (some (v19.1,())))
 (some (false,()))))))
theorem x_168:av_ (P:=prog) (cxC [c_120,c_121,c_208] []) (.p .z (.p (.q [] .z .z) (.p .z (.p .z (.j0 [.v 8 .bool,.b (.s 7) [.keep,.val .int,.val .int,.val .int,.val .int,.val (.list .int),.keep]] (.p .z (.p .z (.p (.j0 [.v 8 .bool] .z .z) (.p .z (.p (.j0 [.v 8 .bool] .z .z) (.j0 [.v 72 .bool] .z (.p (.j0 [.v 8 .bool] .z .z) (.p .z (.p (.j0 [.v 8 .bool] .z .z) (.p .z (.p (.j0 [.v 8 .bool] .z .z) (.p .z (.p (.j0 [.v 8 .bool] .z .z) .z))))))))))))) .z))))) 168 [am_,ar_] [.bool]=λx=>gv_ x.1 x.2.1:=by kernel_rfl
noncomputable def c_168:Con prog:=ax_ _ _ 168 [am_,ar_] [.bool] _ x_168
noncomputable def fp_ (a0:al_) (a1:(List Int)):Option (Bool×Unit) :=
 (((cond (a0.1==1)
 ((at? a1 a0.2.1).bind λv0 =>
 (some ((v0==a0.2.2.2.1),())))
 (cond (a0.1==2)
 ((ag_ (ρ:=(Int×Unit)) (λ(v1:(Int×(Int×Unit))) =>
 (cond (decide (v1.2.1≤a0.2.2.1))
 ((at? a1 v1.2.1).bind λv2 =>
 (some (inl ((w64 (v1.1+v2)),((w64 (v1.2.1+1)),())))))
 (some (inr (v1.1,()))))) (0,(a0.2.1,()))).bind λv3 =>
 (some ((v3.1==a0.2.2.2.1),())))
 (cond (a0.1==3)
 ((at? a1 a0.2.1).bind λv4 =>
 ((at? a1 a0.2.2.1).bind λv5 =>
 (some ((decide (v4<v5)),()))))
 (cond (a0.1==4)
 ((at? a1 a0.2.1).bind λv6 =>
 ((at? a1 a0.2.2.1).bind λv7 =>
 (some ((v6==v7),()))))
 (cond (a0.1==5)
 ((eo_ a1 a0.2.2.2.1).bind λv8 =>
 (some ((v8.1==a0.2.2.2.2.1),())))
 (cond (a0.1==6)
 ((iv_ a1 a0.2.2.2.2.2.1).bind λv9 =>
 (cond (v9.1==a0.2.2.2.1)
 (some ((v9.2.1==a0.2.2.2.2.1),()))
 (some (false,()))))
 (cond (a0.1==7)
 ((at? a1 a0.2.1).bind λv10 =>
 ((md v10 a0.2.2.2.1).bind λv11 =>
 (some ((v11==a0.2.2.2.2.1),()))))
 (some (false,())))))))))).bind λv12 =>
 (some ((v12.1 != a0.2.2.2.2.2.2),())))
theorem x_124:av_ (P:=prog) (cxC [c_169,c_170] []) (.p .z (.p .z (.j0 [.v 5 .bool] (.p .z (.p .z (.p (.q [] .z .z) (.p .z (.p (.p .z (.p (.p .z (.lp [.v 6 .int,.v 7 .int] [.v 6 .int] [] 1 .z)) .z)) (.p .z (.p (.q [] .z .z) (.p .z (.p (.q [] .z .z) (.p .z (.p (.q [] .z .z) (.p .z (.p .z (.p .z (.p (.q [] .z .z) .z))))))))))))))) .z))) 124 [ar_,(.list .int)] [.bool]=λx=>fp_ x.1 x.2.1:=by kernel_rfl
noncomputable def c_124:Con prog:=ax_ _ _ 124 [ar_,(.list .int)] [.bool] _ x_124
noncomputable def ez_ (a0:af_) (a1:ai_):Option ((List ae_)×Unit) :=
 ((ag_ (ρ:=((List ae_)×Unit)) (λ(v0:((List ae_)×(Int×Unit))) =>
 (cond (decide (v0.2.1<a0.2.2.2.2.2.2.1))
 ((ag_ (ρ:=((List ae_)×Unit)) (λ(v1:((List ae_)×(Int×Unit))) =>
 (cond (decide (v1.2.1≤4))
 ((ag_ (ρ:=((List ae_)×Unit)) (λ(v2:((List ae_)×(Int×Unit))) =>
 (cond (decide (v2.2.1<24))
 ((((jx_ a0 a1 (v0.2.1,(v1.2.1,v2.2.1))).bind λv3 =>
 (cond v3.1
 ((push? (α:=ae_) v2.1 [(v0.2.1,(v1.2.1,v2.2.1))]).bind λv4 =>
 (some (v4,())))
 (some (v2.1,()))))).bind λv5 =>
 (some (inl (v5.1,((w64 (v2.2.1+1)),())))))
 (some (inr (v2.1,()))))) (v1.1,(0,()))).bind λv6 =>
 (some (inl (v6.1,((w64 (v1.2.1+1)),())))))
 (some (inr (v1.1,()))))) (v0.1,(1,()))).bind λv7 =>
 (some (inl (v7.1,((w64 (v0.2.1+1)),())))))
 (some (inr (v0.1,()))))) ([],(0,()))).bind λv8 =>
 (some (v8.1,())))
theorem x_103:av_ (P:=prog) (cxC [c_157] []) (.p .z (.p .z (.p (.p .z (.lp [.r 5 aq_ 59,.v 6 .int] [.r 5 aq_ 59] [] 0 (.p .z (.p (.p .z (.lp [.r 5 aq_ 59,.v 7 .int] [.r 5 aq_ 59] [] 2 (.p .z (.p (.p .z (.lp [.r 5 aq_ 59,.v 8 .int] [.r 5 aq_ 59] [] 4 (.p .z (.j0 [.r 5 aq_ 59] .z .z)))) .z)))) .z)))) .z))) 103 [ao_,ap_] [(.list aq_)]=λx=>ez_ x.1 x.2.1:=by kernel_rfl
noncomputable def c_103:Con prog:=ax_ _ _ 103 [ao_,ap_] [(.list aq_)] _ x_103
noncomputable def gt_ (a0:af_) (a1:ai_) (a2:ae_):Option (ai_×Bool×Unit) :=
 ((push? (α:=Int) [] a1.1).bind λv0 =>
 ((push? (α:=Int) [] a1.2.1).bind λv1 =>
 ((push? (α:=Int) [] a1.2.2).bind λv2 =>
 ((at? a1.2.2 a2.1).bind λv3 =>
 (((cond (a2.2.1==1)
 ((at? a0.2.2.2.1 a2.2.2).bind λv4 =>
 ((at? a0.2.2.2.1 a2.2.2).bind λv5 =>
 ((at? v2 a2.1).bind λv6 =>
 ((at? v2 a2.1).bind λv7 =>
 (some (v0,(v1,((v2.set a2.1.toNat (w64 ((w64 (v4.1+v5.2.1)) - v3))),()))))))))
 (cond (a2.2.1==2)
 ((at? v1 a2.2.2).bind λv8 =>
 ((at? v1 a2.2.2).bind λv9 =>
 (some (v0,((v1.set a2.2.2.toNat (w64 ((-2) - a2.1))),(v2,()))))))
 (cond (a2.2.1==3)
 ((at? v1 a2.2.2).bind λv10 =>
 ((at? v1 a2.2.2).bind λv11 =>
 (some (v0,((v1.set a2.2.2.toNat v3),(v2,()))))))
 (cond (a2.2.1==4)
 ((at? a0.2.2.2.2.1 a2.2.2).bind λv12 =>
 ((ag_ (ρ:=((List Int)×Unit)) (λ(v13:(Int×((List Int)×Unit))) =>
 (cond (decide (v13.1<(v12.2.2.2.2.2.2.1.length:Int)))
 ((at? v12.2.2.2.2.2.2.1 v13.1).bind λv14 =>
 ((at? v13.2.1 v14).bind λv15 =>
 ((at? v13.2.1 v14).bind λv16 =>
 (some (inl ((w64 (v13.1+1)),((v13.2.1.set v14.toNat (-1)),())))))))
 (some (inr (v13.2.1,()))))) (0,(v1,()))).bind λv17 =>
 ((ag_ (ρ:=((List Int)×Unit)) (λ(v18:(Int×((List Int)×Unit))) =>
 (cond (decide (v18.1<(v12.2.2.2.2.2.2.2.length:Int)))
 ((at? v12.2.2.2.2.2.2.2 v18.1).bind λv19 =>
 ((at? v18.2.1 v19).bind λv20 =>
 ((at? v18.2.1 v19).bind λv21 =>
 (some (inl ((w64 (v18.1+1)),((v18.2.1.set v19.toNat (w64 ((-2) - a2.1))),())))))))
 (some (inr (v18.2.1,()))))) (0,(v17.1,()))).bind λv22 =>
 ((ag_ (ρ:=((List Int)×Unit)) (λ(v23:(Int×((List Int)×Unit))) =>
 (cond (decide (v23.1<(v12.2.2.2.2.2.1.length:Int)))
 ((at? v12.2.2.2.2.2.1 v23.1).bind λv24 =>
 ((at? v12.2.2.2.2.2.1 v23.1).bind λv25 =>
 ((at? v23.2.1 v24.1).bind λv26 =>
 ((at? v23.2.1 v24.1).bind λv27 =>
 (some (inl ((w64 (v23.1+1)),((v23.2.1.set v24.1.toNat v25.2),()))))))))
 (some (inr (v23.2.1,()))))) (0,(v0,()))).bind λv28 =>
 (some (v28.1,(v22.1,(v2,()))))))))
 (some (v0,(v1,(v2,()))))))))).bind λv29 =>
 ((gs_ a0 (v29.1,(v29.2.1,v29.2.2.1))).bind λv30 =>
 (some (v30.1,(v30.2.1,())))))))))
theorem x_105:av_ (P:=prog) (cxI (λk=>.z) (λk=>Nat.beq k 159||false) (cxC [c_159] []) 2) (.p .z (.p .z (.p (.q [] .z .z) (.j0 [.o (.c (.s 8) 0) .int,.o (.c (.s 8) 1) .int,.o (.c (.s 8) 2) .int] (.p .z (.p .z (.p .z (.p .z (.p .z (.p .z (.p .z (.p .z (.p (.p .z (.p (.p .z (.lp [.v 12 .int] [] [.o (.c (.s 8) 1) .int] 1 .z)) (.p (.p .z (.lp [.v 13 .int] [] [.o (.c (.s 8) 1) .int] 3 .z)) (.p .z (.lp [.v 14 .int] [] [.o (.c (.s 8) 0) .int] 5 .z))))) .z))))))))) .z)))) 105 [ao_,ap_,aq_] [ap_,.bool]=λx=>gt_ x.1 x.2.1 x.2.2.1:=by kernel_rfl
noncomputable def c_105:Con prog:=ax_ _ _ 105 [ao_,ap_,aq_] [ap_,.bool] _ x_105
noncomputable def fg_ (a0:(List UInt8)):Option (Bool×Unit) :=
 ((ag_ (ρ:=(Unit⊕(Bool×Unit))) (λ(v0:(Int×Unit)) =>
 (cond (decide (v0.1<(a0.length:Int)))
 ((((at? a0 v0.1).bind λv1 =>
 (cond (decide (((UInt8.toNat v1):Int)<97))
 (some (true,()))
 ((at? a0 v0.1).bind λv2 =>
 (some ((decide (122<((UInt8.toNat v2):Int))),())))))).bind λv3 =>
 (cond v3.1
 (some (inr (inr (false,()))))
 (some (inl ((w64 (v0.1+1)),())))))
 (some (inr (inl ()))))) (0,())).bind λv4 =>
 (bx_ v4 (λv5=>(cond (!(a0==[]))
 ((cz_ [[97,116],[115,116,97,116,101,115],[115,116,97,114,116],[103,111,110,101],[105,102],[108,111,99,107],[119,105,116,104],[115,101,116,115],[115,112,101,110,100,115],[98,114,105,110,103,115]] a0).bind λv7 =>
 (some ((!v7.1),())))
 (some (false,()))))
 (λv6=>(some v6))))
theorem x_171:av_ (P:=prog) (cxC [c_209] []) (.p .z (.p (.p .z (.ls [.v 6 .int] [] [] 0 (.p .z (.p .z (.p (.p .z (.j0 [.v 18 .bool] .z .z)) .z))))) .z)) 171 [.str] [.bool]=λx=>fg_ x.1:=by kernel_rfl
noncomputable def c_171:Con prog:=ax_ _ _ 171 [.str] [.bool] _ x_171
noncomputable def dv_ (a0:af_) (a1:(List bd_)):Option (Bool×Unit) :=
 (cond (decide ((a1.length:Int)≤8))
 ((((ag_ (ρ:=(Unit⊕(Bool×Unit))) (λ(v0:(Int×Unit)) =>
 (cond (decide (v0.1<(a1.length:Int)))
 ((at? a1 v0.1).bind λv1 =>
 ((fh_ a0 v1.1 v1.2.1).bind λv2 =>
 (cond (!v2.1)
 (some (inr (inr ((decide (0≤v0.1)),()))))
 (some (inl ((w64 (v0.1+1)),()))))))
 (some (inr (inl ()))))) (0,())).bind λv3 =>
 (bx_ v3 (λv4=>(some ((decide (0≤(-1))),())))
 (λv5=>(some v5))))).bind λv6 =>
 (some ((!v6.1),())))
 (some (false,())))
theorem x_133:av_ (P:=prog) (cxI (λk=>cond (Nat.beq k 143) (.p .z (.j0 [.v 4 .bool] .z .z)) (cond (Nat.beq k 189) (.p .z (.p (.p .z (.ls [.v 8 .int] [] [] 0 .z)) .z)) (.z))) (λk=>Nat.beq k 135||false) (cxC [co6] []) 4) .z 133 [ao_,(.list cc_)] [.bool]=λx=>dv_ x.1 x.2.1:=by kernel_rfl
noncomputable def c_133:Con prog:=ax_ _ _ 133 [ao_,(.list cc_)] [.bool] _ x_133
noncomputable def di_ (a0:ac_) (a1:(List Int)):Option (Bool×Unit) :=
 (cond ((a1.length:Int)==a0.1)
 ((((ag_ (ρ:=(Unit⊕(Bool×Unit))) (λ(v0:(Int×Unit)) =>
 (cond (decide (v0.1<(a1.length:Int)))
 ((at? a1 v0.1).bind λv1 =>
 ((cp_ a0 v1).bind λv2 =>
 (cond (!v2.1)
 (some (inr (inr ((decide (0≤v0.1)),()))))
 (some (inl ((w64 (v0.1+1)),()))))))
 (some (inr (inl ()))))) (0,())).bind λv3 =>
 (bx_ v3 (λv4=>(some ((decide (0≤(-1))),())))
 (λv5=>(some v5))))).bind λv6 =>
 (some ((!v6.1),())))
 (some (false,())))
theorem x_185:av_ (P:=prog) (cxI (λk=>cond (Nat.beq k 95) (.p .z (.j0 [.v 4 .bool] .z .z)) (cond (Nat.beq k 154) (.p .z (.p (.p .z (.ls [.v 8 .int] [] [] 0 .z)) .z)) (.z))) (λk=>Nat.beq k 220||false) (cxC [c_220] []) 4) .z 185 [am_,(.list .int)] [.bool]=λx=>di_ x.1 x.2.1:=by kernel_rfl
noncomputable def c_185:Con prog:=ax_ _ _ 185 [am_,(.list .int)] [.bool] _ x_185
noncomputable def gh_ (a0:al_) (a1:(List Int)):Option (Bool×Unit) :=
 ((nk_ a0 a1).bind λv0 =>
 (some ((v0.1 != a0.2.2.2.2.2.2),())))
theorem x_188:av_ (P:=prog) (cxC [c_222] []) (.p .z (.p (.q [] .z .z) .z)) 188 [ar_,(.list .int)] [.bool]=λx=>gh_ x.1 x.2.1:=by kernel_rfl
noncomputable def c_188:Con prog:=ax_ _ _ 188 [ar_,(.list .int)] [.bool] _ x_188
noncomputable def lq_ (a0:ab_):Option (ab_×Unit) :=
 ((lr_ a0.1).bind λv0 =>
 ((push? (α:=ac_) [] a0.2.1).bind λv1 =>
 ((push? (α:=cr_) [] a0.2.2.2.1).bind λv2 =>
 ((ag_ (ρ:=(((List (List Int))×Unit)×Unit)) (λ(v3:(Int×(((List (List Int))×Unit)×Unit))) =>
 (cond (decide (v3.1<(a0.2.2.1.length:Int)))
 ((at? a0.2.2.1 v3.1).bind λv4 =>
 ((push? (α:=Int) [] v4).bind λv5 =>
 ((push? (α:=(List Int)) v3.2.1.1 [v5]).bind λv6 =>
 (some (inl ((w64 (v3.1+1)),((v6,()),())))))))
 (some (inr ((v3.2.1.1,()),()))))) (0,(([],()),()))).bind λv7 =>
 ((ag_ (ρ:=((List cr_)×Unit)) (λ(v8:(Int×((List cr_)×Unit))) =>
 (cond (decide (v8.1<(v8.2.1.length:Int)))
 ((at? v8.2.1 v8.1).bind λv9 =>
 ((at? v8.2.1 v8.1).bind λv10 =>
 ((push? (α:=bd_) [] v10.2.2.2.1).bind λv11 =>
 ((at? v8.2.1 v8.1).bind λv12 =>
 ((at? v8.2.1 v8.1).bind λv13 =>
 ((at? (v8.2.1.set v8.1.toNat (v13.1,(v13.2.1,(v13.2.2.1,(v11,v13.2.2.2.2))))) v8.1).bind λv14 =>
 ((at? (v8.2.1.set v8.1.toNat (v13.1,(v13.2.1,(v13.2.2.1,(v11,v13.2.2.2.2))))) v8.1).bind λv15 =>
 ((ha_ v15.2.2.2.2).bind λv16 =>
 ((at? (v8.2.1.set v8.1.toNat (v13.1,(v13.2.1,(v13.2.2.1,(v11,v13.2.2.2.2))))) v8.1).bind λv17 =>
 ((at? (v8.2.1.set v8.1.toNat (v13.1,(v13.2.1,(v13.2.2.1,(v11,v13.2.2.2.2))))) v8.1).bind λv18 =>
 (some (inl ((w64 (v8.1+1)),(((v8.2.1.set v8.1.toNat (v13.1,(v13.2.1,(v13.2.2.1,(v11,v13.2.2.2.2))))).set v8.1.toNat (v18.1,(v18.2.1,(v18.2.2.1,(v18.2.2.2.1,v16.1))))),()))))))))))))))
 (some (inr (v8.2.1,()))))) (0,(v2,()))).bind λv19 =>
 (some ((v0.1,(v1,(v7.1.1,(v19.1,a0.2.2.2.2)))),())))))))
theorem x_9:av_ (P:=prog) (cxC [c_33,c_34] []) (.p .z (.p .z (.p (.p .z (.lp [.v 4 .int] [] [.b (.s 3) [.keep,.keep,.keep,.keep,.keep,.keep,.keep,.keep,.keep,.row (.list .int) 45,.keep,.keep]] 0 .z)) (.p (.p .z (.lp [.v 5 .int] [] [.o (.s 16) pg_] 2 .z)) .z)))) 9 [an_] [an_]=λx=>lq_ x.1:=by kernel_rfl
noncomputable def c_9:Con prog:=ax_ _ _ 9 [an_] [an_] _ x_9
noncomputable def ip_ (a0:ab_) (a1:bq_) (a2:Int):Option ((List Int)×Unit) :=
 ((mk? (α:=Int) (a1.1.length:Int) 0).bind λv0 =>
 ((ag_ (ρ:=((List Int)×Unit)) (λ(v1:(Int×((List Int)×Unit))) =>
 (cond (decide (v1.1<(v1.2.1.length:Int)))
 ((((at? v1.2.1 v1.1).bind λv2 =>
 ((at? v1.2.1 v1.1).bind λv3 =>
 ((at? a1.1 v1.1).bind λv4 =>
 ((jk_ a0 v4).bind λv5 =>
 (cond v5.1
 ((at? (v1.2.1.set v1.1.toNat (-1)) v1.1).bind λv6 =>
 ((at? (v1.2.1.set v1.1.toNat (-1)) v1.1).bind λv7 =>
 (some (((v1.2.1.set v1.1.toNat (-1)).set v1.1.toNat 0),()))))
 (some ((v1.2.1.set v1.1.toNat (-1)),())))))))).bind λv8 =>
 (some (inl ((w64 (v1.1+1)),(v8.1,())))))
 (some (inr (v1.2.1,()))))) (0,(v0,()))).bind λv9 =>
 ((ag_ (ρ:=((List Int)×Unit)) (λ(v10:(Int×(Bool×((List Int)×Unit)))) =>
 (cond v10.2.1
 ((ag_ (ρ:=(Bool×((List Int)×Unit))) (λ(v11:(Bool×(Int×((List Int)×Unit)))) =>
 (cond (decide (v11.2.1<(v11.2.2.1.length:Int)))
 ((ag_ (ρ:=(Bool×((List Int)×Unit))) (λ(v12:(Bool×(Int×((List Int)×Unit)))) =>
 ((((at? a1.2 v11.2.1).bind λv13 =>
 (cond (decide (v12.2.1<(v13.length:Int)))
 ((at? v12.2.2.1 v11.2.1).bind λv14 =>
 ((at? v12.2.2.1 v11.2.1).bind λv15 =>
 (some ((decide (v15<0)),()))))
 (some (false,()))))).bind λv16 =>
 (cond v16.1
 ((((at? a1.2 v11.2.1).bind λv17 =>
 ((at? v17 v12.2.1).bind λv18 =>
 ((((at? v12.2.2.1 v18.2).bind λv19 =>
 ((at? v12.2.2.1 v18.2).bind λv20 =>
 (cond (v20==(w64 (v10.1 - 1)))
 ((om_ v18 a2).bind λv21 =>
 (some ((!v21.1),())))
 (some (false,())))))).bind λv22 =>
 (cond v22.1
 ((at? v12.2.2.1 v11.2.1).bind λv23 =>
 ((at? v12.2.2.1 v11.2.1).bind λv24 =>
 (some (true,((v12.2.2.1.set v11.2.1.toNat v10.1),())))))
 (some (v12.1,(v12.2.2.1,())))))))).bind λv25 =>
 (some (inl (v25.1,((w64 (v12.2.1+1)),(v25.2.1,()))))))
 (some (inr (v12.1,(v12.2.2.1,()))))))) (v11.1,(0,(v11.2.2.1,())))).bind λv26 =>
 (some (inl (v26.1,((w64 (v11.2.1+1)),(v26.2.1,()))))))
 (some (inr (v11.1,(v11.2.2.1,())))))) (false,(0,(v10.2.2.1,())))).bind λv27 =>
 (some (inl ((w64 (v10.1+1)),(v27.1,(v27.2.1,()))))))
 (some (inr (v10.2.2.1,()))))) (1,(true,(v9.1,())))).bind λv28 =>
 (some (v28.1,())))))
noncomputable def lw_ (a0:dp_):Option (Bool×Unit) :=
 (((cond (decide (500<(a0.1.1.length:Int)))
 (some (true,()))
 (cond (decide (500<(a0.1.2.length:Int)))
 (some (true,()))
 (some ((decide (500<(a0.2.length:Int))),()))))).bind λv0 =>
 (cond v0.1
 (some (true,()))
 ((ag_ (ρ:=(Unit⊕(Bool×Unit))) (λ(v1:(Int×Unit)) =>
 (cond (decide (v1.1<(a0.1.1.length:Int)))
 ((at? a0.1.1 v1.1).bind λv2 =>
 ((ho_ v2).bind λv3 =>
 (cond v3.1
 (some (inr (inr (true,()))))
 (some (inl ((w64 (v1.1+1)),()))))))
 (some (inr (inl ()))))) (0,())).bind λv4 =>
 (bx_ v4 (λv5=>((ag_ (ρ:=(Unit⊕(Bool×Unit))) (λ(v7:(Int×Unit)) =>
 (cond (decide (v7.1<(a0.1.2.length:Int)))
 ((at? a0.1.2 v7.1).bind λv8 =>
 (cond (decide (100<(v8.length:Int)))
 (some (inr (inr (true,()))))
 (some (inl ((w64 (v7.1+1)),())))))
 (some (inr (inl ()))))) (0,())).bind λv9 =>
 (bx_ v9 (λv10=>(some (false,())))
 (λv11=>(some v11)))))
 (λv6=>(some v6))))))
theorem x_25:av_ (P:=prog) (cxC [c_59] []) (.p .z (.p (.j0 [.v 22 .bool] .z .z) (.p (.p .z (.ls [.v 3 .int] [] [] 0 .z)) (.p (.p .z (.ls [.v 4 .int] [] [] 2 .z)) .z)))) 25 [em_] [.bool]=λx=>lw_ x.1:=by kernel_rfl
noncomputable def c_25:Con prog:=ax_ _ _ 25 [em_] [.bool] _ x_25
noncomputable def ee_ (a0:aa_) (a1:aa_):Option (Bool×Unit) :=
 ((((ga_ a0.1 a1.1).bind λv0 =>
 (cond (!v0.1)
 (some (true,()))
 (some (((a0.2.length:Int) != (a1.2.length:Int)),()))))).bind λv1 =>
 (cond v1.1
 (some (false,()))
 ((ag_ (ρ:=(Unit⊕(Bool×Unit))) (λ(v2:(Int×Unit)) =>
 (cond (decide (v2.1<(a0.2.length:Int)))
 ((at? a0.2 v2.1).bind λv3 =>
 ((at? a1.2 v2.1).bind λv4 =>
 (cond (v3 != v4)
 (some (inr (inr (false,()))))
 (some (inl ((w64 (v2.1+1)),()))))))
 (some (inr (inl ()))))) (0,())).bind λv5 =>
 (bx_ v5 (λv6=>(some (true,())))
 (λv7=>(some v7))))))
theorem x_29:av_ (P:=prog) (cxC [c_62] []) (.p .z (.p (.j0 [.v 20 .bool] .z .z) (.p (.p .z (.ls [.v 5 .int] [] [] 0 (.p .z (.p (.p (.q [] .z .z) .z) .z)))) .z))) 29 [aj_,aj_] [.bool]=λx=>ee_ x.1 x.2.1:=by kernel_rfl
noncomputable def c_29:Con prog:=ax_ _ _ 29 [aj_,aj_] [.bool] _ x_29
end
section
set_option maxRecDepth 100000
set_option maxHeartbeats 0
noncomputable def ng_ (a0:af_) (a1:Int):Option (Bool×Unit) :=
 ((at? a0.2.2.2.2.1 a1).bind λv0 =>
 ((ag_ (ρ:=(Unit⊕(Bool×Unit))) (λ(v1:(Int×Unit)) =>
 (cond (decide (v1.1<a1))
 ((at? a0.2.2.2.2.1 v1.1).bind λv2 =>
 (cond (v2.1==v0.1)
 (some (inr (inr (false,()))))
 (some (inl ((w64 (v1.1+1)),())))))
 (some (inr (inl ()))))) (0,())).bind λv3 =>
 (bx_ v3 (λv4=>((((dw_ v0.1).bind λv6 =>
 (cond (!v6.1)
 (some (true,()))
 ((ct_ a0 v0.2.1).bind λv7 =>
 (cond (!v7.1)
 (some (true,()))
 ((bs_ v0.2.2.1 (-1) 7).bind λv8 =>
 (cond (!v8.1)
 (some (true,()))
 ((dh_ a0 v0.2.2.2.1).bind λv9 =>
 (cond (!v9.1)
 (some (true,()))
 ((dh_ a0 v0.2.2.2.2.2.2.1).bind λv10 =>
 (cond (!v10.1)
 (some (true,()))
 ((dh_ a0 v0.2.2.2.2.2.2.2).bind λv11 =>
 (cond (!v11.1)
 (some (true,()))
 (some ((decide (6<(v0.2.2.2.2.2.1.length:Int))),()))))))))))))))).bind λv12 =>
 (cond v12.1
 (some (false,()))
 ((ag_ (ρ:=(Unit⊕(Bool×Unit))) (λ(v13:(Int×Unit)) =>
 (cond (decide (v13.1<(v0.2.2.2.2.2.2.1.length:Int)))
 ((at? v0.2.2.2.2.2.2.1 v13.1).bind λv14 =>
 ((mr_ v0.2.2.2.1 v14).bind λv15 =>
 (cond (!v15.1)
 (some (inr (inr (false,()))))
 (some (inl ((w64 (v13.1+1)),()))))))
 (some (inr (inl ()))))) (0,())).bind λv16 =>
 (bx_ v16 (λv17=>((ag_ (ρ:=(Unit⊕(Bool×Unit))) (λ(v19:(Int×Unit)) =>
 (cond (decide (v19.1<(v0.2.2.2.2.2.2.2.length:Int)))
 ((at? v0.2.2.2.2.2.2.2 v19.1).bind λv20 =>
 ((mr_ v0.2.2.2.1 v20).bind λv21 =>
 (cond v21.1
 (some (inr (inr (false,()))))
 (some (inl ((w64 (v19.1+1)),()))))))
 (some (inr (inl ()))))) (0,())).bind λv22 =>
 (bx_ v22 (λv23=>((ag_ (ρ:=(Unit⊕(Bool×Unit))) (λ(v25:(Int×Unit)) =>
 (cond (decide (v25.1<(v0.2.2.2.2.2.1.length:Int)))
 ((at? v0.2.2.2.2.2.1 v25.1).bind λv26 =>
 ((at? v0.2.2.2.2.2.1 v25.1).bind λv27 =>
 ((hd_ a0 v26.1 v27.2).bind λv28 =>
 (cond (!v28.1)
 (some (inr (inr (false,()))))
 ((ag_ (ρ:=(Unit⊕((Int×Unit)⊕(Unit⊕(Bool×Unit))))) (λ(v29:(Int×Unit)) =>
 (cond (decide (v29.1<v25.1))
 ((at? v0.2.2.2.2.2.1 v29.1).bind λv30 =>
 ((at? v0.2.2.2.2.2.1 v25.1).bind λv31 =>
 (cond (v30.1==v31.1)
 (some (inr (inr (inr (inr (false,()))))))
 (some (inl ((w64 (v29.1+1)),()))))))
 (some (inr (inl ()))))) (0,())).bind λv32 =>
 (bx_ v32 (λv33=>(some (inl ((w64 (v25.1+1)),()))))
 (λv34=>(some v34))))))))
 (some (inr (inl ()))))) (0,())).bind λv35 =>
 (bx_ v35 (λv36=>(some (true,())))
 (λv37=>(some v37)))))
 (λv24=>(some v24)))))
 (λv18=>(some v18)))))))
 (λv5=>(some v5)))))
theorem x_118:av_ (P:=prog) (cxC [c_114,c_116,av8,co7,c_166,c_167] []) (.p .z (.p .z (.p (.p .z (.ls [.v 6 .int] [] [] 0 .z)) (.p (.j0 [.v 73 .bool] .z .z) (.p (.p .z (.ls [.v 7 .int] [] [] 2 .z)) (.p (.p .z (.ls [.v 8 .int] [] [] 4 .z)) (.p (.p .z (.ls [.v 9 .int] [] [] 6 (.p .z (.p (.p .z (.p .z (.ls [.v 10 .int] [] [] 8 .z))) .z)))) .z))))))) 118 [ao_,.int] [.bool]=λx=>ng_ x.1 x.2.1:=by kernel_rfl
noncomputable def c_118:Con prog:=ax_ _ _ 118 [ao_,.int] [.bool] _ x_118
noncomputable def ge_ (a0:ac_) (a1:al_):Option (Int×Unit) :=
 ((ep_ a0).bind λv0 =>
 (cond (v0.1 != 0)
 (some (v0.1,()))
 ((gv_ a0 a1).bind λv1 =>
 (cond (!v1.1)
 (some (11,()))
 (some (0,()))))))
theorem x_123:av_ (P:=prog) (cxC [c_65,c_168] []) .z 123 [am_,ar_] [.int]=λx=>ge_ x.1 x.2.1:=by kernel_rfl
noncomputable def c_123:Con prog:=ax_ _ _ 123 [am_,ar_] [.int] _ x_123
noncomputable def fa_ (a0:ac_) (a1:(List al_)):Option (Int×Unit) :=
 ((ep_ a0).bind λv0 =>
 (cond (v0.1 != 0)
 (some (v0.1,()))
 (cond (decide (20<(a1.length:Int)))
 (some (2,()))
 ((ag_ (ρ:=(Unit⊕(Int×Unit))) (λ(v1:(Int×Unit)) =>
 (cond (decide (v1.1<(a1.length:Int)))
 ((at? a1 v1.1).bind λv2 =>
 ((gv_ a0 v2).bind λv3 =>
 (cond (!v3.1)
 (some (inr (inr (11,()))))
 (some (inl ((w64 (v1.1+1)),()))))))
 (some (inr (inl ()))))) (0,())).bind λv4 =>
 (bx_ v4 (λv5=>(some (0,())))
 (λv6=>(some v6)))))))
theorem x_240:av_ (P:=prog) (cxC [c_65,c_168] []) (.p .z (.p .z (.p .z (.p (.p .z (.ls [.v 6 .int] [] [] 0 (.p .z (.p (.p (.q [] .z .z) .z) .z)))) .z)))) 240 [am_,(.list ar_)] [.int]=λx=>fa_ x.1 x.2.1:=by kernel_rfl
noncomputable def c_240:Con prog:=ax_ _ _ 240 [am_,(.list ar_)] [.int] _ x_240
noncomputable def jz_ (a0:(List al_)) (a1:(List Int)):Option (Int×Unit) :=
 ((ag_ (ρ:=(Unit⊕(Int×Unit))) (λ(v0:(Int×Unit)) =>
 (cond (decide (v0.1<(a0.length:Int)))
 ((at? a0 v0.1).bind λv1 =>
 ((fp_ v1 a1).bind λv2 =>
 (cond (!v2.1)
 (some (inr (inr (v0.1,()))))
 (some (inl ((w64 (v0.1+1)),()))))))
 (some (inr (inl ()))))) (0,())).bind λv3 =>
 (bx_ v3 (λv4=>(some ((-1),())))
 (λv5=>(some v5))))
theorem x_248:av_ (P:=prog) (cxC [c_124] []) (.p .z (.p (.p .z (.ls [.v 5 .int] [] [] 0 .z)) .z)) 248 [(.list ar_),(.list .int)] [.int]=λx=>jz_ x.1 x.2.1:=by kernel_rfl
noncomputable def c_248:Con prog:=ax_ _ _ 248 [(.list ar_),(.list .int)] [.int] _ x_248
noncomputable def lp_ (a0:ab_) (a1:aa_) (a2:ae_):Option (aa_×Unit) :=
 ((gt_ a0.1 a1.1 a2).bind λv0 =>
 ((jc_ a0 (v0.1,a1.2)).bind λv1 =>
 (some (v1.1,()))))
theorem x_55:av_ (P:=prog) (cxC [c_101,c_105] []) .z 55 [an_,aj_,aq_] [aj_]=λx=>lp_ x.1 x.2.1 x.2.2.1:=by kernel_rfl
noncomputable def c_55:Con prog:=ax_ _ _ 55 [an_,aj_,aq_] [aj_] _ x_55
noncomputable def pt_ (a0:af_) (a1:Int) (a2:cv_):Option (Bool×Unit) :=
 ((((sub? a0.2.2.2.2.1 0 a1).bind λv0 =>
 ((((fg_ a2.1).bind λv1 =>
 (cond v1.1
 (cond (decide ((a2.1.length:Int)≤12))
 ((((ag_ (ρ:=(Unit⊕(Int×Unit))) (λ(v2:(Int×Unit)) =>
 (cond (decide (v2.1<(v0.length:Int)))
 ((at? v0 v2.1).bind λv3 =>
 (cond (v3.1==a2.1)
 (some (inr (inr (v2.1,()))))
 (some (inl ((w64 (v2.1+1)),())))))
 (some (inr (inl ()))))) (0,())).bind λv4 =>
 (bx_ v4 (λv5=>(some ((-1),())))
 (λv6=>(some v6))))).bind λv7 =>
 (some ((decide (v7.1<0)),())))
 (some (false,())))
 (some (false,()))))).bind λv8 =>
 (cond (!v8.1)
 (some (true,()))
 ((bc_ a2.2.1 0 (w64 ((a0.1.length:Int) - 1))).bind λv9 =>
 (cond (!v9.1)
 (some (true,()))
 ((bc_ a2.2.2.1 (-1) 7).bind λv10 =>
 (some ((!v10.1),()))))))))).bind λv11 =>
 (cond v11.1
 (some (false,()))
 ((((hj_ a0 a2.2.2.2.1).bind λv12 =>
 (cond (!v12.1)
 (some (true,()))
 ((hj_ a0 a2.2.2.2.2.2.2.1).bind λv13 =>
 (cond (!v13.1)
 (some (true,()))
 ((hj_ a0 a2.2.2.2.2.2.2.2).bind λv14 =>
 (cond (!v14.1)
 (some (true,()))
 (some ((decide (6<(a2.2.2.2.2.2.1.length:Int))),()))))))))).bind λv15 =>
 (cond v15.1
 (some (false,()))
 ((((((ag_ (ρ:=(Unit⊕(Bool×Unit))) (λ(v16:(Int×Unit)) =>
 (cond (decide (v16.1<(a2.2.2.2.2.2.2.1.length:Int)))
 ((at? a2.2.2.2.2.2.2.1 v16.1).bind λv17 =>
 ((bk_ a2.2.2.2.1 v17).bind λv18 =>
 (cond (!v18.1)
 (some (inr (inr ((decide (0≤v16.1)),()))))
 (some (inl ((w64 (v16.1+1)),()))))))
 (some (inr (inl ()))))) (0,())).bind λv19 =>
 (bx_ v19 (λv20=>(some ((decide (0≤(-1))),())))
 (λv21=>(some v21))))).bind λv22 =>
 (cond v22.1
 (some (true,()))
 ((((ag_ (ρ:=(Unit⊕(Bool×Unit))) (λ(v23:(Int×Unit)) =>
 (cond (decide (v23.1<(a2.2.2.2.2.2.2.2.length:Int)))
 ((at? a2.2.2.2.2.2.2.2 v23.1).bind λv24 =>
 ((bk_ a2.2.2.2.1 v24).bind λv25 =>
 (cond v25.1
 (some (inr (inr ((decide (0≤v23.1)),()))))
 (some (inl ((w64 (v23.1+1)),()))))))
 (some (inr (inl ()))))) (0,())).bind λv26 =>
 (bx_ v26 (λv27=>(some ((decide (0≤(-1))),())))
 (λv28=>(some v28))))).bind λv29 =>
 (some (v29.1,())))))).bind λv30 =>
 (cond v30.1
 (some (false,()))
 ((ag_ (ρ:=(Unit⊕(Bool×Unit))) (λ(v31:(Int×Unit)) =>
 (cond (decide (v31.1<(a2.2.2.2.2.2.1.length:Int)))
 ((at? a2.2.2.2.2.2.1 v31.1).bind λv32 =>
 ((sub? a2.2.2.2.2.2.1 0 v31.1).bind λv33 =>
 ((((ag_ (ρ:=(Unit⊕(Bool×Unit))) (λ(v34:(Int×Unit)) =>
 (cond (decide (v34.1<(v33.length:Int)))
 ((at? v33 v34.1).bind λv35 =>
 (cond (v35.1==v32.1)
 (some (inr (inr ((decide (0≤v34.1)),()))))
 (some (inl ((w64 (v34.1+1)),())))))
 (some (inr (inl ()))))) (0,())).bind λv36 =>
 (bx_ v36 (λv37=>(some ((decide (0≤(-1))),())))
 (λv38=>(some v38))))).bind λv39 =>
 ((((fh_ a0 v32.1 v32.2).bind λv40 =>
 (cond (!v40.1)
 (some (true,()))
 (some (v39.1,()))))).bind λv41 =>
 (cond v41.1
 (some (inr (inr (false,()))))
 (some (inl ((w64 (v31.1+1)),()))))))))
 (some (inr (inl ()))))) (0,())).bind λv42 =>
 (bx_ v42 (λv43=>(some (true,())))
 (λv44=>(some v44))))))))))
theorem x_134:av_ (P:=prog) (cxI (λk=>cond (Nat.beq k 95) (.p .z (.j0 [.v 4 .bool] .z .z)) (cond (Nat.beq k 154) (.p .z (.p (.p .z (.ls [.v 8 .int] [] [] 0 .z)) .z)) (cond (Nat.beq k 176) (.p .z (.j0 [.v 6 .bool] .z .z)) (cond (Nat.beq k 181) (.p .z (.j0 [.v 4 .bool] .z .z)) (cond (Nat.beq k 216) (.p .z (.j0 [.v 6 .int] .z .z)) (cond (Nat.beq k 217) (.p .z (.p (.p .z (.ls [.v 8 .int] [] [] 0 .z)) .z)) (cond (Nat.beq k 234) (.p .z (.p (.p .z (.ls [.v 8 .int] [] [] 0 .z)) .z)) (cond (Nat.beq k 235) (.p .z (.p (.q [] .z .z) .z)) (.z))))))))) (λk=>Nat.beq k 85||Nat.beq k 126||Nat.beq k 135||Nat.beq k 171||Nat.beq k 177||Nat.beq k 178||false) (cxC [c_85,cb0,co6,c_171,c_177,c_178] []) 12) (.p .z (.p (.j0 [.v 35 .bool] (.q [] .z .z) .z) (.p (.j0 [.v 60 .bool] .z .z) (.p .z (.p .z (.p (.j0 [.v 72 .bool] .z .z) (.p (.p .z (.ls [.v 76 .int] [] [] 0 (.p .z (.p .z (.p (.p .z (.p .z (.j0 [.v 96 .bool] .z .z))) .z))))) .z))))))) 134 [ao_,.int,mi_] [.bool]=λx=>pt_ x.1 x.2.1 x.2.2.1:=by kernel_rfl
noncomputable def c_134:Con prog:=ax_ _ _ 134 [ao_,.int,mi_] [.bool] _ x_134
noncomputable def ib_ (a0:ac_) (a1:(List (List Int))):Option (Int×Unit) :=
 ((et_ a0).bind λv0 =>
 (cond (v0.1 != 0)
 (some (v0.1,()))
 ((((ag_ (ρ:=(Unit⊕(Bool×Unit))) (λ(v1:(Int×Unit)) =>
 (cond (decide (v1.1<(a1.length:Int)))
 ((at? a1 v1.1).bind λv2 =>
 ((di_ a0 v2).bind λv3 =>
 (cond (!v3.1)
 (some (inr (inr ((decide (0≤v1.1)),()))))
 (some (inl ((w64 (v1.1+1)),()))))))
 (some (inr (inl ()))))) (0,())).bind λv4 =>
 (bx_ v4 (λv5=>(some ((decide (0≤(-1))),())))
 (λv6=>(some v6))))).bind λv7 =>
 (cond v7.1
 (some (12,()))
 (some (0,()))))))
theorem x_137:av_ (P:=prog) (cxI (λk=>cond (Nat.beq k 183) (.p .z (.j0 [.v 4 .bool] .z .z)) (cond (Nat.beq k 218) (.p .z (.p (.p .z (.ls [.v 8 .int] [] [] 0 .z)) .z)) (.z))) (λk=>Nat.beq k 77||Nat.beq k 185||false) (cxC [c_77,c_185] []) 4) .z 137 [am_,(.list (.list .int))] [.int]=λx=>ib_ x.1 x.2.1:=by kernel_rfl
noncomputable def c_137:Con prog:=ax_ _ _ 137 [am_,(.list (.list .int))] [.int] _ x_137
noncomputable def dj_ (a0:ac_) (a1:al_):Option (Bool×Unit) :=
 (((cond (a1.1==1)
 ((bu_ a0 a1.2.1).bind λv0 =>
 (cond v0.1
 ((cp_ a0 a1.2.2.2.1).bind λv1 =>
 (some (v1.1,((a1.2.1,(0,(a1.2.2.2.1,(0,([],()))))),()))))
 (some (false,((a1.2.1,(0,(a1.2.2.2.1,(0,([],()))))),())))))
 (cond (a1.1==2)
 ((bu_ a0 a1.2.1).bind λv2 =>
 (cond v2.1
 ((bu_ a0 a1.2.2.1).bind λv3 =>
 (cond v3.1
 (cond (decide (a1.2.1≤a1.2.2.1))
 ((bz_ a1.2.2.2.1 0 100).bind λv4 =>
 (some (v4.1,((a1.2.1,(a1.2.2.1,(a1.2.2.2.1,(0,([],()))))),()))))
 (some (false,((a1.2.1,(a1.2.2.1,(a1.2.2.2.1,(0,([],()))))),()))))
 (some (false,((a1.2.1,(a1.2.2.1,(a1.2.2.2.1,(0,([],()))))),())))))
 (some (false,((a1.2.1,(a1.2.2.1,(a1.2.2.2.1,(0,([],()))))),())))))
 (((cond (a1.1==3)
 (some ((a1.1==3),()))
 (some ((a1.1==4),())))).bind λv5 =>
 (cond v5.1
 ((bu_ a0 a1.2.1).bind λv6 =>
 (cond v6.1
 ((bu_ a0 a1.2.2.1).bind λv7 =>
 (cond v7.1
 (some ((a1.2.1 != a1.2.2.1),((a1.2.1,(a1.2.2.1,(0,(0,([],()))))),())))
 (some (false,((a1.2.1,(a1.2.2.1,(0,(0,([],()))))),())))))
 (some (false,((a1.2.1,(a1.2.2.1,(0,(0,([],()))))),())))))
 (cond (a1.1==5)
 ((cp_ a0 a1.2.2.2.1).bind λv8 =>
 (cond v8.1
 ((bz_ a1.2.2.2.2.1 0 a0.1).bind λv9 =>
 (some (v9.1,((0,(0,(a1.2.2.2.1,(a1.2.2.2.2.1,([],()))))),()))))
 (some (false,((0,(0,(a1.2.2.2.1,(a1.2.2.2.2.1,([],()))))),())))))
 (cond (a1.1==6)
 ((bz_ a1.2.2.2.1 0 a0.1).bind λv10 =>
 (cond v10.1
 ((bz_ a1.2.2.2.2.1 0 a0.1).bind λv11 =>
 (cond v11.1
 ((di_ a0 a1.2.2.2.2.2.1).bind λv12 =>
 (some (v12.1,((0,(0,(a1.2.2.2.1,(a1.2.2.2.2.1,(a1.2.2.2.2.2.1,()))))),()))))
 (some (false,((0,(0,(a1.2.2.2.1,(a1.2.2.2.2.1,(a1.2.2.2.2.2.1,()))))),())))))
 (some (false,((0,(0,(a1.2.2.2.1,(a1.2.2.2.2.1,(a1.2.2.2.2.2.1,()))))),())))))
 (cond (a1.1==7)
 ((bu_ a0 a1.2.1).bind λv13 =>
 (cond v13.1
 ((bz_ a1.2.2.2.1 2 10).bind λv14 =>
 (cond v14.1
 ((bz_ a1.2.2.2.2.1 0 (w64 (a1.2.2.2.1 - 1))).bind λv15 =>
 (some (v15.1,((a1.2.1,(0,(a1.2.2.2.1,(a1.2.2.2.2.1,([],()))))),()))))
 (some (false,((a1.2.1,(0,(a1.2.2.2.1,(a1.2.2.2.2.1,([],()))))),())))))
 (some (false,((a1.2.1,(0,(a1.2.2.2.1,(a1.2.2.2.2.1,([],()))))),())))))
 (some (false,((0,(0,(0,(0,([],()))))),()))))))))))).bind λv16 =>
 (cond v16.1
 (cond (a1.2.1==v16.2.1.1)
 (cond (a1.2.2.1==v16.2.1.2.1)
 (cond (a1.2.2.2.1==v16.2.1.2.2.1)
 (cond (a1.2.2.2.2.1==v16.2.1.2.2.2.1)
 (some (((a1.2.2.2.2.2.1.length:Int)==(v16.2.1.2.2.2.2.1.length:Int)),()))
 (some (false,())))
 (some (false,())))
 (some (false,())))
 (some (false,())))
 (some (false,()))))
theorem x_221:av_ (P:=prog) (cxC [co5,c_185,c_220,c_236] []) (.p .z (.p .z (.p .z (.j0 [.v 6 .bool,.b (.s 5) [.keep,.val .int,.val .int,.val .int,.val .int,.val (.list .int),.keep]] (.p .z (.p .z (.p .z (.p .z (.p .z (.j0 [.v 65 .bool] .z .z)))))) .z)))) 221 [am_,ar_] [.bool]=λx=>dj_ x.1 x.2.1:=by kernel_rfl
noncomputable def c_221:Con prog:=ax_ _ _ 221 [am_,ar_] [.bool] _ x_221
noncomputable def gi_ (a0:(List al_)) (a1:(List Int)):Option (Int×Unit) :=
 ((ag_ (ρ:=(Unit⊕(Int×Unit))) (λ(v0:(Int×Unit)) =>
 (cond (decide (v0.1<(a0.length:Int)))
 ((at? a0 v0.1).bind λv1 =>
 ((gh_ v1 a1).bind λv2 =>
 (cond (!v2.1)
 (some (inr (inr (v0.1,()))))
 (some (inl ((w64 (v0.1+1)),()))))))
 (some (inr (inl ()))))) (0,())).bind λv3 =>
 (bx_ v3 (λv4=>(some ((-1),())))
 (λv5=>(some v5))))
theorem x_245:av_ (P:=prog) (cxI (λk=>cond (Nat.beq k 242) (.p .z (.p (.p .z (.ls [.v 8 .int] [] [] 0 .z)) .z)) (.z)) (λk=>Nat.beq k 188||false) (cxC [c_188] []) 3) .z 245 [(.list ar_),(.list .int)] [.int]=λx=>gi_ x.1 x.2.1:=by kernel_rfl
noncomputable def c_245:Con prog:=ax_ _ _ 245 [(.list ar_),(.list .int)] [.int] _ x_245
end
end Go.Proofs.YtdibamopklkilaaGreatDoor.Rx
namespace Go.Proofs.YtdibamopklkilaaGreatDoor.Rx
open Go Pad Rex Sum
section
def wi (a b c:Int):Bool:=decide (b≤a)&&decide (a≤c)
theorem ch_ {a b c:Int}:wi a b c=true↔b≤a∧a≤c:=by simp[wi]
theorem bg1 (a b c:Int):(cond (decide (b≤a)) (some ((decide (a≤c)),())) (some (false,())))=some (wi a b c,()):=by
  unfold wi
  cases decide (b≤a)<;>rfl
theorem ea_ (a b c:Int):bc_ a b c=some (wi a b c,()):=bg1 a b c
theorem kp_ (a b c:Int):cb_ a b c=some (wi a b c,()):=bg1 a b c
theorem fv_ (a b c:Int):bs_ a b c=some (wi a b c,()):=bg1 a b c
theorem yz_ (a b c:Int):jd_ a b c=some (wi a b c,()):=bg1 a b c
theorem beqc {α:Type} [BEq α] [LawfulBEq α] (x y:α):(y==x)=(x==y):=by
  rw[k7_,f2_,f2_]
  exact eq_comm
theorem hq_ {α:Type} [BEq α] [LawfulBEq α] (l:List α) (x:α):l.any (x == ·)=l.contains x:=by
  induction l with
  | nil=>rfl
  | cons y l ih=>simp[List.contains_cons,ih]
theorem cd7 {l:List Int} {x:Int} (hl:Sm l.length):∃ i:Int,bt_ l x=some (i,())∧decide (0≤i)=l.contains x:=by
  unfold bt_
  have h1:=mo_ l (λi y=>cond (x==y) (some (inr ((i:Int),()):Unit⊕(Int×Unit))) none) (λi=>((i:Int),())) (r0:=inl ())
    (body:=λ(v0:(Int×Unit)) =>
     (cond (decide (v0.1<(l.length:Int)))
     ((at? l v0.1).bind λv1 =>
     (cond (x==v1)
     (some (inr (inr (v0.1,()))))
     (some (inl ((w64 (v0.1+1)),())))))
     (some (inr (inl ())))))
    (λi y hy=>by
      have hi:=ak_ hy
      simp only[dlt hi,a4_,ah_ hy,a0_,az_ (show Sm i by omega)]
      cases x==y<;>rfl)
    (by simp only[dnl,a1_])
  rcases ab3 (q:=λy=>x==y) (f:=λi=>(inr ((i:Int),()):Unit⊕(Int×Unit))) l 0 with ⟨h2,h3⟩ | ⟨i,h2,h3⟩
  · refine⟨-1,e4_ (congrArg (λo=>Option.bind o _) h1) ?_,by rw[← hq_,h3];rfl⟩
    rw[h2];rfl
  · refine⟨i,e4_ (congrArg (λo=>Option.bind o _) h1) ?_,by rw[← hq_,h3];exact b4_ (by omega)⟩
    rw[h2];rfl
theorem oz_ {l:List Int} {x:Int} (hl:Sm l.length):bk_ l x=some (l.contains x,()):=by
  obtain⟨i,h1,h2⟩:=cd7 (x:=x) hl
  unfold bk_
  rw[h1,a0_,h2]
theorem ap8 {l:List (List UInt8)} {x:List UInt8} (hl:Sm l.length):∃ i:Int,du_ l x=some (i,())∧decide (0≤i)=l.contains x:=by
  unfold du_
  rcases ab3 (q:=λy=>x==y) (f:=λi=>(inr ((i:Int),()):Unit⊕(Int×Unit))) l 0 with ⟨h2,h3⟩ | ⟨i,h2,h3⟩
  · refine⟨-1,bo_ l (λi y=>cond (x==y) (some (inr ((i:Int),()):Unit⊕(Int×Unit))) none) (λi=>((i:Int),())) (r0:=inl ()) (λi y hy => ?_) ?_ ?_,by rw[← hq_,h3];rfl⟩
    · have hi:=ak_ hy
      simp only[dlt hi,a4_,ah_ hy,a0_,az_ (show Sm i by omega)]
      cases x==y<;>rfl
    · simp only[dnl,a1_]
    · rw[h2];rfl
  · refine⟨i,bo_ l (λi y=>cond (x==y) (some (inr ((i:Int),()):Unit⊕(Int×Unit))) none) (λi=>((i:Int),())) (r0:=inl ()) (λi y hy => ?_) ?_ ?_,by rw[← hq_,h3];exact b4_ (by omega)⟩
    · have hi:=ak_ hy
      simp only[dlt hi,a4_,ah_ hy,a0_,az_ (show Sm i by omega)]
      cases x==y<;>rfl
    · simp only[dnl,a1_]
    · rw[h2];rfl
theorem yc_ {l:List (List UInt8)} {x:List UInt8} (hl:Sm l.length):cz_ l x=some (l.contains x,()):=by
  obtain⟨i,h1,h2⟩:=ap8 (x:=x) hl
  unfold cz_
  rw[h1,a0_,h2]
theorem ay9 {l:List Int} {x:Int} (hl:Sm l.length):mr_ l x=some (l.contains x,()):=by
  unfold mr_
  refine bo_ l (λi y=>cond (x==y) (some (inr (true,()):Unit⊕(Bool×Unit))) none) (λi=>((i:Int),())) (r0:=inl ()) (λi y hy => ?_) ?_ ?_
  · have hi:=ak_ hy
    simp only[dlt hi,a4_,ah_ hy,a0_,az_ (show Sm i by omega)]
    rw[beqc x y]
    cases x==y<;>rfl
  · simp only[dnl,a1_]
  · rw[gy_ (q:=λy=>x==y),hq_]
    cases l.contains x<;>rfl
def yo_ (c:UInt8):Bool:=decide (97≤(c.toNat:Int))&&decide ((c.toNat:Int)≤122)
def okW (t:List UInt8):Bool:=t.all yo_&&(!(t==[])&&!(reserved.contains t))
def okN (t:List UInt8):Bool:=decide ((t.length:Int)≤12)&&okW t
theorem cl2 (c:UInt8):(cond (decide (((UInt8.toNat c):Int)<97)) (some (true,())) (some ((decide (122<((UInt8.toNat c):Int))),())))=some (!(yo_ c),()):=by
  unfold yo_
  by_cases h1:((UInt8.toNat c):Int)<97
  · rw[b4_ h1,b1_ (by omega:¬ (97:Int)≤(c.toNat:Int))];rfl
  · rw[b1_ h1,b4_ (by omega:(97:Int)≤(c.toNat:Int))]
    by_cases h2:122<((UInt8.toNat c):Int)
    · rw[b4_ h2,b1_ (by omega:¬ ((UInt8.toNat c):Int)≤122)];rfl
    · rw[b1_ h2,b4_ (by omega:((UInt8.toNat c):Int)≤122)];rfl
theorem ok_ {t:List UInt8} (hl:Sm t.length):ag_ (ρ:=(Unit⊕(Bool×Unit))) (λ(v0:(Int×Unit)) =>
 (cond (decide (v0.1<(t.length:Int)))
 ((((at? t v0.1).bind λv1 =>
 (cond (decide (((UInt8.toNat v1):Int)<97))
 (some (true,()))
 ((at? t v0.1).bind λv2 =>
 (some ((decide (122<((UInt8.toNat v2):Int))),())))))).bind λv3 =>
 (cond v3.1
 (some (inr (inr (false,()))))
 (some (inl ((w64 (v0.1+1)),())))))
 (some (inr (inl ()))))) (0,())=some (cond (t.all yo_) (inl ()) (inr (false,()))):=by
  refine e4_ (mo_ t (λi c=>cond (yo_ c) none (some (inr (false,()):Unit⊕(Bool×Unit)))) (λi=>((i:Int),())) (r0:=inl ()) (λi y hy => ?_) ?_) ?_
  · have hi:=ak_ hy
    simp only[dlt hi,a4_,ah_ hy,a0_,az_ (show Sm i by omega),cl2]
    cases yo_ y<;>rfl
  · simp only[dnl,a1_]
  · rw[jq_]
    cases t.all yo_<;>rfl
theorem bp1 {t:List UInt8} (hl:Sm t.length):fg_ t=some (okW t,()):=by
  unfold fg_
  refine e4_ (congrArg (λo=>Option.bind o _) (ok_ hl)) ?_
  unfold okW
  rw[a0_]
  cases t.all yo_ with
  | false=>rfl
  | true =>
    simp only[a4_,b7_]
    cases t==[] with
    | true=>rfl
    | false =>
      simp only[g3_,a4_,b7_]
      rw[yc_ (by decide),a0_]
      rfl
theorem ab9 {t:List UInt8} (hl:Sm t.length):hz_ t=some (okW t,()):=by
  unfold hz_
  refine e4_ (congrArg (λo=>Option.bind o _) (ok_ hl)) ?_
  unfold okW
  rw[a0_]
  cases t.all yo_ with
  | false=>rfl
  | true =>
    simp only[a4_,b7_]
    refine bo_ reserved (λi y=>cond (t==y) (some (inr (false,()):Unit⊕(Bool×Unit))) none) (λi=>((i:Int),())) (r0:=inl ()) (λi y hy => ?_) ?_ ?_
    · have hi:=ak_ hy
      have h10:i<10:=hi
      have hy':=hy
      unfold reserved at hy'
      refine e4_ (congrArg (λc=>cond c _ _) (dlt hi)) ?_
      simp only[a4_,ah_ hy',a0_,az_ (show Sm i by omega)]
      rw[beqc t y]
      cases t==y<;>rfl
    · rfl
    · rw[gy_ (q:=λy=>t==y),hq_]
      cases reserved.contains t with
      | true=>simp
      | false=>simp
theorem br1 {t:List UInt8} (hl:Sm t.length):ni_ t=some (okW t,()):=by
  unfold ni_
  have h0:(((cond (t==[]) (some ((t==[]),())) (cond (t==[97,116]) (some ((t==[97,116]),())) (cond (t==[115,116,97,116,101,115]) (some ((t==[115,116,97,116,101,115]),())) (cond (t==[115,116,97,114,116]) (some ((t==[115,116,97,114,116]),()))
     (cond (t==[103,111,110,101]) (some ((t==[103,111,110,101]),())) (cond (t==[105,102]) (some ((t==[105,102]),())) (cond (t==[108,111,99,107]) (some ((t==[108,111,99,107]),())) (cond (t==[119,105,116,104]) (some ((t==[119,105,116,104]),()))
     (cond (t==[115,101,116,115]) (some ((t==[115,101,116,115]),())) (cond (t==[115,112,101,110,100,115]) (some ((t==[115,112,101,110,100,115]),())) (some ((t==[98,114,105,110,103,115]),()))))))))))))):Option (Bool×Unit))=some ((t==[]||reserved.contains t),()):=by
    unfold reserved
    simp only[List.contains_cons,List.contains_nil,i7_]
    cases t==[] with
    | true=>rfl
    | false =>
    cases t==[97,116] with
    | true=>rfl
    | false =>
    cases t==[115,116,97,116,101,115] with
    | true=>rfl
    | false =>
    cases t==[115,116,97,114,116] with
    | true=>rfl
    | false =>
    cases t==[103,111,110,101] with
    | true=>rfl
    | false =>
    cases t==[105,102] with
    | true=>rfl
    | false =>
    cases t==[108,111,99,107] with
    | true=>rfl
    | false =>
    cases t==[119,105,116,104] with
    | true=>rfl
    | false =>
    cases t==[115,101,116,115] with
    | true=>rfl
    | false =>
    cases t==[115,112,101,110,100,115] with
    | true=>rfl
    | false=>rfl
  refine e4_ (congrArg (λo=>Option.bind o _) h0) ?_
  rw[a0_]
  unfold okW
  cases hz:(t==[]||reserved.contains t) with
  | true =>
    have:(!(t==[])&&!(reserved.contains t))=false:=by
      rw[← Bool.not_or,hz];rfl
    rw[this,f9_]
    rfl
  | false =>
    have:(!(t==[])&&!(reserved.contains t))=true:=by
      rw[← Bool.not_or,hz];rfl
    rw[this,h4_]
    simp only[a1_]
    refine e4_ (congrArg (λo=>Option.bind o _) (ok_ hl)) ?_
    rw[a0_]
    cases t.all yo_<;>rfl
theorem ko_ {t:List UInt8} (hl:Sm t.length):dw_ t=some (okN t,()):=by
  unfold dw_ okN
  rw[ab9 hl]
  cases decide ((t.length:Int)≤12)<;>rfl
end
section
def nu_ (things:List hg_) (th n:Int):Bool:=wi th 0 (w64 ((things.length:Int) - 1))&&match at? things th with
  | some t=>wi n 0 (w64 (t.2.2.1 - 1))
  | none=>false
theorem ai5 {α:Type} {l:List α} {i:Int} (hl:Sm l.length) (h:wi i 0 (w64 ((l.length:Int) - 1))=true):∃ x,at? l i=some x:=by
  rw[ei_ (by omega) (by omega)] at h
  obtain⟨h1,h2⟩:=ch_.1 h
  obtain⟨x,hx⟩:=aw_ (l:=l) (i:=i.toNat) (by omega)
  exact⟨x,by rw[show i=((i.toNat:Nat):Int) by omega];exact ah_ hx⟩
theorem pm_ {r:af_} (hl:Sm r.2.1.length) (th n:Int):fh_ r th n=some (nu_ r.2.1 th n,()):=by
  unfold fh_ nu_
  rw[ea_,a0_]
  cases h:wi th 0 (w64 ((r.2.1.length:Int) - 1)) with
  | false=>rfl
  | true =>
    obtain⟨x,hx⟩:=ai5 hl h
    simp only[a4_,hx,a0_,ea_,b7_]
theorem rm_ {r:af_} (hl:Sm r.2.1.length) (th n:Int):hd_ r th n=some (nu_ r.2.1 th n,()):=by
  unfold hd_ nu_
  rw[fv_,a0_]
  cases h:wi th 0 (w64 ((r.2.1.length:Int) - 1)) with
  | false=>rfl
  | true =>
    obtain⟨x,hx⟩:=ai5 hl h
    simp only[a4_,hx,a0_,fv_,b7_]
def cOk (things:List hg_) (c:List bd_):Bool:=decide ((c.length:Int)≤8)&&c.all λl=>nu_ things l.1 l.2.1
theorem tt_ {α:Type} (l:List α) (q:α→Bool):(!(l.any λx=>!(q x)))=l.all q:=by
  induction l with
  | nil=>rfl
  | cons x l ih =>
    rw[p1_,List.all_cons,← ih]
    cases q x<;>rfl
theorem kf_ {r:af_} (hl:Sm r.2.1.length) (c:List bd_):dv_ r c=some (cOk r.2.1 c,()):=by
  unfold dv_ cOk
  cases h8:decide ((c.length:Int)≤8) with
  | false=>rfl
  | true =>
    have h8:=f6_ h8
    simp only[a4_,b7_]
    refine e4_ (congrArg (λo=>Option.bind o _) (ou_ (show Sm c.length by omega) (λl=>!(nu_ r.2.1 l.1 l.2.1)) (λi y hy => ?_) ?_)) ?_
    · simp only[dlt (ak_ hy),a4_,ah_ hy,a0_,pm_ hl]
      cases nu_ r.2.1 y.1 y.2.1<;>rfl
    · simp only[dnl,a1_]
    · rw[a0_]
      exact congrArg (λb=>some (b,())) (tt_ c _)
theorem hh_ {r:af_} (hl:Sm r.2.1.length) {c:List bd_} (hc:Sm c.length):cu_ r c=some (cOk r.2.1 c,()):=by
  unfold cu_ cOk
  refine bo_ c (λi l=>cond (nu_ r.2.1 l.1 l.2.1) none (some (inr (false,()):Unit⊕(Bool×Unit)))) (λi=>((i:Int),())) (r0:=inl ()) (λi y hy => ?_) ?_ ?_
  · have hi:=ak_ hy
    simp only[dlt hi,a4_,ah_ hy,a0_,az_ (show Sm i by omega),rm_ hl]
    cases nu_ r.2.1 y.1 y.2.1<;>rfl
  · simp only[dnl,a1_]
  · rw[jq_ (q:=λl:bd_=>nu_ r.2.1 l.1 l.2.1)]
    cases c.all λl=>nu_ r.2.1 l.1 l.2.1 with
    | true=>rw[h4_];rfl
    | false=>rw[f9_];rfl
theorem bi3 {r:af_} (hl:Sm r.2.1.length) (c:List bd_):lu_ r c=some (cOk r.2.1 c,()):=by
  unfold lu_ cOk
  cases h8:decide ((c.length:Int)≤8) with
  | false=>rfl
  | true =>
    have h8:=f6_ h8
    simp only[a4_,b7_]
    refine e4_ (congrArg (λo=>Option.bind o _) (ou_ (show Sm c.length by omega) (λl=>!(nu_ r.2.1 l.1 l.2.1)) (λi y hy => ?_) ?_)) ?_
    · simp only[dlt (ak_ hy),a4_,ah_ hy,a0_,kp_,nu_]
      cases h:wi y.1 0 (w64 ((r.2.1.length:Int) - 1)) with
      | false=>rfl
      | true =>
        obtain⟨x,hx⟩:=ai5 hl h
        simp only[d9_,a1_,hx,a0_,b7_]
        cases wi y.2.1 0 (w64 (x.2.2.1 - 1))<;>rfl
    · simp only[dnl,a1_]
    · rw[a0_]
      exact congrArg (λb=>some (b,())) (tt_ c _)
end
section
def prv (l:List Int) (i:Nat):Int:=match i with
  | 0=>-1
  | j+1=>(l[j]?).getD 0
def cv6 (np:Nat) (l:List Int) (i:Nat) (x:Int):Bool:=decide (x≤prv l i)||decide ((np:Int)≤x)
def badQ (np:Nat) (l:List Int) (i:Nat) (x:Int):Bool:=!(wi x 0 ((np:Int) - 1))||(decide (0<i)&&decide (x≤prv l i))
def ld_ (np:Nat) (l:List Int):Bool:=(fu_ (λi x=>cond (cv6 np l i x) (some ()) none) 0 l).isNone
theorem wb_ {α ρ:Type} {q:Nat→α→Bool} {r:ρ}:∀ (l:List α) (i:Nat),fu_ (λi x=>cond (q i x) (some r) none) i l=cond (fu_ (λi x=>cond (q i x) (some ()) none) i l).isNone none (some r)
  | [],_=>rfl
  | x::l,i=>by
    unfold fu_
    cases q i x with
    | true=>rfl
    | false=>exact wb_ l (i+1)
theorem ab2 {α:Type} {q:Nat→α→Bool} (l:List α):(fu_ (λi x=>cond (q i x) (some ()) none) 0 l).isNone=true↔∀ i x,l[i]?=some x→q i x=false:=by
  rw[Option.isNone_iff_eq_none,iy_]
  constructor
  · intro h i x hx
    have:=h i x hx
    rw[b0_] at this
    cases hq:q i x with
    | false=>rfl
    | true=>rw[hq] at this;cases this
  · intro h i x hx
    rw[b0_,h i x hx]
    rfl
theorem cv9 (np:Nat) (l:List Int):(fu_ (λi x=>cond (badQ np l i x) (some ()) none) 0 l).isNone=ld_ np l:=by
  rw[k7_]
  unfold ld_
  rw[ab2,ab2]
  constructor
  · intro h i x hx
    have h0:=h i x hx
    unfold badQ at h0
    rw[c2_] at h0
    obtain⟨h1,h2⟩:=h0
    have h1:wi x 0 ((np:Int) - 1)=true:=by simpa using h1
    obtain⟨h3,h4⟩:=ch_.1 h1
    unfold cv6
    rw[c2_]
    refine⟨?_,b1_ (by omega)⟩
    cases i with
    | zero=>exact b1_ (by show ¬ x≤-1;omega)
    | succ j =>
      have:decide (0<j+1)=true:=b4_ (by omega)
      rw[this,b7_] at h2
      exact h2
  · intro h
    have pos:∀ (i:Nat) (x:Int),l[i]?=some x→0≤x∧x<np:=by
      intro i
      induction i with
      | zero =>
        intro x hx
        have h0:=h 0 x hx
        unfold cv6 at h0
        rw[c2_] at h0
        have h1:=c1_ h0.1
        have h2:=c1_ h0.2
        have h1:¬ x≤-1:=h1
        omega
      | succ j ih =>
        intro x hx
        have h0:=h (j+1) x hx
        unfold cv6 at h0
        rw[c2_] at h0
        have h1:=c1_ h0.1
        have h2:=c1_ h0.2
        obtain⟨y,hy⟩:=aw_ (l:=l) (i:=j) (by have:=ak_ hx;omega)
        have h3:=ih y hy
        have h1:¬ x≤(l[j]?).getD 0:=h1
        rw[hy] at h1
        have h1:¬ x≤y:=h1
        omega
    intro i x hx
    have h0:=h i x hx
    unfold cv6 at h0
    rw[c2_] at h0
    have hp:=pos i x hx
    unfold badQ
    have:wi x 0 ((np:Int) - 1)=true:=ch_.2 ⟨hp.1,by omega⟩
    rw[this,h0.1,f9_]
    rfl
theorem sr_ {r:af_} {l:List Int} (hl:Sm l.length):hj_ r l=some (ld_ r.2.2.1.length l,()):=by
  unfold hj_
  refine bo_ l (λi x=>cond (cv6 r.2.2.1.length l i x) (some (inr (false,()):Unit⊕(Bool×Unit))) none) (λi=>(prv l i,((i:Int),()))) (r0:=inl ()) (λi y hy => ?_) ?_ ?_
  · have hi:=ak_ hy
    simp only[dlt hi,a4_,ah_ hy,a0_,az_ (show Sm i by omega),cv6]
    have hn:prv l (i+1)=y:=by show (l[i]?).getD 0=y;rw[hy];rfl
    cases decide (y≤prv l i) with
    | true=>rfl
    | false =>
      simp only[a1_,k0_,a0_,hn]
      cases decide ((r.2.2.1.length:Int)≤y)<;>rfl
  · simp only[dnl,a1_]
  · rw[wb_]
    unfold ld_
    cases (fu_ (λi x=>cond (cv6 r.2.2.1.length l i x) (some ()) none) 0 l).isNone<;>rfl
theorem kn_ {r:af_} (hp:Sm r.2.2.1.length) {l:List Int} (hl:Sm l.length):dh_ r l=some (ld_ r.2.2.1.length l,()):=by
  unfold dh_
  refine bo_ l (λi x=>cond (badQ r.2.2.1.length l i x) (some (inr (false,()):Unit⊕(Bool×Unit))) none) (λi=>((i:Int),())) (r0:=inl ()) (λi y hy => ?_) ?_ ?_
  · have hi:=ak_ hy
    rw[show w64 ((r.2.2.1.length:Int) - 1)=(r.2.2.1.length:Int) - 1 from ei_ (by omega) (by omega)]
    simp only[dlt hi,a4_,ah_ hy,a0_,az_ (show Sm i by omega),fv_,badQ]
    cases wi y 0 ((r.2.2.1.length:Int) - 1) with
    | false=>rfl
    | true =>
      simp only[d9_,a1_,k0_]
      cases i with
      | zero=>rfl
      | succ j =>
        obtain⟨z,hz⟩:=aw_ (l:=l) (i:=j) (by omega)
        have e:w64 (((j+1:Nat):Int) - 1)=(j:Int):=by rw[ei_ (by omega) (by omega)];omega
        have hn:prv l (j+1)=z:=by show (l[j]?).getD 0=z;rw[hz];rfl
        rw[show decide (0<((j+1:Nat):Int))=true from b4_ (by omega),e,ah_ hz,hn,show decide (0<j+1)=true from b4_ (by omega)]
        simp only[a4_,a0_,b7_]
        cases decide (y≤z)<;>rfl
  · simp only[dnl,a1_]
  · rw[wb_,cv9]
    cases ld_ r.2.2.1.length l<;>rfl
end
end Go.Proofs.YtdibamopklkilaaGreatDoor.Rx
namespace Go.Proofs.YtdibamopklkilaaGreatDoor.Rx
open Go Pad Rex Go.Proofs Go.Proofs.Tryz Sum
section
set_option maxRecDepth 100000
set_option maxHeartbeats 0
noncomputable def gc_ (a0:af_):Option (Int×Unit) :=
 (((cond (decide (8<(a0.1.length:Int)))
 (some (true,()))
 (cond (decide (12<(a0.2.1.length:Int)))
 (some (true,()))
 (cond (decide (10<(a0.2.2.1.length:Int)))
 (some (true,()))
 (cond (decide (16<(a0.2.2.2.1.length:Int)))
 (some (true,()))
 (cond (decide (24<(a0.2.2.2.2.1.length:Int)))
 (some (true,()))
 (some ((decide (12<(a0.2.2.2.2.2.1.length:Int))),())))))))).bind λv0 =>
 (cond v0.1
 (some (2,()))
 (cond ((a0.1.length:Int)==0)
 (some (22,()))
 ((ag_ (ρ:=(Unit⊕(Int×Unit))) (λ(v1:(Int×Unit)) =>
 (cond (decide (v1.1<(a0.1.length:Int)))
 ((((at? a0.1 v1.1).bind λv2 =>
 ((dw_ v2).bind λv3 =>
 (cond (!v3.1)
 (some (true,()))
 ((fz_ a0.1 v1.1).bind λv4 =>
 (some (v4.1,()))))))).bind λv5 =>
 (cond v5.1
 (some (inr (inr (22,()))))
 (some (inl ((w64 (v1.1+1)),())))))
 (some (inr (inl ()))))) (0,())).bind λv6 =>
 (bx_ v6 (λv7=>((ag_ (ρ:=(Unit⊕(Int×Unit))) (λ(v9:((List (List UInt8))×(Int×Unit))) =>
 (cond (decide (v9.2.1<(a0.2.1.length:Int)))
 ((at? a0.2.1 v9.2.1).bind λv10 =>
 ((push? (α:=(List UInt8)) v9.1 [v10.1]).bind λv11 =>
 ((((dw_ v10.1).bind λv12 =>
 (cond (!v12.1)
 (some (true,()))
 ((fz_ v11 v9.2.1).bind λv13 =>
 (cond v13.1
 (some (true,()))
 ((ct_ a0 v10.2.1).bind λv14 =>
 (cond (!v14.1)
 (some (true,()))
 ((bs_ v10.2.2.1 2 6).bind λv15 =>
 (cond (!v15.1)
 (some (true,()))
 ((bs_ v10.2.2.2 0 (w64 (v10.2.2.1 - 1))).bind λv16 =>
 (some ((!v16.1),())))))))))))).bind λv17 =>
 (cond v17.1
 (some (inr (inr (21,()))))
 (some (inl (v11,((w64 (v9.2.1+1)),()))))))))
 (some (inr (inl ()))))) ([],(0,()))).bind λv18 =>
 (bx_ v18 (λv19=>((ag_ (ρ:=(Unit⊕(Int×Unit))) (λ(v21:((List (List UInt8))×(Int×Unit))) =>
 (cond (decide (v21.2.1<(a0.2.2.1.length:Int)))
 ((at? a0.2.2.1 v21.2.1).bind λv22 =>
 ((push? (α:=(List UInt8)) v21.1 [v22.1]).bind λv23 =>
 ((((dw_ v22.1).bind λv24 =>
 (cond (!v24.1)
 (some (true,()))
 ((fz_ v23 v21.2.1).bind λv25 =>
 (cond v25.1
 (some (true,()))
 (cond (v22.2.1 != (-1))
 ((ct_ a0 v22.2.1).bind λv26 =>
 (some ((!v26.1),())))
 (some (false,())))))))).bind λv27 =>
 (cond v27.1
 (some (inr (inr (24,()))))
 ((cu_ a0 v22.2.2).bind λv28 =>
 (cond (!v28.1)
 (some (inr (inr (25,()))))
 (some (inl (v23,((w64 (v21.2.1+1)),()))))))))))
 (some (inr (inl ()))))) ([],(0,()))).bind λv29 =>
 (bx_ v29 (λv30=>((ag_ (ρ:=(Unit⊕(Int×Unit))) (λ(v32:(Int×Unit)) =>
 (cond (decide (v32.1<(a0.2.2.2.1.length:Int)))
 ((at? a0.2.2.2.1 v32.1).bind λv33 =>
 ((((ct_ a0 v33.1).bind λv34 =>
 (cond (!v34.1)
 (some (true,()))
 ((ct_ a0 v33.2.1).bind λv35 =>
 (cond (!v35.1)
 (some (true,()))
 (some ((v33.1==v33.2.1),()))))))).bind λv36 =>
 (cond v36.1
 (some (inr (inr (23,()))))
 ((cu_ a0 v33.2.2).bind λv37 =>
 (cond (!v37.1)
 (some (inr (inr (25,()))))
 (some (inl ((w64 (v32.1+1)),()))))))))
 (some (inr (inl ()))))) (0,())).bind λv38 =>
 (bx_ v38 (λv39=>((ag_ (ρ:=(Unit⊕(Int×Unit))) (λ(v41:(Int×Unit)) =>
 (cond (decide (v41.1<(a0.2.2.2.2.1.length:Int)))
 ((ng_ a0 v41.1).bind λv42 =>
 (cond (!v42.1)
 (some (inr (inr (26,()))))
 ((at? a0.2.2.2.2.1 v41.1).bind λv43 =>
 ((cu_ a0 v43.2.2.2.2.1).bind λv44 =>
 (cond (!v44.1)
 (some (inr (inr (25,()))))
 (some (inl ((w64 (v41.1+1)),()))))))))
 (some (inr (inl ()))))) (0,())).bind λv45 =>
 (bx_ v45 (λv46=>((ag_ (ρ:=(Unit⊕(Int×Unit))) (λ(v48:(Int×Unit)) =>
 (cond (decide (v48.1<(a0.2.2.2.2.2.1.length:Int)))
 ((at? a0.2.2.2.2.2.1 v48.1).bind λv49 =>
 ((at? a0.2.2.2.2.2.1 v48.1).bind λv50 =>
 ((hd_ a0 v49.2.1 v50.2.2).bind λv51 =>
 (cond (!v51.1)
 (some (inr (inr (27,()))))
 ((at? a0.2.2.2.2.2.1 v48.1).bind λv52 =>
 ((cu_ a0 v52.1).bind λv53 =>
 (cond (!v53.1)
 (some (inr (inr (25,()))))
 (some (inl ((w64 (v48.1+1)),()))))))))))
 (some (inr (inl ()))))) (0,())).bind λv54 =>
 (bx_ v54 (λv55=>((bs_ a0.2.2.2.2.2.2.1 1 4).bind λv57 =>
 (cond (!v57.1)
 (some (1,()))
 ((cu_ a0 a0.2.2.2.2.2.2.2).bind λv58 =>
 (cond (!v58.1)
 (some (25,()))
 (some (0,())))))))
 (λv56=>(some v56)))))
 (λv47=>(some v47)))))
 (λv40=>(some v40)))))
 (λv31=>(some v31)))))
 (λv20=>(some v20)))))
 (λv8=>(some v8)))))))
theorem x_64:av_ (P:=prog) (cxC [c_68,c_114,c_115,c_116,av8,c_118,co7] []) (.p .z (.p (.j0 [.v 46 .bool] .z .z) (.p .z (.p (.p .z (.ls [.v 3 .int] [] [] 0 (.p .z (.p (.j0 [.v 70 .bool] .z .z) .z)))) (.p .z (.p (.p .z (.ls [.r 4 .str 9,.v 5 .int] [] [] 2 (.p .z (.p (.p .z (.p .z (.j0 [.v 118 .bool] .z .z))) .z)))) (.p .z (.p (.p .z (.ls [.r 4 .str 9,.v 7 .int] [] [] 4 (.p .z (.p (.p .z (.p .z (.p (.j0 [.v 156 .bool] .z .z) .z))) .z)))) (.p (.p .z (.ls [.v 9 .int] [] [] 6 (.p .z (.p (.p .z (.p (.j0 [.v 192 .bool] .z .z) .z)) .z)))) (.p (.p .z (.ls [.v 11 .int] [] [] 8 (.p .z (.p (.p .z (.p (.q [] .z .z) .z)) .z)))) (.p (.p .z (.ls [.v 12 .int] [] [] 10 (.p .z (.p (.p (.p (.q [] .z .z) .z) (.p (.q [] .z .z) .z)) .z)))) .z))))))))))) 64 [ao_] [.int]=λx=>gc_ x.1:=by kernel_rfl
noncomputable def c_64:Con prog:=ax_ _ _ 64 [ao_] [.int] _ x_64
noncomputable def jt_ (a0:ab_) (a1:Int):Option (Bool×Unit) :=
 ((at? a0.2.2.2.1 a1).bind λv0 =>
 ((ag_ (ρ:=(Unit⊕(Bool×Unit))) (λ(v1:(Int×Unit)) =>
 (cond (decide (v1.1<a1))
 ((at? a0.2.2.2.1 v1.1).bind λv2 =>
 (cond (v2.1==v0.1)
 (some (inr (inr (false,()))))
 (some (inl ((w64 (v1.1+1)),())))))
 (some (inr (inl ()))))) (0,())).bind λv3 =>
 (bx_ v3 (λv4=>((((dw_ v0.1).bind λv6 =>
 (cond (!v6.1)
 (some (true,()))
 ((jd_ v0.2.1 0 (w64 ((a0.1.1.length:Int) - 1))).bind λv7 =>
 (cond (!v7.1)
 (some (true,()))
 ((jd_ v0.2.2.1 (-1) (w64 ((a0.2.1.length:Int) - 1))).bind λv8 =>
 (some ((!v8.1),())))))))).bind λv9 =>
 (cond v9.1
 (some (false,()))
 (cond (v0.2.2.1==(-1))
 ((ln_ v0.2.2.2.2).bind λv10 =>
 (some (v10.1,())))
 ((at? a0.2.1 v0.2.2.1).bind λv11 =>
 ((ge_ v11 v0.2.2.2.2).bind λv12 =>
 (cond (v12.1==0)
 ((at? a0.2.2.1 v0.2.2.1).bind λv13 =>
 ((fp_ v0.2.2.2.2 v13).bind λv14 =>
 (some (v14.1,()))))
 (some (false,())))))))))
 (λv5=>(some v5)))))
theorem x_67:av_ (P:=prog) (cxC [c_69,c_114,c_122,c_123,c_124] []) (.p .z (.p .z (.p (.p .z (.ls [.v 6 .int] [] [] 0 .z)) (.p (.j0 [.v 50 .bool] .z .z) .z)))) 67 [an_,.int] [.bool]=λx=>jt_ x.1 x.2.1:=by kernel_rfl
noncomputable def c_67:Con prog:=ax_ _ _ 67 [an_,.int] [.bool] _ x_67
noncomputable def nh_ (a0:ac_) (a1:(List al_)):Option ((List (List Int))×Unit) :=
 ((ag_ (ρ:=(Int×Unit)) (λ(v0:(Int×(Int×Unit))) =>
 (cond (decide (v0.2.1<a0.1))
 (some (inl ((w64 (v0.1 * a0.2)),((w64 (v0.2.1+1)),()))))
 (some (inr (v0.1,()))))) (1,(0,()))).bind λv1 =>
 ((ag_ (ρ:=((List (List Int))×Unit)) (λ(v2:((List (List Int))×(Int×Unit))) =>
 (cond (decide (v2.2.1<v1.1))
 ((((mk? (α:=Int) a0.1 0).bind λv3 =>
 ((ag_ (ρ:=((List Int)×Unit)) (λ(v4:(Int×(Int×((List Int)×Unit)))) =>
 (cond (decide (0≤v4.2.1))
 ((md v4.1 a0.2).bind λv5 =>
 ((at? v4.2.2.1 v4.2.1).bind λv6 =>
 ((at? v4.2.2.1 v4.2.1).bind λv7 =>
 ((dv v4.1 a0.2).bind λv8 =>
 (some (inl (v8,((w64 (v4.2.1 - 1)),((v4.2.2.1.set v4.2.1.toNat v5),())))))))))
 (some (inr (v4.2.2.1,()))))) (v2.2.1,((w64 (a0.1 - 1)),(v3,())))).bind λv9 =>
 ((jz_ a1 v9.1).bind λv10 =>
 (cond (decide (v10.1<0))
 ((push? (α:=(List Int)) v2.1 [v9.1]).bind λv11 =>
 (some (v11,())))
 (some (v2.1,()))))))).bind λv12 =>
 (some (inl (v12.1,((w64 (v2.2.1+1)),())))))
 (some (inr (v2.1,()))))) ([],(0,()))).bind λv13 =>
 (some (v13.1,()))))
theorem x_241:av_ (P:=prog) (cxC [c_248] []) (.p .z (.p .z (.p (.p .z (.lp [.v 5 .int,.v 6 .int] [.v 5 .int] [] 0 .z)) (.p .z (.p (.p .z (.lp [.r 7 (.list .int) 45,.v 8 .int] [.r 7 (.list .int) 45] [] 2 (.p .z (.j0 [.r 7 (.list .int) 45] (.p .z (.p .z (.p (.p .z (.lp [.v 10 .int,.v 11 .int] [] [.o (.s 9) .int] 4 .z)) .z))) .z)))) .z))))) 241 [am_,(.list ar_)] [(.list (.list .int))]=λx=>nh_ x.1 x.2.1:=by kernel_rfl
noncomputable def c_241:Con prog:=ax_ _ _ 241 [am_,(.list ar_)] [(.list (.list .int))] _ x_241
noncomputable def fm_ (a0:af_):Option (Int×Unit) :=
 (((cond (decide (8<(a0.1.length:Int)))
 (some (true,()))
 (cond (decide (12<(a0.2.1.length:Int)))
 (some (true,()))
 (cond (decide (10<(a0.2.2.1.length:Int)))
 (some (true,()))
 (cond (decide (16<(a0.2.2.2.1.length:Int)))
 (some (true,()))
 (cond (decide (24<(a0.2.2.2.2.1.length:Int)))
 (some (true,()))
 (some ((decide (12<(a0.2.2.2.2.2.1.length:Int))),())))))))).bind λv0 =>
 (cond v0.1
 (some (2,()))
 ((ag_ (ρ:=(Unit⊕(Int×Unit))) (λ(v1:(Int×Unit)) =>
 (cond (decide (v1.1<(a0.1.length:Int)))
 ((at? a0.1 v1.1).bind λv2 =>
 ((sub? a0.1 0 v1.1).bind λv3 =>
 ((((fg_ v2).bind λv4 =>
 (cond v4.1
 (cond (decide ((v2.length:Int)≤12))
 ((((ag_ (ρ:=(Unit⊕(Int×Unit))) (λ(v5:(Int×Unit)) =>
 (cond (decide (v5.1<(v3.length:Int)))
 ((at? v3 v5.1).bind λv6 =>
 (cond (v6==v2)
 (some (inr (inr (v5.1,()))))
 (some (inl ((w64 (v5.1+1)),())))))
 (some (inr (inl ()))))) (0,())).bind λv7 =>
 (bx_ v7 (λv8=>(some ((-1),())))
 (λv9=>(some v9))))).bind λv10 =>
 (some ((decide (v10.1<0)),())))
 (some (false,())))
 (some (false,()))))).bind λv11 =>
 (cond (!v11.1)
 (some (inr (inr (22,()))))
 (some (inl ((w64 (v1.1+1)),())))))))
 (some (inr (inl ()))))) (0,())).bind λv12 =>
 (bx_ v12 (λv13=>(cond ((a0.1.length:Int)==0)
 (some (22,()))
 ((ag_ (ρ:=(Unit⊕(Int×Unit))) (λ(v15:(Int×Unit)) =>
 (cond (decide (v15.1<(a0.2.1.length:Int)))
 ((at? a0.2.1 v15.1).bind λv16 =>
 ((((sub? a0.2.1 0 v15.1).bind λv17 =>
 ((((fg_ v16.1).bind λv18 =>
 (cond v18.1
 (cond (decide ((v16.1.length:Int)≤12))
 ((((ag_ (ρ:=(Unit⊕(Int×Unit))) (λ(v19:(Int×Unit)) =>
 (cond (decide (v19.1<(v17.length:Int)))
 ((at? v17 v19.1).bind λv20 =>
 (cond (v20.1==v16.1)
 (some (inr (inr (v19.1,()))))
 (some (inl ((w64 (v19.1+1)),())))))
 (some (inr (inl ()))))) (0,())).bind λv21 =>
 (bx_ v21 (λv22=>(some ((-1),())))
 (λv23=>(some v23))))).bind λv24 =>
 (some ((decide (v24.1<0)),())))
 (some (false,())))
 (some (false,()))))).bind λv25 =>
 (cond (!v25.1)
 (some (true,()))
 ((bc_ v16.2.1 0 (w64 ((a0.1.length:Int) - 1))).bind λv26 =>
 (cond (!v26.1)
 (some (true,()))
 ((bc_ v16.2.2.1 2 6).bind λv27 =>
 (cond (!v27.1)
 (some (true,()))
 ((bc_ v16.2.2.2 0 (w64 (v16.2.2.1 - 1))).bind λv28 =>
 (some ((!v28.1),()))))))))))).bind λv29 =>
 (cond v29.1
 (some (inr (inr (21,()))))
 (some (inl ((w64 (v15.1+1)),()))))))
 (some (inr (inl ()))))) (0,())).bind λv30 =>
 (bx_ v30 (λv31=>((ag_ (ρ:=(Unit⊕(Int×Unit))) (λ(v33:(Int×Unit)) =>
 (cond (decide (v33.1<(a0.2.2.1.length:Int)))
 ((at? a0.2.2.1 v33.1).bind λv34 =>
 ((((sub? a0.2.2.1 0 v33.1).bind λv35 =>
 ((((fg_ v34.1).bind λv36 =>
 (cond v36.1
 (cond (decide ((v34.1.length:Int)≤12))
 ((((ag_ (ρ:=(Unit⊕(Int×Unit))) (λ(v37:(Int×Unit)) =>
 (cond (decide (v37.1<(v35.length:Int)))
 ((at? v35 v37.1).bind λv38 =>
 (cond (v38.1==v34.1)
 (some (inr (inr (v37.1,()))))
 (some (inl ((w64 (v37.1+1)),())))))
 (some (inr (inl ()))))) (0,())).bind λv39 =>
 (bx_ v39 (λv40=>(some ((-1),())))
 (λv41=>(some v41))))).bind λv42 =>
 (some ((decide (v42.1<0)),())))
 (some (false,())))
 (some (false,()))))).bind λv43 =>
 (cond (!v43.1)
 (some (true,()))
 ((bc_ v34.2.1 0 (w64 ((a0.1.length:Int) - 1))).bind λv44 =>
 (cond (!v44.1)
 (some ((v34.2.1 != (-1)),()))
 (some (false,())))))))).bind λv45 =>
 (cond v45.1
 (some (inr (inr (24,()))))
 ((dv_ a0 v34.2.2).bind λv46 =>
 (cond (!v46.1)
 (some (inr (inr (25,()))))
 (some (inl ((w64 (v33.1+1)),()))))))))
 (some (inr (inl ()))))) (0,())).bind λv47 =>
 (bx_ v47 (λv48=>((ag_ (ρ:=(Unit⊕(Int×Unit))) (λ(v50:(Int×Unit)) =>
 (cond (decide (v50.1<(a0.2.2.2.1.length:Int)))
 ((at? a0.2.2.2.1 v50.1).bind λv51 =>
 ((((bc_ v51.1 0 (w64 ((a0.1.length:Int) - 1))).bind λv52 =>
 (cond (!v52.1)
 (some (true,()))
 ((bc_ v51.2.1 0 (w64 ((a0.1.length:Int) - 1))).bind λv53 =>
 (cond (!v53.1)
 (some (true,()))
 (some ((v51.1==v51.2.1),()))))))).bind λv54 =>
 (cond v54.1
 (some (inr (inr (23,()))))
 ((dv_ a0 v51.2.2).bind λv55 =>
 (cond (!v55.1)
 (some (inr (inr (25,()))))
 (some (inl ((w64 (v50.1+1)),()))))))))
 (some (inr (inl ()))))) (0,())).bind λv56 =>
 (bx_ v56 (λv57=>((ag_ (ρ:=(Unit⊕(Int×Unit))) (λ(v59:(Int×Unit)) =>
 (cond (decide (v59.1<(a0.2.2.2.2.1.length:Int)))
 ((at? a0.2.2.2.2.1 v59.1).bind λv60 =>
 ((pt_ a0 v59.1 v60).bind λv61 =>
 (cond (!v61.1)
 (some (inr (inr (26,()))))
 ((dv_ a0 v60.2.2.2.2.1).bind λv62 =>
 (cond (!v62.1)
 (some (inr (inr (25,()))))
 (some (inl ((w64 (v59.1+1)),()))))))))
 (some (inr (inl ()))))) (0,())).bind λv63 =>
 (bx_ v63 (λv64=>((ag_ (ρ:=(Unit⊕(Int×Unit))) (λ(v66:(Int×Unit)) =>
 (cond (decide (v66.1<(a0.2.2.2.2.2.1.length:Int)))
 ((at? a0.2.2.2.2.2.1 v66.1).bind λv67 =>
 ((fh_ a0 v67.2.1 v67.2.2).bind λv68 =>
 (cond (!v68.1)
 (some (inr (inr (27,()))))
 ((dv_ a0 v67.1).bind λv69 =>
 (cond (!v69.1)
 (some (inr (inr (25,()))))
 (some (inl ((w64 (v66.1+1)),()))))))))
 (some (inr (inl ()))))) (0,())).bind λv70 =>
 (bx_ v70 (λv71=>((bc_ a0.2.2.2.2.2.2.1 1 4).bind λv73 =>
 (cond (!v73.1)
 (some (1,()))
 ((dv_ a0 a0.2.2.2.2.2.2.2).bind λv74 =>
 (cond (!v74.1)
 (some (25,()))
 (some (0,())))))))
 (λv72=>(some v72)))))
 (λv65=>(some v65)))))
 (λv58=>(some v58)))))
 (λv49=>(some v49)))))
 (λv32=>(some v32))))))
 (λv14=>(some v14))))))
theorem x_76:av_ (P:=prog) (cxI (λk=>cond (Nat.beq k 127) (.p .z (.j0 [.v 6 .bool] .z .z)) (cond (Nat.beq k 129) (.p .z (.j0 [.v 6 .bool] .z .z)) (cond (Nat.beq k 131) (.p .z (.j0 [.v 6 .bool] .z .z)) (cond (Nat.beq k 172) (.p .z (.j0 [.v 6 .int] .z .z)) (cond (Nat.beq k 173) (.p .z (.j0 [.v 6 .int] .z .z)) (cond (Nat.beq k 174) (.p .z (.j0 [.v 6 .int] .z .z)) (cond (Nat.beq k 210) (.p .z (.p (.p .z (.ls [.v 8 .int] [] [] 0 .z)) .z)) (cond (Nat.beq k 211) (.p .z (.p (.q [] .z .z) .z)) (cond (Nat.beq k 212) (.p .z (.p (.p .z (.ls [.v 8 .int] [] [] 0 .z)) .z)) (cond (Nat.beq k 213) (.p .z (.p (.q [] .z .z) .z)) (cond (Nat.beq k 214) (.p .z (.p (.p .z (.ls [.v 8 .int] [] [] 0 .z)) .z)) (cond (Nat.beq k 215) (.p .z (.p (.q [] .z .z) .z)) (.z))))))))))))) (λk=>Nat.beq k 126||Nat.beq k 128||Nat.beq k 130||Nat.beq k 132||Nat.beq k 133||Nat.beq k 134||Nat.beq k 135||Nat.beq k 171||false) (cxC [cb0,c_128,c_130,c_132,c_133,c_134,co6,c_171] []) 12) (.p .z (.p (.j0 [.v 49 .bool] .z .z) (.p .z (.p (.p .z (.ls [.v 54 .int] [] [] 0 .z)) (.p .z (.p (.p .z (.ls [.v 74 .int] [] [] 2 (.p .z (.p .z (.p (.p .z (.j0 [.v 108 .bool] .z .z)) .z))))) (.p (.p .z (.ls [.v 113 .int] [] [] 4 (.p .z (.p .z (.p (.p .z (.p (.j0 [.v 137 .bool] .z .z) .z)) .z))))) (.p (.p .z (.ls [.v 147 .int] [] [] 6 (.p .z (.p .z (.p (.p .z (.p (.j0 [.v 169 .bool] .z .z) .z)) .z))))) (.p (.p .z (.ls [.v 179 .int] [] [] 8 .z)) (.p (.p .z (.ls [.v 198 .int] [] [] 10 .z)) .z)))))))))) 76 [ao_] [.int]=λx=>fm_ x.1:=by kernel_rfl
noncomputable def c_76:Con prog:=ax_ _ _ 76 [ao_] [.int] _ x_76
noncomputable def eh_ (a0:ac_) (a1:(List Int)):Option (Int×Unit) :=
 ((ib_ a0 [a1]).bind λv0 =>
 (some (v0.1,())))
theorem x_78:av_ (P:=prog) (cxC [c_137] []) .z 78 [am_,(.list .int)] [.int]=λx=>eh_ x.1 x.2.1:=by kernel_rfl
noncomputable def c_78:Con prog:=ax_ _ _ 78 [am_,(.list .int)] [.int] _ x_78
noncomputable def gj_ (a0:ac_) (a1:al_):Option (Int×Unit) :=
 ((et_ a0).bind λv0 =>
 (cond (v0.1 != 0)
 (some (v0.1,()))
 ((dj_ a0 a1).bind λv1 =>
 (cond (!v1.1)
 (some (11,()))
 (some (0,()))))))
theorem x_187:av_ (P:=prog) (cxC [c_77,c_221] []) .z 187 [am_,ar_] [.int]=λx=>gj_ x.1 x.2.1:=by kernel_rfl
noncomputable def c_187:Con prog:=ax_ _ _ 187 [am_,ar_] [.int] _ x_187
noncomputable def fc_ (a0:ac_) (a1:(List al_)):Option (Int×Unit) :=
 ((et_ a0).bind λv0 =>
 (cond (v0.1 != 0)
 (some (v0.1,()))
 (cond (decide (20<(a1.length:Int)))
 (some (2,()))
 ((((ag_ (ρ:=(Unit⊕(Bool×Unit))) (λ(v1:(Int×Unit)) =>
 (cond (decide (v1.1<(a1.length:Int)))
 ((at? a1 v1.1).bind λv2 =>
 ((dj_ a0 v2).bind λv3 =>
 (cond (!v3.1)
 (some (inr (inr ((decide (0≤v1.1)),()))))
 (some (inl ((w64 (v1.1+1)),()))))))
 (some (inr (inl ()))))) (0,())).bind λv4 =>
 (bx_ v4 (λv5=>(some ((decide (0≤(-1))),())))
 (λv6=>(some v6))))).bind λv7 =>
 (cond v7.1
 (some (11,()))
 (some (0,())))))))
theorem x_205:av_ (P:=prog) (cxI (λk=>cond (Nat.beq k 229) (.p .z (.j0 [.v 4 .bool] .z .z)) (cond (Nat.beq k 242) (.p .z (.p (.p .z (.ls [.v 8 .int] [] [] 0 .z)) .z)) (.z))) (λk=>Nat.beq k 77||Nat.beq k 221||false) (cxC [c_77,c_221] []) 4) .z 205 [am_,(.list ar_)] [.int]=λx=>fc_ x.1 x.2.1:=by kernel_rfl
noncomputable def c_205:Con prog:=ax_ _ _ 205 [am_,(.list ar_)] [.int] _ x_205
noncomputable def fb_ (a0:ac_) (a1:(List al_)):Option (Int×Unit) :=
 ((mk? (α:=Int) a0.1 0).bind λv0 =>
 ((ag_ (ρ:=((Unit×(Unit×((List Int)×((Int×Unit)×Unit))))⊕(Int×Unit))) (λ(v1:(Unit×(Unit×((List Int)×((Int×Unit)×Unit))))) =>
 ((gi_ a1 v1.2.2.1).bind λv2 =>
 (cond (decide (v2.1<0))
 ((ag_ (ρ:=(Int×((List Int)×Unit))) (λ(v3:(Int×((List Int)×Unit))) =>
 (((cond (decide (0≤v3.1))
 ((at? v3.2.1 v3.1).bind λv4 =>
 ((at? v3.2.1 v3.1).bind λv5 =>
 (some ((v5==(w64 (a0.2 - 1))),()))))
 (some (false,())))).bind λv6 =>
 (cond v6.1
 ((at? v3.2.1 v3.1).bind λv7 =>
 ((at? v3.2.1 v3.1).bind λv8 =>
 (some (inl ((w64 (v3.1 - 1)),((v3.2.1.set v3.1.toNat 0),()))))))
 (some (inr (v3.1,(v3.2.1,()))))))) ((w64 (a0.1 - 1)),(v1.2.2.1,()))).bind λv9 =>
 (cond (decide (v9.1<0))
 (some (inr (inr ((w64 (v1.2.2.2.1.1+1)),()))))
 ((at? v9.2.1 v9.1).bind λv10 =>
 ((at? v9.2.1 v9.1).bind λv11 =>
 ((at? v9.2.1 v9.1).bind λv12 =>
 ((at? v9.2.1 v9.1).bind λv13 =>
 (some (inl ((),((),((v9.2.1.set v9.1.toNat (w64 (v11+1))),(((w64 (v1.2.2.2.1.1+1)),()),()))))))))))))
 ((ag_ (ρ:=(Int×((List Int)×Unit))) (λ(v14:(Int×((List Int)×Unit))) =>
 (((cond (decide (0≤v14.1))
 ((at? v14.2.1 v14.1).bind λv15 =>
 ((at? v14.2.1 v14.1).bind λv16 =>
 (some ((v16==(w64 (a0.2 - 1))),()))))
 (some (false,())))).bind λv17 =>
 (cond v17.1
 ((at? v14.2.1 v14.1).bind λv18 =>
 ((at? v14.2.1 v14.1).bind λv19 =>
 (some (inl ((w64 (v14.1 - 1)),((v14.2.1.set v14.1.toNat 0),()))))))
 (some (inr (v14.1,(v14.2.1,()))))))) ((w64 (a0.1 - 1)),(v1.2.2.1,()))).bind λv20 =>
 (cond (decide (v20.1<0))
 (some (inr (inr (v1.2.2.2.1.1,()))))
 ((at? v20.2.1 v20.1).bind λv21 =>
 ((at? v20.2.1 v20.1).bind λv22 =>
 ((at? v20.2.1 v20.1).bind λv23 =>
 ((at? v20.2.1 v20.1).bind λv24 =>
 (some (inl ((),((),((v20.2.1.set v20.1.toNat (w64 (v22+1))),((v1.2.2.2.1.1,()),()))))))))))))))) ((),((),(v0,((0,()),()))))).bind λv25 =>
 (bx_ v25 (λv26=>(some (v26.2.2.2.1.1,())))
 (λv27=>(some v27)))))
theorem x_206:av_ (P:=prog) (cxI (λk=>cond (Nat.beq k 243) (.p .z (.p .z (.rf [2,3] .z .z))) (cond (Nat.beq k 249) (.p .z (.ls [] [] [.y (.c (.y (.s 0) 3) 0),.y (.s 0),.o (.s 3) .int,.b (.y (.c (.y (.s 0) 3) 0) 4) [.val .int]] 0 (.p .z (.p .z (.p (.lp [.v 4 .int] [.v 4 .int] [.o (.s 3) .int] 2 (.p (.j0 [.v 26 .bool] .z .z) .z)) .z))))) (.z))) (λk=>Nat.beq k 245||false) (cxC [c_245] []) 9) (.p .z (.p (.p .z (.rf [4] .z .z)) .z)) 206 [am_,(.list ar_)] [.int]=λx=>fb_ x.1 x.2.1:=by kernel_rfl
noncomputable def c_206:Con prog:=ax_ _ _ 206 [am_,(.list ar_)] [.int] _ x_206
end
end Go.Proofs.YtdibamopklkilaaGreatDoor.Rx
namespace Go.Proofs.YtdibamopklkilaaGreatDoor.Rx
open Go Pad Rex Sum
section
theorem ph_ {α:Type} {l:List α} {i:Nat} (h:i≤l.length):sub? l 0 (i:Int)=some (l.take i):=by
  unfold sub?
  rw[if_pos ⟨n5_ 0,by omega,by omega⟩]
  simp
def twN {α:Type} (nm:α→List UInt8) (l:List α) (i:Nat) (t:List UInt8):Bool:=(l.take i).any λy=>nm y==t
theorem qn_ {l:List (List UInt8)} {i:Nat} {x:List UInt8} (hl:Sm l.length) (hx:l[i]?=some x):fz_ l (i:Int)=some (twN id l i x,()):=by
  have hi:=ak_ hx
  have hle:(l.take i).length=i:=by rw[c6_];omega
  unfold fz_
  refine bo_ (l.take i) (λ_ y=>cond (id y==x) (some (inr (true,()):Unit⊕(Bool×Unit))) none) (λi=>((i:Int),())) (r0:=inl ()) (λk y hy => ?_) ?_ ?_
  · have hk:=ak_ hy
    have hy':l[k]?=some y:=by
      rw[j2_] at hy
      split at hy
      · exact hy
      · cases hy
    simp only[dlt (show k<i by omega),a4_,ah_ hy',ah_ hx,a0_,az_ (show Sm k by omega),id]
    cases y==x<;>rfl
  · rw[hle]
    simp only[dnl,a1_]
  · rw[gy_ (q:=λy=>id y==x)]
    unfold twN
    cases (l.take i).any λy=>id y==x<;>rfl
theorem ik_ {r:af_} (p:Int):ct_ r p=some (wi p 0 (w64 ((r.1.length:Int) - 1)),()):=by
  unfold ct_
  rw[fv_,a0_]
structure SmR (r:af_):Prop where
  pl:Sm r.1.length
  th:Sm r.2.1.length
  pr:Sm r.2.2.1.length
  wy:Sm r.2.2.2.1.length
  ac:Sm r.2.2.2.2.1.length
  au:Sm r.2.2.2.2.2.1.length
  go:Sm r.2.2.2.2.2.2.2.length
  pln:∀ x ∈ r.1,Sm x.length
  thn:∀ x ∈ r.2.1,Sm x.1.length
  prn:∀ x ∈ r.2.2.1,Sm x.1.length∧Sm x.2.2.length
  wyn:∀ x ∈ r.2.2.2.1,Sm x.2.2.length
  acn:∀ x ∈ r.2.2.2.2.1,Sm x.1.length∧Sm x.2.2.2.1.length∧Sm x.2.2.2.2.1.length∧Sm x.2.2.2.2.2.1.length∧Sm x.2.2.2.2.2.2.1.length∧Sm x.2.2.2.2.2.2.2.length
  aun:∀ x ∈ r.2.2.2.2.2.1,Sm x.1.length
theorem au_ {α:Type} {l:List α} {i:Nat} {x:α} (h:l[i]?=some x):x ∈ l:=b9_ h
def rw_ (r:af_) (p:Int):Bool:=wi p 0 (w64 ((r.1.length:Int) - 1))
def frN {α:Type} (nm:α→List UInt8) (l:List α) (i:Nat) (t:List UInt8):Bool:=okN t&&!(twN nm l i t)
def plOk (r:af_) (i:Nat) (x:List UInt8):Bool:=frN id r.1 i x
def bm6 (r:af_) (i:Nat) (x:hg_):Bool:=frN (·.1) r.2.1 i x.1&&(rw_ r x.2.1&&(wi x.2.2.1 2 6&&wi x.2.2.2 0 (w64 (x.2.2.1 - 1))))
def cj3 (r:af_) (i:Nat) (x:kk_):Bool:=frN (·.1) r.2.2.1 i x.1&&(rw_ r x.2.1||x.2.1==(-1))
def ce1 (r:af_) (x:oy_):Bool:=rw_ r x.1&&(rw_ r x.2.1&&!(x.1==x.2.1))
def sm_ (a:Bool) (e:Int) (b:Bool) (f:Int):Option Int:=cond a (cond b none (some f)) (some e)
def ky_ (a:Bool) (e:Int):Option Int:=cond a none (some e)
def left (o:Option Int):Unit⊕(Int×Unit):=match o with
  | none=>.inl ()
  | some e=>.inr (e,())
theorem ba9 (o:Option Int):(o.map λe=>(inr (e,()):Unit⊕(Int×Unit))).getD (inl ())=left o:=by cases o<;>rfl
theorem bw_ {α:Type} (l:List α) (p:Nat→α→Option Int) {body:(Int×Unit)→Option ((Int×Unit)⊕(Unit⊕(Int×Unit)))} {τ:Type} {K:(Unit⊕(Int×Unit))→Option τ} {x:Option τ}
    (h:∀ (i:Nat) y,l[i]?=some y→body ((i:Int),())=some (match p i y with | none=>.inl (((i+1:Nat):Int),()) | some e=>.inr (.inr (e,())))) (e:body ((l.length:Int),())=some (.inr (.inl ()))) (hk:K (left (fu_ p 0 l))=x) :
    (ag_ body (0,())).bind K=x:=by
  refine bo_ l (λi y=>(p i y).map λe=>(inr (e,()):Unit⊕(Int×Unit))) (λi=>((i:Int),())) (r0:=inl ()) (λi y hy => ?_) e ?_
  · rw[h i y hy]
    cases p i y<;>rfl
  · rw[ab1,ba9]
    exact hk
theorem zy_ {α β:Type} (l:List α) (p:Nat→α→Option Int) (F:Nat→β) {body:(β×(Int×Unit))→Option ((β×(Int×Unit))⊕(Unit⊕(Int×Unit)))} {τ:Type} {K:(Unit⊕(Int×Unit))→Option τ} {x:Option τ} {b0:β} (h0:F 0=b0)
    (h:∀ (i:Nat) y,l[i]?=some y→body (F i,((i:Int),()))=some (match p i y with | none=>.inl (F (i+1),(((i+1:Nat):Int),())) | some e=>.inr (.inr (e,())))) (e:body (F l.length,((l.length:Int),()))=some (.inr (.inl ()))) (hk:K (left (fu_ p 0 l))=x) :
    (ag_ body (b0,(0,()))).bind K=x:=by
  subst h0
  refine bo_ l (λi y=>(p i y).map λe=>(inr (e,()):Unit⊕(Int×Unit))) (λi=>(F i,((i:Int),()))) (r0:=inl ()) (λi y hy => ?_) e ?_
  · rw[h i y hy]
    cases p i y<;>rfl
  · rw[ab1,ba9]
    exact hk
theorem ey_ {o:Option Int} {K:Unit→Option (Int×Unit)} {k:Int} (h:K ()=some (k,())):bx_ (left o) K (λy=>some y)=some (o.getD k,()):=by
  cases o with
  | none=>exact h
  | some e=>rfl
end
section
def ri_ (r:af_) (l:List ac_) (i:Nat) (x:ac_):Bool:=nu_ r.2.1 x.1 x.2&&!((l.take i).any λy=>y.1==x.1)
def uv_ (r:af_) (i:Nat) (a:cv_):Bool :=
  frN (·.1) r.2.2.2.2.1 i a.1&&(rw_ r a.2.1&&(wi a.2.2.1 (-1) 7&&(ld_ r.2.2.1.length a.2.2.2.1&&(ld_ r.2.2.1.length a.2.2.2.2.2.2.1&&(ld_ r.2.2.1.length a.2.2.2.2.2.2.2&&(!(decide (6<(a.2.2.2.2.2.1.length:Int)))
    && ((a.2.2.2.2.2.2.1.all λp=>a.2.2.2.1.contains p)&&(!(a.2.2.2.2.2.2.2.any λp=>a.2.2.2.1.contains p)
      && (fu_ (λi x=>cond (ri_ r a.2.2.2.2.2.1 i x) none (some ())) 0 a.2.2.2.2.2.1).isNone))))))))
theorem sp_ {α ρ:Type} {q:Nat→α→Bool} {r:ρ}:∀ (l:List α) (i:Nat),fu_ (λi x=>cond (q i x) none (some r)) i l=cond (fu_ (λi x=>cond (q i x) none (some ())) i l).isNone none (some r)
  | [],_=>rfl
  | x::l,i=>by
    unfold fu_
    cases q i x with
    | false=>rfl
    | true=>exact sp_ l (i+1)
theorem vd_ {α:Type} {l:List α} (hl:Sm l.length) (nm:α→List UInt8) {t:List UInt8} (ht:Sm t.length) :
    ((fg_ t).bind λv1=>cond v1.1 (cond (decide ((t.length:Int)≤12)) ((((ag_ (ρ:=Unit⊕(Int×Unit)) (λ(v:Int×Unit)=>cond (decide (v.1<(l.length:Int))) ((at? l v.1).bind λy=>cond (nm y==t) (some (inr (inr (v.1,())))) (some (inl (w64 (v.1+1),())))) (some (inr (inl ())))) (0,())).bind λv=>bx_ v (λ_=>some ((-1:Int),())) (λw=>some w))).bind λv=>some (decide (v.1<0),())) (some (false,()))) (some (false,())))
      = some (okN t&&!(l.any λy=>nm y==t),()):=by
  rw[bp1 ht,a0_]
  obtain⟨n,h1,h2,_⟩:=if_lt hl (λy=>nm y==t) (body:=λ(v:Int×Unit)=>cond (decide (v.1<(l.length:Int))) ((at? l v.1).bind λy=>cond (nm y==t) (some (inr (inr (v.1,())))) (some (inl (w64 (v.1+1),())))) (some (inr (inl ())))) (λi y hy=>by
    simp only[dlt (ak_ hy),a4_,ah_ hy,a0_]
    cases nm y==t<;>rfl) (by simp only[dnl,a1_])
  rw[h1,a0_,h2]
  unfold okN
  cases okW t with
  | false=>rw[f9_,e0_];rfl
  | true=>cases decide ((t.length:Int)≤12)<;>rfl
theorem vw_ {α:Type} {l:List α} (h:Sm l.length) (i:Nat):Sm (l.take i).length:=by
  rw[c6_]
  exact c7_ (n3_ _ _) h
theorem ci2 {r:af_} (h:SmR r) {i:Nat} {a:cv_} (ha:r.2.2.2.2.1[i]?=some a):pt_ r (i:Int) a=some (uv_ r i a,()):=by
  have hi:=ak_ ha
  obtain⟨s1,s2,s3,s4,s5,s6⟩:=h.acn a (au_ ha)
  unfold pt_
  refine e4_ (congrArg (λo=>Option.bind o _) (?_:_=some (!(frN (·.1) r.2.2.2.2.1 i a.1&&(rw_ r a.2.1&&wi a.2.2.1 (-1) 7)),()))) ?_
  · rw[ph_ (g4_ hi),a0_]
    refine e4_ (congrArg (λo=>Option.bind o _) (vd_ (vw_ h.ac i) (·.1) s1)) ?_
    unfold frN twN rw_
    rw[a0_]
    cases okN a.1&&!((r.2.2.2.2.1.take i).any λy=>y.1==a.1) with
    | false=>rfl
    | true =>
      simp only[ea_,a0_]
      cases wi a.2.1 0 (w64 ((r.1.length:Int) - 1)) with
      | false=>rfl
      | true=>rfl
  · rw[a0_]
    unfold uv_
    cases frN (·.1) r.2.2.2.2.1 i a.1 with
    | false=>rfl
    | true =>
    cases rw_ r a.2.1 with
    | false=>rfl
    | true =>
    cases wi a.2.2.1 (-1) 7 with
    | false=>rfl
    | true =>
      simp only[d9_,a1_,b7_,sr_ s2,sr_ s5,sr_ s6,a0_]
      cases ld_ r.2.2.1.length a.2.2.2.1 with
      | false=>rfl
      | true =>
      cases ld_ r.2.2.1.length a.2.2.2.2.2.2.1 with
      | false=>rfl
      | true =>
      cases ld_ r.2.2.1.length a.2.2.2.2.2.2.2 with
      | false=>rfl
      | true =>
      cases h6:decide (6<(a.2.2.2.2.2.1.length:Int)) with
      | true=>rfl
      | false =>
      simp only[d9_,g3_,a1_,b7_,a0_]
      refine e4_ (congrArg (λo=>Option.bind o _) (?_:_=some (!((a.2.2.2.2.2.2.1.all λp=>a.2.2.2.1.contains p)&&!(a.2.2.2.2.2.2.2.any λp=>a.2.2.2.1.contains p)),()))) ?_
      · refine e4_ (congrArg (λo=>Option.bind o _) (ou_ s5 (λp=>!(a.2.2.2.1.contains p)) (λi y hy => ?_) ?_)) ?_
        · simp only[dlt (ak_ hy),a4_,ah_ hy,a0_,oz_ s2]
          cases a.2.2.2.1.contains y<;>rfl
        · simp only[dnl,a1_]
        rw[a0_,← tt_ a.2.2.2.2.2.2.1]
        cases a.2.2.2.2.2.2.1.any λp=>!(a.2.2.2.1.contains p) with
        | true=>rfl
        | false =>
        refine e4_ (congrArg (λo=>Option.bind o _) (ou_ s6 (λp=>a.2.2.2.1.contains p) (λi y hy => ?_) ?_)) ?_
        · simp only[dlt (ak_ hy),a4_,ah_ hy,a0_,oz_ s2]
          cases a.2.2.2.1.contains y<;>rfl
        · simp only[dnl,a1_]
        cases a.2.2.2.2.2.2.2.any λp=>a.2.2.2.1.contains p<;>rfl
      · rw[a0_]
        cases a.2.2.2.2.2.2.1.all λp=>a.2.2.2.1.contains p with
        | false=>rfl
        | true =>
        cases a.2.2.2.2.2.2.2.any λp=>a.2.2.2.1.contains p with
        | true=>rfl
        | false =>
          simp only[d9_,g3_,a1_,b7_]
          refine bo_ a.2.2.2.2.2.1 (λi x=>cond (ri_ r a.2.2.2.2.2.1 i x) none (some (inr (false,()):Unit⊕(Bool×Unit)))) (λi=>((i:Int),())) (r0:=inl ()) (λk y hy => ?_) ?_ ?_
          · have hk:=ak_ hy
            simp only[dlt hk,a4_,ah_ hy,a0_,az_ (show Sm k by omega),ph_ (g4_ hk)]
            refine e4_ (congrArg (λo=>Option.bind o _) (ou_ (vw_ s4 k) (λz=>z.1==y.1) (λn z hz => ?_) ?_)) ?_
            · simp only[dlt (ak_ hz),a4_,ah_ hz,a0_]
              cases z.1==y.1<;>rfl
            · simp only[dnl,a1_]
            · rw[a0_,pm_ h.th]
              unfold ri_
              cases nu_ r.2.1 y.1 y.2 with
              | false=>rfl
              | true =>
                cases (a.2.2.2.2.2.1.take k).any λz=>z.1==y.1<;>rfl
          · simp only[dnl,a1_]
          · rw[sp_]
            cases (fu_ (λi x=>cond (ri_ r a.2.2.2.2.2.1 i x) none (some ())) 0 a.2.2.2.2.2.1).isNone<;>rfl
end
section
def ae1 (r:af_):Bool:=decide (8<(r.1.length:Int))||(decide (12<(r.2.1.length:Int))||(decide (10<(r.2.2.1.length:Int))||(decide (16<(r.2.2.2.1.length:Int))||(decide (24<(r.2.2.2.2.1.length:Int))||decide (12<(r.2.2.2.2.2.1.length:Int))))))
theorem bu3 (r:af_):(cond (decide (8<(r.1.length:Int)))
 (some (true,()))
 (cond (decide (12<(r.2.1.length:Int)))
 (some (true,()))
 (cond (decide (10<(r.2.2.1.length:Int)))
 (some (true,()))
 (cond (decide (16<(r.2.2.2.1.length:Int)))
 (some (true,()))
 (cond (decide (24<(r.2.2.2.2.1.length:Int)))
 (some (true,()))
 (some ((decide (12<(r.2.2.2.2.2.1.length:Int))),())))))))=some (ae1 r,()):=by
  unfold ae1
  cases decide (8<(r.1.length:Int)) with
  | true=>rfl
  | false =>
  cases decide (12<(r.2.1.length:Int)) with
  | true=>rfl
  | false =>
  cases decide (10<(r.2.2.1.length:Int)) with
  | true=>rfl
  | false =>
  cases decide (16<(r.2.2.2.1.length:Int)) with
  | true=>rfl
  | false =>
  cases decide (24<(r.2.2.2.2.1.length:Int)) with
  | true=>rfl
  | false=>rfl
def db_ (r:af_):Int :=
  cond (ae1 r) 2 ((fu_ (λi x=>ky_ (plOk r i x) 22) 0 r.1).getD
    (cond ((r.1.length:Int)==0) 22 ((fu_ (λi x=>ky_ (bm6 r i x) 21) 0 r.2.1).getD
      ((fu_ (λi x=>sm_ (cj3 r i x) 24 (cOk r.2.1 x.2.2) 25) 0 r.2.2.1).getD
        ((fu_ (λ_ x=>sm_ (ce1 r x) 23 (cOk r.2.1 x.2.2) 25) 0 r.2.2.2.1).getD
          ((fu_ (λi x=>sm_ (uv_ r i x) 26 (cOk r.2.1 x.2.2.2.2.1) 25) 0 r.2.2.2.2.1).getD
            ((fu_ (λ_ x=>sm_ (nu_ r.2.1 x.2.1 x.2.2) 27 (cOk r.2.1 x.1) 25) 0 r.2.2.2.2.2.1).getD
              (cond (wi r.2.2.2.2.2.2.1 1 4) (cond (cOk r.2.1 r.2.2.2.2.2.2.2) 0 25) 1))))))))
theorem ss_ {r:af_} (h:SmR r):fm_ r=some (db_ r,()):=by
  unfold fm_
  refine e4_ (congrArg (λo=>Option.bind o _) (bu3 r)) ?_
  rw[a0_]
  unfold db_
  cases ae1 r with
  | true=>rfl
  | false =>
  simp only[a1_]
  refine bw_ r.1 (λi x=>ky_ (plOk r i x) 22) (λi y hy => ?_) ?_ (ey_ ?_)
  · have hi:=ak_ hy
    simp only[dlt hi,a4_,ah_ hy,a0_,az_ (show Sm i from c7_ (g4_ hi) h.pl),ph_ (g4_ hi)]
    refine e4_ (congrArg (λo=>Option.bind o _) (vd_ (vw_ h.pl i) id (h.pln y (au_ hy)))) ?_
    unfold ky_ plOk frN twN
    rw[a0_]
    cases okN y&&!((r.1.take i).any λz=>id z==y)<;>rfl
  · simp only[dnl,a1_]
  cases (r.1.length:Int)==0 with
  | true=>rfl
  | false =>
  simp only[a1_]
  refine bw_ r.2.1 (λi x=>ky_ (bm6 r i x) 21) (λi y hy => ?_) ?_ (ey_ ?_)
  · have hi:=ak_ hy
    simp only[dlt hi,a4_,ah_ hy,a0_,az_ (show Sm i from c7_ (g4_ hi) h.th),ph_ (g4_ hi)]
    refine e4_ (congrArg (λo=>Option.bind o _) (e4_ (congrArg (λo=>Option.bind o _) (vd_ (vw_ h.th i) (·.1) (h.thn y (au_ hy)))) (?_:_=some (!(bm6 r i y),())))) ?_
    · simp only[ea_,a0_]
      unfold bm6 frN twN rw_
      cases okN y.1&&!((r.2.1.take i).any λz=>z.1==y.1) with
      | false=>rfl
      | true =>
        cases wi y.2.1 0 (w64 ((r.1.length:Int) - 1)) with
        | false=>rfl
        | true =>
          cases wi y.2.2.1 2 6 with
          | false=>rfl
          | true=>rfl
    · rw[a0_]
      unfold ky_
      cases bm6 r i y<;>rfl
  · simp only[dnl,a1_]
  refine bw_ r.2.2.1 (λi x=>sm_ (cj3 r i x) 24 (cOk r.2.1 x.2.2) 25) (λi y hy => ?_) ?_ (ey_ ?_)
  · have hi:=ak_ hy
    simp only[dlt hi,a4_,ah_ hy,a0_,az_ (show Sm i from c7_ (g4_ hi) h.pr),ph_ (g4_ hi)]
    refine e4_ (congrArg (λo=>Option.bind o _) (e4_ (congrArg (λo=>Option.bind o _) (vd_ (vw_ h.pr i) (·.1) (h.prn y (au_ hy)).1)) (?_:_=some (!(cj3 r i y),())))) ?_
    · simp only[ea_,a0_]
      unfold cj3 frN twN rw_
      cases okN y.1&&!((r.2.2.1.take i).any λz=>z.1==y.1) with
      | false=>rfl
      | true =>
        cases wi y.2.1 0 (w64 ((r.1.length:Int) - 1)) with
        | false=>rfl
        | true=>rfl
    · rw[a0_,kf_ h.th,a0_]
      unfold sm_
      cases cj3 r i y with
      | false=>rfl
      | true=>cases cOk r.2.1 y.2.2<;>rfl
  · simp only[dnl,a1_]
  refine bw_ r.2.2.2.1 (λi x=>sm_ (ce1 r x) 23 (cOk r.2.1 x.2.2) 25) (λi y hy => ?_) ?_ (ey_ ?_)
  · have hi:=ak_ hy
    simp only[dlt hi,a4_,ah_ hy,a0_,az_ (show Sm i from c7_ (g4_ hi) h.wy)]
    refine e4_ (congrArg (λo=>Option.bind o _) (?_:_=some (!(ce1 r y),()))) ?_
    · simp only[ea_,a0_]
      unfold ce1 rw_
      cases wi y.1 0 (w64 ((r.1.length:Int) - 1)) with
      | false=>rfl
      | true =>
        cases wi y.2.1 0 (w64 ((r.1.length:Int) - 1)) with
        | false=>rfl
        | true=>simp
    · rw[a0_,kf_ h.th,a0_]
      unfold sm_
      cases ce1 r y with
      | false=>rfl
      | true=>cases cOk r.2.1 y.2.2<;>rfl
  · simp only[dnl,a1_]
  refine bw_ r.2.2.2.2.1 (λi x=>sm_ (uv_ r i x) 26 (cOk r.2.1 x.2.2.2.2.1) 25) (λi y hy => ?_) ?_ (ey_ ?_)
  · have hi:=ak_ hy
    simp only[dlt hi,a4_,ah_ hy,a0_,az_ (show Sm i from c7_ (g4_ hi) h.ac),ci2 h hy,kf_ h.th]
    unfold sm_
    cases uv_ r i y with
    | false=>rfl
    | true=>cases cOk r.2.1 y.2.2.2.2.1<;>rfl
  · simp only[dnl,a1_]
  refine bw_ r.2.2.2.2.2.1 (λi x=>sm_ (nu_ r.2.1 x.2.1 x.2.2) 27 (cOk r.2.1 x.1) 25) (λi y hy => ?_) ?_ (ey_ ?_)
  · have hi:=ak_ hy
    simp only[dlt hi,a4_,ah_ hy,a0_,az_ (show Sm i from c7_ (g4_ hi) h.au),pm_ h.th,kf_ h.th]
    unfold sm_
    cases nu_ r.2.1 y.2.1 y.2.2 with
    | false=>rfl
    | true=>cases cOk r.2.1 y.1<;>rfl
  · simp only[dnl,a1_]
  rw[ea_,a0_,kf_ h.th,a0_]
  cases wi r.2.2.2.2.2.2.1 1 4 with
  | false=>rfl
  | true=>cases cOk r.2.1 r.2.2.2.2.2.2.2<;>rfl
end
section
theorem uj_ {α ρ σ τ:Type} (l:List α) (k:Nat) (hk:k≤l.length) (p:Nat→α→Option ρ) (F:Nat→σ) {r0:ρ} {body:σ→Option (σ⊕ρ)} {K:ρ→Option τ} {x:Option τ}
    (h:∀ i x,i<k→l[i]?=some x→body (F i)=some (match p i x with | none=>.inl (F (i+1)) | some r=>.inr r)) (e:body (F k)=some (.inr r0)) (hx:K ((fu_ p 0 (l.take k)).getD r0)=x) :
    (ag_ body (F 0)).bind K=x:=by
  have hle:(l.take k).length=k:=by rw[c6_];omega
  refine bo_ (l.take k) p F (λi x hx => ?_) (by rw[hle];exact e) hx
  rw[j2_] at hx
  split at hx
  · exact h i x ‹_› hx
  · cases hx
theorem bp5 {r:af_} (h:SmR r) {i:Nat} {a:cv_} (ha:r.2.2.2.2.1[i]?=some a):ng_ r (i:Int)=some (uv_ r i a,()):=by
  have hi:=ak_ ha
  have hac:=h.ac
  obtain⟨s1,s2,s3,s4,s5,s6⟩:=h.acn a (au_ ha)
  unfold ng_
  rw[ah_ ha,a0_]
  refine uj_ r.2.2.2.2.1 i (g4_ hi) (λ_ y=>cond (y.1==a.1) (some (inr (false,()):Unit⊕(Bool×Unit))) none) (λi=>((i:Int),())) (r0:=inl ()) (λk y hk hy => ?_) ?_ ?_
  · simp only[dlt hk,a4_,ah_ hy,a0_,az_ (show Sm k by omega)]
    cases y.1==a.1<;>rfl
  · simp only[dnl,a1_]
  rw[gy_ (q:=λy:cv_=>y.1==a.1)]
  unfold uv_ frN twN
  cases (r.2.2.2.2.1.take i).any λy=>y.1==a.1 with
  | true=>rw[d9_,f9_,e0_];rfl
  | false =>
  simp only[a1_,j4_,aa4,g3_,h4_]
  refine e4_ (congrArg (λo=>Option.bind o _) (?_:_=some (!(okN a.1&&(rw_ r a.2.1&&(wi a.2.2.1 (-1) 7&&(ld_ r.2.2.1.length a.2.2.2.1&&(ld_ r.2.2.1.length a.2.2.2.2.2.2.1&&(ld_ r.2.2.1.length a.2.2.2.2.2.2.2&&!(decide (6<(a.2.2.2.2.2.1.length:Int))))))))),()))) ?_
  · simp only[ko_ s1,ik_,fv_,kn_ h.pr s2,kn_ h.pr s5,kn_ h.pr s6,a0_]
    unfold rw_
    cases okN a.1 with
    | false=>rfl
    | true =>
    cases wi a.2.1 0 (w64 ((r.1.length:Int) - 1)) with
    | false=>rfl
    | true =>
    cases wi a.2.2.1 (-1) 7 with
    | false=>rfl
    | true =>
    cases ld_ r.2.2.1.length a.2.2.2.1 with
    | false=>rfl
    | true =>
    cases ld_ r.2.2.1.length a.2.2.2.2.2.2.1 with
    | false=>rfl
    | true =>
    cases ld_ r.2.2.1.length a.2.2.2.2.2.2.2 with
    | false=>rfl
    | true=>simp
  rw[a0_]
  cases okN a.1 with
  | false=>rfl
  | true =>
  cases rw_ r a.2.1 with
  | false=>rfl
  | true =>
  cases wi a.2.2.1 (-1) 7 with
  | false=>rfl
  | true =>
  cases ld_ r.2.2.1.length a.2.2.2.1 with
  | false=>rfl
  | true =>
  cases ld_ r.2.2.1.length a.2.2.2.2.2.2.1 with
  | false=>rfl
  | true =>
  cases ld_ r.2.2.1.length a.2.2.2.2.2.2.2 with
  | false=>rfl
  | true =>
  cases decide (6<(a.2.2.2.2.2.1.length:Int)) with
  | true=>rfl
  | false =>
  simp only[b7_,d9_,g3_,a1_]
  refine bo_ a.2.2.2.2.2.2.1 (λ_ y=>cond (a.2.2.2.1.contains y) none (some (inr (false,()):Unit⊕(Bool×Unit)))) (λi=>((i:Int),())) (r0:=inl ()) (λk y hy => ?_) ?_ ?_
  · have hk:=ak_ hy
    simp only[dlt hk,a4_,ah_ hy,a0_,az_ (show Sm k by omega),ay9 s2]
    cases a.2.2.2.1.contains y<;>rfl
  · simp only[dnl,a1_]
  rw[jq_ (q:=λy=>a.2.2.2.1.contains y)]
  cases a.2.2.2.2.2.2.1.all λy=>a.2.2.2.1.contains y with
  | false=>rfl
  | true =>
  simp only[a4_,j4_,aa4,b7_]
  refine bo_ a.2.2.2.2.2.2.2 (λ_ y=>cond (a.2.2.2.1.contains y) (some (inr (false,()):Unit⊕(Bool×Unit))) none) (λi=>((i:Int),())) (r0:=inl ()) (λk y hy => ?_) ?_ ?_
  · have hk:=ak_ hy
    simp only[dlt hk,a4_,ah_ hy,a0_,az_ (show Sm k by omega),ay9 s2]
    cases a.2.2.2.1.contains y<;>rfl
  · simp only[dnl,a1_]
  rw[gy_ (q:=λy=>a.2.2.2.1.contains y)]
  cases a.2.2.2.2.2.2.2.any λy=>a.2.2.2.1.contains y with
  | true=>rfl
  | false =>
  simp only[a1_,j4_,aa4,g3_,b7_]
  refine bo_ a.2.2.2.2.2.1 (λi x=>cond (ri_ r a.2.2.2.2.2.1 i x) none (some (inr (false,()):Unit⊕(Bool×Unit)))) (λi=>((i:Int),())) (r0:=inl ()) (λk y hy => ?_) ?_ ?_
  · have hk:=ak_ hy
    simp only[dlt hk,a4_,ah_ hy,a0_,az_ (show Sm k by omega),rm_ h.th]
    unfold ri_
    cases nu_ r.2.1 y.1 y.2 with
    | false=>rfl
    | true =>
    simp only[d9_,a1_,b7_]
    refine uj_ a.2.2.2.2.2.1 k (g4_ hk) (λ_ z=>cond (z.1==y.1) (some (inr (inr (inr (false,()))):Unit⊕((Int×Unit)⊕(Unit⊕(Bool×Unit))))) none) (λi=>((i:Int),())) (r0:=inl ()) (λn z hn hz => ?_) ?_ ?_
    · simp only[dlt hn,a4_,ah_ hz,a0_,az_ (show Sm n by omega)]
      cases z.1==y.1<;>rfl
    · simp only[dnl,a1_]
    rw[gy_ (q:=λz:ac_=>z.1==y.1)]
    cases (a.2.2.2.2.2.1.take k).any λz=>z.1==y.1<;>rfl
  · simp only[dnl,a1_]
  rw[sp_]
  cases (fu_ (λi x=>cond (ri_ r a.2.2.2.2.2.1 i x) none (some ())) 0 a.2.2.2.2.2.1).isNone<;>rfl
theorem al7 {α:Type} {nm:α→List UInt8} {l:List α} (hl:Sm l.length) {i:Nat} {x:α} (hx:l[i]?=some x):push? (α:=List UInt8) ((l.take i).map nm) [nm x]=some ((l.take (i+1)).map nm):=by
  have hi:=ak_ hx
  unfold push?
  rw[if_pos (by
    simp only[d2_,c6_,c8_]
    omega)]
  rw[d3_,hx,j0_]
  rfl
theorem bm4 {α:Type} {nm:α→List UInt8} {l:List α} {i:Nat} {t:List UInt8}:twN id ((l.take (i+1)).map nm) i t=twN nm l i t:=by
  unfold twN
  rw[← List.map_take,List.take_take,q6_ (Nat.le_succ i),List.any_map]
  rfl
theorem ct4 {α:Type} {nm:α→List UInt8} {l:List α} {i:Nat} {x:α} (hx:l[i]?=some x):((l.take (i+1)).map nm)[i]?=some (nm x):=by
  rw[d6_,j2_,if_pos (Nat.lt_succ_self i),hx]
  rfl
theorem qo_ {r:af_} (h:SmR r):gc_ r=some (db_ r,()):=by
  unfold gc_
  refine e4_ (congrArg (λo=>Option.bind o _) (bu3 r)) ?_
  rw[a0_]
  unfold db_
  cases ae1 r with
  | true=>rfl
  | false =>
  simp only[a1_]
  cases he:(r.1.length:Int)==0 with
  | true =>
    have:r.1=[]:=by
      have:=f2_.1 he
      exact h7_ (by omega)
    rw[this]
    rfl
  | false =>
  simp only[a1_]
  refine bw_ r.1 (λi x=>ky_ (plOk r i x) 22) (λi y hy => ?_) ?_ (ey_ ?_)
  · have hi:=ak_ hy
    simp only[dlt hi,a4_,ah_ hy,a0_,az_ (show Sm i from c7_ (g4_ hi) h.pl),ko_ (h.pln y (au_ hy)),qn_ h.pl hy]
    unfold ky_ plOk frN
    cases okN y with
    | false=>rfl
    | true=>cases twN id r.1 i y<;>rfl
  · simp only[dnl,a1_]
  refine zy_ r.2.1 (λi x=>ky_ (bm6 r i x) 21) (λi=>(r.2.1.take i).map (·.1)) rfl (λi y hy => ?_) ?_ (ey_ ?_)
  · have hi:=ak_ hy
    have hs:Sm ((r.2.1.take (i+1)).map (·.1)).length:=by
      rw[d2_,c6_]
      exact c7_ (n3_ _ _) h.th
    simp only[dlt hi,a4_,ah_ hy,a0_,az_ (show Sm i from c7_ (g4_ hi) h.th),al7 h.th hy,ko_ (h.thn y (au_ hy)),qn_ hs (ct4 hy),bm4,ik_,fv_]
    unfold ky_ bm6 frN rw_
    cases okN y.1 with
    | false=>rfl
    | true =>
    cases twN (·.1) r.2.1 i y.1 with
    | true=>rfl
    | false =>
    cases wi y.2.1 0 (w64 ((r.1.length:Int) - 1)) with
    | false=>rfl
    | true =>
    cases wi y.2.2.1 2 6 with
    | false=>rfl
    | true=>cases wi y.2.2.2 0 (w64 (y.2.2.1 - 1))<;>rfl
  · simp only[dnl,a1_]
  refine zy_ r.2.2.1 (λi x=>sm_ (cj3 r i x) 24 (cOk r.2.1 x.2.2) 25) (λi=>(r.2.2.1.take i).map (·.1)) rfl (λi y hy => ?_) ?_ (ey_ ?_)
  · have hi:=ak_ hy
    obtain⟨s1,s2⟩:=h.prn y (au_ hy)
    have hs:Sm ((r.2.2.1.take (i+1)).map (·.1)).length:=by
      rw[d2_,c6_]
      exact c7_ (n3_ _ _) h.pr
    simp only[dlt hi,a4_,ah_ hy,a0_,az_ (show Sm i from c7_ (g4_ hi) h.pr),al7 h.pr hy,ko_ s1,qn_ hs (ct4 hy),bm4,ik_,hh_ h.th s2]
    unfold sm_ cj3 frN rw_
    cases okN y.1 with
    | false=>rfl
    | true =>
    cases twN (·.1) r.2.2.1 i y.1 with
    | true=>rfl
    | false =>
    have e:(y.2.1 != -1) = !(y.2.1==-1):=rfl
    rw[e]
    cases y.2.1==-1 with
    | true =>
      cases wi y.2.1 0 (w64 ((r.1.length:Int) - 1))<;>cases cOk r.2.1 y.2.2<;>rfl
    | false =>
      cases wi y.2.1 0 (w64 ((r.1.length:Int) - 1))<;>cases cOk r.2.1 y.2.2<;>rfl
  · simp only[dnl,a1_]
  refine bw_ r.2.2.2.1 (λi x=>sm_ (ce1 r x) 23 (cOk r.2.1 x.2.2) 25) (λi y hy => ?_) ?_ (ey_ ?_)
  · have hi:=ak_ hy
    simp only[dlt hi,a4_,ah_ hy,a0_,az_ (show Sm i from c7_ (g4_ hi) h.wy),ik_,hh_ h.th (h.wyn y (au_ hy))]
    unfold sm_ ce1 rw_
    cases wi y.1 0 (w64 ((r.1.length:Int) - 1)) with
    | false=>rfl
    | true =>
    cases wi y.2.1 0 (w64 ((r.1.length:Int) - 1)) with
    | false=>rfl
    | true=>cases y.1==y.2.1<;>cases cOk r.2.1 y.2.2<;>rfl
  · simp only[dnl,a1_]
  refine bw_ r.2.2.2.2.1 (λi x=>sm_ (uv_ r i x) 26 (cOk r.2.1 x.2.2.2.2.1) 25) (λi y hy => ?_) ?_ (ey_ ?_)
  · have hi:=ak_ hy
    simp only[dlt hi,a4_,ah_ hy,a0_,az_ (show Sm i from c7_ (g4_ hi) h.ac),bp5 h hy,hh_ h.th (h.acn y (au_ hy)).2.2.1]
    unfold sm_
    cases uv_ r i y with
    | false=>rfl
    | true=>cases cOk r.2.1 y.2.2.2.2.1<;>rfl
  · simp only[dnl,a1_]
  refine bw_ r.2.2.2.2.2.1 (λi x=>sm_ (nu_ r.2.1 x.2.1 x.2.2) 27 (cOk r.2.1 x.1) 25) (λi y hy => ?_) ?_ (ey_ ?_)
  · have hi:=ak_ hy
    simp only[dlt hi,a4_,ah_ hy,a0_,az_ (show Sm i from c7_ (g4_ hi) h.au),rm_ h.th,hh_ h.th (h.aun y (au_ hy))]
    unfold sm_
    cases nu_ r.2.1 y.2.1 y.2.2 with
    | false=>rfl
    | true=>cases cOk r.2.1 y.1<;>rfl
  · simp only[dnl,a1_]
  rw[fv_,a0_,hh_ h.th h.go,a0_]
  cases wi r.2.2.2.2.2.2.1 1 4 with
  | false=>rfl
  | true=>cases cOk r.2.1 r.2.2.2.2.2.2.2<;>rfl
end
section
theorem hx_ {α τ:Type} (l:List α) (hl:Sm l.length) (q:α→Bool) {body:(Int×Unit)→Option ((Int×Unit)⊕(Unit⊕(Bool×Unit)))} {K:(Unit⊕(Bool×Unit))→Option τ} {x:Option τ}
    (h:∀ (i:Nat) y,l[i]?=some y→body ((i:Int),())=some (cond (q y) (.inr (.inr (true,()))) (.inl (w64 ((i:Int)+1),())))) (e:body ((l.length:Int),())=some (.inr (.inl ()))) (hx:K (cond (l.any q) (.inr (true,())) (.inl ()))=x) :
    (ag_ body (0,())).bind K=x:=by
  refine bo_ l (λi y=>cond (q y) (some (inr (true,()):Unit⊕(Bool×Unit))) none) (λi=>((i:Int),())) (r0:=inl ()) (λi y hy => ?_) e ?_
  · have hi:=ak_ hy
    rw[h i y hy,az_ (show Sm i by omega)]
    cases q y<;>rfl
  · rw[gy_ (q:=q)]
    cases hq:l.any q<;>rw[hq] at hx<;>exact hx
theorem dz_ {α:Type} {l:List α} {q:α→Bool} (h:l.any q=false):∀ x ∈ l,q x=false:=by
  intro x hx
  cases hq:q x with
  | false=>rfl
  | true=>rw[g1_.2 ⟨x,hx,hq⟩] at h;cases h
theorem nlt {n:Nat} {k:Int} (h:decide (k<(n:Int))=false) (hk:k≤1000000000):Sm n:=by
  have:=c1_ h
  omega
def cl1 (r:af_):Bool:=decide (12<(r.1.length:Int))||(decide (15<(r.2.1.length:Int))||(decide (14<(r.2.2.1.length:Int))||(decide (20<(r.2.2.2.1.length:Int))||(decide (30<(r.2.2.2.2.1.length:Int))||(decide (15<(r.2.2.2.2.2.1.length:Int))||decide (20<(r.2.2.2.2.2.2.2.length:Int)))))))
theorem cl0 (r:af_):(cond (decide (12<(r.1.length:Int)))
 (some (true,()))
 (cond (decide (15<(r.2.1.length:Int)))
 (some (true,()))
 (cond (decide (14<(r.2.2.1.length:Int)))
 (some (true,()))
 (cond (decide (20<(r.2.2.2.1.length:Int)))
 (some (true,()))
 (cond (decide (30<(r.2.2.2.2.1.length:Int)))
 (some (true,()))
 (cond (decide (15<(r.2.2.2.2.2.1.length:Int)))
 (some (true,()))
 (some ((decide (20<(r.2.2.2.2.2.2.2.length:Int))),()))))))))=some (cl1 r,()):=by
  unfold cl1
  cases decide (12<(r.1.length:Int)) with
  | true=>rfl
  | false =>
  cases decide (15<(r.2.1.length:Int)) with
  | true=>rfl
  | false =>
  cases decide (14<(r.2.2.1.length:Int)) with
  | true=>rfl
  | false =>
  cases decide (20<(r.2.2.2.1.length:Int)) with
  | true=>rfl
  | false =>
  cases decide (30<(r.2.2.2.2.1.length:Int)) with
  | true=>rfl
  | false =>
  cases decide (15<(r.2.2.2.2.2.1.length:Int)) with
  | true=>rfl
  | false=>rfl
theorem bv3 (r:af_):∃ b,nj_ r=some (b,())∧(b=false→SmR r∧r.2.1.length≤15∧r.2.2.2.2.2.2.2.length≤20∧r.2.2.2.2.1.length≤30):=by
  unfold nj_
  have e0:=cl0 r
  cases hm:cl1 r with
  | true =>
    rw[hm] at e0
    exact⟨true,e4_ (congrArg (λo=>Option.bind o _) e0) rfl,λh=>by cases h⟩
  | false =>
  rw[hm] at e0
  unfold cl1 at hm
  simp only[c2_] at hm
  obtain⟨h1,h2,h3,h4,h5,h6,h7⟩:=hm
  have l1:=nlt h1 (by decide)
  have l2:=nlt h2 (by decide)
  have l3:=nlt h3 (by decide)
  have l4:=nlt h4 (by decide)
  have l5:=nlt h5 (by decide)
  have l6:=nlt h6 (by decide)
  have l7:=nlt h7 (by decide)
  have b2:=c1_ h2
  have b5:=c1_ h5
  have b7:=c1_ h7
  let qa:cv_→Bool:=λy=>decide (100<(y.1.length:Int))||(decide (20<(y.2.2.2.2.1.length:Int))||(decide (20<(y.2.2.2.1.length:Int))||(decide (20<(y.2.2.2.2.2.1.length:Int))||(decide (20<(y.2.2.2.2.2.2.1.length:Int))||decide (20<(y.2.2.2.2.2.2.2.length:Int))))))
  let b1:=r.1.any λx=>decide (100<(x.length:Int))
  let bt:=r.2.1.any λx=>decide (100<(x.1.length:Int))
  let bp:=r.2.2.1.any λx=>decide (100<(x.1.length:Int))||decide (20<(x.2.2.length:Int))
  let bw:=r.2.2.2.1.any λx=>decide (20<(x.2.2.length:Int))
  let ba:=r.2.2.2.2.1.any qa
  let bo:=r.2.2.2.2.2.1.any λx=>decide (20<(x.1.length:Int))
  refine⟨b1||(bt||(bp||(bw||(ba||bo)))),?_,?_⟩
  · refine e4_ (congrArg (λo=>Option.bind o _) e0) ?_
    rw[a0_]
    simp only[a1_]
    refine hx_ r.1 l1 (λx=>decide (100<(x.length:Int))) (λi y hy => ?_) ?_ ?_
    · simp only[dlt (ak_ hy),a4_,ah_ hy,a0_]
      cases decide (100<(y.length:Int))<;>rfl
    · simp only[dnl,a1_]
    show bx_ (cond b1 _ _) _ _=_
    cases b1 with
    | true=>rfl
    | false =>
    refine hx_ r.2.1 l2 (λx=>decide (100<(x.1.length:Int))) (λi y hy => ?_) ?_ ?_
    · simp only[dlt (ak_ hy),a4_,ah_ hy,a0_]
      cases decide (100<(y.1.length:Int))<;>rfl
    · simp only[dnl,a1_]
    show bx_ (cond bt _ _) _ _=_
    cases bt with
    | true=>rfl
    | false =>
    refine hx_ r.2.2.1 l3 (λx=>decide (100<(x.1.length:Int))||decide (20<(x.2.2.length:Int))) (λi y hy => ?_) ?_ ?_
    · simp only[dlt (ak_ hy),a4_,ah_ hy,a0_]
      cases decide (100<(y.1.length:Int)) with
      | true=>rfl
      | false=>cases decide (20<(y.2.2.length:Int))<;>rfl
    · simp only[dnl,a1_]
    show bx_ (cond bp _ _) _ _=_
    cases bp with
    | true=>rfl
    | false =>
    refine hx_ r.2.2.2.1 l4 (λx=>decide (20<(x.2.2.length:Int))) (λi y hy => ?_) ?_ ?_
    · simp only[dlt (ak_ hy),a4_,ah_ hy,a0_]
      cases decide (20<(y.2.2.length:Int))<;>rfl
    · simp only[dnl,a1_]
    show bx_ (cond bw _ _) _ _=_
    cases bw with
    | true=>rfl
    | false =>
    refine hx_ r.2.2.2.2.1 l5 qa (λi y hy => ?_) ?_ ?_
    · simp only[dlt (ak_ hy),a4_,ah_ hy,a0_,qa]
      cases decide (100<(y.1.length:Int)) with
      | true=>rfl
      | false =>
      cases decide (20<(y.2.2.2.2.1.length:Int)) with
      | true=>rfl
      | false =>
      cases decide (20<(y.2.2.2.1.length:Int)) with
      | true=>rfl
      | false =>
      cases decide (20<(y.2.2.2.2.2.1.length:Int)) with
      | true=>rfl
      | false =>
      cases decide (20<(y.2.2.2.2.2.2.1.length:Int)) with
      | true=>rfl
      | false=>cases decide (20<(y.2.2.2.2.2.2.2.length:Int))<;>rfl
    · simp only[dnl,a1_]
    show bx_ (cond ba _ _) _ _=_
    cases ba with
    | true=>rfl
    | false =>
    refine hx_ r.2.2.2.2.2.1 l6 (λx=>decide (20<(x.1.length:Int))) (λi y hy => ?_) ?_ ?_
    · simp only[dlt (ak_ hy),a4_,ah_ hy,a0_]
      cases decide (20<(y.1.length:Int))<;>rfl
    · simp only[dnl,a1_]
    show bx_ (cond bo _ _) _ _=_
    cases bo<;>rfl
  · intro hb
    simp only[c2_] at hb
    obtain⟨g1,g2,g3,g4,g5,g6⟩:=hb
    refine⟨⟨l1,l2,l3,l4,l5,l6,l7,λx hx=>nlt (dz_ g1 x hx) (by decide),λx hx=>nlt (dz_ g2 x hx) (by decide),λx hx => ?_,λx hx=>nlt (dz_ g4 x hx) (by decide),λx hx => ?_,λx hx=>nlt (dz_ g6 x hx) (by decide)⟩,by omega,by omega,by omega⟩
    · have:=dz_ g3 x hx
      simp only[c2_] at this
      exact⟨nlt this.1 (by decide),nlt this.2 (by decide)⟩
    · have:=dz_ g5 x hx
      simp only[qa,c2_] at this
      obtain⟨a1,a2,a3,a4,a5,a6⟩:=this
      exact⟨nlt a1 (by decide),nlt a3 (by decide),nlt a2 (by decide),nlt a4 (by decide),nlt a5 (by decide),nlt a6 (by decide)⟩
structure SmG (g:ab_):Prop where
  room:SmR g.1
  th:g.1.2.1.length≤15
  go:g.1.2.2.2.2.2.2.2.length≤20
  ac:g.1.2.2.2.2.1.length≤30
  lk:g.2.1.length≤10
  cd:g.2.2.1.length≤10
  nt:g.2.2.2.1.length≤20
  lkn:∀ x ∈ g.2.1,¬ (3<x.1∧5<x.2)
  cdn:∀ x ∈ g.2.2.1,x.length≤10
  ntn:∀ x ∈ g.2.2.2.1,x.1.length≤100∧x.2.2.2.1.length≤20∧x.2.2.2.2.2.2.2.2.2.1.length≤10
theorem bv2 (g:ab_):∃ b,kx_ g=some (b,())∧(b=false→SmG g):=by
  unfold kx_
  obtain⟨b0,e0,h0⟩:=bv3 g.1
  rw[e0]
  simp only[a0_]
  cases b0 with
  | true=>exact⟨true,rfl,λh=>by cases h⟩
  | false =>
  obtain⟨r1,r2,r3,r4⟩:=h0 rfl
  cases h1:decide (10<(g.2.1.length:Int)) with
  | true=>exact⟨true,rfl,λh=>by cases h⟩
  | false =>
  cases h2:decide (10<(g.2.2.1.length:Int)) with
  | true=>exact⟨true,rfl,λh=>by cases h⟩
  | false =>
  cases h3:decide (20<(g.2.2.2.1.length:Int)) with
  | true=>exact⟨true,rfl,λh=>by cases h⟩
  | false =>
  have l1:=nlt h1 (by decide)
  have l2:=nlt h2 (by decide)
  have l3:=nlt h3 (by decide)
  let ql:ac_→Bool:=λy=>decide (3<y.1)&&decide (5<y.2)
  let qn:cr_→Bool:=λy=>decide (100<(y.1.length:Int))||(decide (20<(y.2.2.2.1.length:Int))||decide (10<(y.2.2.2.2.2.2.2.2.2.1.length:Int)))
  let b1:=g.2.1.any ql
  let b2:=g.2.2.1.any λx=>decide (10<(x.length:Int))
  let b3:=g.2.2.2.1.any qn
  refine⟨b1||(b2||b3),?_,?_⟩
  · simp only[a0_,a1_]
    refine hx_ g.2.1 l1 ql (λi y hy => ?_) ?_ ?_
    · simp only[dlt (ak_ hy),a4_,ah_ hy,a0_,ql]
      cases decide (3<y.1) with
      | false=>rfl
      | true=>cases decide (5<y.2)<;>rfl
    · simp only[dnl,a1_]
    show bx_ (cond b1 _ _) _ _=_
    cases b1 with
    | true=>rfl
    | false =>
    refine hx_ g.2.2.1 l2 (λx=>decide (10<(x.length:Int))) (λi y hy => ?_) ?_ ?_
    · simp only[dlt (ak_ hy),a4_,ah_ hy,a0_]
      cases decide (10<(y.length:Int))<;>rfl
    · simp only[dnl,a1_]
    show bx_ (cond b2 _ _) _ _=_
    cases b2 with
    | true=>rfl
    | false =>
    refine hx_ g.2.2.2.1 l3 qn (λi y hy => ?_) ?_ ?_
    · simp only[dlt (ak_ hy),a4_,ah_ hy,a0_,qn]
      cases decide (100<(y.1.length:Int)) with
      | true=>rfl
      | false =>
      cases decide (20<(y.2.2.2.1.length:Int)) with
      | true=>rfl
      | false=>cases decide (10<(y.2.2.2.2.2.2.2.2.2.1.length:Int))<;>rfl
    · simp only[dnl,a1_]
    show bx_ (cond b3 _ _) _ _=_
    cases b3<;>rfl
  · intro hb
    simp only[c2_] at hb
    obtain⟨g1,g2,g3⟩:=hb
    have c1:=c1_ h1
    have c2:=c1_ h2
    have c3:=c1_ h3
    refine⟨r1,r2,r3,r4,by omega,by omega,by omega,λx hx => ?_,λx hx => ?_,λx hx => ?_⟩
    · have:=dz_ g1 x hx
      intro hc
      simp only[ql,b4_ hc.1,b4_ hc.2] at this
      cases this
    · have:=c1_ (dz_ g2 x hx)
      omega
    · have:=dz_ g3 x hx
      simp only[qn,c2_] at this
      have d1:=c1_ this.1
      have d2:=c1_ this.2.1
      have d3:=c1_ this.2.2
      omega
end
end Go.Proofs.YtdibamopklkilaaGreatDoor.Rx
namespace Go.Proofs.YtdibamopklkilaaGreatDoor.Rx
open Go Pad Rex Go.Proofs Go.Proofs.Tryz Sum
section
set_option maxRecDepth 100000
set_option maxHeartbeats 0
noncomputable def fy_ (a0:ab_):Option (Int×Unit) :=
 ((gc_ a0.1).bind λv0 =>
 (cond (v0.1 != 0)
 (some (v0.1,()))
 (((cond (decide (8<(a0.2.1.length:Int)))
 (some (true,()))
 (some ((decide (16<(a0.2.2.2.1.length:Int))),())))).bind λv1 =>
 (cond v1.1
 (some (2,()))
 ((ag_ (ρ:=(Unit⊕(Int×Unit))) (λ(v2:(Int×Unit)) =>
 (cond (decide (v2.1<(a0.2.1.length:Int)))
 ((at? a0.2.1 v2.1).bind λv3 =>
 ((ep_ v3).bind λv4 =>
 (cond (v4.1 != 0)
 (some (inr (inr (v4.1,()))))
 (some (inl ((w64 (v2.1+1)),()))))))
 (some (inr (inl ()))))) (0,())).bind λv5 =>
 (bx_ v5 (λv6=>(cond ((a0.2.2.1.length:Int) != (a0.2.1.length:Int))
 (some (12,()))
 ((ag_ (ρ:=(Unit⊕(Int×Unit))) (λ(v8:(Int×Unit)) =>
 (cond (decide (v8.1<(a0.2.2.1.length:Int)))
 ((at? a0.2.1 v8.1).bind λv9 =>
 ((at? a0.2.2.1 v8.1).bind λv10 =>
 ((gd_ v9 v10).bind λv11 =>
 (cond (v11.1 != 0)
 (some (inr (inr (12,()))))
 (some (inl ((w64 (v8.1+1)),())))))))
 (some (inr (inl ()))))) (0,())).bind λv12 =>
 (bx_ v12 (λv13=>((ag_ (ρ:=(Unit⊕(Int×Unit))) (λ(v15:(Int×Unit)) =>
 (cond (decide (v15.1<(a0.1.2.2.2.2.1.length:Int)))
 ((at? a0.1.2.2.2.2.1 v15.1).bind λv16 =>
 (cond (decide ((a0.2.1.length:Int)≤v16.2.2.1))
 (some (inr (inr (26,()))))
 (some (inl ((w64 (v15.1+1)),())))))
 (some (inr (inl ()))))) (0,())).bind λv17 =>
 (bx_ v17 (λv18=>((ag_ (ρ:=(Unit⊕(Int×Unit))) (λ(v20:(Int×Unit)) =>
 (cond (decide (v20.1<(a0.2.2.2.1.length:Int)))
 ((jt_ a0 v20.1).bind λv21 =>
 (cond (!v21.1)
 (some (inr (inr (40,()))))
 ((at? a0.2.2.2.1 v20.1).bind λv22 =>
 ((cu_ a0.1 v22.2.2.2.1).bind λv23 =>
 (cond (!v23.1)
 (some (inr (inr (25,()))))
 (some (inl ((w64 (v20.1+1)),()))))))))
 (some (inr (inl ()))))) (0,())).bind λv24 =>
 (bx_ v24 (λv25=>((jd_ a0.2.2.2.2 1 100).bind λv27 =>
 (cond (!v27.1)
 (some (1,()))
 (some (0,())))))
 (λv26=>(some v26)))))
 (λv19=>(some v19)))))
 (λv14=>(some v14))))))
 (λv7=>(some v7))))))))
theorem x_31:av_ (P:=prog) (cxC [c_64,c_65,c_66,c_67,c_68,c_69] []) (.p .z (.p .z (.p .z (.p (.j0 [.v 24 .bool] .z .z) (.p (.p .z (.ls [.v 4 .int] [] [] 0 .z)) (.p .z (.p (.p .z (.ls [.v 6 .int] [] [] 2 (.p .z (.p (.p (.q [] .z .z) .z) .z)))) (.p (.p .z (.ls [.v 7 .int] [] [] 4 (.p .z (.p (.p (.q [] .z .z) .z) .z)))) (.p (.p .z (.ls [.v 8 .int] [] [] 6 (.p .z (.p (.p .z (.p (.q [] .z .z) .z)) .z)))) .z))))))))) 31 [an_] [.int]=λx=>fy_ x.1:=by kernel_rfl
noncomputable def c_31:Con prog:=ax_ _ _ 31 [an_] [.int] _ x_31
noncomputable def dx_ (a0:af_) (a1:ai_):Option (Int×Unit) :=
 ((gc_ a0).bind λv0 =>
 (cond (v0.1 != 0)
 (some (v0.1,()))
 (((cond ((a1.1.length:Int) != (a0.2.1.length:Int))
 (some (true,()))
 (cond ((a1.2.1.length:Int) != (a0.2.2.1.length:Int))
 (some (true,()))
 (some (((a1.2.2.length:Int) != a0.2.2.2.2.2.2.1),()))))).bind λv1 =>
 (cond v1.1
 (some (28,()))
 ((ag_ (ρ:=(Unit⊕(Int×Unit))) (λ(v2:(Int×Unit)) =>
 (cond (decide (v2.1<(a1.1.length:Int)))
 ((at? a1.1 v2.1).bind λv3 =>
 ((hd_ a0 v2.1 v3).bind λv4 =>
 (cond (!v4.1)
 (some (inr (inr (28,()))))
 (some (inl ((w64 (v2.1+1)),()))))))
 (some (inr (inl ()))))) (0,())).bind λv5 =>
 (bx_ v5 (λv6=>((ag_ (ρ:=(Unit⊕(Int×Unit))) (λ(v8:(Int×Unit)) =>
 (cond (decide (v8.1<(a1.2.1.length:Int)))
 ((at? a1.2.1 v8.1).bind λv9 =>
 ((((ct_ a0 v9).bind λv10 =>
 (cond (!v10.1)
 (cond (v9 != (-1))
 ((bs_ v9 (w64 ((w64 ((-2) - a0.2.2.2.2.2.2.1))+1)) (-2)).bind λv11 =>
 (some ((!v11.1),())))
 (some (false,())))
 (some (false,()))))).bind λv12 =>
 (cond v12.1
 (some (inr (inr (28,()))))
 (some (inl ((w64 (v8.1+1)),()))))))
 (some (inr (inl ()))))) (0,())).bind λv13 =>
 (bx_ v13 (λv14=>((ag_ (ρ:=(Unit⊕(Int×Unit))) (λ(v16:(Int×Unit)) =>
 (cond (decide (v16.1<(a1.2.2.length:Int)))
 ((at? a1.2.2 v16.1).bind λv17 =>
 ((ct_ a0 v17).bind λv18 =>
 (cond (!v18.1)
 (some (inr (inr (28,()))))
 (some (inl ((w64 (v16.1+1)),()))))))
 (some (inr (inl ()))))) (0,())).bind λv19 =>
 (bx_ v19 (λv20=>(some (0,())))
 (λv21=>(some v21)))))
 (λv15=>(some v15)))))
 (λv7=>(some v7))))))))
theorem x_91:av_ (P:=prog) (cxC [c_64,c_116,av8,co7] []) (.p .z (.p .z (.p .z (.p (.j0 [.v 38 .bool] .z .z) (.p (.p .z (.ls [.v 6 .int] [] [] 0 (.p .z (.p (.p (.q [] .z .z) .z) .z)))) (.p (.p .z (.ls [.v 7 .int] [] [] 2 (.p .z (.p (.p .z (.j0 [.v 83 .bool] .z .z)) .z)))) (.p (.p .z (.ls [.v 9 .int] [] [] 4 (.p .z (.p (.p (.q [] .z .z) .z) .z)))) .z))))))) 91 [ao_,ap_] [.int]=λx=>dx_ x.1 x.2.1:=by kernel_rfl
noncomputable def c_91:Con prog:=ax_ _ _ 91 [ao_,ap_] [.int] _ x_91
noncomputable def ka_ (a0:ac_) (a1:(List al_)):Option (Int×Int×Unit) :=
 ((fa_ a0 a1).bind λv0 =>
 (cond (v0.1 != 0)
 (some (0,(v0.1,())))
 ((nh_ a0 a1).bind λv1 =>
 (some ((v1.1.length:Int),(0,()))))))
theorem x_227:av_ (P:=prog) (cxC [c_240,c_241] []) .z 227 [am_,(.list ar_)] [.int,.int]=λx=>ka_ x.1 x.2.1:=by kernel_rfl
noncomputable def c_227:Con prog:=ax_ _ _ 227 [am_,(.list ar_)] [.int,.int] _ x_227
noncomputable def kc_ (a0:ac_) (a1:al_) (a2:(List Int)):Option (Bool×Int×Unit) :=
 ((gj_ a0 a1).bind λv0 =>
 (cond (v0.1 != 0)
 (some (false,(v0.1,())))
 ((eh_ a0 a2).bind λv1 =>
 (cond (v1.1 != 0)
 (some (false,(v1.1,())))
 ((gh_ a1 a2).bind λv2 =>
 (some (v2.1,(0,()))))))))
theorem x_142:av_ (P:=prog) (cxC [c_78,c_187,c_188] []) .z 142 [am_,ar_,(.list .int)] [.bool,.int]=λx=>kc_ x.1 x.2.1 x.2.2.1:=by kernel_rfl
noncomputable def c_142:Con prog:=ax_ _ _ 142 [am_,ar_,(.list .int)] [.bool,.int] _ x_142
noncomputable def jb_ (a0:af_):Option (ai_×Int×Unit) :=
 ((fm_ a0).bind λv0 =>
 (cond (v0.1 != 0)
 (some (([],([],[])),(v0.1,())))
 ((mk? (α:=Int) a0.2.2.2.2.2.2.1 0).bind λv1 =>
 ((ag_ (ρ:=(((List Int)×Unit)×Unit)) (λ(v2:(Int×(((List Int)×Unit)×Unit))) =>
 (cond (decide (v2.1<(a0.2.1.length:Int)))
 ((at? a0.2.1 v2.1).bind λv3 =>
 ((push? (α:=Int) v2.2.1.1 [v3.2.2.2]).bind λv4 =>
 (some (inl ((w64 (v2.1+1)),((v4,()),()))))))
 (some (inr ((v2.2.1.1,()),()))))) (0,(([],()),()))).bind λv5 =>
 ((ag_ (ρ:=(((List Int)×Unit)×Unit)) (λ(v6:(Int×(((List Int)×Unit)×Unit))) =>
 (cond (decide (v6.1<(a0.2.2.1.length:Int)))
 ((at? a0.2.2.1 v6.1).bind λv7 =>
 ((push? (α:=Int) v6.2.1.1 [v7.2.1]).bind λv8 =>
 (some (inl ((w64 (v6.1+1)),((v8,()),()))))))
 (some (inr ((v6.2.1.1,()),()))))) (0,(([],()),()))).bind λv9 =>
 ((push? (α:=Int) [] v5.1.1).bind λv10 =>
 ((push? (α:=Int) [] v9.1.1).bind λv11 =>
 ((push? (α:=Int) [] v1).bind λv12 =>
 ((((ag_ (ρ:=(((List Int)×Unit)⊕(Bool×((List Int)×Unit)))) (λ(v13:(Int×((List Int)×Unit))) =>
 (cond (decide (v13.1<101))
 ((((ag_ (ρ:=(Unit⊕(Int×Unit))) (λ(v14:(Int×Unit)) =>
 (cond (decide (v14.1<(a0.2.2.2.2.2.1.length:Int)))
 ((at? a0.2.2.2.2.2.1 v14.1).bind λv15 =>
 ((((at? v13.2.1 v15.2.1).bind λv16 =>
 ((at? v13.2.1 v15.2.1).bind λv17 =>
 (cond (v17 != v15.2.2)
 ((bb_ (a0,(v13.2.1,(v11,v12))) v15.1).bind λv18 =>
 (some (v18.1,())))
 (some (false,())))))).bind λv19 =>
 (cond v19.1
 (some (inr (inr (v14.1,()))))
 (some (inl ((w64 (v14.1+1)),()))))))
 (some (inr (inl ()))))) (0,())).bind λv20 =>
 (bx_ v20 (λv21=>(some ((-1),())))
 (λv22=>(some v22))))).bind λv23 =>
 (cond (decide (v23.1<0))
 (some (inr (inr ((!true),(v13.2.1,())))))
 ((at? a0.2.2.2.2.2.1 v23.1).bind λv24 =>
 ((at? a0.2.2.2.2.2.1 v23.1).bind λv25 =>
 ((at? v13.2.1 v24.2.1).bind λv26 =>
 ((at? v13.2.1 v24.2.1).bind λv27 =>
 (some (inl ((w64 (v13.1+1)),((v13.2.1.set v24.2.1.toNat v25.2.2),()))))))))))
 (some (inr (inl (v13.2.1,())))))) (0,(v10,()))).bind λv28 =>
 (bx_ v28 (λv29=>(some ((!false),(v29.1,()))))
 (λv30=>(some v30))))).bind λv31 =>
 (cond v31.1
 (some (([],([],[])),(27,())))
 (some ((v31.2.1,(v11,v12)),(0,())))))))))))))
theorem x_40:av_ (P:=prog) (cxI (λk=>cond (Nat.beq k 83) (.p .z (.p (.j0 [.v 6 .bool,.o (.c (.s 0) 8) .int] .z .z) .z)) (cond (Nat.beq k 145) (.p .z (.p (.p .z (.ls [.v 4 .int] [] [.o (.c (.s 0) 8) .int] 0 (.p .z (.p .z (.p (.j0 [.v 3 .int] .z .z) .z))))) .z)) (cond (Nat.beq k 190) (.p .z (.p (.p .z (.ls [.v 8 .int] [] [] 0 .z)) .z)) (cond (Nat.beq k 191) (.p .z (.j0 [.v 3 .bool] .z .z)) (.z))))) (λk=>Nat.beq k 76||Nat.beq k 86||Nat.beq k 147||false) (cxC [c_76,ca8] [av5]) 6) (.p .z (.p .z (.p .z (.p (.p .z (.lp [.v 23 .int] [] [.b (.s 5) [.row .int 3,.keep,.keep]] 0 .z)) (.p (.p .z (.lp [.v 38 .int] [] [.b (.s 5) [.keep,.row .int 3,.keep]] 2 .z)) .z))))) 40 [ao_] [ap_,.int]=λx=>jb_ x.1:=by kernel_rfl
noncomputable def c_40:Con prog:=ax_ _ _ 40 [ao_] [ap_,.int] _ x_40
noncomputable def ca_ (a0:af_) (a1:ai_):Option (Int×Unit) :=
 ((fm_ a0).bind λv0 =>
 (cond (v0.1 != 0)
 (some (v0.1,()))
 (((cond ((a1.1.length:Int) != (a0.2.1.length:Int))
 (some (true,()))
 (cond ((a1.2.1.length:Int) != (a0.2.2.1.length:Int))
 (some (true,()))
 (some (((a1.2.2.length:Int) != a0.2.2.2.2.2.2.1),()))))).bind λv1 =>
 (cond v1.1
 (some (28,()))
 ((ag_ (ρ:=(Unit⊕(Int×Unit))) (λ(v2:(Int×Unit)) =>
 (cond (decide (v2.1<(a1.1.length:Int)))
 ((at? a1.1 v2.1).bind λv3 =>
 ((fh_ a0 v2.1 v3).bind λv4 =>
 (cond (!v4.1)
 (some (inr (inr (28,()))))
 (some (inl ((w64 (v2.1+1)),()))))))
 (some (inr (inl ()))))) (0,())).bind λv5 =>
 (bx_ v5 (λv6=>((ag_ (ρ:=(Unit⊕(Int×Unit))) (λ(v8:(Int×Unit)) =>
 (cond (decide (v8.1<(a1.2.1.length:Int)))
 ((at? a1.2.1 v8.1).bind λv9 =>
 ((bc_ v9 (w64 ((w64 ((-2) - a0.2.2.2.2.2.2.1))+1)) (w64 ((a0.1.length:Int) - 1))).bind λv10 =>
 (cond (!v10.1)
 (some (inr (inr (28,()))))
 (some (inl ((w64 (v8.1+1)),()))))))
 (some (inr (inl ()))))) (0,())).bind λv11 =>
 (bx_ v11 (λv12=>((ag_ (ρ:=(Unit⊕(Int×Unit))) (λ(v14:(Int×Unit)) =>
 (cond (decide (v14.1<(a1.2.2.length:Int)))
 ((at? a1.2.2 v14.1).bind λv15 =>
 ((bc_ v15 0 (w64 ((a0.1.length:Int) - 1))).bind λv16 =>
 (cond (!v16.1)
 (some (inr (inr (28,()))))
 (some (inl ((w64 (v14.1+1)),()))))))
 (some (inr (inl ()))))) (0,())).bind λv17 =>
 (bx_ v17 (λv18=>(some (0,())))
 (λv19=>(some v19)))))
 (λv13=>(some v13)))))
 (λv7=>(some v7))))))))
theorem x_146:av_ (P:=prog) (cxC [c_76,cb0,co6] []) (.p .z (.p .z (.p (.j0 [.v 40 .bool] .z .z) (.p (.p .z (.ls [.v 44 .int] [] [] 0 .z)) (.p (.p .z (.ls [.v 58 .int] [] [] 2 .z)) (.p (.p .z (.ls [.v 77 .int] [] [] 4 .z)) .z)))))) 146 [ao_,ap_] [.int]=λx=>ca_ x.1 x.2.1:=by kernel_rfl
noncomputable def ca9:Con prog:=ax_ _ _ 146 [ao_,ap_] [.int] _ x_146
noncomputable def dc_ (a0:ac_) (a1:(List al_)):Option (Int×Int×Unit) :=
 ((fc_ a0 a1).bind λv0 =>
 (cond (v0.1 != 0)
 (some (0,(v0.1,())))
 ((fb_ a0 a1).bind λv1 =>
 (some (v1.1,(0,()))))))
theorem x_164:av_ (P:=prog) (cxC [c_205,c_206] []) .z 164 [am_,(.list ar_)] [.int,.int]=λx=>dc_ x.1 x.2.1:=by kernel_rfl
noncomputable def c_164:Con prog:=ax_ _ _ 164 [am_,(.list ar_)] [.int,.int] _ x_164
end
end Go.Proofs.YtdibamopklkilaaGreatDoor.Rx
namespace Go.Proofs.YtdibamopklkilaaGreatDoor.Rx
open Go Pad Rex Sum
section
theorem ht_ {α ρ:Type} {p:Nat→α→Option ρ} {e:ρ} (h:∀ i x,p i x≠some e):∀ (l:List α) (i:Nat),fu_ p i l≠some e
  | [],_=>by simp[fu_]
  | x::l,i=>by
    unfold fu_
    cases hp:p i x with
    | some r =>
      intro he
      cases he
      exact h i x hp
    | none=>exact ht_ h l (i+1)
theorem eg_ {o:Option Int} {k:Int} (h:o.getD k=0) (hn:o≠some 0):o=none∧k=0:=by
  cases o with
  | none=>exact⟨rfl,h⟩
  | some e =>
    have:e=0:=h
    subst this
    exact absurd rfl hn
theorem oo_ {a:Bool} {e:Int} (h:e≠0):ky_ a e≠some 0:=by
  unfold ky_
  cases a with
  | true=>simp
  | false=>simpa using h
theorem xr_ {a b:Bool} {e f:Int} (h:e≠0) (k:f≠0):sm_ a e b f≠some 0:=by
  unfold sm_
  cases a with
  | false=>simpa using h
  | true =>
    cases b with
    | true=>simp
    | false=>simpa using k
theorem gx_ {a:Bool} {e:Int} (h:ky_ a e=none):a=true:=by cases a with
  | true=>rfl
  | false=>cases h
theorem on_ {a b:Bool} {e f:Int} (h:sm_ a e b f=none):a=true∧b=true:=by
  cases a with
  | false=>cases h
  | true=>cases b with
    | true=>exact⟨rfl,rfl⟩
    | false=>cases h
theorem cl_ {α ρ:Type} {p:Nat→α→Option ρ} {l:List α} (h:fu_ p 0 l=none) {i:Nat} {x:α} (hx:l[i]?=some x):p i x=none:=by
  have:=(iy_ l 0).1 h i x hx
  rwa [b0_] at this
structure OkR (r:af_):Prop where
  many:ae1 r=false
  pl:∀ (i:Nat) x,r.1[i]?=some x→plOk r i x=true
  ne:r.1≠[]
  th:∀ (i:Nat) x,r.2.1[i]?=some x→bm6 r i x=true
  pr:∀ (i:Nat) x,r.2.2.1[i]?=some x→cj3 r i x=true∧cOk r.2.1 x.2.2=true
  wy:∀ (i:Nat) x,r.2.2.2.1[i]?=some x→ce1 r x=true∧cOk r.2.1 x.2.2=true
  ac:∀ (i:Nat) x,r.2.2.2.2.1[i]?=some x→uv_ r i x=true∧cOk r.2.1 x.2.2.2.2.1=true
  au:∀ (i:Nat) x,r.2.2.2.2.2.1[i]?=some x→nu_ r.2.1 x.2.1 x.2.2=true∧cOk r.2.1 x.1=true
  py:wi r.2.2.2.2.2.2.1 1 4=true
  go:cOk r.2.1 r.2.2.2.2.2.2.2=true
theorem bn_ {r:af_} (h:db_ r=0):OkR r:=by
  unfold db_ at h
  cases hm:ae1 r with
  | true=>rw[hm] at h;exact absurd (show (2:Int)=0 from h) (by decide)
  | false =>
  rw[hm] at h
  have h:(fu_ (λi x=>ky_ (plOk r i x) 22) 0 r.1).getD _=0:=h
  obtain⟨h1,h⟩:=eg_ h (ht_ (λi x=>oo_ (by decide)) _ _)
  cases he:(r.1.length:Int)==0 with
  | true=>rw[he] at h;exact absurd (show (22:Int)=0 from h) (by decide)
  | false =>
  rw[he] at h
  have h:(fu_ (λi x=>ky_ (bm6 r i x) 21) 0 r.2.1).getD _=0:=h
  obtain⟨h2,h⟩:=eg_ h (ht_ (λi x=>oo_ (by decide)) _ _)
  obtain⟨h3,h⟩:=eg_ h (ht_ (λi x=>xr_ (by decide) (by decide)) _ _)
  obtain⟨h4,h⟩:=eg_ h (ht_ (λi x=>xr_ (by decide) (by decide)) _ _)
  obtain⟨h5,h⟩:=eg_ h (ht_ (λi x=>xr_ (by decide) (by decide)) _ _)
  obtain⟨h6,h⟩:=eg_ h (ht_ (λi x=>xr_ (by decide) (by decide)) _ _)
  cases h7:wi r.2.2.2.2.2.2.1 1 4 with
  | false=>rw[h7] at h;exact absurd (show (1:Int)=0 from h) (by decide)
  | true =>
  rw[h7] at h
  cases h8:cOk r.2.1 r.2.2.2.2.2.2.2 with
  | false=>rw[h8] at h;exact absurd (show (25:Int)=0 from h) (by decide)
  | true =>
  refine⟨hm,λi x hx=>gx_ (cl_ h1 hx),λe => ?_,λi x hx=>gx_ (cl_ h2 hx),λi x hx=>on_ (cl_ h3 hx),λi x hx=>on_ (cl_ h4 hx),λi x hx=>on_ (cl_ h5 hx),λi x hx=>on_ (cl_ h6 hx),h7,h8⟩
  rw[e] at he
  cases he
def inR (r:af_) (p:Int):Bool:=wi p (w64 ((w64 ((-2) - r.2.2.2.2.2.2.1))+1)) (w64 ((r.1.length:Int) - 1))
def yp_ (r:af_) (s:ai_):Bool:=((s.1.length:Int) != (r.2.1.length:Int))||(((s.2.1.length:Int) != (r.2.2.1.length:Int))||((s.2.2.length:Int) != r.2.2.2.2.2.2.1))
def ckS (r:af_) (s:ai_):Int :=
  cond (yp_ r s) 28 ((fu_ (λi n=>ky_ (nu_ r.2.1 (i:Int) n) 28) 0 s.1).getD ((fu_ (λ_ p=>ky_ (inR r p) 28) 0 s.2.1).getD ((fu_ (λ_ p=>ky_ (rw_ r p) 28) 0 s.2.2).getD 0)))
def he_ (r:af_) (s:ai_):Int:=cond (db_ r != 0) (db_ r) (ckS r s)
theorem bu9 (r:af_) (s:ai_):(cond ((s.1.length:Int) != (r.2.1.length:Int))
 (some (true,()))
 (cond ((s.2.1.length:Int) != (r.2.2.1.length:Int))
 (some (true,()))
 (some (((s.2.2.length:Int) != r.2.2.2.2.2.2.1),()))))=some (yp_ r s,()):=by
  unfold yp_
  cases (s.1.length:Int) != (r.2.1.length:Int) with
  | true=>rfl
  | false =>
  cases (s.2.1.length:Int) != (r.2.2.1.length:Int) with
  | true=>rfl
  | false=>rfl
theorem ae3 {r:af_} {s:ai_} (h:yp_ r s=false):s.1.length=r.2.1.length∧s.2.1.length=r.2.2.1.length∧(s.2.2.length:Int)=r.2.2.2.2.2.2.1:=by
  unfold yp_ at h
  simp only[c2_,h8_] at h
  omega
theorem ff_ {r:af_} (h:SmR r) (s:ai_):ca_ r s=some (he_ r s,()):=by
  unfold ca_ he_
  rw[ss_ h,a0_]
  cases hr:db_ r != 0 with
  | true=>rfl
  | false =>
  have ok:=bn_ (by simpa using hr)
  simp only[a1_]
  refine e4_ (congrArg (λo=>Option.bind o _) (bu9 r s)) ?_
  rw[a0_]
  unfold ckS
  cases hl:yp_ r s with
  | true=>rfl
  | false =>
  obtain⟨l1,l2,l3⟩:=ae3 hl
  have hp:=ch_.1 ok.py
  have m1:Sm s.1.length:=by rw[l1];exact h.th
  have m2:Sm s.2.1.length:=by rw[l2];exact h.pr
  have m3:Sm s.2.2.length:=by show s.2.2.length≤1000000000;omega
  simp only[a1_]
  refine bw_ s.1 (λi n=>ky_ (nu_ r.2.1 (i:Int) n) 28) (λi y hy => ?_) ?_ (ey_ ?_)
  · have hi:=ak_ hy
    simp only[dlt hi,a4_,ah_ hy,a0_,az_ (show Sm i by omega),pm_ h.th]
    unfold ky_
    cases nu_ r.2.1 (i:Int) y<;>rfl
  · simp only[dnl,a1_]
  refine bw_ s.2.1 (λ_ p=>ky_ (inR r p) 28) (λi y hy => ?_) ?_ (ey_ ?_)
  · have hi:=ak_ hy
    simp only[dlt hi,a4_,ah_ hy,a0_,az_ (show Sm i by omega),ea_]
    unfold ky_ inR
    cases wi y (w64 ((w64 ((-2) - r.2.2.2.2.2.2.1))+1)) (w64 ((r.1.length:Int) - 1))<;>rfl
  · simp only[dnl,a1_]
  refine bw_ s.2.2 (λ_ p=>ky_ (rw_ r p) 28) (λi y hy => ?_) ?_ (ey_ ?_)
  · have hi:=ak_ hy
    simp only[dlt hi,a4_,ah_ hy,a0_,az_ (show Sm i by omega),ea_]
    unfold ky_ rw_
    cases wi y 0 (w64 ((r.1.length:Int) - 1))<;>rfl
  · simp only[dnl,a1_]
  rfl
theorem ct6 {r:af_} (h:SmR r) (hp:wi r.2.2.2.2.2.2.1 1 4=true) (p:Int):inR r p=(rw_ r p||(p==-1||wi p (w64 ((w64 ((-2) - r.2.2.2.2.2.2.1))+1)) (-2))):=by
  have hp:=ch_.1 hp
  have hpl:=h.pl
  have e1:w64 ((r.1.length:Int) - 1)=(r.1.length:Int) - 1:=ei_ (by omega) (by omega)
  have e2:w64 ((-2) - r.2.2.2.2.2.2.1)=(-2) - r.2.2.2.2.2.2.1:=ei_ (by omega) (by omega)
  have e3:w64 (((-2) - r.2.2.2.2.2.2.1)+1)=((-2) - r.2.2.2.2.2.2.1)+1:=ei_ (by omega) (by omega)
  unfold inR rw_
  rw[e1,e2,e3,k7_]
  simp only[c9_,ch_,f2_]
  omega
theorem nn_ {r:af_} (h:SmR r) (s:ai_):dx_ r s=some (he_ r s,()):=by
  unfold dx_ he_
  rw[qo_ h,a0_]
  cases hr:db_ r != 0 with
  | true=>rfl
  | false =>
  have ok:=bn_ (by simpa using hr)
  simp only[a1_]
  refine e4_ (congrArg (λo=>Option.bind o _) (bu9 r s)) ?_
  rw[a0_]
  unfold ckS
  cases hl:yp_ r s with
  | true=>rfl
  | false =>
  obtain⟨l1,l2,l3⟩:=ae3 hl
  have hp:=ch_.1 ok.py
  have m1:Sm s.1.length:=by rw[l1];exact h.th
  have m2:Sm s.2.1.length:=by rw[l2];exact h.pr
  have m3:Sm s.2.2.length:=by show s.2.2.length≤1000000000;omega
  simp only[a1_]
  refine bw_ s.1 (λi n=>ky_ (nu_ r.2.1 (i:Int) n) 28) (λi y hy => ?_) ?_ (ey_ ?_)
  · have hi:=ak_ hy
    simp only[dlt hi,a4_,ah_ hy,a0_,az_ (show Sm i by omega),rm_ h.th]
    unfold ky_
    cases nu_ r.2.1 (i:Int) y<;>rfl
  · simp only[dnl,a1_]
  refine bw_ s.2.1 (λ_ p=>ky_ (inR r p) 28) (λi y hy => ?_) ?_ (ey_ ?_)
  · have hi:=ak_ hy
    simp only[dlt hi,a4_,ah_ hy,a0_,az_ (show Sm i by omega),ik_,fv_]
    rw[ct6 h ok.py]
    unfold ky_ rw_
    have e:(y != -1) = !(y==-1):=rfl
    rw[e]
    cases wi y 0 (w64 ((r.1.length:Int) - 1)) with
    | true=>rfl
    | false =>
    cases y==-1 with
    | true=>rfl
    | false=>cases wi y (w64 ((w64 ((-2) - r.2.2.2.2.2.2.1))+1)) (-2)<;>rfl
  · simp only[dnl,a1_]
  refine bw_ s.2.2 (λ_ p=>ky_ (rw_ r p) 28) (λi y hy => ?_) ?_ (ey_ ?_)
  · have hi:=ak_ hy
    simp only[dlt hi,a4_,ah_ hy,a0_,az_ (show Sm i by omega),ik_]
    unfold ky_ rw_
    cases wi y 0 (w64 ((r.1.length:Int) - 1))<;>rfl
  · simp only[dnl,a1_]
  rfl
end
section
def gi (l:List Int) (i:Int):Int:=(at? l i).getD 0
theorem ji_ {l:List Int} {i x:Int} (h:at? l i=some x):gi l i=x:=by unfold gi;rw[h];rfl
theorem mu_ {l:List Int} {i:Int} (h0:0≤i) (h1:i<l.length):at? l i=some (gi l i):=by
  obtain⟨x,hx⟩:=aw_ (l:=l) (i:=i.toNat) (by omega)
  have:at? l i=some x:=by rw[show i=((i.toNat:Nat):Int) by omega];exact ah_ hx
  rw[this,ji_ this]
def InC (n:Nat) (c:List bd_):Prop:=∀ l ∈ c,0≤l.1∧l.1<n
theorem sh_ {things:List hg_} (hl:Sm things.length) {c:List bd_} (h:cOk things c=true):InC things.length c∧c.length≤8:=by
  unfold cOk at h
  rw[a2_] at h
  refine⟨λl hm => ?_,by have:=f6_ h.1;omega⟩
  have h2:=e6_.1 h.2 l hm
  unfold nu_ at h2
  rw[a2_] at h2
  have:=ch_.1 h2.1
  rw[ei_ (by omega) (by omega)] at this
  omega
def co_ (th:List Int) (c:List bd_):Bool:=c.all λl=>!((gi th l.1==l.2.1)==l.2.2)
theorem cc7 {α:Type} (l:List α) (q:α→Bool):(!(l.any q))=l.all λx=>!(q x):=by
  induction l with
  | nil=>rfl
  | cons x l ih =>
    rw[p1_,List.all_cons,← ih]
    cases q x<;>rfl
theorem mw_ {t:hr_} {c:List bd_} (hc:Sm c.length) (hi:InC t.2.1.length c):bb_ t c=some (co_ t.2.1 c,()):=by
  unfold bb_ co_
  refine e4_ (congrArg (λo=>Option.bind o _) (ou_ hc (λl=>(gi t.2.1 l.1==l.2.1)==l.2.2) (λi y hy => ?_) ?_)) ?_
  · have:=hi y (au_ hy)
    simp only[dlt (ak_ hy),a4_,ah_ hy,mu_ this.1 this.2,a0_]
    cases (gi t.2.1 y.1==y.2.1)==y.2.2<;>rfl
  · simp only[dnl,a1_]
  · rw[a0_]
    exact congrArg (λb=>some (b,())) (cc7 c _)
theorem hu_ {s:ai_} {c:List bd_} (hc:Sm c.length) (hi:InC s.1.length c):bh_ s c=some (co_ s.1 c,()):=by
  unfold bh_ co_
  refine bo_ c (λi l=>cond ((gi s.1 l.1==l.2.1)==l.2.2) (some (inr (false,()):Unit⊕(Bool×Unit))) none) (λi=>((i:Int),())) (r0:=inl ()) (λi y hy => ?_) ?_ ?_
  · have:=hi y (au_ hy)
    have hl:=ak_ hy
    simp only[dlt hl,a4_,ah_ hy,mu_ this.1 this.2,a0_,az_ (show Sm i by omega)]
    cases (gi s.1 y.1==y.2.1)==y.2.2<;>rfl
  · simp only[dnl,a1_]
  · rw[gy_ (q:=λl:bd_=>(gi s.1 l.1==l.2.1)==l.2.2),← cc7]
    cases c.any λl=>(gi s.1 l.1==l.2.1)==l.2.2<;>rfl
end
end Go.Proofs.YtdibamopklkilaaGreatDoor.Rx
namespace Go.Proofs.YtdibamopklkilaaGreatDoor.Rx
open Go Pad Rex Go.Proofs Go.Proofs.Tryz Sum
section
set_option maxRecDepth 100000
set_option maxHeartbeats 0
noncomputable def iu_ (a0:af_) (a1:ai_):Option (ai_×Int×Unit) :=
 ((dx_ a0 a1).bind λv0 =>
 (cond (v0.1 != 0)
 (some (([],([],[])),(v0.1,())))
 ((gs_ a0 a1).bind λv1 =>
 (cond (!v1.2.1)
 (some (([],([],[])),(27,())))
 (some (v1.1,(0,())))))))
theorem x_156:av_ (P:=prog) (cxC [c_91,c_159] []) .z 156 [ao_,ap_] [ap_,.int]=λx=>iu_ x.1 x.2.1:=by kernel_rfl
noncomputable def c_156:Con prog:=ax_ _ _ 156 [ao_,ap_] [ap_,.int] _ x_156
noncomputable def jl_ (a0:ab_) (a1:Int) (a2:(List Int)):Option (Int×Unit) :=
 ((at? a0.2.1 a1).bind λv0 =>
 ((ju_ a0 a2).bind λv1 =>
 ((ka_ v0 v1.1).bind λv2 =>
 (some (v2.1,())))))
theorem x_203:av_ (P:=prog) (cxC [c_227,c_228] []) (.p .z (.p (.q [] .z .z) .z)) 203 [an_,.int,(.list .int)] [.int]=λx=>jl_ x.1 x.2.1 x.2.2.1:=by kernel_rfl
noncomputable def c_203:Con prog:=ax_ _ _ 203 [an_,.int,(.list .int)] [.int] _ x_203
noncomputable def lv_ (a0:ab_) (a1:Int) (a2:cr_):Option (Bool×Unit) :=
 ((sub? a0.2.2.2.1 0 a1).bind λv0 =>
 ((((ag_ (ρ:=(Unit⊕(Bool×Unit))) (λ(v1:(Int×Unit)) =>
 (cond (decide (v1.1<(v0.length:Int)))
 ((at? v0 v1.1).bind λv2 =>
 (cond (v2.1==a2.1)
 (some (inr (inr ((decide (0≤v1.1)),()))))
 (some (inl ((w64 (v1.1+1)),())))))
 (some (inr (inl ()))))) (0,())).bind λv3 =>
 (bx_ v3 (λv4=>(some ((decide (0≤(-1))),())))
 (λv5=>(some v5))))).bind λv6 =>
 ((((ni_ a2.1).bind λv7 =>
 (cond (!v7.1)
 (some (true,()))
 (cond (decide (12<(a2.1.length:Int)))
 (some (true,()))
 (cond v6.1
 (some (true,()))
 ((cb_ a2.2.1 0 (w64 ((a0.1.1.length:Int) - 1))).bind λv8 =>
 (cond (!v8.1)
 (some (true,()))
 ((cb_ a2.2.2.1 (-1) (w64 ((a0.2.1.length:Int) - 1))).bind λv9 =>
 (some ((!v9.1),())))))))))).bind λv10 =>
 (cond v10.1
 (some (false,()))
 (cond (decide (a2.2.2.1<0))
 ((kw_ a2.2.2.2.2).bind λv11 =>
 (some (v11.1,())))
 ((at? a0.2.1 a2.2.2.1).bind λv12 =>
 ((at? a0.2.2.1 a2.2.2.1).bind λv13 =>
 ((kc_ v12 a2.2.2.2.2 v13).bind λv14 =>
 (cond (v14.2.1==0)
 (some (v14.1,()))
 (some (false,())))))))))))
theorem x_79:av_ (P:=prog) (cxI (λk=>cond (Nat.beq k 138) (.p .z (.j0 [.v 4 .bool] .z .z)) (cond (Nat.beq k 186) (.p .z (.p (.p .z (.ls [.v 8 .int] [] [] 0 .z)) .z)) (.z))) (λk=>Nat.beq k 81||Nat.beq k 140||Nat.beq k 141||Nat.beq k 142||false) (cxC [c_81,c_140,c_141,c_142] []) 4) (.p .z (.p .z (.p (.j0 [.v 49 .bool] .z .z) (.p .z (.p (.q [] .z .z) .z))))) 79 [an_,.int,pg_] [.bool]=λx=>lv_ x.1 x.2.1 x.2.2.1:=by kernel_rfl
noncomputable def c_79:Con prog:=ax_ _ _ 79 [an_,.int,pg_] [.bool] _ x_79
noncomputable def fk_ (a0:af_) (a1:ai_) (a2:(List bd_)):Option (Bool×Int×Unit) :=
 ((ca_ a0 a1).bind λv0 =>
 (cond (v0.1 != 0)
 (some (false,(v0.1,())))
 ((dv_ a0 a2).bind λv1 =>
 (cond (!v1.1)
 (some (false,(25,())))
 ((push? (α:=Int) [] a1.1).bind λv2 =>
 ((push? (α:=Int) [] a1.2.1).bind λv3 =>
 ((push? (α:=Int) [] a1.2.2).bind λv4 =>
 ((bb_ (a0,(v2,(v3,v4))) a2).bind λv5 =>
 (some (v5.1,(0,())))))))))))
theorem x_84:av_ (P:=prog) (cxI (λk=>.z) (λk=>Nat.beq k 86||Nat.beq k 133||Nat.beq k 146||Nat.beq k 147||false) (cxC [c_133,ca9,ca8] [av5]) 2) .z 84 [ao_,ap_,(.list cc_)] [.bool,.int]=λx=>fk_ x.1 x.2.1 x.2.2.1:=by kernel_rfl
noncomputable def c_84:Con prog:=ax_ _ _ 84 [ao_,ap_,(.list cc_)] [.bool,.int] _ x_84
noncomputable def fi_ (a0:af_) (a1:ai_) (a2:ae_):Option (ai_×Int×Unit) :=
 ((ca_ a0 a1).bind λv0 =>
 (cond (v0.1 != 0)
 (some (([],([],[])),(v0.1,())))
 ((push? (α:=Int) [] a1.1).bind λv1 =>
 ((push? (α:=Int) [] a1.2.1).bind λv2 =>
 ((push? (α:=Int) [] a1.2.2).bind λv3 =>
 ((da_ (a0,(v1,(v2,v3))) a2).bind λv4 =>
 (cond (!v4.1)
 (some (([],([],[])),(29,())))
 (((cond (a2.2.1==1)
 ((at? a0.2.2.2.1 a2.2.2).bind λv5 =>
 ((at? v3 a2.1).bind λv6 =>
 ((at? v3 a2.1).bind λv7 =>
 ((at? v3 a2.1).bind λv8 =>
 ((at? v3 a2.1).bind λv9 =>
 (some (v1,(v2,((v3.set a2.1.toNat (w64 ((w64 (v5.1+v5.2.1)) - v7))),())))))))))
 (cond (a2.2.1==2)
 ((at? v2 a2.2.2).bind λv10 =>
 ((at? v2 a2.2.2).bind λv11 =>
 (some (v1,((v2.set a2.2.2.toNat (w64 ((-2) - a2.1))),(v3,()))))))
 (cond (a2.2.1==3)
 ((at? v3 a2.1).bind λv12 =>
 ((at? v3 a2.1).bind λv13 =>
 ((at? v2 a2.2.2).bind λv14 =>
 ((at? v2 a2.2.2).bind λv15 =>
 (some (v1,((v2.set a2.2.2.toNat v13),(v3,()))))))))
 (cond (a2.2.1==4)
 ((at? a0.2.2.2.2.1 a2.2.2).bind λv16 =>
 ((ag_ (ρ:=((List Int)×Unit)) (λ(v17:(Int×((List Int)×Unit))) =>
 (cond (decide (v17.1<(v16.2.2.2.2.2.2.1.length:Int)))
 ((at? v16.2.2.2.2.2.2.1 v17.1).bind λv18 =>
 ((at? v17.2.1 v18).bind λv19 =>
 ((at? v17.2.1 v18).bind λv20 =>
 (some (inl ((w64 (v17.1+1)),((v17.2.1.set v18.toNat (-1)),())))))))
 (some (inr (v17.2.1,()))))) (0,(v2,()))).bind λv21 =>
 ((ag_ (ρ:=((List Int)×Unit)) (λ(v22:(Int×((List Int)×Unit))) =>
 (cond (decide (v22.1<(v16.2.2.2.2.2.2.2.length:Int)))
 ((at? v16.2.2.2.2.2.2.2 v22.1).bind λv23 =>
 ((at? v22.2.1 v23).bind λv24 =>
 ((at? v22.2.1 v23).bind λv25 =>
 (some (inl ((w64 (v22.1+1)),((v22.2.1.set v23.toNat (w64 ((-2) - a2.1))),())))))))
 (some (inr (v22.2.1,()))))) (0,(v21.1,()))).bind λv26 =>
 ((ag_ (ρ:=((List Int)×Unit)) (λ(v27:(Int×((List Int)×Unit))) =>
 (cond (decide (v27.1<(v16.2.2.2.2.2.1.length:Int)))
 ((at? v16.2.2.2.2.2.1 v27.1).bind λv28 =>
 ((at? v27.2.1 v28.1).bind λv29 =>
 ((at? v27.2.1 v28.1).bind λv30 =>
 (some (inl ((w64 (v27.1+1)),((v27.2.1.set v28.1.toNat v28.2),())))))))
 (some (inr (v27.2.1,()))))) (0,(v1,()))).bind λv31 =>
 (some (v31.1,(v26.1,(v3,()))))))))
 (some (v1,(v2,(v3,()))))))))).bind λv32 =>
 ((((ag_ (ρ:=(((List Int)×Unit)⊕(Bool×((List Int)×Unit)))) (λ(v33:(Int×((List Int)×Unit))) =>
 (cond (decide (v33.1<101))
 ((((ag_ (ρ:=(Unit⊕(Int×Unit))) (λ(v34:(Int×Unit)) =>
 (cond (decide (v34.1<(a0.2.2.2.2.2.1.length:Int)))
 ((at? a0.2.2.2.2.2.1 v34.1).bind λv35 =>
 ((((at? v33.2.1 v35.2.1).bind λv36 =>
 ((at? v33.2.1 v35.2.1).bind λv37 =>
 (cond (v37 != v35.2.2)
 ((bb_ (a0,(v33.2.1,(v32.2.1,v32.2.2.1))) v35.1).bind λv38 =>
 (some (v38.1,())))
 (some (false,())))))).bind λv39 =>
 (cond v39.1
 (some (inr (inr (v34.1,()))))
 (some (inl ((w64 (v34.1+1)),()))))))
 (some (inr (inl ()))))) (0,())).bind λv40 =>
 (bx_ v40 (λv41=>(some ((-1),())))
 (λv42=>(some v42))))).bind λv43 =>
 (cond (decide (v43.1<0))
 (some (inr (inr ((!true),(v33.2.1,())))))
 ((at? a0.2.2.2.2.2.1 v43.1).bind λv44 =>
 ((at? a0.2.2.2.2.2.1 v43.1).bind λv45 =>
 ((at? v33.2.1 v44.2.1).bind λv46 =>
 ((at? v33.2.1 v44.2.1).bind λv47 =>
 (some (inl ((w64 (v33.1+1)),((v33.2.1.set v44.2.1.toNat v45.2.2),()))))))))))
 (some (inr (inl (v33.2.1,())))))) (0,(v32.1,()))).bind λv48 =>
 (bx_ v48 (λv49=>(some ((!false),(v49.1,()))))
 (λv50=>(some v50))))).bind λv51 =>
 (cond v51.1
 (some (([],([],[])),(27,())))
 (some ((v51.2.1,(v32.2.1,v32.2.2.1)),(0,())))))))))))))
theorem x_90:av_ (P:=prog) (cxI (λk=>cond (Nat.beq k 83) (.p .z (.p (.j0 [.v 6 .bool,.o (.c (.s 0) 8) .int] .z .z) .z)) (cond (Nat.beq k 145) (.p .z (.p (.p .z (.ls [.v 4 .int] [] [.o (.c (.s 0) 8) .int] 0 (.p .z (.p .z (.p (.j0 [.v 3 .int] .z .z) .z))))) .z)) (cond (Nat.beq k 149) (.p .z (.p .z (.p .z (.p .z (.p .z (.p .z (.p .z (.p .z (.p .z (.p .z (.p (.p .z (.p (.p .z (.lp [.v 96 .int] [] [.o (.c (.s 0) 9) .int] 1 .z)) (.p (.p .z (.lp [.v 111 .int] [] [.o (.c (.s 0) 9) .int] 3 .z)) (.p .z (.lp [.v 127 .int] [] [.o (.c (.s 0) 8) .int] 5 .z))))) .z))))))))))) (cond (Nat.beq k 190) (.p .z (.p (.p .z (.ls [.v 8 .int] [] [] 0 .z)) .z)) (cond (Nat.beq k 191) (.p .z (.j0 [.v 3 .bool] .z .z)) (.z)))))) (λk=>Nat.beq k 86||Nat.beq k 146||Nat.beq k 147||Nat.beq k 148||false) (cxC [ca9,ca8,c_148] [av5]) 7) (.p .z (.p .z (.p .z (.p .z (.j0 [.o (.c (.s 9) 8) .int,.o (.c (.s 9) 9) .int,.o (.c (.s 9) 10) .int] .z .z))))) 90 [ao_,ap_,aq_] [ap_,.int]=λx=>fi_ x.1 x.2.1 x.2.2.1:=by kernel_rfl
noncomputable def c_90:Con prog:=ax_ _ _ 90 [ao_,ap_,aq_] [ap_,.int] _ x_90
noncomputable def fj_ (a0:af_) (a1:ai_):Option ((List ae_)×Int×Unit) :=
 ((ca_ a0 a1).bind λv0 =>
 (cond (v0.1 != 0)
 (some ([],(v0.1,())))
 ((push? (α:=Int) [] a1.1).bind λv1 =>
 ((push? (α:=Int) [] a1.2.1).bind λv2 =>
 ((push? (α:=Int) [] a1.2.2).bind λv3 =>
 ((ag_ (ρ:=(Unit×(((List ae_)×Unit)×Unit))) (λ(v4:(Int×(Unit×(((List ae_)×Unit)×Unit)))) =>
 (cond (decide (v4.1<a0.2.2.2.2.2.2.1))
 ((ag_ (ρ:=(Unit×(((List ae_)×Unit)×Unit))) (λ(v5:(Int×(Unit×(((List ae_)×Unit)×Unit)))) =>
 (cond (decide (v5.1<(([0,(a0.2.2.2.1.length:Int),(a0.2.2.1.length:Int),(a0.2.2.1.length:Int),(a0.2.2.2.2.1.length:Int)]).length:Int)))
 ((at? [0,(a0.2.2.2.1.length:Int),(a0.2.2.1.length:Int),(a0.2.2.1.length:Int),(a0.2.2.2.2.1.length:Int)] v5.1).bind λv6 =>
 ((at? [0,(a0.2.2.2.1.length:Int),(a0.2.2.1.length:Int),(a0.2.2.1.length:Int),(a0.2.2.2.2.1.length:Int)] v5.1).bind λv7 =>
 ((ag_ (ρ:=(Unit×(((List ae_)×Unit)×Unit))) (λ(v8:(Int×(Unit×(((List ae_)×Unit)×Unit)))) =>
 (cond (decide (v8.1<v7))
 ((((da_ (a0,(v1,(v2,v3))) (v4.1,(v5.1,v8.1))).bind λv9 =>
 (cond v9.1
 ((push? (α:=ae_) v8.2.2.1.1 [(v4.1,(v5.1,v8.1))]).bind λv10 =>
 (some ((),((v10,()),()))))
 (some ((),((v8.2.2.1.1,()),())))))).bind λv11 =>
 (some (inl ((w64 (v8.1+1)),((),((v11.2.1.1,()),()))))))
 (some (inr ((),((v8.2.2.1.1,()),())))))) (0,((),((v5.2.2.1.1,()),())))).bind λv12 =>
 (some (inl ((w64 (v5.1+1)),((),((v12.2.1.1,()),()))))))))
 (some (inr ((),((v5.2.2.1.1,()),())))))) (0,((),((v4.2.2.1.1,()),())))).bind λv13 =>
 (some (inl ((w64 (v4.1+1)),((),((v13.2.1.1,()),()))))))
 (some (inr ((),((v4.2.2.1.1,()),())))))) (0,((),(([],()),())))).bind λv14 =>
 (some (v14.2.1.1,(0,())))))))))
theorem x_152:av_ (P:=prog) (cxI (λk=>cond (Nat.beq k 226) (.p .z (.lp [.v 9 .int] [] [.y (.s 0),.b (.y (.s 0) 4) [.row aq_ 59]] 0 (.p .z (.p .z (.p (.p .z (.p .z (.lp [.v 26 .int] [] [.y (.s 0),.b (.y (.s 0) 4) [.row aq_ 59]] 2 (.p .z (.p .z (.p (.p .z (.p .z (.lp [.v 32 .int] [] [.y (.s 0),.b (.y (.s 0) 4) [.row aq_ 59]] 4 (.p .z (.p .z (.j0 [.y (.s 0),.b (.y (.s 0) 4) [.row aq_ 59]] .z .z)))))) .z)))))) .z))))) (.z)) (λk=>Nat.beq k 86||Nat.beq k 146||Nat.beq k 148||false) (cxC [ca9,c_148] [av5]) 6) (.p .z (.p .z (.p .z (.p (.p .z (.rf [4,7] .z .z)) .z)))) 152 [ao_,ap_] [(.list aq_),.int]=λx=>fj_ x.1 x.2.1:=by kernel_rfl
noncomputable def c_152:Con prog:=ax_ _ _ 152 [ao_,ap_] [(.list aq_),.int] _ x_152
noncomputable abbrev qe_:Gb:=⟨Gb.ev,λc p=>cond (Nat.beq c 901810192&&eqS p "room.go:184") true (cond (Nat.beq c 197138433&&eqS p "room.go:183") true (cond (Nat.beq c 130027520&&eqS p "room.go:183") true (Gb.fz c p))),Gb.gd,Gb.gl,λc=>cond (Nat.beq c 901810192) (some fe_) (cond (Nat.beq c 197138433) (some ap_) (cond (Nat.beq c 130027520) (some ao_) (none))),Gb.rw⟩
def an_98:An:=.z
def at_98:FuncId→An:=λk=>.z
noncomputable def cs_98:List (@Con qe_ prog _):=[@cvG instGb qe_ prog _ (λ_=>rfl) (λ_=>rfl) ca9,@cvG instGb qe_ prog _ (λ_=>rfl) (λ_=>rfl) ca8,@cpCon qe_ prog _ av5]
noncomputable def cx_98:@Cx qe_ prog _:=@cxI qe_ prog _ at_98 (λk=>Nat.beq k 86||Nat.beq k 146||Nat.beq k 147||false) (@cxC qe_ prog _ cs_98 []) 2
noncomputable def fl_ (a0:af_) (a1:ai_):Option (Bool×Int×Unit) :=
 ((ca_ a0 a1).bind λv0 =>
 (cond (v0.1 != 0)
 (some (false,(v0.1,())))
 ((((push? (α:=Int) [] a1.1).bind λv1 =>
 (some (v1,())))).bind λv2 =>
 ((((push? (α:=Int) [] a1.2.1).bind λv3 =>
 (some (v3,())))).bind λv4 =>
 ((((push? (α:=Int) [] a1.2.2).bind λv5 =>
 (some (v5,())))).bind λv6 =>
 ((bb_ (a0,(v2.1,(v4.1,v6.1))) a0.2.2.2.2.2.2.2).bind λv7 =>
 (some (v7.1,(0,())))))))))
theorem x_98:@av_ qe_ prog _ cx_98 an_98 98 [ao_,ap_] [.bool,.int]=λx=>fl_ x.1 x.2.1:=by kernel_rfl
noncomputable def c_98:Con prog:=@cvG qe_ instGb prog _ (λ_=>rfl) (λ_=>rfl) <| @ax_ qe_ prog _ _ _ 98 [ao_,ap_] [.bool,.int] _ x_98
noncomputable def fo_ (a0:ab_) (a1:aa_):Option (Int×Unit) :=
 ((fy_ a0).bind λv0 =>
 (cond (v0.1 != 0)
 (some (v0.1,()))
 ((dx_ a0.1 a1.1).bind λv1 =>
 (cond (v1.1 != 0)
 (some (v1.1,()))
 (cond ((a1.2.length:Int) != (a0.2.2.2.1.length:Int))
 (some (28,()))
 (some (0,())))))))
theorem x_45:av_ (P:=prog) (cxC [c_31,c_91] []) .z 45 [an_,aj_] [.int]=λx=>fo_ x.1 x.2.1:=by kernel_rfl
noncomputable def c_45:Con prog:=ax_ _ _ 45 [an_,aj_] [.int] _ x_45
end
section
set_option maxRecDepth 100000
set_option maxHeartbeats 0
noncomputable def jy_ (a0:af_):Option (ai_×Int×Unit) :=
 ((gc_ a0).bind λv0 =>
 (cond (v0.1 != 0)
 (some (([],([],[])),(v0.1,())))
 ((mk? (α:=Int) a0.2.2.2.2.2.2.1 0).bind λv1 =>
 ((ag_ (ρ:=(((List Int)×Unit)×Unit)) (λ(v2:(Int×(((List Int)×Unit)×Unit))) =>
 (cond (decide (v2.1<(a0.2.1.length:Int)))
 ((at? a0.2.1 v2.1).bind λv3 =>
 ((push? (α:=Int) v2.2.1.1 [v3.2.2.2]).bind λv4 =>
 (some (inl ((w64 (v2.1+1)),((v4,()),()))))))
 (some (inr ((v2.2.1.1,()),()))))) (0,(([],()),()))).bind λv5 =>
 ((ag_ (ρ:=(((List Int)×Unit)×Unit)) (λ(v6:(Int×(((List Int)×Unit)×Unit))) =>
 (cond (decide (v6.1<(a0.2.2.1.length:Int)))
 ((at? a0.2.2.1 v6.1).bind λv7 =>
 ((push? (α:=Int) v6.2.1.1 [v7.2.1]).bind λv8 =>
 (some (inl ((w64 (v6.1+1)),((v8,()),()))))))
 (some (inr ((v6.2.1.1,()),()))))) (0,(([],()),()))).bind λv9 =>
 ((iu_ a0 (v5.1.1,(v9.1.1,v1))).bind λv10 =>
 (some (v10.1,(v10.2.1,())))))))))
theorem x_100:av_ (P:=prog) (cxC [c_64,c_156] []) (.p .z (.p .z (.p .z (.p .z (.p (.p .z (.lp [.v 6 .int] [] [.b (.s 5) [.row .int 3,.keep,.keep]] 0 .z)) (.p (.p .z (.lp [.v 7 .int] [] [.b (.s 5) [.keep,.row .int 3,.keep]] 2 .z)) .z)))))) 100 [ao_] [ap_,.int]=λx=>jy_ x.1:=by kernel_rfl
noncomputable def c_100:Con prog:=ax_ _ _ 100 [ao_] [ap_,.int] _ x_100
noncomputable def lo_ (a0:ab_) (a1:aa_) (a2:Int):Option (Bool×Unit) :=
 ((hy_ a0 a1 a2).bind λv0 =>
 ((jl_ a0 a2 v0.1).bind λv1 =>
 (some ((decide (v1.1≤a0.2.2.2.2)),()))))
theorem x_158:av_ (P:=prog) (cxC [c_203,c_204] []) (.p .z (.p (.q [] .z .z) .z)) 158 [an_,aj_,.int] [.bool]=λx=>lo_ x.1 x.2.1 x.2.2.1:=by kernel_rfl
noncomputable def c_158:Con prog:=ax_ _ _ 158 [an_,aj_,.int] [.bool] _ x_158
noncomputable def hm_ (a0:ab_):Option (Int×Unit) :=
 ((fm_ a0.1).bind λv0 =>
 (cond (v0.1 != 0)
 (some (v0.1,()))
 (((cond (decide (8<(a0.2.1.length:Int)))
 (some (true,()))
 (some ((decide (16<(a0.2.2.2.1.length:Int))),())))).bind λv1 =>
 (cond v1.1
 (some (2,()))
 ((ag_ (ρ:=(Unit⊕(Int×Unit))) (λ(v2:(Int×Unit)) =>
 (cond (decide (v2.1<(a0.2.1.length:Int)))
 ((at? a0.2.1 v2.1).bind λv3 =>
 ((et_ v3).bind λv4 =>
 (cond (v4.1 != 0)
 (some (inr (inr (v4.1,()))))
 (some (inl ((w64 (v2.1+1)),()))))))
 (some (inr (inl ()))))) (0,())).bind λv5 =>
 (bx_ v5 (λv6=>(cond ((a0.2.2.1.length:Int) != (a0.2.1.length:Int))
 (some (12,()))
 ((ag_ (ρ:=(Unit⊕(Int×Unit))) (λ(v8:(Int×Unit)) =>
 (cond (decide (v8.1<(a0.2.1.length:Int)))
 ((at? a0.2.1 v8.1).bind λv9 =>
 ((at? a0.2.2.1 v8.1).bind λv10 =>
 ((eh_ v9 v10).bind λv11 =>
 (cond (v11.1 != 0)
 (some (inr (inr (12,()))))
 (some (inl ((w64 (v8.1+1)),())))))))
 (some (inr (inl ()))))) (0,())).bind λv12 =>
 (bx_ v12 (λv13=>((ag_ (ρ:=(Unit⊕(Int×Unit))) (λ(v15:(Int×Unit)) =>
 (cond (decide (v15.1<(a0.1.2.2.2.2.1.length:Int)))
 ((at? a0.1.2.2.2.2.1 v15.1).bind λv16 =>
 (cond (decide ((a0.2.1.length:Int)≤v16.2.2.1))
 (some (inr (inr (26,()))))
 (some (inl ((w64 (v15.1+1)),())))))
 (some (inr (inl ()))))) (0,())).bind λv17 =>
 (bx_ v17 (λv18=>((ag_ (ρ:=(Unit⊕(Int×Unit))) (λ(v20:(Int×Unit)) =>
 (cond (decide (v20.1<(a0.2.2.2.1.length:Int)))
 ((at? a0.2.2.2.1 v20.1).bind λv21 =>
 ((lv_ a0 v20.1 v21).bind λv22 =>
 (cond (!v22.1)
 (some (inr (inr (40,()))))
 ((lu_ a0.1 v21.2.2.2.1).bind λv23 =>
 (cond (!v23.1)
 (some (inr (inr (25,()))))
 (some (inl ((w64 (v20.1+1)),()))))))))
 (some (inr (inl ()))))) (0,())).bind λv24 =>
 (bx_ v24 (λv25=>((cb_ a0.2.2.2.2 1 100).bind λv27 =>
 (cond (!v27.1)
 (some (1,()))
 (some (0,())))))
 (λv26=>(some v26)))))
 (λv19=>(some v19)))))
 (λv14=>(some v14))))))
 (λv7=>(some v7))))))))
theorem x_39:av_ (P:=prog) (cxC [c_76,c_77,c_78,c_79,c_80,c_81] []) (.p .z (.p .z (.p (.j0 [.v 28 .bool] .z .z) (.p (.p .z (.ls [.v 32 .int] [] [] 0 .z)) (.p .z (.p (.p .z (.ls [.v 52 .int] [] [] 2 .z)) (.p (.p .z (.ls [.v 70 .int] [] [] 4 .z)) (.p (.p .z (.ls [.v 84 .int] [] [] 6 .z)) .z)))))))) 39 [an_] [.int]=λx=>hm_ x.1:=by kernel_rfl
noncomputable def c_39:Con prog:=ax_ _ _ 39 [an_] [.int] _ x_39
noncomputable def es_ (a0:ab_) (a1:aa_):Option (Bool×Unit) :=
 ((fo_ a0 a1).bind λv0 =>
 (some ((v0.1==0),())))
theorem x_15:av_ (P:=prog) (cxC [c_45] []) .z 15 [an_,aj_] [.bool]=λx=>es_ x.1 x.2.1:=by kernel_rfl
noncomputable def c_15:Con prog:=ax_ _ _ 15 [an_,aj_] [.bool] _ x_15
end
section
set_option maxRecDepth 100000
set_option maxHeartbeats 0
noncomputable def jw_ (a0:ab_):Option (aa_×Int×Unit) :=
 ((fy_ a0).bind λv0 =>
 (cond (v0.1 != 0)
 (some ((([],([],[])),[]),(v0.1,())))
 ((jy_ a0.1).bind λv1 =>
 (cond (v1.2.1 != 0)
 (some ((([],([],[])),[]),(v1.2.1,())))
 ((mk? (α:=Bool) (a0.2.2.2.1.length:Int) false).bind λv2 =>
 ((jc_ a0 (v1.1,v2)).bind λv3 =>
 (some (v3.1,(0,())))))))))
theorem x_52:av_ (P:=prog) (cxC [c_31,c_100,c_101] []) .z 52 [an_] [aj_,.int]=λx=>jw_ x.1:=by kernel_rfl
noncomputable def c_52:Con prog:=ax_ _ _ 52 [an_] [aj_,.int] _ x_52
noncomputable def gz_ (a0:ab_) (a1:aa_) (a2:ae_):Option (Bool×Unit) :=
 ((gt_ a0.1 a1.1 a2).bind λv0 =>
 (cond (!v0.2.1)
 (some (false,()))
 (cond (a2.2.1 != 4)
 (some (true,()))
 ((at? a0.1.2.2.2.2.1 a2.2.2).bind λv1 =>
 (cond (decide (v1.2.2.1<0))
 (some (true,()))
 ((at? a0.1.2.2.2.2.1 a2.2.2).bind λv2 =>
 ((lo_ a0 a1 v2.2.2.1).bind λv3 =>
 (some (v3.1,())))))))))
theorem x_104:av_ (P:=prog) (cxC [c_105,c_158] []) (.p .z (.p .z (.p .z (.p (.q [] .z .z) .z)))) 104 [an_,aj_,aq_] [.bool]=λx=>gz_ x.1 x.2.1 x.2.2.1:=by kernel_rfl
noncomputable def c_104:Con prog:=ax_ _ _ 104 [an_,aj_,aq_] [.bool] _ x_104
noncomputable def hn_ (a0:ab_):Option (aa_×Int×Unit) :=
 ((hm_ a0).bind λv0 =>
 (cond (v0.1 != 0)
 (some ((([],([],[])),[]),(v0.1,())))
 ((jb_ a0.1).bind λv1 =>
 (cond (v1.2.1 != 0)
 (some ((([],([],[])),[]),(v1.2.1,())))
 ((mk? (α:=Bool) (a0.2.2.2.1.length:Int) false).bind λv2 =>
 ((ag_ (ρ:=((List Bool)×((List ac_)×Unit))) (λ(v3:(Int×((List Bool)×((List ac_)×Unit)))) =>
 (cond (decide (v3.1<(a0.2.2.2.1.length:Int)))
 ((((at? a0.2.2.2.1 v3.1).bind λv4 =>
 ((fk_ a0.1 v1.1 v4.2.2.2.1).bind λv5 =>
 (((cond v5.1
 ((bk_ v1.1.2.2 v4.2.1).bind λv6 =>
 (cond v6.1
 ((at? v3.2.1 v3.1).bind λv7 =>
 ((at? v3.2.1 v3.1).bind λv8 =>
 (some ((!v8),()))))
 (some (false,()))))
 (some (false,())))).bind λv9 =>
 (cond v9.1
 ((at? v3.2.1 v3.1).bind λv10 =>
 ((at? v3.2.1 v3.1).bind λv11 =>
 (some ((v3.2.1.set v3.1.toNat true),((bi6 v3.2.2.1 v4.2.2.1),())))))
 (some (v3.2.1,(v3.2.2.1,())))))))).bind λv12 =>
 (some (inl ((w64 (v3.1+1)),(v12.1,(v12.2.1,()))))))
 (some (inr (v3.2.1,(v3.2.2.1,())))))) (0,(v2,([],())))).bind λv13 =>
 ((push? (α:=Int) [] v1.1.1).bind λv14 =>
 ((push? (α:=Int) [] v1.1.2.1).bind λv15 =>
 ((push? (α:=Int) [] v1.1.2.2).bind λv16 =>
 ((push? (α:=Bool) [] v13.1).bind λv17 =>
 (some (((v14,(v15,v16)),v17),(0,())))))))))))))
theorem x_13:av_ (P:=prog) (cxI (λk=>cond (Nat.beq k 41) (.p .z (.lp [.v 12 .int] [] [.o (.c (.s 0) 15) .bool,.m (.c (.s 0) 16) .int .int] 0 (.p .z (.p .z (.j0 [.o (.c (.s 0) 15) .bool,.m (.c (.s 0) 16) .int .int] (.p .z (.p .z (.j0 [.v 55 .bool] .z .z))) .z))))) (.z)) (λk=>Nat.beq k 39||Nat.beq k 40||Nat.beq k 84||Nat.beq k 85||Nat.beq k 86||Nat.beq k 87||false) (cxC [c_39,c_40,c_84,c_85] [av5,cp_87]) 3) .z 13 [an_] [aj_,.int]=λx=>hn_ x.1:=by kernel_rfl
noncomputable def c_13:Con prog:=ax_ _ _ 13 [an_] [aj_,.int] _ x_13
noncomputable def dy_ (a0:ab_) (a1:aa_):Option (Int×Unit) :=
 ((hm_ a0).bind λv0 =>
 (cond (v0.1 != 0)
 (some (v0.1,()))
 ((ca_ a0.1 a1.1).bind λv1 =>
 (cond (v1.1 != 0)
 (some (v1.1,()))
 (cond ((a1.2.length:Int) != (a0.2.2.2.1.length:Int))
 (some (28,()))
 (some (0,())))))))
theorem x_88:av_ (P:=prog) (cxC [c_39,ca9] []) .z 88 [an_,aj_] [.int]=λx=>dy_ x.1 x.2.1:=by kernel_rfl
noncomputable def c_88:Con prog:=ax_ _ _ 88 [an_,aj_] [.int] _ x_88
end
section
set_option maxRecDepth 100000
set_option maxHeartbeats 0
noncomputable def jv_ (a0:ab_) (a1:aa_):Option ((List ae_)×Unit) :=
 ((ez_ a0.1 a1.1).bind λv0 =>
 ((ag_ (ρ:=((List ae_)×Unit)) (λ(v1:((List ae_)×(Int×Unit))) =>
 (cond (decide (v1.2.1<(v0.1.length:Int)))
 ((((at? v0.1 v1.2.1).bind λv2 =>
 ((gz_ a0 a1 v2).bind λv3 =>
 (cond v3.1
 ((at? v0.1 v1.2.1).bind λv4 =>
 ((push? (α:=ae_) v1.1 [v4]).bind λv5 =>
 (some (v5,()))))
 (some (v1.1,())))))).bind λv6 =>
 (some (inl (v6.1,((w64 (v1.2.1+1)),())))))
 (some (inr (v1.1,()))))) ([],(0,()))).bind λv7 =>
 (some (v7.1,()))))
theorem x_54:av_ (P:=prog) (cxC [c_103,c_104] []) (.p .z (.p .z (.p .z (.p (.p .z (.lp [.r 5 aq_ 59,.v 7 .int] [.r 5 aq_ 59] [] 0 (.p .z (.j0 [.r 5 aq_ 59] (.p (.q [] .z .z) .z) .z)))) .z)))) 54 [an_,aj_] [(.list aq_)]=λx=>jv_ x.1 x.2.1:=by kernel_rfl
noncomputable def c_54:Con prog:=ax_ _ _ 54 [an_,aj_] [(.list aq_)] _ x_54
noncomputable def eb_ (a0:ab_) (a1:aa_) (a2:ae_):Option (aa_×Int×Unit) :=
 ((dy_ a0 a1).bind λv0 =>
 (cond (v0.1 != 0)
 (cond (v0.1 != 0)
 (some ((([],([],[])),[]),(v0.1,())))
 none)
 ((push? (α:=Bool) [] a1.2).bind λv1 =>
 (((((cond (a2.2.1==4)
 ((cb_ a2.2.2 0 (w64 ((a0.1.2.2.2.2.1.length:Int) - 1))).bind λv2 =>
 (cond v2.1
 ((at? a0.1.2.2.2.2.1 a2.2.2).bind λv3 =>
 (cond (decide (v3.2.2.1<0))
 (some ((!true),([],())))
 ((((ag_ (ρ:=((List Int)×((List al_)×Unit))) (λ(v4:((List Int)×((List al_)×(Int×Unit)))) =>
 (cond (decide (v4.2.2.1<(a0.2.2.2.1.length:Int)))
 ((((at? a0.2.2.2.1 v4.2.2.1).bind λv5 =>
 (((cond (v5.2.2.1==v3.2.2.1)
 ((at? v1 v4.2.2.1).bind λv6 =>
 ((at? v1 v4.2.2.1).bind λv7 =>
 (some (v7,()))))
 (some (false,())))).bind λv8 =>
 (cond v8.1
 ((push? (α:=Int) v4.1 [v4.2.2.1]).bind λv9 =>
 ((push? (α:=al_) v4.2.1 [v5.2.2.2.2]).bind λv10 =>
 (some (v9,(v10,())))))
 (some (v4.1,(v4.2.1,()))))))).bind λv11 =>
 (some (inl (v11.1,(v11.2.1,((w64 (v4.2.2.1+1)),()))))))
 (some (inr (v4.1,(v4.2.1,())))))) ([],([],(0,())))).bind λv12 =>
 ((at? a0.2.1 v3.2.2.1).bind λv13 =>
 ((dc_ v13 v12.2.1).bind λv14 =>
 (((cond (v14.2.1==0)
 (some ((decide (v14.1≤a0.2.2.2.2)),()))
 (some (false,())))).bind λv15 =>
 (cond v15.1
 (some ((hv_ (hv_ [] v3.2.2.1 2) v3.2.2.1 1),()))
 (some ((hv_ [] v3.2.2.1 2),())))))))).bind λv16 =>
 (some ((!((ef_ 0 v16.1 v3.2.2.1)==1)),(v16.1,()))))))
 (some (false,([],())))))
 (some (false,([],()))))).bind λv17 =>
 (cond v17.1
 (some ((!false),(v1,(v17.2.1,((a1.1.1,(a1.1.2.1,(a1.1.2.2,()))),())))))
 ((fi_ a0.1 a1.1 a2).bind λv18 =>
 (cond (v18.2.1 != 0)
 (some ((!false),(v1,(v17.2.1,((a1.1.1,(a1.1.2.1,(a1.1.2.2,()))),())))))
 ((ag_ (ρ:=((List Bool)×((List ac_)×Unit))) (λ(v19:(Int×((List Bool)×((List ac_)×Unit)))) =>
 (cond (decide (v19.1<(a0.2.2.2.1.length:Int)))
 ((((at? a0.2.2.2.1 v19.1).bind λv20 =>
 ((fk_ a0.1 v18.1 v20.2.2.2.1).bind λv21 =>
 (((cond v21.1
 ((bk_ v18.1.2.2 v20.2.1).bind λv22 =>
 (cond v22.1
 ((at? v19.2.1 v19.1).bind λv23 =>
 ((at? v19.2.1 v19.1).bind λv24 =>
 (some ((!v24),()))))
 (some (false,()))))
 (some (false,())))).bind λv25 =>
 (cond v25.1
 ((at? v19.2.1 v19.1).bind λv26 =>
 ((at? v19.2.1 v19.1).bind λv27 =>
 (some ((v19.2.1.set v19.1.toNat true),((bi6 v19.2.2.1 v20.2.2.1),())))))
 (some (v19.2.1,(v19.2.2.1,())))))))).bind λv28 =>
 (some (inl ((w64 (v19.1+1)),(v28.1,(v28.2.1,()))))))
 (some (inr (v19.2.1,(v19.2.2.1,())))))) (0,(v1,(v17.2.1,())))).bind λv29 =>
 (some ((!true),(v29.1,(v29.2.1,((v18.1.1,(v18.1.2.1,(v18.1.2.2,()))),()))))))))))).bind λv30 =>
 (cond v30.1
 (some ((([],([],[])),[]),(29,())))
 ((push? (α:=Int) [] v30.2.2.2.1.1).bind λv31 =>
 ((push? (α:=Int) [] v30.2.2.2.1.2.1).bind λv32 =>
 ((push? (α:=Int) [] v30.2.2.2.1.2.2.1).bind λv33 =>
 ((push? (α:=Bool) [] v30.2.1).bind λv34 =>
 (some (((v31,(v32,v33)),v34),(0,()))))))))))))
theorem x_17:av_ (P:=prog) (cxI (λk=>cond (Nat.beq k 41) (.p .z (.lp [.v 12 .int] [] [.o (.c (.s 0) 15) .bool,.m (.c (.s 0) 16) .int .int] 0 (.p .z (.p .z (.j0 [.o (.c (.s 0) 15) .bool,.m (.c (.s 0) 16) .int .int] (.p .z (.p .z (.j0 [.v 55 .bool] .z .z))) .z))))) (cond (Nat.beq k 44) (.p .z (.p (.j0 [.v 38 .bool,.m (.c (.s 0) 16) .int .int] .z .z) .z)) (cond (Nat.beq k 89) (.p .z (.p .z (.j0 [.m (.c (.s 0) 16) .int .int] (.p .z (.p (.p .z (.p .z (.j0 [.v 37 .bool] .z .z))) .z)) .z))) (cond (Nat.beq k 162) (.p .z (.p (.p .z (.lp [.r 6 .int 3,.r 7 ar_ 94,.v 13 .int] [.r 6 .int 3,.r 7 ar_ 94] [] 0 (.p .z (.p .z (.j0 [.r 6 .int 3,.r 7 ar_ 94] (.p .z (.j0 [.v 26 .bool] .z .z)) .z))))) .z)) (.z))))) (λk=>Nat.beq k 81||Nat.beq k 84||Nat.beq k 85||Nat.beq k 86||Nat.beq k 87||Nat.beq k 88||Nat.beq k 90||Nat.beq k 164||false) (cxC [c_81,c_84,c_85,c_88,c_90,c_164] [av5,cp_87]) 9) (.p .z (.p .z (.p .z (.p (.j0 [.v 23 .bool,.o (.c (.s 8) 15) .bool,.m (.c (.s 8) 16) .int .int,.b (.s 8) [.keep,.keep,.keep,.keep,.keep,.keep,.keep,.keep,.keep,.keep,.keep,.keep,.val (.list .int),.val (.list .int),.val (.list .int),.keep,.keep]] .z .z) .z)))) 17 [an_,aj_,aq_] [aj_,.int]=λx=>eb_ x.1 x.2.1 x.2.2.1:=by kernel_rfl
noncomputable def c_17:Con prog:=ax_ _ _ 17 [an_,aj_,aq_] [aj_,.int] _ x_17
noncomputable def kj_ (a0:ab_) (a1:aa_):Option ((List ae_)×Int×Unit) :=
 ((dy_ a0 a1).bind λv0 =>
 (cond (v0.1 != 0)
 (cond (v0.1 != 0)
 (some ([],(v0.1,())))
 ((fj_ a0.1 a1.1).bind λv1 =>
 (cond (v1.2.1 != 0)
 (some ([],(v1.2.1,())))
 none)))
 ((push? (α:=Bool) [] a1.2).bind λv2 =>
 ((fj_ a0.1 a1.1).bind λv3 =>
 (cond (v3.2.1 != 0)
 (some ([],(v3.2.1,())))
 ((ag_ (ρ:=((List ae_)×((List ac_)×Unit))) (λ(v4:((List ae_)×(Int×((List ac_)×Unit)))) =>
 (cond (decide (v4.2.1<(v3.1.length:Int)))
 ((((at? v3.1 v4.2.1).bind λv5 =>
 ((((push? (α:=Bool) [] v2).bind λv6 =>
 (((((cond (v5.2.1==4)
 ((cb_ v5.2.2 0 (w64 ((a0.1.2.2.2.2.1.length:Int) - 1))).bind λv7 =>
 (some (v7.1,())))
 (some (false,())))).bind λv8 =>
 (cond v8.1
 ((at? a0.1.2.2.2.2.1 v5.2.2).bind λv9 =>
 (((cond (decide (v9.2.2.1<0))
 (some (v4.2.2.1,()))
 (((cond ((ef_ 0 v4.2.2.1 v9.2.2.1)==0)
 ((ag_ (ρ:=((List Int)×((List al_)×Unit))) (λ(v10:((List Int)×((List al_)×(Int×Unit)))) =>
 (cond (decide (v10.2.2.1<(a0.2.2.2.1.length:Int)))
 ((((at? a0.2.2.2.1 v10.2.2.1).bind λv11 =>
 (((cond (v11.2.2.1==v9.2.2.1)
 ((at? v2 v10.2.2.1).bind λv12 =>
 ((at? v2 v10.2.2.1).bind λv13 =>
 (some (v13,()))))
 (some (false,())))).bind λv14 =>
 (cond v14.1
 ((push? (α:=Int) v10.1 [v10.2.2.1]).bind λv15 =>
 ((push? (α:=al_) v10.2.1 [v11.2.2.2.2]).bind λv16 =>
 (some (v15,(v16,())))))
 (some (v10.1,(v10.2.1,()))))))).bind λv17 =>
 (some (inl (v17.1,(v17.2.1,((w64 (v10.2.2.1+1)),()))))))
 (some (inr (v10.1,(v10.2.1,())))))) ([],([],(0,())))).bind λv18 =>
 ((at? a0.2.1 v9.2.2.1).bind λv19 =>
 ((dc_ v19 v18.2.1).bind λv20 =>
 (((cond (v20.2.1==0)
 (some ((decide (v20.1≤a0.2.2.2.2)),()))
 (some (false,())))).bind λv21 =>
 (cond v21.1
 (some ((hv_ (hv_ v4.2.2.1 v9.2.2.1 2) v9.2.2.1 1),()))
 (some ((hv_ v4.2.2.1 v9.2.2.1 2),())))))))
 (some (v4.2.2.1,())))).bind λv22 =>
 (some (v22.1,()))))).bind λv23 =>
 (some (v23.1,((hv_ [] v9.2.2.1 (ef_ 0 v23.1 v9.2.2.1)),())))))
 (some (v4.2.2.1,([],())))))).bind λv24 =>
 (((((cond (v5.2.1==4)
 ((cb_ v5.2.2 0 (w64 ((a0.1.2.2.2.2.1.length:Int) - 1))).bind λv25 =>
 (cond v25.1
 ((at? a0.1.2.2.2.2.1 v5.2.2).bind λv26 =>
 (cond (decide (v26.2.2.1<0))
 (some ((!true),(v24.2.1,())))
 (((cond ((ef_ 0 v24.2.1 v26.2.2.1)==0)
 ((ag_ (ρ:=((List Int)×((List al_)×Unit))) (λ(v27:((List Int)×((List al_)×(Int×Unit)))) =>
 (cond (decide (v27.2.2.1<(a0.2.2.2.1.length:Int)))
 ((((at? a0.2.2.2.1 v27.2.2.1).bind λv28 =>
 (((cond (v28.2.2.1==v26.2.2.1)
 ((at? v6 v27.2.2.1).bind λv29 =>
 ((at? v6 v27.2.2.1).bind λv30 =>
 (some (v30,()))))
 (some (false,())))).bind λv31 =>
 (cond v31.1
 ((push? (α:=Int) v27.1 [v27.2.2.1]).bind λv32 =>
 ((push? (α:=al_) v27.2.1 [v28.2.2.2.2]).bind λv33 =>
 (some (v32,(v33,())))))
 (some (v27.1,(v27.2.1,()))))))).bind λv34 =>
 (some (inl (v34.1,(v34.2.1,((w64 (v27.2.2.1+1)),()))))))
 (some (inr (v27.1,(v27.2.1,())))))) ([],([],(0,())))).bind λv35 =>
 ((at? a0.2.1 v26.2.2.1).bind λv36 =>
 ((dc_ v36 v35.2.1).bind λv37 =>
 (((cond (v37.2.1==0)
 (some ((decide (v37.1≤a0.2.2.2.2)),()))
 (some (false,())))).bind λv38 =>
 (cond v38.1
 (some ((hv_ (hv_ v24.2.1 v26.2.2.1 2) v26.2.2.1 1),()))
 (some ((hv_ v24.2.1 v26.2.2.1 2),())))))))
 (some (v24.2.1,())))).bind λv39 =>
 (some ((!((ef_ 0 v39.1 v26.2.2.1)==1)),(v39.1,()))))))
 (some (false,(v24.2.1,())))))
 (some (false,(v24.2.1,()))))).bind λv40 =>
 (cond v40.1
 (some ((!false),(v6,(v40.2.1,((a1.1.1,(a1.1.2.1,(a1.1.2.2,()))),())))))
 ((fi_ a0.1 a1.1 v5).bind λv41 =>
 (cond (v41.2.1 != 0)
 (some ((!false),(v6,(v40.2.1,((a1.1.1,(a1.1.2.1,(a1.1.2.2,()))),())))))
 ((ag_ (ρ:=((List Bool)×((List ac_)×Unit))) (λ(v42:(Int×((List Bool)×((List ac_)×Unit)))) =>
 (cond (decide (v42.1<(a0.2.2.2.1.length:Int)))
 ((((at? a0.2.2.2.1 v42.1).bind λv43 =>
 ((fk_ a0.1 v41.1 v43.2.2.2.1).bind λv44 =>
 (((cond v44.1
 ((bk_ v41.1.2.2 v43.2.1).bind λv45 =>
 (cond v45.1
 ((at? v42.2.1 v42.1).bind λv46 =>
 ((at? v42.2.1 v42.1).bind λv47 =>
 (some ((!v47),()))))
 (some (false,()))))
 (some (false,())))).bind λv48 =>
 (cond v48.1
 ((at? v42.2.1 v42.1).bind λv49 =>
 ((at? v42.2.1 v42.1).bind λv50 =>
 (some ((v42.2.1.set v42.1.toNat true),((bi6 v42.2.2.1 v43.2.2.1),())))))
 (some (v42.2.1,(v42.2.2.1,())))))))).bind λv51 =>
 (some (inl ((w64 (v42.1+1)),(v51.1,(v51.2.1,()))))))
 (some (inr (v42.2.1,(v42.2.2.1,())))))) (0,(v6,(v40.2.1,())))).bind λv52 =>
 (some ((!true),(v52.1,(v52.2.1,((v41.1.1,(v41.1.2.1,(v41.1.2.2,()))),()))))))))))).bind λv53 =>
 (cond v53.1
 (some (false,(v24.1,())))
 (some (true,(v24.1,())))))))).bind λv54 =>
 (cond v54.1
 ((push? (α:=ae_) v4.1 [v5]).bind λv55 =>
 (some (v55,(v54.2.1,()))))
 (some (v4.1,(v54.2.1,()))))))).bind λv56 =>
 (some (inl (v56.1,((w64 (v4.2.1+1)),(v56.2.1,()))))))
 (some (inr (v4.1,(v4.2.2.1,())))))) ([],(0,([],())))).bind λv57 =>
 (some (v57.1,(0,())))))))))
theorem x_94:av_ (P:=prog) (cxI (λk=>cond (Nat.beq k 41) (.p .z (.lp [.v 12 .int] [] [.o (.c (.s 0) 15) .bool,.m (.c (.s 0) 16) .int .int] 0 (.p .z (.p .z (.j0 [.o (.c (.s 0) 15) .bool,.m (.c (.s 0) 16) .int .int] (.p .z (.p .z (.j0 [.v 55 .bool] .z .z))) .z))))) (cond (Nat.beq k 44) (.p .z (.p (.j0 [.v 38 .bool,.m (.c (.s 0) 16) .int .int] .z .z) .z)) (cond (Nat.beq k 89) (.p .z (.p .z (.j0 [.m (.c (.s 0) 16) .int .int] (.p .z (.p (.p .z (.p .z (.j0 [.v 37 .bool] .z .z))) .z)) .z))) (cond (Nat.beq k 153) (.p .z (.p .z (.j0 [.m (.c (.s 0) 16) .int .int,.m (.s 23) .int .int] (.j0 [.v 41 .bool] .z (.p (.p .z (.j0 [.m (.c (.s 0) 16) .int .int] .z .z)) .z)) (.p (.j0 [.v 70 .bool,.o (.s 21) .bool,.m (.s 23) .int .int,.b (.s 5) [.keep,.keep,.keep,.keep,.keep,.keep,.keep,.keep,.keep,.keep,.keep,.keep,.val (.list .int),.val (.list .int),.val (.list .int),.keep,.keep]] .z .z) .z)))) (cond (Nat.beq k 162) (.p .z (.p (.p .z (.lp [.r 6 .int 3,.r 7 ar_ 94,.v 13 .int] [.r 6 .int 3,.r 7 ar_ 94] [] 0 (.p .z (.p .z (.j0 [.r 6 .int 3,.r 7 ar_ 94] (.p .z (.j0 [.v 26 .bool] .z .z)) .z))))) .z)) (.z)))))) (λk=>Nat.beq k 81||Nat.beq k 84||Nat.beq k 85||Nat.beq k 87||Nat.beq k 88||Nat.beq k 90||Nat.beq k 152||Nat.beq k 164||false) (cxC [c_81,c_84,c_85,c_88,c_90,c_152,c_164] [cp_87]) 9) (.p .z (.p .z (.p .z (.p .z (.p .z (.p (.p .z (.lp [.r 4 aq_ 59,.v 32 .int] [.r 4 aq_ 59] [.m (.c (.s 6) 16) .int .int] 0 (.p .z (.p .z (.j0 [.r 4 aq_ 59,.m (.c (.s 6) 16) .int .int] (.p .z (.j0 [.v 39 .bool,.m (.c (.s 6) 16) .int .int] .z .z)) .z))))) .z)))))) 94 [an_,aj_] [(.list aq_),.int]=λx=>kj_ x.1 x.2.1:=by kernel_rfl
noncomputable def c_94:Con prog:=ax_ _ _ 94 [an_,aj_] [(.list aq_),.int] _ x_94
end
section
set_option maxRecDepth 100000
set_option maxHeartbeats 0
noncomputable def fn_ (a0:ab_):Option (bq_×Int×Unit) :=
 ((jw_ a0).bind λv0 =>
 (cond (v0.2.1 != 0)
 (some (([],[]),(v0.2.1,())))
 ((io_ v0.1).bind λv1 =>
 ((ag_ (ρ:=(((List ((List UInt8)×Int))×(((List aa_)×((List (List ad_))×Unit))×(((List aa_)×((List (List ad_))×Unit))×Unit)))⊕(bq_×(Int×Unit)))) (λ(v2:(Int×((List ((List UInt8)×Int))×(((List aa_)×((List (List ad_))×Unit))×(((List aa_)×((List (List ad_))×Unit))×Unit))))) =>
 (cond (decide (v2.1<(v2.2.2.2.1.1.length:Int)))
 ((at? v2.2.2.2.1.1 v2.1).bind λv3 =>
 ((at? v2.2.2.2.1.1 v2.1).bind λv4 =>
 ((jv_ a0 v4).bind λv5 =>
 ((ag_ (ρ:=(((List ad_)×((List ((List UInt8)×Int))×(((List aa_)×((List (List ad_))×Unit))×(((List aa_)×Unit)×Unit))))⊕((Int×((List ((List UInt8)×Int))×(((List aa_)×((List (List ad_))×Unit))×(((List aa_)×((List (List ad_))×Unit))×Unit))))⊕(((List ((List UInt8)×Int))×(((List aa_)×((List (List ad_))×Unit))×(((List aa_)×((List (List ad_))×Unit))×Unit)))⊕(bq_×(Int×Unit)))))) (λ(v6:((List ad_)×(Int×((List ((List UInt8)×Int))×(((List aa_)×((List (List ad_))×Unit))×(((List aa_)×Unit)×Unit)))))) =>
 (cond (decide (v6.2.1<(v5.1.length:Int)))
 ((at? v6.2.2.2.2.1.1 v2.1).bind λv7 =>
 ((at? v6.2.2.2.2.1.1 v2.1).bind λv8 =>
 ((at? v5.1 v6.2.1).bind λv9 =>
 ((lp_ a0 v8 v9).bind λv10 =>
 ((io_ v10.1).bind λv11 =>
 (((cond (!(zj_ v6.2.2.1 v11.1))
 (cond ((v6.2.2.2.2.1.1.length:Int)==3000)
 (some (inr (inr (inr (inr (inr (([],[]),(2,()))))))))
 ((io_ v10.1).bind λv12 =>
 ((push? (α:=aa_) v6.2.2.2.2.1.1 [v10.1]).bind λv13 =>
 (some (inl ((v6.2.2.2.2.1.1.length:Int),((hv_ v6.2.2.1 v12.1 (v6.2.2.2.2.1.1.length:Int)),((v6.2.2.2.1.1,(v6.2.2.2.1.2.1,())),((v13,()),())))))))))
 (some (inl ((ef_ 0 v6.2.2.1 v11.1),(v6.2.2.1,((v6.2.2.2.1.1,(v6.2.2.2.1.2.1,())),((v6.2.2.2.2.1.1,()),())))))))).bind λv14 =>
 (bx_ v14 (λv15=>((at? v5.1 v6.2.1).bind λv17 =>
 ((push? (α:=ad_) v6.1 [(v17,v15.1)]).bind λv18 =>
 (some (inl (v18,((w64 (v6.2.1+1)),(v15.2.1,((v15.2.2.1.1,(v15.2.2.1.2.1,())),((v15.2.2.2.1.1,()),()))))))))))
 (λv16=>(some v16)))))))))
 (some (inr (inl (v6.1,(v6.2.2.1,((v6.2.2.2.1.1,(v6.2.2.2.1.2.1,())),((v6.2.2.2.2.1.1,()),()))))))))) ([],(0,(v2.2.1,((v2.2.2.1.1,(v2.2.2.1.2.1,())),((v2.2.2.2.1.1,()),())))))).bind λv19 =>
 (bx_ v19 (λv20=>((push? (α:=(List ad_)) v2.2.2.2.1.2.1 [v20.1]).bind λv22 =>
 (some (inl ((w64 (v2.1+1)),(v20.2.1,((v20.2.2.1.1,(v20.2.2.1.2.1,())),((v20.2.2.2.1.1,(v22,())),()))))))))
 (λv21=>(some v21)))))))
 (some (inr (inl (v2.2.1,((v2.2.2.1.1,(v2.2.2.1.2.1,())),((v2.2.2.2.1.1,(v2.2.2.2.1.2.1,())),())))))))) (0,((hv_ [] v1.1 0),(([],([],())),(([v0.1],([],())),()))))).bind λv23 =>
 (bx_ v23 (λv24=>(some ((v24.2.2.1.1,v24.2.2.1.2.1),(0,()))))
 (λv25=>(some v25)))))))
theorem x_22:av_ (P:=prog) (cxC [c_52,c_53,c_54,c_55] []) (.p .z (.p .z (.p .z (.p .z (.p .z (.p (.p .z (.ls [.v 8 .int] [] [.m (.s 7) .str .int,.b (.s 2) [.val (.list aj_),.val (.list (.list cw_))],.b (.s 6) [.row aj_ 50,.row (.list cw_) 84]] 0 (.p .z (.p (.p .z (.p .z (.p (.p .z (.ls [.r 10 cw_ 86,.v 11 .int] [.r 10 cw_ 86] [.m (.s 7) .str .int,.b (.s 2) [.val (.list aj_),.val (.list (.list cw_))],.b (.s 6) [.row aj_ 50,.keep]] 2 (.p .z (.p (.p .z (.p .z (.js [.v 13 .int,.m (.s 7) .str .int,.b (.s 2) [.val (.list aj_),.val (.list (.list cw_))],.b (.s 6) [.row aj_ 50,.keep]] .z .z))) .z)))) .z))) .z)))) .z)))))) 22 [an_] [dl_,.int]=λx=>fn_ x.1:=by kernel_rfl
noncomputable def c_22:Con prog:=ax_ _ _ 22 [an_] [dl_,.int] _ x_22
noncomputable def cf_ (a0:ab_):Option (bq_×Int×Unit) :=
 ((hn_ a0).bind λv0 =>
 (cond (v0.2.1 != 0)
 (some (([],[]),(v0.2.1,())))
 ((((kv_ v0.1).bind λv1 =>
 (some ((hv_ [] v1.1 0),((([]++[v0.1]),()),()))))).bind λv2 =>
 ((ag_ (ρ:=(((List ((List UInt8)×Int))×(((List aa_)×((List (List ad_))×Unit))×(((List aa_)×((List (List ad_))×Unit))×Unit)))⊕(bq_×(Int×Unit)))) (λ(v3:(Int×((List ((List UInt8)×Int))×(((List aa_)×((List (List ad_))×Unit))×(((List aa_)×((List (List ad_))×Unit))×Unit))))) =>
 (cond (decide (v3.1<(v3.2.2.2.1.1.length:Int)))
 ((at? v3.2.2.2.1.1 v3.1).bind λv4 =>
 ((at? v3.2.2.2.1.1 v3.1).bind λv5 =>
 ((kj_ a0 v5).bind λv6 =>
 (cond (v6.2.1 != 0)
 (some (inr (inr (([],[]),(v6.2.1,())))))
 ((ag_ (ρ:=(((List ad_)×((List ((List UInt8)×Int))×(((List aa_)×((List (List ad_))×Unit))×(((List aa_)×Unit)×Unit))))⊕((Int×((List ((List UInt8)×Int))×(((List aa_)×((List (List ad_))×Unit))×(((List aa_)×((List (List ad_))×Unit))×Unit))))⊕(((List ((List UInt8)×Int))×(((List aa_)×((List (List ad_))×Unit))×(((List aa_)×((List (List ad_))×Unit))×Unit)))⊕(bq_×(Int×Unit)))))) (λ(v7:((List ad_)×(Int×((List ((List UInt8)×Int))×(((List aa_)×((List (List ad_))×Unit))×(((List aa_)×Unit)×Unit)))))) =>
 (cond (decide (v7.2.1<(v6.1.length:Int)))
 ((at? v6.1 v7.2.1).bind λv8 =>
 ((at? v7.2.2.2.2.1.1 v3.1).bind λv9 =>
 ((at? v7.2.2.2.2.1.1 v3.1).bind λv10 =>
 ((eb_ a0 v10 v8).bind λv11 =>
 (cond (v11.2.1 != 0)
 (some (inr (inr (inr (inr (([],[]),(v11.2.1,())))))))
 ((((kv_ v11.1).bind λv12 =>
 (cond (zj_ v7.2.2.1 v12.1)
 (some ((ef_ 0 v7.2.2.1 v12.1),(true,(v7.2.2.1,((v7.2.2.2.2.1.1,()),())))))
 (cond ((v7.2.2.2.2.1.1.length:Int)==3000)
 (some (0,(false,(v7.2.2.1,((v7.2.2.2.2.1.1,()),())))))
 ((push? (α:=aa_) v7.2.2.2.2.1.1 [v11.1]).bind λv13 =>
 (some ((v7.2.2.2.2.1.1.length:Int),(true,((hv_ v7.2.2.1 v12.1 (v7.2.2.2.2.1.1.length:Int)),((v13,()),())))))))))).bind λv14 =>
 (cond (!v14.2.1)
 (some (inr (inr (inr (inr (([],[]),(2,())))))))
 ((push? (α:=ad_) v7.1 [(v8,v14.1)]).bind λv15 =>
 (some (inl (v15,((w64 (v7.2.1+1)),(v14.2.2.1,((v7.2.2.2.1.1,(v7.2.2.2.1.2.1,())),((v14.2.2.2.1.1,()),())))))))))))))))
 (some (inr (inl (v7.1,(v7.2.2.1,((v7.2.2.2.1.1,(v7.2.2.2.1.2.1,())),((v7.2.2.2.2.1.1,()),()))))))))) ([],(0,(v3.2.1,((v3.2.2.1.1,(v3.2.2.1.2.1,())),((v3.2.2.2.1.1,()),())))))).bind λv16 =>
 (bx_ v16 (λv17=>((push? (α:=(List ad_)) v3.2.2.2.1.2.1 [v17.1]).bind λv19 =>
 (some (inl ((w64 (v3.1+1)),(v17.2.1,((v17.2.2.1.1,(v17.2.2.1.2.1,())),((v17.2.2.2.1.1,(v19,())),()))))))))
 (λv18=>(some v18))))))))
 (some (inr (inl (v3.2.1,((v3.2.2.1.1,(v3.2.2.1.2.1,())),((v3.2.2.2.1.1,(v3.2.2.2.1.2.1,())),())))))))) (0,(v2.1,(([],([],())),((v2.2.1.1,([],())),()))))).bind λv20 =>
 (bx_ v20 (λv21=>(some ((v21.2.2.1.1,v21.2.2.1.2.1),(0,()))))
 (λv22=>(some v22)))))))
theorem x_47:av_ (P:=prog) (cxI (λk=>.z) (λk=>Nat.beq k 13||Nat.beq k 17||Nat.beq k 94||Nat.beq k 151||false) (cxC [c_13,c_17,c_94,c_151] []) 2) (.p .z (.p .z (.p .z (.p .z (.j0 [.m (.s 26) .str .int,.b (.s 6) [.row aj_ 50,.keep,.keep]] .z (.p (.p .z (.ls [.v 7 .int] [] [.m (.s 26) .str .int,.b (.s 2) [.val (.list aj_),.val (.list (.list cw_))],.b (.s 6) [.row aj_ 50,.row (.list cw_) 84,.keep]] 0 (.p .z (.p (.p .z (.p .z (.p .z (.p (.p .z (.ls [.r 10 cw_ 86,.v 61 .int] [.r 10 cw_ 86] [.m (.s 26) .str .int,.b (.s 2) [.val (.list aj_),.val (.list (.list cw_))],.b (.s 6) [.row aj_ 50,.keep,.keep]] 2 (.p .z (.p .z (.p (.p .z (.p .z (.p .z (.j0 [.v 15 .int,.v 16 .bool,.m (.s 26) .str .int,.b (.s 6) [.row aj_ 50,.keep,.keep]] .z .z)))) .z))))) .z)))) .z)))) .z)))))) 47 [an_] [dl_,.int]=λx=>cf_ x.1:=by kernel_rfl
noncomputable def c_47:Con prog:=ax_ _ _ 47 [an_] [dl_,.int] _ x_47
noncomputable def iw_ (a0:ab_) (a1:bq_) (a2:(List Int)) (a3:Int):Option (Bool×Unit) :=
 ((at? a1.1 a3).bind λv0 =>
 ((kj_ a0 v0).bind λv1 =>
 (((cond (v1.2.1 != 0)
 (some (true,()))
 ((at? a1.2 a3).bind λv2 =>
 (some (((v1.1.length:Int) != (v2.length:Int)),()))))).bind λv3 =>
 (cond v3.1
 (some (false,()))
 ((at? a1.2 a3).bind λv4 =>
 ((ag_ (ρ:=((Bool×Unit)⊕(Bool×Unit))) (λ(v5:(Bool×(Int×Unit))) =>
 (cond (decide (v5.2.1<(v4.length:Int)))
 ((((at? v4 v5.2.1).bind λv6 =>
 ((at? a1.1 a3).bind λv7 =>
 ((at? v1.1 v5.2.1).bind λv8 =>
 ((eb_ a0 v7 v8).bind λv9 =>
 (((cond (v9.2.1 != 0)
 (some (true,()))
 ((at? v1.1 v5.2.1).bind λv10 =>
 (cond (!((v6.1.1==v10.1)&&((v6.1.2.1==v10.2.1)&&(v6.1.2.2==v10.2.2))))
 (some (true,()))
 (cond (decide (v6.2<0))
 (some (true,()))
 (cond (decide ((a1.1.length:Int)≤v6.2))
 (some (true,()))
 ((at? a1.1 v6.2).bind λv11 =>
 ((hl_ v11 v9.1).bind λv12 =>
 (some ((!v12.1),())))))))))).bind λv13 =>
 (cond v13.1
 (some (inr (inr (inr (false,())))))
 (cond v5.1
 (some (inl (true,())))
 ((at? a2 v6.2).bind λv14 =>
 ((at? a2 a3).bind λv15 =>
 (some (inl ((v14==(w64 (v15 - 1))),()))))))))))))).bind λv16 =>
 (bx_ v16 (λv17=>(some (inl (v17.1,((w64 (v5.2.1+1)),())))))
 (λv18=>(some v18))))
 (some (inr (inl (v5.1,())))))) (false,(0,()))).bind λv19 =>
 (bx_ v19 (λv20=>((at? a1.1 a3).bind λv22 =>
 ((fl_ a0.1 v22.1).bind λv23 =>
 (cond (v23.2.1 != 0)
 (some (false,()))
 (cond v23.1
 ((at? a2 a3).bind λv24 =>
 (some ((v24==0),())))
 ((at? a2 a3).bind λv25 =>
 (cond (decide (1≤v25))
 ((at? a2 a3).bind λv26 =>
 (cond (decide (v26≤3000))
 (some (v20.1,()))
 (some (false,()))))
 (some (false,())))))))))
 (λv21=>(some v21)))))))))
theorem x_61:av_ (P:=prog) (cxC [c_17,c_60,c_94,c_98] []) (.p .z (.p (.q [] .z .z) (.p (.j0 [.v 39 .bool] .z .z) (.p .z (.p (.p .z (.ls [.v 11 .bool,.v 46 .int] [.v 11 .bool] [] 0 (.p .z (.p .z (.js [.v 11 .bool] (.p .z (.p .z (.p (.j0 [.v 99 .bool] .z .z) .z))) .z))))) (.p (.q [] .z .z) .z)))))) 61 [an_,dl_,(.list .int),.int] [.bool]=λx=>iw_ x.1 x.2.1 x.2.2.1 x.2.2.2.1:=by kernel_rfl
noncomputable def c_61:Con prog:=ax_ _ _ 61 [an_,dl_,(.list .int),.int] [.bool] _ x_61
end
section
set_option maxRecDepth 100000
set_option maxHeartbeats 0
noncomputable def kb_ (a0:ab_):Option (Bool×Unit) :=
 ((((kx_ a0).bind λv0 =>
 (cond v0.1
 (some (true,()))
 ((fy_ a0).bind λv1 =>
 (some ((v1.1 != 0),())))))).bind λv2 =>
 (cond v2.1
 ((kx_ a0).bind λv3 =>
 (some (v3.1,())))
 (((cond (decide (4<(a0.1.1.length:Int)))
 (some (true,()))
 (cond (decide (4<(a0.1.2.1.length:Int)))
 (some (true,()))
 (cond (decide (3<(a0.1.2.2.1.length:Int)))
 (some (true,()))
 (cond (decide (2<a0.1.2.2.2.2.2.2.1))
 (some (true,()))
 (cond (decide (6<(a0.1.2.2.2.2.1.length:Int)))
 (some (true,()))
 (cond (decide (4<(a0.1.2.2.2.2.2.1.length:Int)))
 (some (true,()))
 (cond (decide (5<(a0.2.2.2.1.length:Int)))
 (some (true,()))
 (some ((decide (3<(a0.2.1.length:Int))),())))))))))).bind λv4 =>
 (cond v4.1
 (some (true,()))
 ((fn_ a0).bind λv5 =>
 (cond (v5.2.1==2)
 (some (true,()))
 (some ((decide (200<(v5.1.1.length:Int))),()))))))))
theorem x_7:av_ (P:=prog) (cxC [c_22,c_30,c_31] []) (.p .z (.p .z (.p (.j0 [.v 14 .bool] .z .z) (.p (.j0 [.v 61 .bool] .z .z) .z)))) 7 [an_] [.bool]=λx=>kb_ x.1:=by kernel_rfl
noncomputable def c_7:Con prog:=ax_ _ _ 7 [an_] [.bool] _ x_7
noncomputable def gf_ (a0:ab_):Option ((List ae_)×Int×Unit) :=
 ((cf_ a0).bind λv0 =>
 (cond (v0.2.1 != 0)
 (cond (v0.2.1 != 0)
 (some ([],(v0.2.1,())))
 none)
 ((dm_ [(-1)] (v0.1.1.length:Int)).bind λv1 =>
 ((ag_ (ρ:=((List Int)×((List Int)×Unit))) (λ(v2:((List Int)×(Int×((List Int)×Unit)))) =>
 (cond (decide (v2.2.1<(v0.1.1.length:Int)))
 ((((at? v0.1.1 v2.2.1).bind λv3 =>
 ((fl_ a0.1 v3.1).bind λv4 =>
 (((cond (v4.2.1==0)
 (some (v4.1,()))
 (some (false,())))).bind λv5 =>
 (cond v5.1
 ((at? v2.2.2.1 v2.2.1).bind λv6 =>
 ((at? v2.2.2.1 v2.2.1).bind λv7 =>
 ((push? (α:=Int) v2.1 [v2.2.1]).bind λv8 =>
 (some (v8,((v2.2.2.1.set v2.2.1.toNat 0),()))))))
 (some (v2.1,(v2.2.2.1,())))))))).bind λv9 =>
 (some (inl (v9.1,((w64 (v2.2.1+1)),(v9.2.1,()))))))
 (some (inr (v2.1,(v2.2.2.1,())))))) ([],(0,(v1,())))).bind λv10 =>
 ((mk? (α:=(List Int)) (v0.1.1.length:Int) []).bind λv11 =>
 ((ag_ (ρ:=((List (List Int))×Unit)) (λ(v12:(Int×((List (List Int))×Unit))) =>
 (cond (decide (v12.1<(v0.1.2.length:Int)))
 ((at? v0.1.2 v12.1).bind λv13 =>
 ((ag_ (ρ:=((List (List Int))×Unit)) (λ(v14:(Int×((List (List Int))×Unit))) =>
 (cond (decide (v14.1<(v13.length:Int)))
 ((((at? v13 v14.1).bind λv15 =>
 ((at? v14.2.1 v15.2).bind λv16 =>
 ((at? v14.2.1 v15.2).bind λv17 =>
 ((push? (α:=Int) v17 [v12.1]).bind λv18 =>
 ((at? v14.2.1 v15.2).bind λv19 =>
 (cond ((v15.2==v15.2)&&true)
 ((at? v14.2.1 v15.2).bind λv20 =>
 (some ((v14.2.1.set v15.2.toNat v18),())))
 none))))))).bind λv21 =>
 (some (inl ((w64 (v14.1+1)),(v21.1,())))))
 (some (inr (v14.2.1,()))))) (0,(v12.2.1,()))).bind λv22 =>
 (some (inl ((w64 (v12.1+1)),(v22.1,()))))))
 (some (inr (v12.2.1,()))))) (0,(v11,()))).bind λv23 =>
 ((ag_ (ρ:=((List Int)×Unit)) (λ(v24:((List Int)×((List Int)×Unit))) =>
 (cond (decide (0<(v24.1.length:Int)))
 ((at? v24.1 0).bind λv25 =>
 ((at? v24.1 0).bind λv26 =>
 ((sub? v24.1 1 (v24.1.length:Int)).bind λv27 =>
 ((at? v23.1 v26).bind λv28 =>
 ((ag_ (ρ:=((List Int)×((List Int)×Unit))) (λ(v29:((List Int)×(Int×((List Int)×Unit)))) =>
 (cond (decide (v29.2.1<(v28.length:Int)))
 ((((at? v28 v29.2.1).bind λv30 =>
 ((at? v29.2.2.1 v30).bind λv31 =>
 ((at? v29.2.2.1 v30).bind λv32 =>
 (cond (decide (v32<0))
 ((at? v29.2.2.1 v26).bind λv33 =>
 ((at? v29.2.2.1 v26).bind λv34 =>
 ((at? v29.2.2.1 v30).bind λv35 =>
 ((at? v29.2.2.1 v30).bind λv36 =>
 ((push? (α:=Int) v29.1 [v30]).bind λv37 =>
 (some (v37,((v29.2.2.1.set v30.toNat (w64 (v34+1))),()))))))))
 (some (v29.1,(v29.2.2.1,())))))))).bind λv38 =>
 (some (inl (v38.1,((w64 (v29.2.1+1)),(v38.2.1,()))))))
 (some (inr (v29.1,(v29.2.2.1,())))))) (v27,(0,(v24.2.1,())))).bind λv39 =>
 (some (inl (v39.1,(v39.2.1,())))))))))
 (some (inr (v24.2.1,()))))) (v10.1,(v10.2.1,()))).bind λv40 =>
 ((at? v40.1 0).bind λv41 =>
 ((at? v40.1 0).bind λv42 =>
 (cond (decide (v42<0))
 (some ([],(50,())))
 ((ag_ (ρ:=(((List ae_)×Unit)×Unit)) (λ(v43:(Int×(((List ae_)×Unit)×Unit))) =>
 ((at? v40.1 v43.1).bind λv44 =>
 ((at? v40.1 v43.1).bind λv45 =>
 (cond (decide (0<v45))
 ((((at? v0.1.2 v43.1).bind λv46 =>
 ((ag_ (ρ:=(((List Int)×(Unit×(((List ae_)×Unit)×Unit)))⊕((List Int)×(((List ae_)×Unit)×Unit)))) (λ(v47:(Int×((List Int)×(Unit×(((List ae_)×Unit)×Unit))))) =>
 (cond (decide (v47.1<(v46.length:Int)))
 ((at? v46 v47.1).bind λv48 =>
 ((at? v40.1 v48.2).bind λv49 =>
 ((at? v40.1 v48.2).bind λv50 =>
 ((at? v40.1 v43.1).bind λv51 =>
 ((at? v40.1 v43.1).bind λv52 =>
 (cond (v50==(w64 (v52 - 1)))
 ((at? v40.1 v43.1).bind λv53 =>
 ((at? v40.1 v43.1).bind λv54 =>
 (cond (decide (0<v54))
 ((push? (α:=ae_) v47.2.2.2.1.1 [v48.1]).bind λv55 =>
 ((at? v47.2.1 0).bind λv56 =>
 (some (inr (inr ((v47.2.1.set (0:Int).toNat v48.2),((v55,()),())))))))
 (some (inl ((w64 (v47.1+1)),(v47.2.1,((),((v47.2.2.2.1.1,()),())))))))))
 (some (inl ((w64 (v47.1+1)),(v47.2.1,((),((v47.2.2.2.1.1,()),()))))))))))))
 (some (inr (inl (v47.2.1,((),((v47.2.2.2.1.1,()),())))))))) (0,([v43.1],((),((v43.2.1.1,()),()))))).bind λv57 =>
 (bx_ v57 (λv58=>(some (v58.1,((v58.2.2.1.1,()),()))))
 (λv59=>(some v59)))))).bind λv60 =>
 ((at? v60.1 0).bind λv61 =>
 (some (inl (v61,((v60.2.1.1,()),()))))))
 (some (inr ((v43.2.1.1,()),()))))))) (0,(([],()),()))).bind λv62 =>
 (some (v62.1.1,(0,()))))))))))))))
theorem x_18:av_ (P:=prog) (cxI (λk=>cond (Nat.beq k 46) (.p .z (.p (.p .z (.lp [.a 3 .int 3] [] [.b (.s 2) [.row aq_ 59]] 0 (.p .z (.j0 [.o (.s 3) .int,.b (.s 2) [.row aq_ 59]] (.p .z (.rf [2,3] .z .z)) .z)))) .z)) (cond (Nat.beq k 49) (.p .z (.p .z (.p .z (.p (.p .z (.lp [.r 8 .int 3,.v 33 .int] [.r 8 .int 3] [.o (.s 27) .int] 0 (.p .z (.p .z (.j0 [.r 8 .int 3,.o (.s 27) .int] (.p .z (.p .z (.j0 [.v 50 .bool] .z .z))) .z))))) (.p .z (.p (.p .z (.lp [.v 69 .int] [] [.g (.s 13) (.list .int)] 2 (.p .z (.p .z (.p (.p .z (.p .z (.lp [.v 76 .int] [] [.g (.s 13) (.list .int)] 4 (.p .z (.p .z (.j0 [.g (.s 13) (.list .int)] .z .z)))))) .z))))) (.q [(.s 13)] (.lp [.r 8 .int 3] [] [.o (.s 27) .int] 6 (.p .z (.p .z (.p .z (.p .z (.lp [.r 8 .int 3,.v 110 .int] [.r 8 .int 3] [.o (.s 27) .int] 8 (.p .z (.p .z (.j0 [.r 8 .int 3,.o (.s 27) .int] .z .z))))))))) .z))))))) (cond (Nat.beq k 150) (.p .z (.ls [.v 15 .int] [] [.o (.y (.s 0) 3) .int,.y (.s 0),.b (.y (.s 0) 2) [.row aq_ 59]] 0 (.p .z (.p .z (.p (.p .z (.p (.sp 38 41) .z)) .z))))) (.z)))) (λk=>Nat.beq k 47||Nat.beq k 73||Nat.beq k 97||Nat.beq k 98||false) (cxR [rp_97] [c_47,c_73,c_98] []) 8) .z 18 [an_] [(.list aq_),.int]=λx=>gf_ x.1:=by kernel_rfl
noncomputable def c_18:Con prog:=ax_ _ _ 18 [an_] [(.list aq_),.int] _ x_18
noncomputable def lt_ (a0:ab_):Option ((List ae_)×Bool×Int×Unit) :=
 ((cf_ a0).bind λv0 =>
 (cond (v0.2.1 != 0)
 (cond (v0.2.1 != 0)
 (some ([],(false,(v0.2.1,()))))
 none)
 ((dm_ [(-1)] (v0.1.1.length:Int)).bind λv1 =>
 ((ag_ (ρ:=((List Int)×((List Int)×Unit))) (λ(v2:((List Int)×(Int×((List Int)×Unit)))) =>
 (cond (decide (v2.2.1<(v0.1.1.length:Int)))
 ((((at? v0.1.1 v2.2.1).bind λv3 =>
 ((fl_ a0.1 v3.1).bind λv4 =>
 (((cond (v4.2.1==0)
 (some (v4.1,()))
 (some (false,())))).bind λv5 =>
 (cond v5.1
 ((at? v2.2.2.1 v2.2.1).bind λv6 =>
 ((at? v2.2.2.1 v2.2.1).bind λv7 =>
 ((push? (α:=Int) v2.1 [v2.2.1]).bind λv8 =>
 (some (v8,((v2.2.2.1.set v2.2.1.toNat 0),()))))))
 (some (v2.1,(v2.2.2.1,())))))))).bind λv9 =>
 (some (inl (v9.1,((w64 (v2.2.1+1)),(v9.2.1,()))))))
 (some (inr (v2.1,(v2.2.2.1,())))))) ([],(0,(v1,())))).bind λv10 =>
 ((mk? (α:=(List Int)) (v0.1.1.length:Int) []).bind λv11 =>
 ((ag_ (ρ:=((List (List Int))×Unit)) (λ(v12:(Int×((List (List Int))×Unit))) =>
 (cond (decide (v12.1<(v0.1.2.length:Int)))
 ((at? v0.1.2 v12.1).bind λv13 =>
 ((ag_ (ρ:=((List (List Int))×Unit)) (λ(v14:(Int×((List (List Int))×Unit))) =>
 (cond (decide (v14.1<(v13.length:Int)))
 ((((at? v13 v14.1).bind λv15 =>
 ((at? v14.2.1 v15.2).bind λv16 =>
 ((at? v14.2.1 v15.2).bind λv17 =>
 ((push? (α:=Int) v17 [v12.1]).bind λv18 =>
 ((at? v14.2.1 v15.2).bind λv19 =>
 (cond ((v15.2==v15.2)&&true)
 ((at? v14.2.1 v15.2).bind λv20 =>
 (some ((v14.2.1.set v15.2.toNat v18),())))
 none))))))).bind λv21 =>
 (some (inl ((w64 (v14.1+1)),(v21.1,())))))
 (some (inr (v14.2.1,()))))) (0,(v12.2.1,()))).bind λv22 =>
 (some (inl ((w64 (v12.1+1)),(v22.1,()))))))
 (some (inr (v12.2.1,()))))) (0,(v11,()))).bind λv23 =>
 ((ag_ (ρ:=((List Int)×Unit)) (λ(v24:((List Int)×((List Int)×Unit))) =>
 (cond (decide (0<(v24.1.length:Int)))
 ((at? v24.1 0).bind λv25 =>
 ((at? v24.1 0).bind λv26 =>
 ((sub? v24.1 1 (v24.1.length:Int)).bind λv27 =>
 ((at? v23.1 v26).bind λv28 =>
 ((ag_ (ρ:=((List Int)×((List Int)×Unit))) (λ(v29:((List Int)×(Int×((List Int)×Unit)))) =>
 (cond (decide (v29.2.1<(v28.length:Int)))
 ((((at? v28 v29.2.1).bind λv30 =>
 ((at? v29.2.2.1 v30).bind λv31 =>
 ((at? v29.2.2.1 v30).bind λv32 =>
 (cond (decide (v32<0))
 ((at? v29.2.2.1 v26).bind λv33 =>
 ((at? v29.2.2.1 v26).bind λv34 =>
 ((at? v29.2.2.1 v30).bind λv35 =>
 ((at? v29.2.2.1 v30).bind λv36 =>
 ((push? (α:=Int) v29.1 [v30]).bind λv37 =>
 (some (v37,((v29.2.2.1.set v30.toNat (w64 (v34+1))),()))))))))
 (some (v29.1,(v29.2.2.1,())))))))).bind λv38 =>
 (some (inl (v38.1,((w64 (v29.2.1+1)),(v38.2.1,()))))))
 (some (inr (v29.1,(v29.2.2.1,())))))) (v27,(0,(v24.2.1,())))).bind λv39 =>
 (some (inl (v39.1,(v39.2.1,())))))))))
 (some (inr (v24.2.1,()))))) (v10.1,(v10.2.1,()))).bind λv40 =>
 ((bt_ v40.1 (-1)).bind λv41 =>
 (cond (decide (v41.1<0))
 (some ([],(false,(0,()))))
 ((ag_ (ρ:=((List (Int×ae_))×((List ac_)×Unit))) (λ(v42:(Int×((List (Int×ae_))×((List ac_)×Unit)))) =>
 (cond (decide (v42.1<(v0.1.2.length:Int)))
 ((at? v0.1.2 v42.1).bind λv43 =>
 ((ag_ (ρ:=((List (Int×ae_))×((List ac_)×Unit))) (λ(v44:(Int×((List (Int×ae_))×((List ac_)×Unit)))) =>
 (cond (decide (v44.1<(v43.length:Int)))
 ((((at? v43 v44.1).bind λv45 =>
 (((cond (!(zj_ v44.2.2.1 v45.2))
 (some ((decide (v42.1<v45.2)),()))
 (some (false,())))).bind λv46 =>
 (cond v46.1
 (some ((hv_ v44.2.1 v45.2 v45.1),((hv_ v44.2.2.1 v45.2 v42.1),())))
 (some (v44.2.1,(v44.2.2.1,()))))))).bind λv47 =>
 (some (inl ((w64 (v44.1+1)),(v47.1,(v47.2.1,()))))))
 (some (inr (v44.2.1,(v44.2.2.1,())))))) (0,(v42.2.1,(v42.2.2.1,())))).bind λv48 =>
 (some (inl ((w64 (v42.1+1)),(v48.1,(v48.2.1,())))))))
 (some (inr (v42.2.1,(v42.2.2.1,())))))) (0,([],([],())))).bind λv49 =>
 ((ag_ (ρ:=((List ae_)×Unit)) (λ(v50:((List ae_)×(Int×Unit))) =>
 (cond (decide (0<v50.2.1))
 ((push? (α:=ae_) v50.1 [(ef_ (0,(0,0)) v49.1 v50.2.1)]).bind λv51 =>
 (some (inl (v51,((ef_ 0 v49.2.1 v50.2.1),())))))
 (some (inr (v50.1,()))))) ([],(v41.1,()))).bind λv52 =>
 ((ag_ (ρ:=((List ae_)×Unit)) (λ(v53:(Int×(Int×((List ae_)×Unit)))) =>
 (cond (decide (v53.1<v53.2.1))
 ((at? v53.2.2.1 v53.2.1).bind λv54 =>
 ((at? v53.2.2.1 v53.2.1).bind λv55 =>
 ((at? v53.2.2.1 v53.1).bind λv56 =>
 ((at? v53.2.2.1 v53.1).bind λv57 =>
 ((at? v53.2.2.1 v53.1).bind λv58 =>
 ((at? v53.2.2.1 v53.1).bind λv59 =>
 ((at? (v53.2.2.1.set v53.1.toNat v55) v53.2.1).bind λv60 =>
 ((at? (v53.2.2.1.set v53.1.toNat v55) v53.2.1).bind λv61 =>
 (some (inl ((w64 (v53.1+1)),((w64 (v53.2.1 - 1)),(((v53.2.2.1.set v53.1.toNat v55).set v53.2.1.toNat v57),())))))))))))))
 (some (inr (v53.2.2.1,()))))) (0,((w64 ((v52.1.length:Int) - 1)),(v52.1,())))).bind λv62 =>
 (some (v62.1,(true,(0,()))))))))))))))))
theorem x_10:av_ (P:=prog) (cxI (λk=>cond (Nat.beq k 37) (.p .z (.lp [.v 2 .int,.v 3 .int] [] [.o (.s 0) aq_] 0 .z)) (cond (Nat.beq k 49) (.p .z (.p .z (.p .z (.p (.p .z (.lp [.r 8 .int 3,.v 33 .int] [.r 8 .int 3] [.o (.s 27) .int] 0 (.p .z (.p .z (.j0 [.r 8 .int 3,.o (.s 27) .int] (.p .z (.p .z (.j0 [.v 50 .bool] .z .z))) .z))))) (.p .z (.p (.p .z (.lp [.v 69 .int] [] [.g (.s 13) (.list .int)] 2 (.p .z (.p .z (.p (.p .z (.p .z (.lp [.v 76 .int] [] [.g (.s 13) (.list .int)] 4 (.p .z (.p .z (.j0 [.g (.s 13) (.list .int)] .z .z)))))) .z))))) (.q [(.s 13)] (.lp [.r 8 .int 3] [] [.o (.s 27) .int] 6 (.p .z (.p .z (.p .z (.p .z (.lp [.r 8 .int 3,.v 110 .int] [.r 8 .int 3] [.o (.s 27) .int] 8 (.p .z (.p .z (.j0 [.r 8 .int 3,.o (.s 27) .int] .z .z))))))))) .z))))))) (.z))) (λk=>Nat.beq k 36||Nat.beq k 47||Nat.beq k 73||Nat.beq k 97||Nat.beq k 98||false) (cxR [rp_97] [c_36,c_47,c_73,c_98] []) 4) (.p .z (.p .z (.p .z (.p .z (.p .z (.p .z (.p .z (.p (.p .z (.lp [.v 38 .int] [] [.m (.s 7) .int aq_,.m (.s 8) .int .int] 0 (.p .z (.p .z (.p (.p .z (.p .z (.lp [.v 45 .int] [] [.m (.s 7) .int aq_,.m (.s 8) .int .int] 2 (.p .z (.p .z (.j0 [.m (.s 7) .int aq_,.m (.s 8) .int .int] (.p .z (.p .z (.j0 [.v 63 .bool] .z .z))) .z)))))) .z))))) (.p (.lp [.r 2 aq_ 59,.v 6 .int] [.r 2 aq_ 59] [] 4 .z) .z))))))))) 10 [an_] [(.list aq_),.bool,.int]=λx=>lt_ x.1:=by kernel_rfl
noncomputable def c_10:Con prog:=ax_ _ _ 10 [an_] [(.list aq_),.bool,.int] _ x_10
noncomputable def ia_ (a0:ab_):Option (bq_×Int×Unit) :=
 ((cf_ a0).bind λv0 =>
 (some (v0.1,(v0.2.1,()))))
theorem x_26:av_ (P:=prog) (cxC [c_47] []) .z 26 [an_] [dl_,.int]=λx=>ia_ x.1:=by kernel_rfl
noncomputable def c_26:Con prog:=ax_ _ _ 26 [an_] [dl_,.int] _ x_26
noncomputable def gg_ (a0:ab_):Option ((List Int)×Int×Unit) :=
 ((cf_ a0).bind λv0 =>
 (cond (v0.2.1 != 0)
 (cond (v0.2.1 != 0)
 (some ([],(v0.2.1,())))
 none)
 ((dm_ [(-1)] (v0.1.1.length:Int)).bind λv1 =>
 ((ag_ (ρ:=((List Int)×((List Int)×Unit))) (λ(v2:((List Int)×(Int×((List Int)×Unit)))) =>
 (cond (decide (v2.2.1<(v0.1.1.length:Int)))
 ((((at? v0.1.1 v2.2.1).bind λv3 =>
 ((fl_ a0.1 v3.1).bind λv4 =>
 (((cond (v4.2.1==0)
 (some (v4.1,()))
 (some (false,())))).bind λv5 =>
 (cond v5.1
 ((at? v2.2.2.1 v2.2.1).bind λv6 =>
 ((at? v2.2.2.1 v2.2.1).bind λv7 =>
 ((push? (α:=Int) v2.1 [v2.2.1]).bind λv8 =>
 (some (v8,((v2.2.2.1.set v2.2.1.toNat 0),()))))))
 (some (v2.1,(v2.2.2.1,())))))))).bind λv9 =>
 (some (inl (v9.1,((w64 (v2.2.1+1)),(v9.2.1,()))))))
 (some (inr (v2.1,(v2.2.2.1,())))))) ([],(0,(v1,())))).bind λv10 =>
 ((mk? (α:=(List Int)) (v0.1.1.length:Int) []).bind λv11 =>
 ((ag_ (ρ:=((List (List Int))×Unit)) (λ(v12:(Int×((List (List Int))×Unit))) =>
 (cond (decide (v12.1<(v0.1.2.length:Int)))
 ((at? v0.1.2 v12.1).bind λv13 =>
 ((ag_ (ρ:=((List (List Int))×Unit)) (λ(v14:(Int×((List (List Int))×Unit))) =>
 (cond (decide (v14.1<(v13.length:Int)))
 ((((at? v13 v14.1).bind λv15 =>
 ((at? v14.2.1 v15.2).bind λv16 =>
 ((at? v14.2.1 v15.2).bind λv17 =>
 ((push? (α:=Int) v17 [v12.1]).bind λv18 =>
 ((at? v14.2.1 v15.2).bind λv19 =>
 (cond ((v15.2==v15.2)&&true)
 ((at? v14.2.1 v15.2).bind λv20 =>
 (some ((v14.2.1.set v15.2.toNat v18),())))
 none))))))).bind λv21 =>
 (some (inl ((w64 (v14.1+1)),(v21.1,())))))
 (some (inr (v14.2.1,()))))) (0,(v12.2.1,()))).bind λv22 =>
 (some (inl ((w64 (v12.1+1)),(v22.1,()))))))
 (some (inr (v12.2.1,()))))) (0,(v11,()))).bind λv23 =>
 ((ag_ (ρ:=((List Int)×Unit)) (λ(v24:((List Int)×((List Int)×Unit))) =>
 (cond (decide (0<(v24.1.length:Int)))
 ((at? v24.1 0).bind λv25 =>
 ((at? v24.1 0).bind λv26 =>
 ((sub? v24.1 1 (v24.1.length:Int)).bind λv27 =>
 ((at? v23.1 v26).bind λv28 =>
 ((ag_ (ρ:=((List Int)×((List Int)×Unit))) (λ(v29:((List Int)×(Int×((List Int)×Unit)))) =>
 (cond (decide (v29.2.1<(v28.length:Int)))
 ((((at? v28 v29.2.1).bind λv30 =>
 ((at? v29.2.2.1 v30).bind λv31 =>
 ((at? v29.2.2.1 v30).bind λv32 =>
 (cond (decide (v32<0))
 ((at? v29.2.2.1 v26).bind λv33 =>
 ((at? v29.2.2.1 v26).bind λv34 =>
 ((at? v29.2.2.1 v30).bind λv35 =>
 ((at? v29.2.2.1 v30).bind λv36 =>
 ((push? (α:=Int) v29.1 [v30]).bind λv37 =>
 (some (v37,((v29.2.2.1.set v30.toNat (w64 (v34+1))),()))))))))
 (some (v29.1,(v29.2.2.1,())))))))).bind λv38 =>
 (some (inl (v38.1,((w64 (v29.2.1+1)),(v38.2.1,()))))))
 (some (inr (v29.1,(v29.2.2.1,())))))) (v27,(0,(v24.2.1,())))).bind λv39 =>
 (some (inl (v39.1,(v39.2.1,())))))))))
 (some (inr (v24.2.1,()))))) (v10.1,(v10.2.1,()))).bind λv40 =>
 (some (v40.1,(0,()))))))))))
theorem x_27:av_ (P:=prog) (cxI (λk=>cond (Nat.beq k 49) (.p .z (.p .z (.p .z (.p (.p .z (.lp [.r 8 .int 3,.v 33 .int] [.r 8 .int 3] [.o (.s 27) .int] 0 (.p .z (.p .z (.j0 [.r 8 .int 3,.o (.s 27) .int] (.p .z (.p .z (.j0 [.v 50 .bool] .z .z))) .z))))) (.p .z (.p (.p .z (.lp [.v 69 .int] [] [.g (.s 13) (.list .int)] 2 (.p .z (.p .z (.p (.p .z (.p .z (.lp [.v 76 .int] [] [.g (.s 13) (.list .int)] 4 (.p .z (.p .z (.j0 [.g (.s 13) (.list .int)] .z .z)))))) .z))))) (.q [(.s 13)] (.lp [.r 8 .int 3] [] [.o (.s 27) .int] 6 (.p .z (.p .z (.p .z (.p .z (.lp [.r 8 .int 3,.v 110 .int] [.r 8 .int 3] [.o (.s 27) .int] 8 (.p .z (.p .z (.j0 [.r 8 .int 3,.o (.s 27) .int] .z .z))))))))) .z))))))) (.z)) (λk=>Nat.beq k 47||Nat.beq k 73||Nat.beq k 97||Nat.beq k 98||false) (cxR [rp_97] [c_47,c_73,c_98] []) 3) .z 27 [an_] [(.list .int),.int]=λx=>gg_ x.1:=by kernel_rfl
noncomputable def c_27:Con prog:=ax_ _ _ 27 [an_] [(.list .int),.int] _ x_27
noncomputable def gw_ (a0:ab_) (a1:bq_) (a2:(List Int)):Option (Bool×Int×Unit) :=
 ((hn_ a0).bind λv0 =>
 (cond (v0.2.1 != 0)
 (some (false,(v0.2.1,())))
 (((cond (decide ((a1.1.length:Int)<1))
 (some (true,()))
 (cond (decide (3000<(a1.1.length:Int)))
 (some (true,()))
 (cond ((a1.2.length:Int) != (a1.1.length:Int))
 (some (true,()))
 (cond ((a2.length:Int) != (a1.1.length:Int))
 (some (true,()))
 ((at? a1.1 0).bind λv1 =>
 ((hl_ v1 v0.1).bind λv2 =>
 (some ((!v2.1),()))))))))).bind λv3 =>
 (cond v3.1
 (some (false,(0,())))
 ((ag_ (ρ:=(Unit⊕(Bool×(Int×Unit)))) (λ(v4:(Int×Unit)) =>
 (cond (decide (v4.1<(a1.1.length:Int)))
 ((iw_ a0 a1 a2 v4.1).bind λv5 =>
 (cond (!v5.1)
 (some (inr (inr (false,(0,())))))
 (some (inl ((w64 (v4.1+1)),())))))
 (some (inr (inl ()))))) (0,())).bind λv6 =>
 (bx_ v6 (λv7=>(some (true,(0,()))))
 (λv8=>(some v8))))))))
theorem x_28:av_ (P:=prog) (cxC [c_13,c_60,c_61] []) (.p .z (.p .z (.p .z (.p .z (.p (.j0 [.v 50 .bool] .z .z) (.p (.p .z (.ls [.v 52 .int] [] [] 0 .z)) .z)))))) 28 [an_,dl_,(.list .int)] [.bool,.int]=λx=>gw_ x.1 x.2.1 x.2.2.1:=by kernel_rfl
noncomputable def c_28:Con prog:=ax_ _ _ 28 [an_,dl_,(.list .int)] [.bool,.int] _ x_28
end
section
set_option maxRecDepth 100000
set_option maxHeartbeats 0
noncomputable def er_  : Option (Bool×Unit) :=
 ((gf_ (([[104,97,108,108],[118,97,117,108,116]],([([98,111,120],(0,(2,0))),([100,111,111,114],(0,(2,0)))],([([107,101,121],(0,[(0,(1,false))]))],([(0,(1,[(1,(1,false))]))],([([111,112,101,110],(0,(0,([],([],([(0,1)],([],[]))))))),([116,117,114,110],(0,((-1),([0],([],([(1,1)],([0],[])))))))],([],(1,[(1,(1,false))]))))))),([(2,4)],([[3,1]],([([108,101,97,102],(0,(0,([],(2,(0,(1,(4,(0,([],false)))))))))),([98,97,99,107],(0,(0,([(0,(0,false))],(3,(1,(0,(0,(0,([],false)))))))))),([99,97,114,100],(1,((-1),([],(0,(0,(0,(0,(0,([],false))))))))))],1))))).bind λv0 =>
 (cond (v0.2.1==0)
 (cond ((v0.1.length:Int)==3)
 ((at? v0.1 0).bind λv1 =>
 (cond ((v1.1==0)&&((v1.2.1==4)&&(v1.2.2==0)))
 ((at? v0.1 1).bind λv2 =>
 (cond (v2.2.1==2)
 ((at? v0.1 2).bind λv3 =>
 (some ((v3.2.2==1),())))
 (some (false,()))))
 (some (false,()))))
 (some (false,())))
 (some (false,()))))
theorem x_8:av_ (P:=prog) (cxC [c_18,c_32] []) .z 8 [] [.bool]=λx=>er_:=by kernel_rfl
noncomputable def c_8:Con prog:=ax_ _ _ 8 [] [.bool] _ x_8
end
section
set_option maxRecDepth 100000
set_option maxHeartbeats 0
noncomputable def fr_ (a0:ab_) (a1:(List ae_)) (a2:dp_):Option (Bool×Unit) :=
 ((((kb_ a0).bind λv0 =>
 (cond v0.1
 (some (true,()))
 (cond (decide (20<(a1.length:Int)))
 (some (true,()))
 ((lw_ a2).bind λv1 =>
 (some (v1.1,()))))))).bind λv2 =>
 (cond v2.1
 ((er_).bind λv3 =>
 (some (v3.1,())))
 ((lq_ a0).bind λv4 =>
 ((ia_ v4.1).bind λv5 =>
 (cond (v5.2.1 != 0)
 ((er_).bind λv6 =>
 (some (v6.1,())))
 ((gg_ v4.1).bind λv7 =>
 ((lt_ v4.1).bind λv8 =>
 ((gw_ v4.1 v5.1 v7.1).bind λv9 =>
 ((push? (α:=Int) [] a2.2).bind λv10 =>
 ((gw_ v4.1 a2.1 v10).bind λv11 =>
 (((cond (v7.2.1 != 0)
 (some (true,()))
 (cond (v8.2.2.1 != 0)
 (some (true,()))
 (cond (v9.2.1 != 0)
 (some (true,()))
 (cond (v11.2.1 != 0)
 (some (true,()))
 (cond (v9.1==v8.2.1)
 (some (true,()))
 (cond v11.1
 (some (v8.2.1,()))
 (some (false,()))))))))).bind λv12 =>
 (cond v12.1
 (some (false,()))
 (cond v8.2.1
 ((er_).bind λv13 =>
 (some (v13.1,())))
 ((hn_ v4.1).bind λv14 =>
 (((cond (v14.2.1 != 0)
 (some (true,()))
 ((es_ a0 v14.1).bind λv15 =>
 (some ((!v15.1),()))))).bind λv16 =>
 (cond v16.1
 (some (false,()))
 ((ag_ (ρ:=((((List Int)×((List Int)×((List Int)×((List Bool)×Unit))))×Unit)⊕(Bool×Unit))) (λ(v17:(Int×(((List Int)×((List Int)×((List Int)×((List Bool)×Unit))))×Unit))) =>
 (cond (decide (v17.1<(a1.length:Int)))
 ((((at? a1 v17.1).bind λv18 =>
 ((eb_ v4.1 ((v17.2.1.1,(v17.2.1.2.1,v17.2.1.2.2.1)),v17.2.1.2.2.2.1) v18).bind λv19 =>
 (((cond (v19.2.1==0)
 ((es_ a0 v19.1).bind λv20 =>
 (some ((!v20.1),())))
 (some (false,())))).bind λv21 =>
 (cond v21.1
 (some (inr (inr (inr (false,())))))
 (cond (v19.2.1==0)
 (some (inl ((v19.1.1.1,(v19.1.1.2.1,(v19.1.1.2.2,(v19.1.2,())))),())))
 (some (inl ((v17.2.1.1,(v17.2.1.2.1,(v17.2.1.2.2.1,(v17.2.1.2.2.2.1,())))),()))))))))).bind λv22 =>
 (bx_ v22 (λv23=>(some (inl ((w64 (v17.1+1)),((v23.1.1,(v23.1.2.1,(v23.1.2.2.1,(v23.1.2.2.2.1,())))),())))))
 (λv24=>(some v24))))
 (some (inr (inl ((v17.2.1.1,(v17.2.1.2.1,(v17.2.1.2.2.1,(v17.2.1.2.2.2.1,())))),())))))) (0,((v14.1.1.1,(v14.1.1.2.1,(v14.1.1.2.2,(v14.1.2,())))),()))).bind λv25 =>
 (bx_ v25 (λv26=>((ag_ (ρ:=(Int×Unit)) (λ(v28:(Int×Unit)) =>
 (((cond (decide (v28.1<(v5.1.1.length:Int)))
 ((at? v5.1.1 v28.1).bind λv29 =>
 ((ee_ v29 ((v26.1.1,(v26.1.2.1,v26.1.2.2.1)),v26.1.2.2.2.1)).bind λv30 =>
 (some ((!v30.1),()))))
 (some (false,())))).bind λv31 =>
 (cond v31.1
 (some (inl ((w64 (v28.1+1)),())))
 (some (inr (v28.1,())))))) (0,())).bind λv32 =>
 (((cond (v32.1==(v5.1.1.length:Int))
 (some (true,()))
 (cond ((v7.1.length:Int) != (v5.1.1.length:Int))
 (some (true,()))
 (some (((v5.1.2.length:Int) != (v5.1.1.length:Int)),()))))).bind λv33 =>
 (cond v33.1
 (some (false,()))
 ((at? v7.1 v32.1).bind λv34 =>
 ((ag_ (ρ:=((((List Int)×((List Int)×((List Int)×((List Bool)×Unit))))×Unit)⊕(Bool×Unit))) (λ(v35:(Int×(Int×(((List Int)×((List Int)×((List Int)×((List Bool)×Unit))))×Unit)))) =>
 (cond (decide (0<v35.2.1))
 ((ag_ (ρ:=((Int×Unit)⊕((Int×(Int×(((List Int)×((List Int)×((List Int)×((List Bool)×Unit))))×Unit)))⊕((((List Int)×((List Int)×((List Int)×((List Bool)×Unit))))×Unit)⊕(Bool×Unit))))) (λ(v36:(Int×(Int×Unit))) =>
 ((at? v5.1.2 v35.1).bind λv37 =>
 (cond (decide (v36.2.1<(v37.length:Int)))
 ((((at? v5.1.2 v35.1).bind λv38 =>
 ((at? v38 v36.2.1).bind λv39 =>
 (((cond (decide (v39.2<0))
 (some (true,()))
 (some ((decide ((v7.1.length:Int)≤v39.2)),())))).bind λv40 =>
 (cond v40.1
 (some (inr (inr (inr (inr (inr (false,())))))))
 (((cond (decide (v36.1<0))
 ((at? v7.1 v39.2).bind λv41 =>
 (some ((v41==(w64 (v35.2.1 - 1))),())))
 (some (false,())))).bind λv42 =>
 (cond v42.1
 (some (inl (v36.2.1,())))
 (some (inl (v36.1,())))))))))).bind λv43 =>
 (bx_ v43 (λv44=>(some (inl (v44.1,((w64 (v36.2.1+1)),())))))
 (λv45=>(some v45))))
 (some (inr (inl (v36.1,()))))))) ((-1),(0,()))).bind λv46 =>
 (bx_ v46 (λv47=>(cond (decide (v47.1<0))
 (some (inr (inr (false,()))))
 ((at? v5.1.2 v35.1).bind λv49 =>
 ((at? v49 v47.1).bind λv50 =>
 ((eb_ v4.1 ((v35.2.2.1.1,(v35.2.2.1.2.1,v35.2.2.1.2.2.1)),v35.2.2.1.2.2.2.1) v50.1).bind λv51 =>
 (((cond (v51.2.1 != 0)
 (some (true,()))
 ((es_ a0 v51.1).bind λv52 =>
 (some ((!v52.1),()))))).bind λv53 =>
 (cond v53.1
 (some (inr (inr (false,()))))
 ((at? v5.1.2 v35.1).bind λv54 =>
 ((at? v54 v47.1).bind λv55 =>
 (some (inl (v55.2,((w64 (v35.2.1 - 1)),((v51.1.1.1,(v51.1.1.2.1,(v51.1.1.2.2,(v51.1.2,())))),()))))))))))))))
 (λv48=>(some v48))))
 (some (inr (inl ((v35.2.2.1.1,(v35.2.2.1.2.1,(v35.2.2.1.2.2.1,(v35.2.2.1.2.2.2.1,())))),())))))) (v32.1,(v34,((v26.1.1,(v26.1.2.1,(v26.1.2.2.1,(v26.1.2.2.2.1,())))),())))).bind λv56 =>
 (bx_ v56 (λv57=>((bh_ (v57.1.1,(v57.1.2.1,v57.1.2.2.1)) a0.1.2.2.2.2.2.2.2).bind λv59 =>
 (cond v59.1
 ((er_).bind λv60 =>
 (some (v60.1,())))
 (some (false,())))))
 (λv58=>(some v58)))))))))
 (λv27=>(some v27))))))))))))))))))))
theorem x_6:av_ (P:=prog) (cxC [c_7,c_8,c_9,c_10,c_13,c_15,c_16,c_17,c_25,c_26,c_27,c_28,c_29] []) (.p .z (.p (.j0 [.v 41 .bool] .z .z) (.p .z (.p .z (.p .z (.p .z (.p .z (.p .z (.p .z (.p (.j0 [.v 106 .bool] .z .z) (.p .z (.p .z (.p (.j0 [.v 121 .bool] .z .z) (.p (.p .z (.ls [.v 21 .int] [] [.b (.s 19) [.val (.list .int),.val (.list .int),.val (.list .int),.val (.list .bool)]] 0 (.p .z (.js [.b (.s 19) [.val (.list .int),.val (.list .int),.val (.list .int),.val (.list .bool)]] (.p .z (.p (.j0 [.v 145 .bool] .z .z) .z)) .z)))) (.p .z (.p (.lp [.v 24 .int] [.v 24 .int] [] 2 (.p (.j0 [.v 163 .bool] .z .z) .z)) (.p (.j0 [.v 187 .bool] .z .z) (.p (.p .z (.ls [.v 24 .int,.v 25 .int] [] [.b (.s 19) [.val (.list .int),.val (.list .int),.val (.list .int),.val (.list .bool)]] 4 (.p .z (.p (.p .z (.p (.p .z (.ls [.v 26 .int,.v 27 .int] [.v 26 .int] [] 6 (.p .z (.js [.v 26 .int] (.p .z (.p (.j0 [.v 222 .bool] .z .z) (.j0 [.v 233 .bool] .z .z))) .z)))) (.p .z (.p .z (.p (.j0 [.v 259 .bool] .z .z) .z))))) .z)))) .z)))))))))))))))))) 6 [an_,(.list aq_),em_] [.bool]=λx=>fr_ x.1 x.2.1 x.2.2.1:=by kernel_rfl
noncomputable def c_6:Con prog:=ax_ _ _ 6 [an_,(.list aq_),em_] [.bool] _ x_6
end
end Go.Proofs.YtdibamopklkilaaGreatDoor.Rx
namespace Go.Proofs.YtdibamopklkilaaGreatDoor.Rx
open Go Pad Rex Sum
section
theorem ay_ {α:Type} {l:List α} (h:Sm l.length):push? [] l=some l:=by
  rw[ac5 (by simp only[j1_];omega)]
  rfl
theorem ci_ {α:Type} {l:List α} {x:α} (h:Sm l.length):push? l [x]=some (l++[x]):=ac5 (by simp only[c5_,j1_];omega)
theorem rj_ {α:Type} {l:List α} {i:Nat} {x:α} (h:l[i]?=some x):l.set ((i:Nat):Int).toNat x=l:=by
  show l.set i x=l
  refine f1_ λj => ?_
  rw[i2_]
  split
  · next e =>
    subst e
    rw[if_pos (ak_ h),h]
  · rfl
theorem se_ (c:List bd_) (h:Sm c.length):cm_ c=some (c,()):=by
  unfold cm_
  rw[ay_ h]
  rfl
theorem ah2 (c:List Int) (h:Sm c.length):dq_ c=some (c,()):=by
  unfold dq_
  rw[ay_ h]
  rfl
theorem ox_ {α τ:Type} {l:List α} (hl:Sm l.length) {body:(Int×(List α×Unit))→Option ((Int×(List α×Unit))⊕(List α×Unit))} {K:(List α×Unit)→Option τ} {x:Option τ}
    (h:∀ (i:Nat) y,l[i]?=some y→body ((i:Int),(l,()))=some (.inl ((w64 ((i:Int)+1)),(l,())))) (e:body ((l.length:Int),(l,()))=some (.inr (l,()))) (hk:K (l,())=x):(ag_ body (0,(l,()))).bind K=x:=by
  refine bo_ l (λ_ _=>none) (λi=>((i:Int),(l,()))) (r0:=(l,())) (λi y hy => ?_) e ?_
  · have hi:=ak_ hy
    rw[h i y hy,az_ (show Sm i by omega)]
  · have:fu_ (λ(_:Nat) (_:α)=>(none:Option (List α×Unit))) 0 l=none:=(iy_ l 0).2 λ_ _ _=>rfl
    rw[this]
    exact hk
theorem bh8 {r:af_} (h:SmR r):lr_ r=some (r,()):=by
  unfold lr_
  simp only[ay_ h.pl,ay_ h.th,ay_ h.pr,ay_ h.wy,ay_ h.ac,ay_ h.au,se_ _ h.go,a0_]
  refine ox_ h.pr (λi y hy => ?_) ?_ ?_
  · have:=h.prn y (au_ hy)
    simp only[dlt (ak_ hy),a4_,ah_ hy,a0_,se_ _ this.2,rj_ hy]
  · simp only[dnl,a1_]
  refine ox_ h.wy (λi y hy => ?_) ?_ ?_
  · have:=h.wyn y (au_ hy)
    simp only[dlt (ak_ hy),a4_,ah_ hy,a0_,se_ _ this,rj_ hy]
  · simp only[dnl,a1_]
  refine ox_ h.ac (λi y hy => ?_) ?_ ?_
  · obtain⟨h1,h2,h3,h4,h5,h6⟩:=h.acn y (au_ hy)
    simp only[dlt (ak_ hy),a4_,ah_ hy,a0_,se_ _ h3,ah2 _ h2,ah2 _ h5,ah2 _ h6,ay_ h4,rj_ hy]
  · simp only[dnl,a1_]
  refine ox_ h.au (λi y hy => ?_) ?_ ?_
  · have:=h.aun y (au_ hy)
    simp only[dlt (ak_ hy),a4_,ah_ hy,a0_,se_ _ this,rj_ hy]
  · simp only[dnl,a1_]
  rfl
theorem yk_ (c:al_) (h:Sm c.2.2.2.2.2.1.length):ha_ c=some (c,()):=by
  unfold ha_
  rw[ay_ h]
  rfl
theorem bh6 {g:ab_} (h:SmG g):lq_ g=some (g,()):=by
  have hl:Sm g.2.1.length:=by have:=h.lk;omega
  have hn:Sm g.2.2.2.1.length:=by have:=h.nt;omega
  have hc:Sm g.2.2.1.length:=by have:=h.cd;omega
  unfold lq_
  rw[bh8 h.room]
  simp only[ay_ hl,ay_ hn,a0_]
  have hgo:=kt_ g.2.2.1 (λ_ t x=>t++[x]) (λi t=>((i:Int),((t,()),()))) (λt=>((t,()),())) [] (body:=(λ(v3:(Int×(((List (List Int))×Unit)×Unit))) =>
 (cond (decide (v3.1<(g.2.2.1.length:Int)))
 ((at? g.2.2.1 v3.1).bind λv4 =>
 ((push? (α:=Int) [] v4).bind λv5 =>
 ((push? (α:=(List Int)) v3.2.1.1 [v5]).bind λv6 =>
 (some (inl ((w64 (v3.1+1)),((v6,()),())))))))
 (some (inr ((v3.2.1.1,()),())))))) (λi t=>t=g.2.2.1.take i) (by simp) (λi x t hx ht=>by
    have hi:=ak_ hx
    have hx2:Sm x.length:=by have:=h.cdn x (au_ hx);omega
    have ht2:Sm t.length:=by rw[ht,c6_];omega
    refine⟨?_,?_⟩
    · simp only[dlt hi,a4_,ah_ hx,a0_,ay_ hx2,ci_ ht2,az_ (show Sm i by omega)]
    · rw[ht,d3_,hx]
      rfl) (λt ht=>by simp only[dnl,a1_])
  obtain⟨t,ht,hw⟩:=hgo
  rw[d7_] at ht
  subst ht
  refine e4_ (congrArg (λo=>Option.bind o _) hw) ?_
  rw[a0_]
  refine ox_ hn (λi y hy => ?_) ?_ ?_
  · have hy2:=h.ntn y (au_ hy)
    simp only[dlt (ak_ hy),a4_,ah_ hy,a0_,ay_ (show Sm y.2.2.2.1.length by omega),rj_ hy,yk_ _ (show Sm y.2.2.2.2.2.2.2.2.2.1.length by omega)]
  · simp only[dnl,a1_]
  rfl
end
section
set_option maxRecDepth 10000
theorem ax6 {σ ρ τ:Type} (n:Nat) (F:Nat→τ→σ) (R:τ→ρ) (t0:τ) {body:σ→Option (σ⊕ρ)} (I:Nat→τ→Prop) (h0:I 0 t0)
    (h:∀ i t,i<n→I i t→Tot (body (F i t)) (λr=>∃ t',r = .inl (F (i+1) t')∧I (i+1) t')) (e:∀ t,I n t→body (F n t)=some (.inr (R t))) :
    Tot (ag_ body (F 0 t0)) (λr=>∃ t,r=R t∧I n t):=by
  refine ih_ (λi s=>∃ t,s=F i t∧I i t) _ n 0 (F 0 t0) ⟨t0,rfl,h0⟩ (λj s h1 h2 hs => ?_) (λs hs => ?_)
  · obtain⟨t,rfl,ht⟩:=hs
    obtain⟨r,hr,t',rfl,ht'⟩:=h j t (by omega) ht
    exact .inl ⟨_,hr,t',rfl,ht'⟩
  · obtain⟨t,rfl,ht⟩:=hs
    rw[b0_] at ht ⊢
    exact⟨_,e t ht,t,rfl,ht⟩
structure VS (r:af_) (s:ai_):Prop where
  l1:s.1.length=r.2.1.length
  l2:s.2.1.length=r.2.2.1.length
  l3:(s.2.2.length:Int)=r.2.2.2.2.2.2.1
  th:∀ (i:Nat) n,s.1[i]?=some n→nu_ r.2.1 (i:Int) n=true
  pr:∀ (i:Nat) p,s.2.1[i]?=some p→inR r p=true
  py:∀ (i:Nat) p,s.2.2[i]?=some p→rw_ r p=true
theorem co2 {r:af_} {s:ai_} (h:VS r s):ckS r s=0:=by
  unfold ckS
  have hl:yp_ r s=false:=by
    unfold yp_
    have:=h.l1
    have:=h.l2
    have:=h.l3
    simp only[c2_,h8_]
    omega
  rw[hl,a1_]
  rw[(iy_ s.1 0).2 (λj x hx=>by rw[b0_,h.th j x hx];rfl),j4_]
  rw[(iy_ s.2.1 0).2 (λj x hx=>by rw[h.pr j x hx];rfl),j4_]
  rw[(iy_ s.2.2 0).2 (λj x hx=>by rw[h.py j x hx];rfl),j4_]
theorem my_ {r:af_} (h:SmR r) (ok:OkR r) {i n:Int} (hs:nu_ r.2.1 i n=true):(0≤i∧i<r.2.1.length)∧(0≤n∧n≤5):=by
  unfold nu_ at hs
  rw[a2_] at hs
  have hi:=ch_.1 hs.1
  have hth:=h.th
  rw[ei_ (by omega) (by omega)] at hi
  obtain⟨t,ht,hg⟩:=cc2 (l:=r.2.1) (i:=i) (by omega) (by omega)
  have h2:=hs.2
  rw[ht] at h2
  have hn:=ch_.1 h2
  have:=ok.th _ _ hg
  unfold bm6 at this
  simp only[a2_] at this
  have h3:=ch_.1 this.2.2.1
  rw[ei_ (by omega) (by omega)] at hn
  omega
end
end Go.Proofs.YtdibamopklkilaaGreatDoor.Rx
namespace Go.Proofs.YtdibamopklkilaaGreatDoor.Rx
open Go Pad Rex Go.Proofs Go.Proofs.Tryz Sum
section
set_option maxRecDepth 100000
noncomputable def autB (a0:af_) (th pr py:List Int):(Int×Unit)→Option ((Int×Unit)⊕(Unit⊕(Int×Unit))) :=
 (λ(v14:(Int×Unit)) =>
 (cond (decide (v14.1<(a0.2.2.2.2.2.1.length:Int)))
 ((at? a0.2.2.2.2.2.1 v14.1).bind λv15 =>
 ((((at? th v15.2.1).bind λv16 =>
 ((at? th v15.2.1).bind λv17 =>
 (cond (v17 != v15.2.2)
 ((bb_ (a0,(th,(pr,py))) v15.1).bind λv18 =>
 (some (v18.1,())))
 (some (false,())))))).bind λv19 =>
 (cond v19.1
 (some (inr (inr (v14.1,()))))
 (some (inl ((w64 (v14.1+1)),()))))))
 (some (inr (inl ())))))
noncomputable def setB (a0:af_) (v11 v12:List Int):(Int×((List Int)×Unit))→Option ((Int×((List Int)×Unit))⊕(((List Int)×Unit)⊕(Bool×((List Int)×Unit)))) :=
 (λ(v13:(Int×((List Int)×Unit))) =>
 (cond (decide (v13.1<101))
 ((((ag_ (ρ:=(Unit⊕(Int×Unit))) (autB a0 v13.2.1 v11 v12) (0,())).bind λv20 =>
 (bx_ v20 (λv21=>(some ((-1),())))
 (λv22=>(some v22))))).bind λv23 =>
 (cond (decide (v23.1<0))
 (some (inr (inr ((!true),(v13.2.1,())))))
 ((at? a0.2.2.2.2.2.1 v23.1).bind λv24 =>
 ((at? a0.2.2.2.2.2.1 v23.1).bind λv25 =>
 ((at? v13.2.1 v24.2.1).bind λv26 =>
 ((at? v13.2.1 v24.2.1).bind λv27 =>
 (some (inl ((w64 (v13.1+1)),((v13.2.1.set v24.2.1.toNat v25.2.2),()))))))))))
 (some (inr (inl (v13.2.1,()))))))
noncomputable def thgB (a0:af_):(Int×(((List Int)×Unit)×Unit))→Option ((Int×(((List Int)×Unit)×Unit))⊕(((List Int)×Unit)×Unit)) :=
 (λ(v2:(Int×(((List Int)×Unit)×Unit))) =>
 (cond (decide (v2.1<(a0.2.1.length:Int)))
 ((at? a0.2.1 v2.1).bind λv3 =>
 ((push? (α:=Int) v2.2.1.1 [v3.2.2.2]).bind λv4 =>
 (some (inl ((w64 (v2.1+1)),((v4,()),()))))))
 (some (inr ((v2.2.1.1,()),())))))
noncomputable def prpB (a0:af_):(Int×(((List Int)×Unit)×Unit))→Option ((Int×(((List Int)×Unit)×Unit))⊕(((List Int)×Unit)×Unit)) :=
 (λ(v6:(Int×(((List Int)×Unit)×Unit))) =>
 (cond (decide (v6.1<(a0.2.2.1.length:Int)))
 ((at? a0.2.2.1 v6.1).bind λv7 =>
 ((push? (α:=Int) v6.2.1.1 [v7.2.1]).bind λv8 =>
 (some (inl ((w64 (v6.1+1)),((v8,()),()))))))
 (some (inr ((v6.2.1.1,()),())))))
noncomputable def rbegX (a0:af_):Option (ai_×(Int×Unit)) :=
 ((fm_ a0).bind λv0 =>
 (cond (v0.1 != 0)
 (some (([],([],[])),(v0.1,())))
 ((mk? (α:=Int) a0.2.2.2.2.2.2.1 0).bind λv1 =>
 ((ag_ (ρ:=(((List Int)×Unit)×Unit)) (thgB a0) (0,(([],()),()))).bind λv5 =>
 ((ag_ (ρ:=(((List Int)×Unit)×Unit)) (prpB a0) (0,(([],()),()))).bind λv9 =>
 ((push? (α:=Int) [] v5.1.1).bind λv10 =>
 ((push? (α:=Int) [] v9.1.1).bind λv11 =>
 ((push? (α:=Int) [] v1).bind λv12 =>
 ((((ag_ (ρ:=(((List Int)×Unit)⊕(Bool×((List Int)×Unit)))) (setB a0 v11 v12) (0,(v10,()))).bind λv28 =>
 (bx_ v28 (λv29=>(some ((!false),(v29.1,()))))
 (λv30=>(some v30))))).bind λv31 =>
 (cond v31.1
 (some (([],([],[])),(27,())))
 (some ((v31.2.1,(v11,v12)),(0,())))))))))))))
theorem ci6:jb_=rbegX:=by kernel_rfl
end
end Go.Proofs.YtdibamopklkilaaGreatDoor.Rx
namespace Go.Proofs.YtdibamopklkilaaGreatDoor.Rx
open Go Pad Rex Sum
section
set_option maxRecDepth 10000
def VT (r:af_) (th:List Int):Prop:=th.length=r.2.1.length∧∀ (i:Nat) n,th[i]?=some n→nu_ r.2.1 (i:Int) n=true
theorem cd0 {r:af_} (h:SmR r) (ok:OkR r) {th:List Int} (hv:VT r th) {i n:Int} (hs:nu_ r.2.1 i n=true):VT r (th.set i.toNat n):=by
  refine⟨by rw[g2_];exact hv.1,λj m hj => ?_⟩
  have hi:=(my_ h ok hs).1
  rw[i2_] at hj
  split at hj
  · next e =>
    split at hj
    · obtain rfl:=a5_ hj
      rw[show (j:Int)=i by omega]
      exact hs
    · cases hj
  · exact hv.2 j m hj
theorem ax7 {r:af_} (h:SmR r):ag_ (thgB r) (0,(([],()),()))=some ((r.2.1.map (·.2.2.2),()),()):=by
  have hth:=h.th
  obtain⟨z,hz,q,rfl,hq⟩:=ax6 r.2.1.length (λi (q:List Int)=>((i:Int),((q,()),()))) (λq=>((q,()),())) [] (body:=thgB r) (λi q=>q=(r.2.1.take i).map (·.2.2.2)) rfl (λi q hi hq=>by
    obtain⟨x,hx⟩:=aw_ hi
    have hq2:Sm q.length:=by rw[hq,d2_,c6_];omega
    refine⟨_,?_,q++[x.2.2.2],rfl,?_⟩
    · unfold thgB
      simp only[dlt hi,a4_,ah_ hx,a0_,ci_ hq2,az_ (show Sm i by omega)]
    · rw[d3_,hx,hq,j0_]
      rfl) (λq hq=>by
    unfold thgB
    simp only[dnl,a1_])
  rw[d7_] at hq
  subst hq
  exact hz
theorem az1 {r:af_} (h:SmR r):ag_ (prpB r) (0,(([],()),()))=some ((r.2.2.1.map (·.2.1),()),()):=by
  have hth:=h.pr
  obtain⟨z,hz,q,rfl,hq⟩:=ax6 r.2.2.1.length (λi (q:List Int)=>((i:Int),((q,()),()))) (λq=>((q,()),())) [] (body:=prpB r) (λi q=>q=(r.2.2.1.take i).map (·.2.1)) rfl (λi q hi hq=>by
    obtain⟨x,hx⟩:=aw_ hi
    have hq2:Sm q.length:=by rw[hq,d2_,c6_];omega
    refine⟨_,?_,q++[x.2.1],rfl,?_⟩
    · unfold prpB
      simp only[dlt hi,a4_,ah_ hx,a0_,ci_ hq2,az_ (show Sm i by omega)]
    · rw[d3_,hx,hq,j0_]
      rfl) (λq hq=>by
    unfold prpB
    simp only[dnl,a1_])
  rw[d7_] at hq
  subst hq
  exact hz
end
end Go.Proofs.YtdibamopklkilaaGreatDoor.Rx
namespace Go.Proofs.YtdibamopklkilaaGreatDoor.Rx
open Go Pad Rex Go.Proofs Go.Proofs.Tryz Sum
section
set_option maxRecDepth 100000
noncomputable def pbgB (a0:ab_) (s:ai_):(Int×((List Bool)×((List ac_)×Unit)))→Option ((Int×((List Bool)×((List ac_)×Unit)))⊕((List Bool)×((List ac_)×Unit))) :=
 (λ(v3:(Int×((List Bool)×((List ac_)×Unit)))) =>
 (cond (decide (v3.1<(a0.2.2.2.1.length:Int)))
 ((((at? a0.2.2.2.1 v3.1).bind λv4 =>
 ((fk_ a0.1 s v4.2.2.2.1).bind λv5 =>
 (((cond v5.1
 ((bk_ s.2.2 v4.2.1).bind λv6 =>
 (cond v6.1
 ((at? v3.2.1 v3.1).bind λv7 =>
 ((at? v3.2.1 v3.1).bind λv8 =>
 (some ((!v8),()))))
 (some (false,()))))
 (some (false,())))).bind λv9 =>
 (cond v9.1
 ((at? v3.2.1 v3.1).bind λv10 =>
 ((at? v3.2.1 v3.1).bind λv11 =>
 (some ((v3.2.1.set v3.1.toNat true),((bi6 v3.2.2.1 v4.2.2.1),())))))
 (some (v3.2.1,(v3.2.2.1,())))))))).bind λv12 =>
 (some (inl ((w64 (v3.1+1)),(v12.1,(v12.2.1,()))))))
 (some (inr (v3.2.1,(v3.2.2.1,()))))))
noncomputable def pbegX (a0:ab_):Option (aa_×(Int×Unit)) :=
 ((hm_ a0).bind λv0 =>
 (cond (v0.1 != 0)
 (some ((([],([],[])),[]),(v0.1,())))
 ((jb_ a0.1).bind λv1 =>
 (cond (v1.2.1 != 0)
 (some ((([],([],[])),[]),(v1.2.1,())))
 ((mk? (α:=Bool) (a0.2.2.2.1.length:Int) false).bind λv2 =>
 ((ag_ (ρ:=((List Bool)×((List ac_)×Unit))) (pbgB a0 v1.1) (0,(v2,([],())))).bind λv13 =>
 ((push? (α:=Int) [] v1.1.1).bind λv14 =>
 ((push? (α:=Int) [] v1.1.2.1).bind λv15 =>
 ((push? (α:=Int) [] v1.1.2.2).bind λv16 =>
 ((push? (α:=Bool) [] v13.1).bind λv17 =>
 (some (((v14,(v15,v16)),v17),(0,())))))))))))))
theorem cj5:hn_=pbegX:=by kernel_rfl
end
end Go.Proofs.YtdibamopklkilaaGreatDoor.Rx
namespace Go.Proofs.YtdibamopklkilaaGreatDoor.Rx
open Go Pad Rex Sum
section
set_option maxRecDepth 10000
theorem qa_ {r:af_} (h:SmR r) (ok:OkR r) {s:ai_} (hv:VS r s):Sm s.1.length∧Sm s.2.1.length∧Sm s.2.2.length:=by
  have:=ch_.1 ok.py
  have h1:=hv.l1
  have h2:=hv.l2
  have h3:=hv.l3
  have:=h.th
  have:=h.pr
  refine⟨by show s.1.length≤1000000000;omega,by show s.2.1.length≤1000000000;omega,by show s.2.2.length≤1000000000;omega⟩
theorem el_ {r:af_} {s:ai_} (h0:db_ r=0) (hv:VS r s):he_ r s=0:=by
  unfold he_
  rw[h0]
  exact co2 hv
end
end Go.Proofs.YtdibamopklkilaaGreatDoor.Rx
