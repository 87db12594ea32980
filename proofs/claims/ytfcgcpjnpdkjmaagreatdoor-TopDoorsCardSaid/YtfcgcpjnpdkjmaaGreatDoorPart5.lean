/- A part of the proof: what the functions of the program compute, shown over the model. -/
import Derived.Test.YtfcgcpjnpdkjmaaGreatDoorPart1
import Derived.Test.YtfcgcpjnpdkjmaaGreatDoorPart3
import Derived.Test.YtfcgcpjnpdkjmaaGreatDoorPart4
set_option linter.unusedSectionVars false
set_option linter.unusedSimpArgs false
set_option linter.unusedVariables false
section
namespace Go.Proofs.YtfcgcpjnpdkjmaaGreatDoor.Rx
open Go Go.Proofs.YtfcgcpjnpdkjmaaGreatDoor.Pad Go.Proofs.YtfcgcpjnpdkjmaaGreatDoor.Rex
def ph_ (things:List io_) (th n:Int):Bool:=wi th 0 (w64 ((things.length:Int) - 1))&&match at? things th with
  | some t=>wi n 0 (w64 (t.2.2.1 - 1))
  | none=>false
theorem at_of_wi {α:Type} {l:List α} {i:Int} (hl:Sm l.length) (h:wi i 0 (w64 ((l.length:Int) - 1))=true):∃ x,at? l i=some x:=by
  rw [kk_ (by omega) (by omega)] at h
  obtain ⟨h1,h2⟩:=wi_iff.1 h
  obtain ⟨x,hx⟩:=dn_ (l:=l) (i:=i.toNat) (by omega)
  exact ⟨x,by rw [show i=((i.toNat:Nat):Int) by omega]; exact am_ hx⟩
theorem qw_ {r:ae_} (hl:Sm r.2.1.length) (th n:Int):gr_ r th n=some (ph_ r.2.1 th n,()):=by
  unfold gr_ ph_
  rw [fe_,Option.bind_some]
  cases h:wi th 0 (w64 ((r.2.1.length:Int) - 1)) with
  | false=>rfl
  | true =>
    obtain ⟨x,hx⟩:=at_of_wi hl h
    simp only [cond_true,hx,Option.bind_some,fe_,Bool.true_and]
theorem sw_ {r:ae_} (hl:Sm r.2.1.length) (th n:Int):im_ r th n=some (ph_ r.2.1 th n,()):=by
  unfold im_ ph_
  rw [iq_,Option.bind_some]
  cases h:wi th 0 (w64 ((r.2.1.length:Int) - 1)) with
  | false=>rfl
  | true =>
    obtain ⟨x,hx⟩:=at_of_wi hl h
    simp only [cond_true,hx,Option.bind_some,iq_,Bool.true_and]
def cOk (things:List io_) (c:List az_):Bool:=decide ((c.length:Int)≤8)&&c.all fun l=>ph_ things l.1 l.2.1
theorem all_not {α:Type} (l:List α) (q:α→Bool):(!(l.any fun x=>!(q x)))=l.all q:=by
  induction l with
  | nil=>rfl
  | cons x l ih =>
    rw [List.any_cons,List.all_cons,← ih]
    cases q x <;> rfl
theorem ju_ {r:ae_} (hl:Sm r.2.1.length) (c:List az_):ev_ r c=some (cOk r.2.1 c,()):=by
  unfold ev_ cOk
  cases h8:decide ((c.length:Int)≤8) with
  | false=>rfl
  | true =>
    have h8:=of_decide_eq_true h8
    simp only [cond_true,Bool.true_and]
    refine Eq.trans (congrArg (fun o=>Option.bind o _) (pb_ (show Sm c.length by omega) (fun l=>!(ph_ r.2.1 l.1 l.2.1)) (fun i y hy => ?_) ?_)) ?_
    · simp only [dlt (ax_ hy),cond_true,am_ hy,Option.bind_some,qw_ hl]
      cases ph_ r.2.1 y.1 y.2.1 <;> rfl
    · simp only [dnl,cond_false]
    · rw [Option.bind_some]
      exact congrArg (fun b=>some (b,())) (all_not c _)
theorem ir_ {r:ae_} (hl:Sm r.2.1.length) {c:List az_} (hc:Sm c.length):dk_ r c=some (cOk r.2.1 c,()):=by
  unfold dk_ cOk
  refine cp_ c (fun i l=>cond (ph_ r.2.1 l.1 l.2.1) none (some (Sum.inr (false,()):Unit⊕(Bool×Unit)))) (fun i=>((i:Int),())) (r0:=Sum.inl ()) (fun i y hy => ?_) ?_ ?_
  · have hi:=ax_ hy
    simp only [dlt hi,cond_true,am_ hy,Option.bind_some,cf_ (show Sm i by omega),sw_ hl]
    cases ph_ r.2.1 y.1 y.2.1 <;> rfl
  · simp only [dnl,cond_false]
  · rw [wj_ (q:=fun l:az_=>ph_ r.2.1 l.1 l.2.1)]
    cases c.all fun l=>ph_ r.2.1 l.1 l.2.1 with
    | true=>rw [Bool.and_true]; rfl
    | false=>rw [Bool.and_false]; rfl
theorem play_valid {r:ae_} (hl:Sm r.2.1.length) (c:List az_):mt_ r c=some (cOk r.2.1 c,()):=by
  unfold mt_ cOk
  cases h8:decide ((c.length:Int)≤8) with
  | false=>rfl
  | true =>
    have h8:=of_decide_eq_true h8
    simp only [cond_true,Bool.true_and]
    refine Eq.trans (congrArg (fun o=>Option.bind o _) (pb_ (show Sm c.length by omega) (fun l=>!(ph_ r.2.1 l.1 l.2.1)) (fun i y hy => ?_) ?_)) ?_
    · simp only [dlt (ax_ hy),cond_true,am_ hy,Option.bind_some,oh_,ph_]
      cases h:wi y.1 0 (w64 ((r.2.1.length:Int) - 1)) with
      | false=>rfl
      | true =>
        obtain ⟨x,hx⟩:=at_of_wi hl h
        simp only [Bool.not_true,cond_false,hx,Option.bind_some,Bool.true_and]
        cases wi y.2.1 0 (w64 (x.2.2.1 - 1)) <;> rfl
    · simp only [dnl,cond_false]
    · rw [Option.bind_some]
      exact congrArg (fun b=>some (b,())) (all_not c _)
end Go.Proofs.YtfcgcpjnpdkjmaaGreatDoor.Rx
end
section
namespace Go.Proofs.YtfcgcpjnpdkjmaaGreatDoor.Rx
open Go Go.Proofs.YtfcgcpjnpdkjmaaGreatDoor.Pad Go.Proofs.YtfcgcpjnpdkjmaaGreatDoor.Rex
def prv (l:List Int) (i:Nat):Int:=match i with
  | 0=>-1
  | j+1=>(l[j]?).getD 0
def badP (np:Nat) (l:List Int) (i:Nat) (x:Int):Bool:=decide (x≤prv l i)||decide ((np:Int)≤x)
def badQ (np:Nat) (l:List Int) (i:Nat) (x:Int):Bool:=!(wi x 0 ((np:Int) - 1))||(decide (0<i)&&decide (x≤prv l i))
def mm_ (np:Nat) (l:List Int):Bool:=(ib_ (fun i x=>cond (badP np l i x) (some ()) none) 0 l).isNone
theorem xg_ {α ρ:Type} {q:Nat→α→Bool} {r:ρ}:∀ (l:List α) (i:Nat),ib_ (fun i x=>cond (q i x) (some r) none) i l=cond (ib_ (fun i x=>cond (q i x) (some ()) none) i l).isNone none (some r)
  | [],_=>rfl
  | x::l,i=>by
    unfold ib_
    cases q i x with
    | true=>rfl
    | false=>exact xg_ l (i+1)
theorem scan_iff {α:Type} {q:Nat→α→Bool} (l:List α):(ib_ (fun i x=>cond (q i x) (some ()) none) 0 l).isNone=true↔∀ i x,l[i]?=some x→q i x=false:=by
  rw [Option.isNone_iff_eq_none,km_]
  constructor
  · intro h i x hx
    have:=h i x hx
    rw [Nat.zero_add] at this
    cases hq:q i x with
    | false=>rfl
    | true=>rw [hq] at this; cases this
  · intro h i x hx
    rw [Nat.zero_add,h i x hx]
    rfl
theorem asc_eq (np:Nat) (l:List Int):(ib_ (fun i x=>cond (badQ np l i x) (some ()) none) 0 l).isNone=mm_ np l:=by
  rw [Bool.eq_iff_iff]
  unfold mm_
  rw [scan_iff,scan_iff]
  constructor
  · intro h i x hx
    have h0:=h i x hx
    unfold badQ at h0
    rw [Bool.or_eq_false_iff] at h0
    obtain ⟨h1,h2⟩:=h0
    have h1:wi x 0 ((np:Int) - 1)=true:=by simpa using h1
    obtain ⟨h3,h4⟩:=wi_iff.1 h1
    unfold badP
    rw [Bool.or_eq_false_iff]
    refine ⟨?_,decide_eq_false (by omega)⟩
    cases i with
    | zero=>exact decide_eq_false (by show ¬ x≤-1; omega)
    | succ j =>
      have:decide (0<j+1)=true:=decide_eq_true (by omega)
      rw [this,Bool.true_and] at h2
      exact h2
  · intro h
    have pos:∀ (i:Nat) (x:Int),l[i]?=some x→0≤x∧x<np:=by
      intro i
      induction i with
      | zero =>
        intro x hx
        have h0:=h 0 x hx
        unfold badP at h0
        rw [Bool.or_eq_false_iff] at h0
        have h1:=of_decide_eq_false h0.1
        have h2:=of_decide_eq_false h0.2
        have h1:¬ x≤-1:=h1
        omega
      | succ j ih =>
        intro x hx
        have h0:=h (j+1) x hx
        unfold badP at h0
        rw [Bool.or_eq_false_iff] at h0
        have h1:=of_decide_eq_false h0.1
        have h2:=of_decide_eq_false h0.2
        obtain ⟨y,hy⟩:=dn_ (l:=l) (i:=j) (by have:=ax_ hx; omega)
        have h3:=ih y hy
        have h1:¬ x≤(l[j]?).getD 0:=h1
        rw [hy] at h1
        have h1:¬ x≤y:=h1
        omega
    intro i x hx
    have h0:=h i x hx
    unfold badP at h0
    rw [Bool.or_eq_false_iff] at h0
    have hp:=pos i x hx
    unfold badQ
    have:wi x 0 ((np:Int) - 1)=true:=wi_iff.2 ⟨hp.1,by omega⟩
    rw [this,h0.1,Bool.and_false]
    rfl
theorem tz_ {r:ae_} {l:List Int} (hl:Sm l.length):iw_ r l=some (mm_ r.2.2.1.length l,()):=by
  unfold iw_
  refine cp_ l (fun i x=>cond (badP r.2.2.1.length l i x) (some (Sum.inr (false,()):Unit⊕(Bool×Unit))) none) (fun i=>(prv l i,((i:Int),()))) (r0:=Sum.inl ()) (fun i y hy => ?_) ?_ ?_
  · have hi:=ax_ hy
    simp only [dlt hi,cond_true,am_ hy,Option.bind_some,cf_ (show Sm i by omega),badP]
    have hn:prv l (i+1)=y:=by show (l[i]?).getD 0=y; rw [hy]; rfl
    cases decide (y≤prv l i) with
    | true=>rfl
    | false =>
      simp only [cond_false,Bool.false_or,Option.bind_some,hn]
      cases decide ((r.2.2.1.length:Int)≤y) <;> rfl
  · simp only [dnl,cond_false]
  · rw [xg_]
    unfold mm_
    cases (ib_ (fun i x=>cond (badP r.2.2.1.length l i x) (some ()) none) 0 l).isNone <;> rfl
theorem lw_ {r:ae_} (hp:Sm r.2.2.1.length) {l:List Int} (hl:Sm l.length):ej_ r l=some (mm_ r.2.2.1.length l,()):=by
  unfold ej_
  refine cp_ l (fun i x=>cond (badQ r.2.2.1.length l i x) (some (Sum.inr (false,()):Unit⊕(Bool×Unit))) none) (fun i=>((i:Int),())) (r0:=Sum.inl ()) (fun i y hy => ?_) ?_ ?_
  · have hi:=ax_ hy
    rw [show w64 ((r.2.2.1.length:Int) - 1)=(r.2.2.1.length:Int) - 1 from kk_ (by omega) (by omega)]
    simp only [dlt hi,cond_true,am_ hy,Option.bind_some,cf_ (show Sm i by omega),iq_,badQ]
    cases wi y 0 ((r.2.2.1.length:Int) - 1) with
    | false=>rfl
    | true =>
      simp only [Bool.not_true,cond_false,Bool.false_or]
      cases i with
      | zero=>rfl
      | succ j =>
        obtain ⟨z,hz⟩:=dn_ (l:=l) (i:=j) (by omega)
        have e:w64 (((j+1:Nat):Int) - 1)=(j:Int):=by rw [kk_ (by omega) (by omega)]; omega
        have hn:prv l (j+1)=z:=by show (l[j]?).getD 0=z; rw [hz]; rfl
        rw [show decide (0<((j+1:Nat):Int))=true from decide_eq_true (by omega),e,am_ hz,hn,show decide (0<j+1)=true from decide_eq_true (by omega)]
        simp only [cond_true,Option.bind_some,Bool.true_and]
        cases decide (y≤z) <;> rfl
  · simp only [dnl,cond_false]
  · rw [xg_,asc_eq]
    cases mm_ r.2.2.1.length l <;> rfl
end Go.Proofs.YtfcgcpjnpdkjmaaGreatDoor.Rx
end
section
set_option maxRecDepth 100000
set_option maxHeartbeats 0
namespace Go.Proofs.YtfcgcpjnpdkjmaaGreatDoor.Rx
open Go Go.Proofs.YtfcgcpjnpdkjmaaGreatDoor.Pad Go.Proofs.YtfcgcpjnpdkjmaaGreatDoor.Rex Go.Proofs
def an_74:An:=(.p .z (.p (.j0 [.v 49 .bool] .z .z) (.p .z (.p (.p .z (.ls [.v 54 .int] [] [] 0 .z)) (.p .z (.p (.p .z (.ls [.v 74 .int] [] [] 2 (.p .z (.p .z (.p (.p .z (.j0 [.v 108 .bool] .z .z)) .z))))) (.p (.p .z (.ls [.v 113 .int] [] [] 4 (.p .z (.p .z (.p (.p .z (.p (.j0 [.v 137 .bool] .z .z) .z)) .z))))) (.p (.p .z (.ls [.v 147 .int] [] [] 6 (.p .z (.p .z (.p (.p .z (.p (.j0 [.v 169 .bool] .z .z) .z)) .z))))) (.p (.p .z (.ls [.v 179 .int] [] [] 8 .z)) (.p (.p .z (.ls [.v 198 .int] [] [] 10 .z)) .z))))))))))
def at_74:FuncId→An:=fun k=>cond (Nat.beq k 141) (.p .z (.j0 [.v 6 .bool] .z .z)) (cond (Nat.beq k 143) (.p .z (.j0 [.v 6 .bool] .z .z)) (cond (Nat.beq k 145) (.p .z (.j0 [.v 6 .bool] .z .z)) (cond (Nat.beq k 207) (.p .z (.j0 [.v 6 .int] .z .z)) (cond (Nat.beq k 208) (.p .z (.j0 [.v 6 .int] .z .z)) (cond (Nat.beq k 209) (.p .z (.j0 [.v 6 .int] .z .z)) (cond (Nat.beq k 259) (.p .z (.p (.p .z (.ls [.v 8 .int] [] [] 0 .z)) .z)) (cond (Nat.beq k 260) (.p .z (.p (.q [] .z .z) .z)) (cond (Nat.beq k 261) (.p .z (.p (.p .z (.ls [.v 8 .int] [] [] 0 .z)) .z)) (cond (Nat.beq k 262) (.p .z (.p (.q [] .z .z) .z)) (cond (Nat.beq k 263) (.p .z (.p (.p .z (.ls [.v 8 .int] [] [] 0 .z)) .z)) (cond (Nat.beq k 264) (.p .z (.p (.q [] .z .z) .z)) (.z))))))))))))
noncomputable def cs_74:List (Con Tryz.prog):=[c_140,c_142,c_144,c_146,c_147,c_148,c_149,c_206]
noncomputable def cl_74:List (Cpy Tryz.prog):=[]
noncomputable def cx_74:Cx Tryz.prog:=cxI at_74 (fun k=>Nat.beq k 140||Nat.beq k 142||Nat.beq k 144||Nat.beq k 146||Nat.beq k 147||Nat.beq k 148||Nat.beq k 149||Nat.beq k 206||false) (cxC cs_74 cl_74) 12
noncomputable def gs_ (a0:ae_):Option (Int×Unit) :=
 (((cond (decide (8<(a0.1.length:Int)))
 (some (true,()))
 (cond (decide (12<(a0.2.1.length:Int)))
 (some (true,()))
 (cond (decide (10<(a0.2.2.1.length:Int)))
 (some (true,()))
 (cond (decide (16<(a0.2.2.2.1.length:Int)))
 (some (true,()))
 (cond (decide (24<(a0.2.2.2.2.1.length:Int)))
 (some (true,()))
 (some ((decide (12<(a0.2.2.2.2.2.1.length:Int))),())))))))).bind fun v0 =>
 (cond v0.1
 (some (2,()))
 ((af_ (ρ:=(Unit⊕(Int×Unit))) (fun (v1:(Int×Unit)) =>
 (cond (decide (v1.1<(a0.1.length:Int)))
 ((at? a0.1 v1.1).bind fun v2 =>
 ((sub? a0.1 0 v1.1).bind fun v3 =>
 ((((gq_ v2).bind fun v4 =>
 (cond v4.1
 (cond (decide ((v2.length:Int)≤12))
 ((((af_ (ρ:=(Unit⊕(Int×Unit))) (fun (v5:(Int×Unit)) =>
 (cond (decide (v5.1<(v3.length:Int)))
 ((at? v3 v5.1).bind fun v6 =>
 (cond (v6==v2)
 (some (Sum.inr (Sum.inr (v5.1,()))))
 (some (Sum.inl ((w64 (v5.1+1)),())))))
 (some (Sum.inr (Sum.inl ()))))) (0,())).bind fun v7 =>
 (de_ v7 (fun v8=>(some ((-1),())))
 (fun v9=>(some v9))))).bind fun v10 =>
 (some ((decide (v10.1<0)),())))
 (some (false,())))
 (some (false,()))))).bind fun v11 =>
 (cond (!v11.1)
 (some (Sum.inr (Sum.inr (22,()))))
 (some (Sum.inl ((w64 (v1.1+1)),())))))))
 (some (Sum.inr (Sum.inl ()))))) (0,())).bind fun v12 =>
 (de_ v12 (fun v13=>(cond ((a0.1.length:Int)==0)
 (some (22,()))
 ((af_ (ρ:=(Unit⊕(Int×Unit))) (fun (v15:(Int×Unit)) =>
 (cond (decide (v15.1<(a0.2.1.length:Int)))
 ((at? a0.2.1 v15.1).bind fun v16 =>
 ((((sub? a0.2.1 0 v15.1).bind fun v17 =>
 ((((gq_ v16.1).bind fun v18 =>
 (cond v18.1
 (cond (decide ((v16.1.length:Int)≤12))
 ((((af_ (ρ:=(Unit⊕(Int×Unit))) (fun (v19:(Int×Unit)) =>
 (cond (decide (v19.1<(v17.length:Int)))
 ((at? v17 v19.1).bind fun v20 =>
 (cond (v20.1==v16.1)
 (some (Sum.inr (Sum.inr (v19.1,()))))
 (some (Sum.inl ((w64 (v19.1+1)),())))))
 (some (Sum.inr (Sum.inl ()))))) (0,())).bind fun v21 =>
 (de_ v21 (fun v22=>(some ((-1),())))
 (fun v23=>(some v23))))).bind fun v24 =>
 (some ((decide (v24.1<0)),())))
 (some (false,())))
 (some (false,()))))).bind fun v25 =>
 (cond (!v25.1)
 (some (true,()))
 ((bl_ v16.2.1 0 (w64 ((a0.1.length:Int) - 1))).bind fun v26 =>
 (cond (!v26.1)
 (some (true,()))
 ((bl_ v16.2.2.1 2 6).bind fun v27 =>
 (cond (!v27.1)
 (some (true,()))
 ((bl_ v16.2.2.2 0 (w64 (v16.2.2.1 - 1))).bind fun v28 =>
 (some ((!v28.1),()))))))))))).bind fun v29 =>
 (cond v29.1
 (some (Sum.inr (Sum.inr (21,()))))
 (some (Sum.inl ((w64 (v15.1+1)),()))))))
 (some (Sum.inr (Sum.inl ()))))) (0,())).bind fun v30 =>
 (de_ v30 (fun v31=>((af_ (ρ:=(Unit⊕(Int×Unit))) (fun (v33:(Int×Unit)) =>
 (cond (decide (v33.1<(a0.2.2.1.length:Int)))
 ((at? a0.2.2.1 v33.1).bind fun v34 =>
 ((((sub? a0.2.2.1 0 v33.1).bind fun v35 =>
 ((((gq_ v34.1).bind fun v36 =>
 (cond v36.1
 (cond (decide ((v34.1.length:Int)≤12))
 ((((af_ (ρ:=(Unit⊕(Int×Unit))) (fun (v37:(Int×Unit)) =>
 (cond (decide (v37.1<(v35.length:Int)))
 ((at? v35 v37.1).bind fun v38 =>
 (cond (v38.1==v34.1)
 (some (Sum.inr (Sum.inr (v37.1,()))))
 (some (Sum.inl ((w64 (v37.1+1)),())))))
 (some (Sum.inr (Sum.inl ()))))) (0,())).bind fun v39 =>
 (de_ v39 (fun v40=>(some ((-1),())))
 (fun v41=>(some v41))))).bind fun v42 =>
 (some ((decide (v42.1<0)),())))
 (some (false,())))
 (some (false,()))))).bind fun v43 =>
 (cond (!v43.1)
 (some (true,()))
 ((bl_ v34.2.1 0 (w64 ((a0.1.length:Int) - 1))).bind fun v44 =>
 (cond (!v44.1)
 (some ((v34.2.1 != (-1)),()))
 (some (false,())))))))).bind fun v45 =>
 (cond v45.1
 (some (Sum.inr (Sum.inr (24,()))))
 ((ev_ a0 v34.2.2).bind fun v46 =>
 (cond (!v46.1)
 (some (Sum.inr (Sum.inr (25,()))))
 (some (Sum.inl ((w64 (v33.1+1)),()))))))))
 (some (Sum.inr (Sum.inl ()))))) (0,())).bind fun v47 =>
 (de_ v47 (fun v48=>((af_ (ρ:=(Unit⊕(Int×Unit))) (fun (v50:(Int×Unit)) =>
 (cond (decide (v50.1<(a0.2.2.2.1.length:Int)))
 ((at? a0.2.2.2.1 v50.1).bind fun v51 =>
 ((((bl_ v51.1 0 (w64 ((a0.1.length:Int) - 1))).bind fun v52 =>
 (cond (!v52.1)
 (some (true,()))
 ((bl_ v51.2.1 0 (w64 ((a0.1.length:Int) - 1))).bind fun v53 =>
 (cond (!v53.1)
 (some (true,()))
 (some ((v51.1==v51.2.1),()))))))).bind fun v54 =>
 (cond v54.1
 (some (Sum.inr (Sum.inr (23,()))))
 ((ev_ a0 v51.2.2).bind fun v55 =>
 (cond (!v55.1)
 (some (Sum.inr (Sum.inr (25,()))))
 (some (Sum.inl ((w64 (v50.1+1)),()))))))))
 (some (Sum.inr (Sum.inl ()))))) (0,())).bind fun v56 =>
 (de_ v56 (fun v57=>((af_ (ρ:=(Unit⊕(Int×Unit))) (fun (v59:(Int×Unit)) =>
 (cond (decide (v59.1<(a0.2.2.2.2.1.length:Int)))
 ((at? a0.2.2.2.2.1 v59.1).bind fun v60 =>
 ((re_ a0 v59.1 v60).bind fun v61 =>
 (cond (!v61.1)
 (some (Sum.inr (Sum.inr (26,()))))
 ((ev_ a0 v60.2.2.2.2.1).bind fun v62 =>
 (cond (!v62.1)
 (some (Sum.inr (Sum.inr (25,()))))
 (some (Sum.inl ((w64 (v59.1+1)),()))))))))
 (some (Sum.inr (Sum.inl ()))))) (0,())).bind fun v63 =>
 (de_ v63 (fun v64=>((af_ (ρ:=(Unit⊕(Int×Unit))) (fun (v66:(Int×Unit)) =>
 (cond (decide (v66.1<(a0.2.2.2.2.2.1.length:Int)))
 ((at? a0.2.2.2.2.2.1 v66.1).bind fun v67 =>
 ((gr_ a0 v67.2.1 v67.2.2).bind fun v68 =>
 (cond (!v68.1)
 (some (Sum.inr (Sum.inr (27,()))))
 ((ev_ a0 v67.1).bind fun v69 =>
 (cond (!v69.1)
 (some (Sum.inr (Sum.inr (25,()))))
 (some (Sum.inl ((w64 (v66.1+1)),()))))))))
 (some (Sum.inr (Sum.inl ()))))) (0,())).bind fun v70 =>
 (de_ v70 (fun v71=>((bl_ a0.2.2.2.2.2.2.1 1 4).bind fun v73 =>
 (cond (!v73.1)
 (some (1,()))
 ((ev_ a0 a0.2.2.2.2.2.2.2).bind fun v74 =>
 (cond (!v74.1)
 (some (25,()))
 (some (0,())))))))
 (fun v72=>(some v72)))))
 (fun v65=>(some v65)))))
 (fun v58=>(some v58)))))
 (fun v49=>(some v49)))))
 (fun v32=>(some v32))))))
 (fun v14=>(some v14))))))
theorem x_74:ch_ cx_74 an_74 74 [ay_] [.int]=fun x=>gs_ x.1:=by kernel_rfl
noncomputable def c_74:Con Tryz.prog:=ck_ _ _ 74 [ay_] [.int] _ x_74
def an_85:An:=(.p .z (.p (.j0 [.v 46 .bool] .z .z) (.p .z (.p (.p .z (.ls [.v 3 .int] [] [] 0 (.p .z (.p (.j0 [.v 70 .bool] .z .z) .z)))) (.p .z (.p (.p .z (.ls [.r 4 .str 9,.v 5 .int] [] [] 2 (.p .z (.p (.p .z (.p .z (.j0 [.v 118 .bool] .z .z))) .z)))) (.p .z (.p (.p .z (.ls [.r 4 .str 9,.v 7 .int] [] [] 4 (.p .z (.p (.p .z (.p .z (.p (.j0 [.v 156 .bool] .z .z) .z))) .z)))) (.p (.p .z (.ls [.v 9 .int] [] [] 6 (.p .z (.p (.p .z (.p (.j0 [.v 192 .bool] .z .z) .z)) .z)))) (.p (.p .z (.ls [.v 11 .int] [] [] 8 (.p .z (.p (.p .z (.p (.q [] .z .z) .z)) .z)))) (.p (.p .z (.ls [.v 12 .int] [] [] 10 (.p .z (.p (.p (.p (.q [] .z .z) .z) (.p (.q [] .z .z) .z)) .z)))) .z)))))))))))
noncomputable def cs_85:List (Con Tryz.prog):=[c_89,c_91,c_92,c_93,c_163,c_164,c_165]
noncomputable def cl_85:List (Cpy Tryz.prog):=[]
noncomputable def cx_85:Cx Tryz.prog:=cxC cs_85 cl_85
noncomputable def jm_ (a0:ae_):Option (Int×Unit) :=
 (((cond (decide (8<(a0.1.length:Int)))
 (some (true,()))
 (cond (decide (12<(a0.2.1.length:Int)))
 (some (true,()))
 (cond (decide (10<(a0.2.2.1.length:Int)))
 (some (true,()))
 (cond (decide (16<(a0.2.2.2.1.length:Int)))
 (some (true,()))
 (cond (decide (24<(a0.2.2.2.2.1.length:Int)))
 (some (true,()))
 (some ((decide (12<(a0.2.2.2.2.2.1.length:Int))),())))))))).bind fun v0 =>
 (cond v0.1
 (some (2,()))
 (cond ((a0.1.length:Int)==0)
 (some (22,()))
 ((af_ (ρ:=(Unit⊕(Int×Unit))) (fun (v1:(Int×Unit)) =>
 (cond (decide (v1.1<(a0.1.length:Int)))
 ((((at? a0.1 v1.1).bind fun v2 =>
 ((ex_ v2).bind fun v3 =>
 (cond (!v3.1)
 (some (true,()))
 ((he_ a0.1 v1.1).bind fun v4 =>
 (some (v4.1,()))))))).bind fun v5 =>
 (cond v5.1
 (some (Sum.inr (Sum.inr (22,()))))
 (some (Sum.inl ((w64 (v1.1+1)),())))))
 (some (Sum.inr (Sum.inl ()))))) (0,())).bind fun v6 =>
 (de_ v6 (fun v7=>((af_ (ρ:=(Unit⊕(Int×Unit))) (fun (v9:((List (List UInt8))×(Int×Unit))) =>
 (cond (decide (v9.2.1<(a0.2.1.length:Int)))
 ((at? a0.2.1 v9.2.1).bind fun v10 =>
 ((push? (α:=(List UInt8)) v9.1 [v10.1]).bind fun v11 =>
 ((((ex_ v10.1).bind fun v12 =>
 (cond (!v12.1)
 (some (true,()))
 ((he_ v11 v9.2.1).bind fun v13 =>
 (cond v13.1
 (some (true,()))
 ((dj_ a0 v10.2.1).bind fun v14 =>
 (cond (!v14.1)
 (some (true,()))
 ((dq_ v10.2.2.1 2 6).bind fun v15 =>
 (cond (!v15.1)
 (some (true,()))
 ((dq_ v10.2.2.2 0 (w64 (v10.2.2.1 - 1))).bind fun v16 =>
 (some ((!v16.1),())))))))))))).bind fun v17 =>
 (cond v17.1
 (some (Sum.inr (Sum.inr (21,()))))
 (some (Sum.inl (v11,((w64 (v9.2.1+1)),()))))))))
 (some (Sum.inr (Sum.inl ()))))) ([],(0,()))).bind fun v18 =>
 (de_ v18 (fun v19=>((af_ (ρ:=(Unit⊕(Int×Unit))) (fun (v21:((List (List UInt8))×(Int×Unit))) =>
 (cond (decide (v21.2.1<(a0.2.2.1.length:Int)))
 ((at? a0.2.2.1 v21.2.1).bind fun v22 =>
 ((push? (α:=(List UInt8)) v21.1 [v22.1]).bind fun v23 =>
 ((((ex_ v22.1).bind fun v24 =>
 (cond (!v24.1)
 (some (true,()))
 ((he_ v23 v21.2.1).bind fun v25 =>
 (cond v25.1
 (some (true,()))
 (cond (v22.2.1 != (-1))
 ((dj_ a0 v22.2.1).bind fun v26 =>
 (some ((!v26.1),())))
 (some (false,())))))))).bind fun v27 =>
 (cond v27.1
 (some (Sum.inr (Sum.inr (24,()))))
 ((dk_ a0 v22.2.2).bind fun v28 =>
 (cond (!v28.1)
 (some (Sum.inr (Sum.inr (25,()))))
 (some (Sum.inl (v23,((w64 (v21.2.1+1)),()))))))))))
 (some (Sum.inr (Sum.inl ()))))) ([],(0,()))).bind fun v29 =>
 (de_ v29 (fun v30=>((af_ (ρ:=(Unit⊕(Int×Unit))) (fun (v32:(Int×Unit)) =>
 (cond (decide (v32.1<(a0.2.2.2.1.length:Int)))
 ((at? a0.2.2.2.1 v32.1).bind fun v33 =>
 ((((dj_ a0 v33.1).bind fun v34 =>
 (cond (!v34.1)
 (some (true,()))
 ((dj_ a0 v33.2.1).bind fun v35 =>
 (cond (!v35.1)
 (some (true,()))
 (some ((v33.1==v33.2.1),()))))))).bind fun v36 =>
 (cond v36.1
 (some (Sum.inr (Sum.inr (23,()))))
 ((dk_ a0 v33.2.2).bind fun v37 =>
 (cond (!v37.1)
 (some (Sum.inr (Sum.inr (25,()))))
 (some (Sum.inl ((w64 (v32.1+1)),()))))))))
 (some (Sum.inr (Sum.inl ()))))) (0,())).bind fun v38 =>
 (de_ v38 (fun v39=>((af_ (ρ:=(Unit⊕(Int×Unit))) (fun (v41:(Int×Unit)) =>
 (cond (decide (v41.1<(a0.2.2.2.2.1.length:Int)))
 ((oq_ a0 v41.1).bind fun v42 =>
 (cond (!v42.1)
 (some (Sum.inr (Sum.inr (26,()))))
 ((at? a0.2.2.2.2.1 v41.1).bind fun v43 =>
 ((dk_ a0 v43.2.2.2.2.1).bind fun v44 =>
 (cond (!v44.1)
 (some (Sum.inr (Sum.inr (25,()))))
 (some (Sum.inl ((w64 (v41.1+1)),()))))))))
 (some (Sum.inr (Sum.inl ()))))) (0,())).bind fun v45 =>
 (de_ v45 (fun v46=>((af_ (ρ:=(Unit⊕(Int×Unit))) (fun (v48:(Int×Unit)) =>
 (cond (decide (v48.1<(a0.2.2.2.2.2.1.length:Int)))
 ((at? a0.2.2.2.2.2.1 v48.1).bind fun v49 =>
 ((at? a0.2.2.2.2.2.1 v48.1).bind fun v50 =>
 ((im_ a0 v49.2.1 v50.2.2).bind fun v51 =>
 (cond (!v51.1)
 (some (Sum.inr (Sum.inr (27,()))))
 ((at? a0.2.2.2.2.2.1 v48.1).bind fun v52 =>
 ((dk_ a0 v52.1).bind fun v53 =>
 (cond (!v53.1)
 (some (Sum.inr (Sum.inr (25,()))))
 (some (Sum.inl ((w64 (v48.1+1)),()))))))))))
 (some (Sum.inr (Sum.inl ()))))) (0,())).bind fun v54 =>
 (de_ v54 (fun v55=>((dq_ a0.2.2.2.2.2.2.1 1 4).bind fun v57 =>
 (cond (!v57.1)
 (some (1,()))
 ((dk_ a0 a0.2.2.2.2.2.2.2).bind fun v58 =>
 (cond (!v58.1)
 (some (25,()))
 (some (0,())))))))
 (fun v56=>(some v56)))))
 (fun v47=>(some v47)))))
 (fun v40=>(some v40)))))
 (fun v31=>(some v31)))))
 (fun v20=>(some v20)))))
 (fun v8=>(some v8)))))))
theorem x_85:ch_ cx_85 an_85 85 [ay_] [.int]=fun x=>jm_ x.1:=by kernel_rfl
noncomputable def c_85:Con Tryz.prog:=ck_ _ _ 85 [ay_] [.int] _ x_85
end Go.Proofs.YtfcgcpjnpdkjmaaGreatDoor.Rx
end
section
namespace Go.Proofs.YtfcgcpjnpdkjmaaGreatDoor.Rx
open Go Go.Proofs.YtfcgcpjnpdkjmaaGreatDoor.Pad Go.Proofs.YtfcgcpjnpdkjmaaGreatDoor.Rex
theorem qr_ {α:Type} {l:List α} {i:Nat} (h:i≤l.length):sub? l 0 (i:Int)=some (l.take i):=by
  unfold sub?
  rw [if_pos ⟨Int.le_refl 0,by omega,by omega⟩]
  simp
def twN {α:Type} (nm:α→List UInt8) (l:List α) (i:Nat) (t:List UInt8):Bool:=(l.take i).any fun y=>nm y==t
theorem rw_ {l:List (List UInt8)} {i:Nat} {x:List UInt8} (hl:Sm l.length) (hx:l[i]?=some x):he_ l (i:Int)=some (twN id l i x,()):=by
  have hi:=ax_ hx
  have hle:(l.take i).length=i:=by rw [List.length_take]; omega
  unfold he_
  refine cp_ (l.take i) (fun _ y=>cond (id y==x) (some (Sum.inr (true,()):Unit⊕(Bool×Unit))) none) (fun i=>((i:Int),())) (r0:=Sum.inl ()) (fun k y hy => ?_) ?_ ?_
  · have hk:=ax_ hy
    have hy':l[k]?=some y:=by
      rw [List.getElem?_take] at hy
      split at hy
      · exact hy
      · cases hy
    simp only [dlt (show k<i by omega),cond_true,am_ hy',am_ hx,Option.bind_some,cf_ (show Sm k by omega),id]
    cases y==x <;> rfl
  · rw [hle]
    simp only [dnl,cond_false]
  · rw [jd_ (q:=fun y=>id y==x)]
    unfold twN
    cases (l.take i).any fun y=>id y==x <;> rfl
theorem jv_ {r:ae_} (p:Int):dj_ r p=some (wi p 0 (w64 ((r.1.length:Int) - 1)),()):=by
  unfold dj_
  rw [iq_,Option.bind_some]
structure SmR (r:ae_):Prop where
  pl:Sm r.1.length
  th:Sm r.2.1.length
  pr:Sm r.2.2.1.length
  wy:Sm r.2.2.2.1.length
  ac:Sm r.2.2.2.2.1.length
  au:Sm r.2.2.2.2.2.1.length
  go:Sm r.2.2.2.2.2.2.2.length
  pln:∀ x ∈ r.1,Sm x.length
  thn:∀ x ∈ r.2.1,Sm x.1.length
  prn:∀ x ∈ r.2.2.1,Sm x.1.length∧Sm x.2.2.length
  wyn:∀ x ∈ r.2.2.2.1,Sm x.2.2.length
  acn:∀ x ∈ r.2.2.2.2.1,Sm x.1.length∧Sm x.2.2.2.1.length∧Sm x.2.2.2.2.1.length∧Sm x.2.2.2.2.2.1.length∧Sm x.2.2.2.2.2.2.1.length∧Sm x.2.2.2.2.2.2.2.length
  aun:∀ x ∈ r.2.2.2.2.2.1,Sm x.1.length
theorem cj_ {α:Type} {l:List α} {i:Nat} {x:α} (h:l[i]?=some x):x ∈ l:=List.mem_of_getElem? h
def te_ (r:ae_) (p:Int):Bool:=wi p 0 (w64 ((r.1.length:Int) - 1))
def frN {α:Type} (nm:α→List UInt8) (l:List α) (i:Nat) (t:List UInt8):Bool:=okN t&&!(twN nm l i t)
def plOk (r:ae_) (i:Nat) (x:List UInt8):Bool:=frN id r.1 i x
def thOk (r:ae_) (i:Nat) (x:io_):Bool:=frN (·.1) r.2.1 i x.1&&(te_ r x.2.1&&(wi x.2.2.1 2 6&&wi x.2.2.2 0 (w64 (x.2.2.1 - 1))))
def prOk (r:ae_) (i:Nat) (x:ls_):Bool:=frN (·.1) r.2.2.1 i x.1&&(te_ r x.2.1||x.2.1==(-1))
def wyOk (r:ae_) (x:qh_):Bool:=te_ r x.1&&(te_ r x.2.1&&!(x.1==x.2.1))
def tv_ (a:Bool) (e:Int) (b:Bool) (f:Int):Option Int:=cond a (cond b none (some f)) (some e)
def mf_ (a:Bool) (e:Int):Option Int:=cond a none (some e)
def left (o:Option Int):Unit⊕(Int×Unit):=match o with
  | none=>.inl ()
  | some e=>.inr (e,())
theorem left_map (o:Option Int):(o.map fun e=>(Sum.inr (e,()):Unit⊕(Int×Unit))).getD (Sum.inl ())=left o:=by cases o <;> rfl
theorem ce_ {α:Type} (l:List α) (p:Nat→α→Option Int) {body:(Int×Unit)→Option ((Int×Unit)⊕(Unit⊕(Int×Unit)))} {τ:Type} {K:(Unit⊕(Int×Unit))→Option τ} {x:Option τ}
    (h:∀ (i:Nat) y,l[i]?=some y→body ((i:Int),())=some (match p i y with | none=>.inl (((i+1:Nat):Int),()) | some e=>.inr (.inr (e,())))) (e:body ((l.length:Int),())=some (.inr (.inl ()))) (hk:K (left (ib_ p 0 l))=x) :
    (af_ body (0,())).bind K=x:=by
  refine cp_ l (fun i y=>(p i y).map fun e=>(Sum.inr (e,()):Unit⊕(Int×Unit))) (fun i=>((i:Int),())) (r0:=Sum.inl ()) (fun i y hy => ?_) e ?_
  · rw [h i y hy]
    cases p i y <;> rfl
  · rw [scan_map,left_map]
    exact hk
theorem bind_left2 {α β:Type} (l:List α) (p:Nat→α→Option Int) (F:Nat→β) {body:(β×(Int×Unit))→Option ((β×(Int×Unit))⊕(Unit⊕(Int×Unit)))} {τ:Type} {K:(Unit⊕(Int×Unit))→Option τ} {x:Option τ} {b0:β} (h0:F 0=b0)
    (h:∀ (i:Nat) y,l[i]?=some y→body (F i,((i:Int),()))=some (match p i y with | none=>.inl (F (i+1),(((i+1:Nat):Int),())) | some e=>.inr (.inr (e,())))) (e:body (F l.length,((l.length:Int),()))=some (.inr (.inl ()))) (hk:K (left (ib_ p 0 l))=x) :
    (af_ body (b0,(0,()))).bind K=x:=by
  subst h0
  refine cp_ l (fun i y=>(p i y).map fun e=>(Sum.inr (e,()):Unit⊕(Int×Unit))) (fun i=>(F i,((i:Int),()))) (r0:=Sum.inl ()) (fun i y hy => ?_) e ?_
  · rw [h i y hy]
    cases p i y <;> rfl
  · rw [scan_map,left_map]
    exact hk
theorem gb_ {o:Option Int} {K:Unit→Option (Int×Unit)} {k:Int} (h:K ()=some (k,())):de_ (left o) K (fun y=>some y)=some (o.getD k,()):=by
  cases o with
  | none=>exact h
  | some e=>rfl
end Go.Proofs.YtfcgcpjnpdkjmaaGreatDoor.Rx
end
section
namespace Go.Proofs.YtfcgcpjnpdkjmaaGreatDoor.Rx
open Go Go.Proofs.YtfcgcpjnpdkjmaaGreatDoor.Pad Go.Proofs.YtfcgcpjnpdkjmaaGreatDoor.Rex
def sr_ (r:ae_) (l:List ag_) (i:Nat) (x:ag_):Bool:=ph_ r.2.1 x.1 x.2&&!((l.take i).any fun y=>y.1==x.1)
def wc_ (r:ae_) (i:Nat) (a:dr_):Bool :=
  frN (·.1) r.2.2.2.2.1 i a.1&&(te_ r a.2.1&&(wi a.2.2.1 (-1) 7&&(mm_ r.2.2.1.length a.2.2.2.1&&(mm_ r.2.2.1.length a.2.2.2.2.2.2.1&&(mm_ r.2.2.1.length a.2.2.2.2.2.2.2&&(!(decide (6<(a.2.2.2.2.2.1.length:Int)))
    && ((a.2.2.2.2.2.2.1.all fun p=>a.2.2.2.1.contains p)&&(!(a.2.2.2.2.2.2.2.any fun p=>a.2.2.2.1.contains p)
      && (ib_ (fun i x=>cond (sr_ r a.2.2.2.2.2.1 i x) none (some ())) 0 a.2.2.2.2.2.1).isNone))))))))
theorem ty_ {α ρ:Type} {q:Nat→α→Bool} {r:ρ}:∀ (l:List α) (i:Nat),ib_ (fun i x=>cond (q i x) none (some r)) i l=cond (ib_ (fun i x=>cond (q i x) none (some ())) i l).isNone none (some r)
  | [],_=>rfl
  | x::l,i=>by
    unfold ib_
    cases q i x with
    | false=>rfl
    | true=>exact ty_ l (i+1)
theorem wp_ {α:Type} {l:List α} (hl:Sm l.length) (nm:α→List UInt8) {t:List UInt8} (ht:Sm t.length) :
    ((gq_ t).bind fun v1=>cond v1.1 (cond (decide ((t.length:Int)≤12)) ((((af_ (ρ:=Unit⊕(Int×Unit)) (fun (v:Int×Unit)=>cond (decide (v.1<(l.length:Int))) ((at? l v.1).bind fun y=>cond (nm y==t) (some (Sum.inr (Sum.inr (v.1,())))) (some (Sum.inl (w64 (v.1+1),())))) (some (Sum.inr (Sum.inl ())))) (0,())).bind fun v=>de_ v (fun _=>some ((-1:Int),())) (fun w=>some w))).bind fun v=>some (decide (v.1<0),())) (some (false,()))) (some (false,())))
      = some (okN t&&!(l.any fun y=>nm y==t),()):=by
  rw [room_word ht,Option.bind_some]
  obtain ⟨n,h1,h2,_⟩:=if_lt hl (fun y=>nm y==t) (body:=fun (v:Int×Unit)=>cond (decide (v.1<(l.length:Int))) ((at? l v.1).bind fun y=>cond (nm y==t) (some (Sum.inr (Sum.inr (v.1,())))) (some (Sum.inl (w64 (v.1+1),())))) (some (Sum.inr (Sum.inl ())))) (fun i y hy=>by
    simp only [dlt (ax_ hy),cond_true,am_ hy,Option.bind_some]
    cases nm y==t <;> rfl) (by simp only [dnl,cond_false])
  rw [h1,Option.bind_some,h2]
  unfold okN
  cases okW t with
  | false=>rw [Bool.and_false,Bool.false_and]; rfl
  | true=>cases decide ((t.length:Int)≤12) <;> rfl
theorem xc_ {α:Type} {l:List α} (h:Sm l.length) (i:Nat):Sm (l.take i).length:=by
  rw [List.length_take]
  exact Nat.le_trans (Nat.min_le_right _ _) h
theorem room_act {r:ae_} (h:SmR r) {i:Nat} {a:dr_} (ha:r.2.2.2.2.1[i]?=some a):re_ r (i:Int) a=some (wc_ r i a,()):=by
  have hi:=ax_ ha
  obtain ⟨s1,s2,s3,s4,s5,s6⟩:=h.acn a (cj_ ha)
  unfold re_
  refine Eq.trans (congrArg (fun o=>Option.bind o _) (?_:_=some (!(frN (·.1) r.2.2.2.2.1 i a.1&&(te_ r a.2.1&&wi a.2.2.1 (-1) 7)),()))) ?_
  · rw [qr_ (Nat.le_of_lt hi),Option.bind_some]
    refine Eq.trans (congrArg (fun o=>Option.bind o _) (wp_ (xc_ h.ac i) (·.1) s1)) ?_
    unfold frN twN te_
    rw [Option.bind_some]
    cases okN a.1&&!((r.2.2.2.2.1.take i).any fun y=>y.1==a.1) with
    | false=>rfl
    | true =>
      simp only [fe_,Option.bind_some]
      cases wi a.2.1 0 (w64 ((r.1.length:Int) - 1)) with
      | false=>rfl
      | true=>rfl
  · rw [Option.bind_some]
    unfold wc_
    cases frN (·.1) r.2.2.2.2.1 i a.1 with
    | false=>rfl
    | true =>
    cases te_ r a.2.1 with
    | false=>rfl
    | true =>
    cases wi a.2.2.1 (-1) 7 with
    | false=>rfl
    | true =>
      simp only [Bool.not_true,cond_false,Bool.true_and,tz_ s2,tz_ s5,tz_ s6,Option.bind_some]
      cases mm_ r.2.2.1.length a.2.2.2.1 with
      | false=>rfl
      | true =>
      cases mm_ r.2.2.1.length a.2.2.2.2.2.2.1 with
      | false=>rfl
      | true =>
      cases mm_ r.2.2.1.length a.2.2.2.2.2.2.2 with
      | false=>rfl
      | true =>
      cases h6:decide (6<(a.2.2.2.2.2.1.length:Int)) with
      | true=>rfl
      | false =>
      simp only [Bool.not_true,Bool.not_false,cond_false,Bool.true_and,Option.bind_some]
      refine Eq.trans (congrArg (fun o=>Option.bind o _) (?_:_=some (!((a.2.2.2.2.2.2.1.all fun p=>a.2.2.2.1.contains p)&&!(a.2.2.2.2.2.2.2.any fun p=>a.2.2.2.1.contains p)),()))) ?_
      · refine Eq.trans (congrArg (fun o=>Option.bind o _) (pb_ s5 (fun p=>!(a.2.2.2.1.contains p)) (fun i y hy => ?_) ?_)) ?_
        · simp only [dlt (ax_ hy),cond_true,am_ hy,Option.bind_some,ne_ s2]
          cases a.2.2.2.1.contains y <;> rfl
        · simp only [dnl,cond_false]
        rw [Option.bind_some,← all_not a.2.2.2.2.2.2.1]
        cases a.2.2.2.2.2.2.1.any fun p=>!(a.2.2.2.1.contains p) with
        | true=>rfl
        | false =>
        refine Eq.trans (congrArg (fun o=>Option.bind o _) (pb_ s6 (fun p=>a.2.2.2.1.contains p) (fun i y hy => ?_) ?_)) ?_
        · simp only [dlt (ax_ hy),cond_true,am_ hy,Option.bind_some,ne_ s2]
          cases a.2.2.2.1.contains y <;> rfl
        · simp only [dnl,cond_false]
        cases a.2.2.2.2.2.2.2.any fun p=>a.2.2.2.1.contains p <;> rfl
      · rw [Option.bind_some]
        cases a.2.2.2.2.2.2.1.all fun p=>a.2.2.2.1.contains p with
        | false=>rfl
        | true =>
        cases a.2.2.2.2.2.2.2.any fun p=>a.2.2.2.1.contains p with
        | true=>rfl
        | false =>
          simp only [Bool.not_true,Bool.not_false,cond_false,Bool.true_and]
          refine cp_ a.2.2.2.2.2.1 (fun i x=>cond (sr_ r a.2.2.2.2.2.1 i x) none (some (Sum.inr (false,()):Unit⊕(Bool×Unit)))) (fun i=>((i:Int),())) (r0:=Sum.inl ()) (fun k y hy => ?_) ?_ ?_
          · have hk:=ax_ hy
            simp only [dlt hk,cond_true,am_ hy,Option.bind_some,cf_ (show Sm k by omega),qr_ (Nat.le_of_lt hk)]
            refine Eq.trans (congrArg (fun o=>Option.bind o _) (pb_ (xc_ s4 k) (fun z=>z.1==y.1) (fun n z hz => ?_) ?_)) ?_
            · simp only [dlt (ax_ hz),cond_true,am_ hz,Option.bind_some]
              cases z.1==y.1 <;> rfl
            · simp only [dnl,cond_false]
            · rw [Option.bind_some,qw_ h.th]
              unfold sr_
              cases ph_ r.2.1 y.1 y.2 with
              | false=>rfl
              | true =>
                cases (a.2.2.2.2.2.1.take k).any fun z=>z.1==y.1 <;> rfl
          · simp only [dnl,cond_false]
          · rw [ty_]
            cases (ib_ (fun i x=>cond (sr_ r a.2.2.2.2.2.1 i x) none (some ())) 0 a.2.2.2.2.2.1).isNone <;> rfl
end Go.Proofs.YtfcgcpjnpdkjmaaGreatDoor.Rx
end
section
namespace Go.Proofs.YtfcgcpjnpdkjmaaGreatDoor.Rx
open Go Go.Proofs.YtfcgcpjnpdkjmaaGreatDoor.Pad Go.Proofs.YtfcgcpjnpdkjmaaGreatDoor.Rex
def manyR (r:ae_):Bool:=decide (8<(r.1.length:Int))||(decide (12<(r.2.1.length:Int))||(decide (10<(r.2.2.1.length:Int))||(decide (16<(r.2.2.2.1.length:Int))||(decide (24<(r.2.2.2.2.1.length:Int))||decide (12<(r.2.2.2.2.2.1.length:Int))))))
theorem many_of (r:ae_):(cond (decide (8<(r.1.length:Int)))
 (some (true,()))
 (cond (decide (12<(r.2.1.length:Int)))
 (some (true,()))
 (cond (decide (10<(r.2.2.1.length:Int)))
 (some (true,()))
 (cond (decide (16<(r.2.2.2.1.length:Int)))
 (some (true,()))
 (cond (decide (24<(r.2.2.2.2.1.length:Int)))
 (some (true,()))
 (some ((decide (12<(r.2.2.2.2.2.1.length:Int))),())))))))=some (manyR r,()):=by
  unfold manyR
  cases decide (8<(r.1.length:Int)) with
  | true=>rfl
  | false =>
  cases decide (12<(r.2.1.length:Int)) with
  | true=>rfl
  | false =>
  cases decide (10<(r.2.2.1.length:Int)) with
  | true=>rfl
  | false =>
  cases decide (16<(r.2.2.2.1.length:Int)) with
  | true=>rfl
  | false =>
  cases decide (24<(r.2.2.2.2.1.length:Int)) with
  | true=>rfl
  | false=>rfl
def en_ (r:ae_):Int :=
  cond (manyR r) 2 ((ib_ (fun i x=>mf_ (plOk r i x) 22) 0 r.1).getD
    (cond ((r.1.length:Int)==0) 22 ((ib_ (fun i x=>mf_ (thOk r i x) 21) 0 r.2.1).getD
      ((ib_ (fun i x=>tv_ (prOk r i x) 24 (cOk r.2.1 x.2.2) 25) 0 r.2.2.1).getD
        ((ib_ (fun _ x=>tv_ (wyOk r x) 23 (cOk r.2.1 x.2.2) 25) 0 r.2.2.2.1).getD
          ((ib_ (fun i x=>tv_ (wc_ r i x) 26 (cOk r.2.1 x.2.2.2.2.1) 25) 0 r.2.2.2.2.1).getD
            ((ib_ (fun _ x=>tv_ (ph_ r.2.1 x.2.1 x.2.2) 27 (cOk r.2.1 x.1) 25) 0 r.2.2.2.2.2.1).getD
              (cond (wi r.2.2.2.2.2.2.1 1 4) (cond (cOk r.2.1 r.2.2.2.2.2.2.2) 0 25) 1))))))))
theorem ua_ {r:ae_} (h:SmR r):gs_ r=some (en_ r,()):=by
  unfold gs_
  refine Eq.trans (congrArg (fun o=>Option.bind o _) (many_of r)) ?_
  rw [Option.bind_some]
  unfold en_
  cases manyR r with
  | true=>rfl
  | false =>
  simp only [cond_false]
  refine ce_ r.1 (fun i x=>mf_ (plOk r i x) 22) (fun i y hy => ?_) ?_ (gb_ ?_)
  · have hi:=ax_ hy
    simp only [dlt hi,cond_true,am_ hy,Option.bind_some,cf_ (show Sm i from Nat.le_trans (Nat.le_of_lt hi) h.pl),qr_ (Nat.le_of_lt hi)]
    refine Eq.trans (congrArg (fun o=>Option.bind o _) (wp_ (xc_ h.pl i) id (h.pln y (cj_ hy)))) ?_
    unfold mf_ plOk frN twN
    rw [Option.bind_some]
    cases okN y&&!((r.1.take i).any fun z=>id z==y) <;> rfl
  · simp only [dnl,cond_false]
  cases (r.1.length:Int)==0 with
  | true=>rfl
  | false =>
  simp only [cond_false]
  refine ce_ r.2.1 (fun i x=>mf_ (thOk r i x) 21) (fun i y hy => ?_) ?_ (gb_ ?_)
  · have hi:=ax_ hy
    simp only [dlt hi,cond_true,am_ hy,Option.bind_some,cf_ (show Sm i from Nat.le_trans (Nat.le_of_lt hi) h.th),qr_ (Nat.le_of_lt hi)]
    refine Eq.trans (congrArg (fun o=>Option.bind o _) (Eq.trans (congrArg (fun o=>Option.bind o _) (wp_ (xc_ h.th i) (·.1) (h.thn y (cj_ hy)))) (?_:_=some (!(thOk r i y),())))) ?_
    · simp only [fe_,Option.bind_some]
      unfold thOk frN twN te_
      cases okN y.1&&!((r.2.1.take i).any fun z=>z.1==y.1) with
      | false=>rfl
      | true =>
        cases wi y.2.1 0 (w64 ((r.1.length:Int) - 1)) with
        | false=>rfl
        | true =>
          cases wi y.2.2.1 2 6 with
          | false=>rfl
          | true=>rfl
    · rw [Option.bind_some]
      unfold mf_
      cases thOk r i y <;> rfl
  · simp only [dnl,cond_false]
  refine ce_ r.2.2.1 (fun i x=>tv_ (prOk r i x) 24 (cOk r.2.1 x.2.2) 25) (fun i y hy => ?_) ?_ (gb_ ?_)
  · have hi:=ax_ hy
    simp only [dlt hi,cond_true,am_ hy,Option.bind_some,cf_ (show Sm i from Nat.le_trans (Nat.le_of_lt hi) h.pr),qr_ (Nat.le_of_lt hi)]
    refine Eq.trans (congrArg (fun o=>Option.bind o _) (Eq.trans (congrArg (fun o=>Option.bind o _) (wp_ (xc_ h.pr i) (·.1) (h.prn y (cj_ hy)).1)) (?_:_=some (!(prOk r i y),())))) ?_
    · simp only [fe_,Option.bind_some]
      unfold prOk frN twN te_
      cases okN y.1&&!((r.2.2.1.take i).any fun z=>z.1==y.1) with
      | false=>rfl
      | true =>
        cases wi y.2.1 0 (w64 ((r.1.length:Int) - 1)) with
        | false=>rfl
        | true=>rfl
    · rw [Option.bind_some,ju_ h.th,Option.bind_some]
      unfold tv_
      cases prOk r i y with
      | false=>rfl
      | true=>cases cOk r.2.1 y.2.2 <;> rfl
  · simp only [dnl,cond_false]
  refine ce_ r.2.2.2.1 (fun i x=>tv_ (wyOk r x) 23 (cOk r.2.1 x.2.2) 25) (fun i y hy => ?_) ?_ (gb_ ?_)
  · have hi:=ax_ hy
    simp only [dlt hi,cond_true,am_ hy,Option.bind_some,cf_ (show Sm i from Nat.le_trans (Nat.le_of_lt hi) h.wy)]
    refine Eq.trans (congrArg (fun o=>Option.bind o _) (?_:_=some (!(wyOk r y),()))) ?_
    · simp only [fe_,Option.bind_some]
      unfold wyOk te_
      cases wi y.1 0 (w64 ((r.1.length:Int) - 1)) with
      | false=>rfl
      | true =>
        cases wi y.2.1 0 (w64 ((r.1.length:Int) - 1)) with
        | false=>rfl
        | true=>simp
    · rw [Option.bind_some,ju_ h.th,Option.bind_some]
      unfold tv_
      cases wyOk r y with
      | false=>rfl
      | true=>cases cOk r.2.1 y.2.2 <;> rfl
  · simp only [dnl,cond_false]
  refine ce_ r.2.2.2.2.1 (fun i x=>tv_ (wc_ r i x) 26 (cOk r.2.1 x.2.2.2.2.1) 25) (fun i y hy => ?_) ?_ (gb_ ?_)
  · have hi:=ax_ hy
    simp only [dlt hi,cond_true,am_ hy,Option.bind_some,cf_ (show Sm i from Nat.le_trans (Nat.le_of_lt hi) h.ac),room_act h hy,ju_ h.th]
    unfold tv_
    cases wc_ r i y with
    | false=>rfl
    | true=>cases cOk r.2.1 y.2.2.2.2.1 <;> rfl
  · simp only [dnl,cond_false]
  refine ce_ r.2.2.2.2.2.1 (fun i x=>tv_ (ph_ r.2.1 x.2.1 x.2.2) 27 (cOk r.2.1 x.1) 25) (fun i y hy => ?_) ?_ (gb_ ?_)
  · have hi:=ax_ hy
    simp only [dlt hi,cond_true,am_ hy,Option.bind_some,cf_ (show Sm i from Nat.le_trans (Nat.le_of_lt hi) h.au),qw_ h.th,ju_ h.th]
    unfold tv_
    cases ph_ r.2.1 y.2.1 y.2.2 with
    | false=>rfl
    | true=>cases cOk r.2.1 y.1 <;> rfl
  · simp only [dnl,cond_false]
  rw [fe_,Option.bind_some,ju_ h.th,Option.bind_some]
  cases wi r.2.2.2.2.2.2.1 1 4 with
  | false=>rfl
  | true=>cases cOk r.2.1 r.2.2.2.2.2.2.2 <;> rfl
end Go.Proofs.YtfcgcpjnpdkjmaaGreatDoor.Rx
end
section
namespace Go.Proofs.YtfcgcpjnpdkjmaaGreatDoor.Rx
open Go Go.Proofs.YtfcgcpjnpdkjmaaGreatDoor.Pad Go.Proofs.YtfcgcpjnpdkjmaaGreatDoor.Rex
theorem vl_ {α ρ σ τ:Type} (l:List α) (k:Nat) (hk:k≤l.length) (p:Nat→α→Option ρ) (F:Nat→σ) {r0:ρ} {body:σ→Option (σ⊕ρ)} {K:ρ→Option τ} {x:Option τ}
    (h:∀ i x,i<k→l[i]?=some x→body (F i)=some (match p i x with | none=>.inl (F (i+1)) | some r=>.inr r)) (e:body (F k)=some (.inr r0)) (hx:K ((ib_ p 0 (l.take k)).getD r0)=x) :
    (af_ body (F 0)).bind K=x:=by
  have hle:(l.take k).length=k:=by rw [List.length_take]; omega
  refine cp_ (l.take k) p F (fun i x hx => ?_) (by rw [hle]; exact e) hx
  rw [List.getElem?_take] at hx
  split at hx
  · exact h i x ‹_› hx
  · cases hx
theorem ref02_act {r:ae_} (h:SmR r) {i:Nat} {a:dr_} (ha:r.2.2.2.2.1[i]?=some a):oq_ r (i:Int)=some (wc_ r i a,()):=by
  have hi:=ax_ ha
  have hac:=h.ac
  obtain ⟨s1,s2,s3,s4,s5,s6⟩:=h.acn a (cj_ ha)
  unfold oq_
  rw [am_ ha,Option.bind_some]
  refine vl_ r.2.2.2.2.1 i (Nat.le_of_lt hi) (fun _ y=>cond (y.1==a.1) (some (Sum.inr (false,()):Unit⊕(Bool×Unit))) none) (fun i=>((i:Int),())) (r0:=Sum.inl ()) (fun k y hk hy => ?_) ?_ ?_
  · simp only [dlt hk,cond_true,am_ hy,Option.bind_some,cf_ (show Sm k by omega)]
    cases y.1==a.1 <;> rfl
  · simp only [dnl,cond_false]
  rw [jd_ (q:=fun y:dr_=>y.1==a.1)]
  unfold wc_ frN twN
  cases (r.2.2.2.2.1.take i).any fun y=>y.1==a.1 with
  | true=>rw [Bool.not_true,Bool.and_false,Bool.false_and]; rfl
  | false =>
  simp only [cond_false,Option.getD_none,sumE_inl,Bool.not_false,Bool.and_true]
  refine Eq.trans (congrArg (fun o=>Option.bind o _) (?_:_=some (!(okN a.1&&(te_ r a.2.1&&(wi a.2.2.1 (-1) 7&&(mm_ r.2.2.1.length a.2.2.2.1&&(mm_ r.2.2.1.length a.2.2.2.2.2.2.1&&(mm_ r.2.2.1.length a.2.2.2.2.2.2.2&&!(decide (6<(a.2.2.2.2.2.1.length:Int))))))))),()))) ?_
  · simp only [lx_ s1,jv_,iq_,lw_ h.pr s2,lw_ h.pr s5,lw_ h.pr s6,Option.bind_some]
    unfold te_
    cases okN a.1 with
    | false=>rfl
    | true =>
    cases wi a.2.1 0 (w64 ((r.1.length:Int) - 1)) with
    | false=>rfl
    | true =>
    cases wi a.2.2.1 (-1) 7 with
    | false=>rfl
    | true =>
    cases mm_ r.2.2.1.length a.2.2.2.1 with
    | false=>rfl
    | true =>
    cases mm_ r.2.2.1.length a.2.2.2.2.2.2.1 with
    | false=>rfl
    | true =>
    cases mm_ r.2.2.1.length a.2.2.2.2.2.2.2 with
    | false=>rfl
    | true=>simp
  rw [Option.bind_some]
  cases okN a.1 with
  | false=>rfl
  | true =>
  cases te_ r a.2.1 with
  | false=>rfl
  | true =>
  cases wi a.2.2.1 (-1) 7 with
  | false=>rfl
  | true =>
  cases mm_ r.2.2.1.length a.2.2.2.1 with
  | false=>rfl
  | true =>
  cases mm_ r.2.2.1.length a.2.2.2.2.2.2.1 with
  | false=>rfl
  | true =>
  cases mm_ r.2.2.1.length a.2.2.2.2.2.2.2 with
  | false=>rfl
  | true =>
  cases decide (6<(a.2.2.2.2.2.1.length:Int)) with
  | true=>rfl
  | false =>
  simp only [Bool.true_and,Bool.not_true,Bool.not_false,cond_false]
  refine cp_ a.2.2.2.2.2.2.1 (fun _ y=>cond (a.2.2.2.1.contains y) none (some (Sum.inr (false,()):Unit⊕(Bool×Unit)))) (fun i=>((i:Int),())) (r0:=Sum.inl ()) (fun k y hy => ?_) ?_ ?_
  · have hk:=ax_ hy
    simp only [dlt hk,cond_true,am_ hy,Option.bind_some,cf_ (show Sm k by omega),ref02_in s2]
    cases a.2.2.2.1.contains y <;> rfl
  · simp only [dnl,cond_false]
  rw [wj_ (q:=fun y=>a.2.2.2.1.contains y)]
  cases a.2.2.2.2.2.2.1.all fun y=>a.2.2.2.1.contains y with
  | false=>rfl
  | true =>
  simp only [cond_true,Option.getD_none,sumE_inl,Bool.true_and]
  refine cp_ a.2.2.2.2.2.2.2 (fun _ y=>cond (a.2.2.2.1.contains y) (some (Sum.inr (false,()):Unit⊕(Bool×Unit))) none) (fun i=>((i:Int),())) (r0:=Sum.inl ()) (fun k y hy => ?_) ?_ ?_
  · have hk:=ax_ hy
    simp only [dlt hk,cond_true,am_ hy,Option.bind_some,cf_ (show Sm k by omega),ref02_in s2]
    cases a.2.2.2.1.contains y <;> rfl
  · simp only [dnl,cond_false]
  rw [jd_ (q:=fun y=>a.2.2.2.1.contains y)]
  cases a.2.2.2.2.2.2.2.any fun y=>a.2.2.2.1.contains y with
  | true=>rfl
  | false =>
  simp only [cond_false,Option.getD_none,sumE_inl,Bool.not_false,Bool.true_and]
  refine cp_ a.2.2.2.2.2.1 (fun i x=>cond (sr_ r a.2.2.2.2.2.1 i x) none (some (Sum.inr (false,()):Unit⊕(Bool×Unit)))) (fun i=>((i:Int),())) (r0:=Sum.inl ()) (fun k y hy => ?_) ?_ ?_
  · have hk:=ax_ hy
    simp only [dlt hk,cond_true,am_ hy,Option.bind_some,cf_ (show Sm k by omega),sw_ h.th]
    unfold sr_
    cases ph_ r.2.1 y.1 y.2 with
    | false=>rfl
    | true =>
    simp only [Bool.not_true,cond_false,Bool.true_and]
    refine vl_ a.2.2.2.2.2.1 k (Nat.le_of_lt hk) (fun _ z=>cond (z.1==y.1) (some (Sum.inr (Sum.inr (Sum.inr (false,()))):Unit⊕((Int×Unit)⊕(Unit⊕(Bool×Unit))))) none) (fun i=>((i:Int),())) (r0:=Sum.inl ()) (fun n z hn hz => ?_) ?_ ?_
    · simp only [dlt hn,cond_true,am_ hz,Option.bind_some,cf_ (show Sm n by omega)]
      cases z.1==y.1 <;> rfl
    · simp only [dnl,cond_false]
    rw [jd_ (q:=fun z:ag_=>z.1==y.1)]
    cases (a.2.2.2.2.2.1.take k).any fun z=>z.1==y.1 <;> rfl
  · simp only [dnl,cond_false]
  rw [ty_]
  cases (ib_ (fun i x=>cond (sr_ r a.2.2.2.2.2.1 i x) none (some ())) 0 a.2.2.2.2.2.1).isNone <;> rfl
theorem push_take {α:Type} {nm:α→List UInt8} {l:List α} (hl:Sm l.length) {i:Nat} {x:α} (hx:l[i]?=some x):push? (α:=List UInt8) ((l.take i).map nm) [nm x]=some ((l.take (i+1)).map nm):=by
  have hi:=ax_ hx
  unfold push?
  rw [if_pos (by
    simp only [List.length_map,List.length_take,List.length_singleton]
    omega)]
  rw [List.take_add_one,hx,List.map_append]
  rfl
theorem twN_map {α:Type} {nm:α→List UInt8} {l:List α} {i:Nat} {t:List UInt8}:twN id ((l.take (i+1)).map nm) i t=twN nm l i t:=by
  unfold twN
  rw [← List.map_take,List.take_take,Nat.min_eq_left (Nat.le_succ i),List.any_map]
  rfl
theorem map_at {α:Type} {nm:α→List UInt8} {l:List α} {i:Nat} {x:α} (hx:l[i]?=some x):((l.take (i+1)).map nm)[i]?=some (nm x):=by
  rw [List.getElem?_map,List.getElem?_take,if_pos (Nat.lt_succ_self i),hx]
  rfl
theorem xl_ {r:ae_} (h:SmR r):jm_ r=some (en_ r,()):=by
  unfold jm_
  refine Eq.trans (congrArg (fun o=>Option.bind o _) (many_of r)) ?_
  rw [Option.bind_some]
  unfold en_
  cases manyR r with
  | true=>rfl
  | false =>
  simp only [cond_false]
  cases he:(r.1.length:Int)==0 with
  | true =>
    have:r.1=[]:=by
      have:=beq_iff_eq.1 he
      exact List.eq_nil_of_length_eq_zero (by omega)
    rw [this]
    rfl
  | false =>
  simp only [cond_false]
  refine ce_ r.1 (fun i x=>mf_ (plOk r i x) 22) (fun i y hy => ?_) ?_ (gb_ ?_)
  · have hi:=ax_ hy
    simp only [dlt hi,cond_true,am_ hy,Option.bind_some,cf_ (show Sm i from Nat.le_trans (Nat.le_of_lt hi) h.pl),lx_ (h.pln y (cj_ hy)),rw_ h.pl hy]
    unfold mf_ plOk frN
    cases okN y with
    | false=>rfl
    | true=>cases twN id r.1 i y <;> rfl
  · simp only [dnl,cond_false]
  refine bind_left2 r.2.1 (fun i x=>mf_ (thOk r i x) 21) (fun i=>(r.2.1.take i).map (·.1)) rfl (fun i y hy => ?_) ?_ (gb_ ?_)
  · have hi:=ax_ hy
    have hs:Sm ((r.2.1.take (i+1)).map (·.1)).length:=by
      rw [List.length_map,List.length_take]
      exact Nat.le_trans (Nat.min_le_right _ _) h.th
    simp only [dlt hi,cond_true,am_ hy,Option.bind_some,cf_ (show Sm i from Nat.le_trans (Nat.le_of_lt hi) h.th),push_take h.th hy,lx_ (h.thn y (cj_ hy)),rw_ hs (map_at hy),twN_map,jv_,iq_]
    unfold mf_ thOk frN te_
    cases okN y.1 with
    | false=>rfl
    | true =>
    cases twN (·.1) r.2.1 i y.1 with
    | true=>rfl
    | false =>
    cases wi y.2.1 0 (w64 ((r.1.length:Int) - 1)) with
    | false=>rfl
    | true =>
    cases wi y.2.2.1 2 6 with
    | false=>rfl
    | true=>cases wi y.2.2.2 0 (w64 (y.2.2.1 - 1)) <;> rfl
  · simp only [dnl,cond_false]
  refine bind_left2 r.2.2.1 (fun i x=>tv_ (prOk r i x) 24 (cOk r.2.1 x.2.2) 25) (fun i=>(r.2.2.1.take i).map (·.1)) rfl (fun i y hy => ?_) ?_ (gb_ ?_)
  · have hi:=ax_ hy
    obtain ⟨s1,s2⟩:=h.prn y (cj_ hy)
    have hs:Sm ((r.2.2.1.take (i+1)).map (·.1)).length:=by
      rw [List.length_map,List.length_take]
      exact Nat.le_trans (Nat.min_le_right _ _) h.pr
    simp only [dlt hi,cond_true,am_ hy,Option.bind_some,cf_ (show Sm i from Nat.le_trans (Nat.le_of_lt hi) h.pr),push_take h.pr hy,lx_ s1,rw_ hs (map_at hy),twN_map,jv_,ir_ h.th s2]
    unfold tv_ prOk frN te_
    cases okN y.1 with
    | false=>rfl
    | true =>
    cases twN (·.1) r.2.2.1 i y.1 with
    | true=>rfl
    | false =>
    have e:(y.2.1 != -1) = !(y.2.1==-1):=rfl
    rw [e]
    cases y.2.1==-1 with
    | true =>
      cases wi y.2.1 0 (w64 ((r.1.length:Int) - 1)) <;> cases cOk r.2.1 y.2.2 <;> rfl
    | false =>
      cases wi y.2.1 0 (w64 ((r.1.length:Int) - 1)) <;> cases cOk r.2.1 y.2.2 <;> rfl
  · simp only [dnl,cond_false]
  refine ce_ r.2.2.2.1 (fun i x=>tv_ (wyOk r x) 23 (cOk r.2.1 x.2.2) 25) (fun i y hy => ?_) ?_ (gb_ ?_)
  · have hi:=ax_ hy
    simp only [dlt hi,cond_true,am_ hy,Option.bind_some,cf_ (show Sm i from Nat.le_trans (Nat.le_of_lt hi) h.wy),jv_,ir_ h.th (h.wyn y (cj_ hy))]
    unfold tv_ wyOk te_
    cases wi y.1 0 (w64 ((r.1.length:Int) - 1)) with
    | false=>rfl
    | true =>
    cases wi y.2.1 0 (w64 ((r.1.length:Int) - 1)) with
    | false=>rfl
    | true=>cases y.1==y.2.1 <;> cases cOk r.2.1 y.2.2 <;> rfl
  · simp only [dnl,cond_false]
  refine ce_ r.2.2.2.2.1 (fun i x=>tv_ (wc_ r i x) 26 (cOk r.2.1 x.2.2.2.2.1) 25) (fun i y hy => ?_) ?_ (gb_ ?_)
  · have hi:=ax_ hy
    simp only [dlt hi,cond_true,am_ hy,Option.bind_some,cf_ (show Sm i from Nat.le_trans (Nat.le_of_lt hi) h.ac),ref02_act h hy,ir_ h.th (h.acn y (cj_ hy)).2.2.1]
    unfold tv_
    cases wc_ r i y with
    | false=>rfl
    | true=>cases cOk r.2.1 y.2.2.2.2.1 <;> rfl
  · simp only [dnl,cond_false]
  refine ce_ r.2.2.2.2.2.1 (fun i x=>tv_ (ph_ r.2.1 x.2.1 x.2.2) 27 (cOk r.2.1 x.1) 25) (fun i y hy => ?_) ?_ (gb_ ?_)
  · have hi:=ax_ hy
    simp only [dlt hi,cond_true,am_ hy,Option.bind_some,cf_ (show Sm i from Nat.le_trans (Nat.le_of_lt hi) h.au),sw_ h.th,ir_ h.th (h.aun y (cj_ hy))]
    unfold tv_
    cases ph_ r.2.1 y.2.1 y.2.2 with
    | false=>rfl
    | true=>cases cOk r.2.1 y.1 <;> rfl
  · simp only [dnl,cond_false]
  rw [iq_,Option.bind_some,ir_ h.th h.go,Option.bind_some]
  cases wi r.2.2.2.2.2.2.1 1 4 with
  | false=>rfl
  | true=>cases cOk r.2.1 r.2.2.2.2.2.2.2 <;> rfl
end Go.Proofs.YtfcgcpjnpdkjmaaGreatDoor.Rx
end
section
namespace Go.Proofs.YtfcgcpjnpdkjmaaGreatDoor.Rx
open Go Go.Proofs.YtfcgcpjnpdkjmaaGreatDoor.Pad Go.Proofs.YtfcgcpjnpdkjmaaGreatDoor.Rex
theorem lk_ {α τ:Type} (l:List α) (hl:Sm l.length) (q:α→Bool) {body:(Int×Unit)→Option ((Int×Unit)⊕(Unit⊕(Bool×Unit)))} {K:(Unit⊕(Bool×Unit))→Option τ} {x:Option τ}
    (h:∀ (i:Nat) y,l[i]?=some y→body ((i:Int),())=some (cond (q y) (.inr (.inr (true,()))) (.inl (w64 ((i:Int)+1),())))) (e:body ((l.length:Int),())=some (.inr (.inl ()))) (hx:K (cond (l.any q) (.inr (true,())) (.inl ()))=x) :
    (af_ body (0,())).bind K=x:=by
  refine cp_ l (fun i y=>cond (q y) (some (Sum.inr (true,()):Unit⊕(Bool×Unit))) none) (fun i=>((i:Int),())) (r0:=Sum.inl ()) (fun i y hy => ?_) e ?_
  · have hi:=ax_ hy
    rw [h i y hy,cf_ (show Sm i by omega)]
    cases q y <;> rfl
  · rw [jd_ (q:=q)]
    cases hq:l.any q <;> rw [hq] at hx <;> exact hx
theorem jq_ {α:Type} {l:List α} {q:α→Bool} (h:l.any q=false):∀ x ∈ l,q x=false:=by
  intro x hx
  cases hq:q x with
  | false=>rfl
  | true=>rw [List.any_eq_true.2 ⟨x,hx,hq⟩] at h; cases h
theorem nlt {n:Nat} {k:Int} (h:decide (k<(n:Int))=false) (hk:k≤1000000000):Sm n:=by
  have:=of_decide_eq_false h
  omega
def manyF (r:ae_):Bool:=decide (12<(r.1.length:Int))||(decide (15<(r.2.1.length:Int))||(decide (14<(r.2.2.1.length:Int))||(decide (20<(r.2.2.2.1.length:Int))||(decide (30<(r.2.2.2.2.1.length:Int))||(decide (15<(r.2.2.2.2.2.1.length:Int))||decide (20<(r.2.2.2.2.2.2.2.length:Int)))))))
theorem manyF_of (r:ae_):(cond (decide (12<(r.1.length:Int)))
 (some (true,()))
 (cond (decide (15<(r.2.1.length:Int)))
 (some (true,()))
 (cond (decide (14<(r.2.2.1.length:Int)))
 (some (true,()))
 (cond (decide (20<(r.2.2.2.1.length:Int)))
 (some (true,()))
 (cond (decide (30<(r.2.2.2.2.1.length:Int)))
 (some (true,()))
 (cond (decide (15<(r.2.2.2.2.2.1.length:Int)))
 (some (true,()))
 (some ((decide (20<(r.2.2.2.2.2.2.2.length:Int))),()))))))))=some (manyF r,()):=by
  unfold manyF
  cases decide (12<(r.1.length:Int)) with
  | true=>rfl
  | false =>
  cases decide (15<(r.2.1.length:Int)) with
  | true=>rfl
  | false =>
  cases decide (14<(r.2.2.1.length:Int)) with
  | true=>rfl
  | false =>
  cases decide (20<(r.2.2.2.1.length:Int)) with
  | true=>rfl
  | false =>
  cases decide (30<(r.2.2.2.2.1.length:Int)) with
  | true=>rfl
  | false =>
  cases decide (15<(r.2.2.2.2.2.1.length:Int)) with
  | true=>rfl
  | false=>rfl
theorem law02_Far (r:ae_):∃ b,ot_ r=some (b,())∧(b=false→SmR r∧r.2.1.length≤15∧r.2.2.2.2.2.2.2.length≤20∧r.2.2.2.2.1.length≤30):=by
  unfold ot_
  have e0:=manyF_of r
  cases hm:manyF r with
  | true =>
    rw [hm] at e0
    exact ⟨true,Eq.trans (congrArg (fun o=>Option.bind o _) e0) rfl,fun h=>by cases h⟩
  | false =>
  rw [hm] at e0
  unfold manyF at hm
  simp only [Bool.or_eq_false_iff] at hm
  obtain ⟨h1,h2,h3,h4,h5,h6,h7⟩:=hm
  have l1:=nlt h1 (by decide)
  have l2:=nlt h2 (by decide)
  have l3:=nlt h3 (by decide)
  have l4:=nlt h4 (by decide)
  have l5:=nlt h5 (by decide)
  have l6:=nlt h6 (by decide)
  have l7:=nlt h7 (by decide)
  have b2:=of_decide_eq_false h2
  have b5:=of_decide_eq_false h5
  have b7:=of_decide_eq_false h7
  let qa:dr_→Bool:=fun y=>decide (100<(y.1.length:Int))||(decide (20<(y.2.2.2.2.1.length:Int))||(decide (20<(y.2.2.2.1.length:Int))||(decide (20<(y.2.2.2.2.2.1.length:Int))||(decide (20<(y.2.2.2.2.2.2.1.length:Int))||decide (20<(y.2.2.2.2.2.2.2.length:Int))))))
  let b1:=r.1.any fun x=>decide (100<(x.length:Int))
  let bt:=r.2.1.any fun x=>decide (100<(x.1.length:Int))
  let bp:=r.2.2.1.any fun x=>decide (100<(x.1.length:Int))||decide (20<(x.2.2.length:Int))
  let bw:=r.2.2.2.1.any fun x=>decide (20<(x.2.2.length:Int))
  let ba:=r.2.2.2.2.1.any qa
  let bo:=r.2.2.2.2.2.1.any fun x=>decide (20<(x.1.length:Int))
  refine ⟨b1||(bt||(bp||(bw||(ba||bo)))),?_,?_⟩
  · refine Eq.trans (congrArg (fun o=>Option.bind o _) e0) ?_
    rw [Option.bind_some]
    simp only [cond_false]
    refine lk_ r.1 l1 (fun x=>decide (100<(x.length:Int))) (fun i y hy => ?_) ?_ ?_
    · simp only [dlt (ax_ hy),cond_true,am_ hy,Option.bind_some]
      cases decide (100<(y.length:Int)) <;> rfl
    · simp only [dnl,cond_false]
    show de_ (cond b1 _ _) _ _=_
    cases b1 with
    | true=>rfl
    | false =>
    refine lk_ r.2.1 l2 (fun x=>decide (100<(x.1.length:Int))) (fun i y hy => ?_) ?_ ?_
    · simp only [dlt (ax_ hy),cond_true,am_ hy,Option.bind_some]
      cases decide (100<(y.1.length:Int)) <;> rfl
    · simp only [dnl,cond_false]
    show de_ (cond bt _ _) _ _=_
    cases bt with
    | true=>rfl
    | false =>
    refine lk_ r.2.2.1 l3 (fun x=>decide (100<(x.1.length:Int))||decide (20<(x.2.2.length:Int))) (fun i y hy => ?_) ?_ ?_
    · simp only [dlt (ax_ hy),cond_true,am_ hy,Option.bind_some]
      cases decide (100<(y.1.length:Int)) with
      | true=>rfl
      | false=>cases decide (20<(y.2.2.length:Int)) <;> rfl
    · simp only [dnl,cond_false]
    show de_ (cond bp _ _) _ _=_
    cases bp with
    | true=>rfl
    | false =>
    refine lk_ r.2.2.2.1 l4 (fun x=>decide (20<(x.2.2.length:Int))) (fun i y hy => ?_) ?_ ?_
    · simp only [dlt (ax_ hy),cond_true,am_ hy,Option.bind_some]
      cases decide (20<(y.2.2.length:Int)) <;> rfl
    · simp only [dnl,cond_false]
    show de_ (cond bw _ _) _ _=_
    cases bw with
    | true=>rfl
    | false =>
    refine lk_ r.2.2.2.2.1 l5 qa (fun i y hy => ?_) ?_ ?_
    · simp only [dlt (ax_ hy),cond_true,am_ hy,Option.bind_some,qa]
      cases decide (100<(y.1.length:Int)) with
      | true=>rfl
      | false =>
      cases decide (20<(y.2.2.2.2.1.length:Int)) with
      | true=>rfl
      | false =>
      cases decide (20<(y.2.2.2.1.length:Int)) with
      | true=>rfl
      | false =>
      cases decide (20<(y.2.2.2.2.2.1.length:Int)) with
      | true=>rfl
      | false =>
      cases decide (20<(y.2.2.2.2.2.2.1.length:Int)) with
      | true=>rfl
      | false=>cases decide (20<(y.2.2.2.2.2.2.2.length:Int)) <;> rfl
    · simp only [dnl,cond_false]
    show de_ (cond ba _ _) _ _=_
    cases ba with
    | true=>rfl
    | false =>
    refine lk_ r.2.2.2.2.2.1 l6 (fun x=>decide (20<(x.1.length:Int))) (fun i y hy => ?_) ?_ ?_
    · simp only [dlt (ax_ hy),cond_true,am_ hy,Option.bind_some]
      cases decide (20<(y.1.length:Int)) <;> rfl
    · simp only [dnl,cond_false]
    show de_ (cond bo _ _) _ _=_
    cases bo <;> rfl
  · intro hb
    simp only [Bool.or_eq_false_iff] at hb
    obtain ⟨g1,g2,g3,g4,g5,g6⟩:=hb
    refine ⟨⟨l1,l2,l3,l4,l5,l6,l7,fun x hx=>nlt (jq_ g1 x hx) (by decide),fun x hx=>nlt (jq_ g2 x hx) (by decide),fun x hx => ?_,fun x hx=>nlt (jq_ g4 x hx) (by decide),fun x hx => ?_,fun x hx=>nlt (jq_ g6 x hx) (by decide)⟩,by omega,by omega,by omega⟩
    · have:=jq_ g3 x hx
      simp only [Bool.or_eq_false_iff] at this
      exact ⟨nlt this.1 (by decide),nlt this.2 (by decide)⟩
    · have:=jq_ g5 x hx
      simp only [qa,Bool.or_eq_false_iff] at this
      obtain ⟨a1,a2,a3,a4,a5,a6⟩:=this
      exact ⟨nlt a1 (by decide),nlt a3 (by decide),nlt a2 (by decide),nlt a4 (by decide),nlt a5 (by decide),nlt a6 (by decide)⟩
structure SmG (g:ai_):Prop where
  room:SmR g.1
  th:g.1.2.1.length≤15
  go:g.1.2.2.2.2.2.2.2.length≤20
  ac:g.1.2.2.2.2.1.length≤30
  lk:g.2.1.length≤10
  cd:g.2.2.1.length≤10
  nt:g.2.2.2.1.length≤20
  lkn:∀ x ∈ g.2.1,¬ (3<x.1∧5<x.2)
  cdn:∀ x ∈ g.2.2.1,x.length≤10
  ntn:∀ x ∈ g.2.2.2.1,x.1.length≤100∧x.2.2.2.1.length≤20∧x.2.2.2.2.2.2.2.2.2.1.length≤10
theorem law04_Far (g:ai_):∃ b,mc_ g=some (b,())∧(b=false→SmG g):=by
  unfold mc_
  obtain ⟨b0,e0,h0⟩:=law02_Far g.1
  rw [e0]
  simp only [Option.bind_some]
  cases b0 with
  | true=>exact ⟨true,rfl,fun h=>by cases h⟩
  | false =>
  obtain ⟨r1,r2,r3,r4⟩:=h0 rfl
  cases h1:decide (10<(g.2.1.length:Int)) with
  | true=>exact ⟨true,rfl,fun h=>by cases h⟩
  | false =>
  cases h2:decide (10<(g.2.2.1.length:Int)) with
  | true=>exact ⟨true,rfl,fun h=>by cases h⟩
  | false =>
  cases h3:decide (20<(g.2.2.2.1.length:Int)) with
  | true=>exact ⟨true,rfl,fun h=>by cases h⟩
  | false =>
  have l1:=nlt h1 (by decide)
  have l2:=nlt h2 (by decide)
  have l3:=nlt h3 (by decide)
  let ql:ag_→Bool:=fun y=>decide (3<y.1)&&decide (5<y.2)
  let qn:di_→Bool:=fun y=>decide (100<(y.1.length:Int))||(decide (20<(y.2.2.2.1.length:Int))||decide (10<(y.2.2.2.2.2.2.2.2.2.1.length:Int)))
  let b1:=g.2.1.any ql
  let b2:=g.2.2.1.any fun x=>decide (10<(x.length:Int))
  let b3:=g.2.2.2.1.any qn
  refine ⟨b1||(b2||b3),?_,?_⟩
  · simp only [Option.bind_some,cond_false]
    refine lk_ g.2.1 l1 ql (fun i y hy => ?_) ?_ ?_
    · simp only [dlt (ax_ hy),cond_true,am_ hy,Option.bind_some,ql]
      cases decide (3<y.1) with
      | false=>rfl
      | true=>cases decide (5<y.2) <;> rfl
    · simp only [dnl,cond_false]
    show de_ (cond b1 _ _) _ _=_
    cases b1 with
    | true=>rfl
    | false =>
    refine lk_ g.2.2.1 l2 (fun x=>decide (10<(x.length:Int))) (fun i y hy => ?_) ?_ ?_
    · simp only [dlt (ax_ hy),cond_true,am_ hy,Option.bind_some]
      cases decide (10<(y.length:Int)) <;> rfl
    · simp only [dnl,cond_false]
    show de_ (cond b2 _ _) _ _=_
    cases b2 with
    | true=>rfl
    | false =>
    refine lk_ g.2.2.2.1 l3 qn (fun i y hy => ?_) ?_ ?_
    · simp only [dlt (ax_ hy),cond_true,am_ hy,Option.bind_some,qn]
      cases decide (100<(y.1.length:Int)) with
      | true=>rfl
      | false =>
      cases decide (20<(y.2.2.2.1.length:Int)) with
      | true=>rfl
      | false=>cases decide (10<(y.2.2.2.2.2.2.2.2.2.1.length:Int)) <;> rfl
    · simp only [dnl,cond_false]
    show de_ (cond b3 _ _) _ _=_
    cases b3 <;> rfl
  · intro hb
    simp only [Bool.or_eq_false_iff] at hb
    obtain ⟨g1,g2,g3⟩:=hb
    have c1:=of_decide_eq_false h1
    have c2:=of_decide_eq_false h2
    have c3:=of_decide_eq_false h3
    refine ⟨r1,r2,r3,r4,by omega,by omega,by omega,fun x hx => ?_,fun x hx => ?_,fun x hx => ?_⟩
    · have:=jq_ g1 x hx
      intro hc
      simp only [ql,decide_eq_true hc.1,decide_eq_true hc.2] at this
      cases this
    · have:=of_decide_eq_false (jq_ g2 x hx)
      omega
    · have:=jq_ g3 x hx
      simp only [qn,Bool.or_eq_false_iff] at this
      have d1:=of_decide_eq_false this.1
      have d2:=of_decide_eq_false this.2.1
      have d3:=of_decide_eq_false this.2.2
      omega
end Go.Proofs.YtfcgcpjnpdkjmaaGreatDoor.Rx
end
section
set_option maxRecDepth 100000
set_option maxHeartbeats 0
namespace Go.Proofs.YtfcgcpjnpdkjmaaGreatDoor.Rx
open Go Go.Proofs.YtfcgcpjnpdkjmaaGreatDoor.Pad Go.Proofs.YtfcgcpjnpdkjmaaGreatDoor.Rex Go.Proofs
def an_36:An:=(.p .z (.p .z (.p (.j0 [.v 28 .bool] .z .z) (.p (.p .z (.ls [.v 32 .int] [] [] 0 .z)) (.p .z (.p (.p .z (.ls [.v 52 .int] [] [] 2 .z)) (.p (.p .z (.ls [.v 70 .int] [] [] 4 .z)) (.p (.p .z (.ls [.v 84 .int] [] [] 6 .z)) .z))))))))
noncomputable def cs_36:List (Con Tryz.prog):=[c_74,c_75,c_76,c_77,c_78,c_79]
noncomputable def cl_36:List (Cpy Tryz.prog):=[]
noncomputable def cx_36:Cx Tryz.prog:=cxC cs_36 cl_36
noncomputable def gv_ (a0:ai_):Option (Int×Unit) :=
 ((gs_ a0.1).bind fun v0 =>
 (cond (v0.1 != 0)
 (some (v0.1,()))
 (((cond (decide (8<(a0.2.1.length:Int)))
 (some (true,()))
 (some ((decide (16<(a0.2.2.2.1.length:Int))),())))).bind fun v1 =>
 (cond v1.1
 (some (2,()))
 ((af_ (ρ:=(Unit⊕(Int×Unit))) (fun (v2:(Int×Unit)) =>
 (cond (decide (v2.1<(a0.2.1.length:Int)))
 ((at? a0.2.1 v2.1).bind fun v3 =>
 ((lo_ v3).bind fun v4 =>
 (cond (v4.1 != 0)
 (some (Sum.inr (Sum.inr (v4.1,()))))
 (some (Sum.inl ((w64 (v2.1+1)),()))))))
 (some (Sum.inr (Sum.inl ()))))) (0,())).bind fun v5 =>
 (de_ v5 (fun v6=>(cond ((a0.2.2.1.length:Int) != (a0.2.1.length:Int))
 (some (12,()))
 ((af_ (ρ:=(Unit⊕(Int×Unit))) (fun (v8:(Int×Unit)) =>
 (cond (decide (v8.1<(a0.2.1.length:Int)))
 ((at? a0.2.1 v8.1).bind fun v9 =>
 ((at? a0.2.2.1 v8.1).bind fun v10 =>
 ((hh_ v9 v10).bind fun v11 =>
 (cond (v11.1 != 0)
 (some (Sum.inr (Sum.inr (12,()))))
 (some (Sum.inl ((w64 (v8.1+1)),())))))))
 (some (Sum.inr (Sum.inl ()))))) (0,())).bind fun v12 =>
 (de_ v12 (fun v13=>((af_ (ρ:=(Unit⊕(Int×Unit))) (fun (v15:(Int×Unit)) =>
 (cond (decide (v15.1<(a0.1.2.2.2.2.1.length:Int)))
 ((at? a0.1.2.2.2.2.1 v15.1).bind fun v16 =>
 (cond (decide ((a0.2.1.length:Int)≤v16.2.2.1))
 (some (Sum.inr (Sum.inr (26,()))))
 (some (Sum.inl ((w64 (v15.1+1)),())))))
 (some (Sum.inr (Sum.inl ()))))) (0,())).bind fun v17 =>
 (de_ v17 (fun v18=>((af_ (ρ:=(Unit⊕(Int×Unit))) (fun (v20:(Int×Unit)) =>
 (cond (decide (v20.1<(a0.2.2.2.1.length:Int)))
 ((at? a0.2.2.2.1 v20.1).bind fun v21 =>
 ((mu_ a0 v20.1 v21).bind fun v22 =>
 (cond (!v22.1)
 (some (Sum.inr (Sum.inr (40,()))))
 ((mt_ a0.1 v21.2.2.2.1).bind fun v23 =>
 (cond (!v23.1)
 (some (Sum.inr (Sum.inr (25,()))))
 (some (Sum.inl ((w64 (v20.1+1)),()))))))))
 (some (Sum.inr (Sum.inl ()))))) (0,())).bind fun v24 =>
 (de_ v24 (fun v25=>((ed_ a0.2.2.2.2 1 100).bind fun v27 =>
 (cond (!v27.1)
 (some (1,()))
 (some (0,())))))
 (fun v26=>(some v26)))))
 (fun v19=>(some v19)))))
 (fun v14=>(some v14))))))
 (fun v7=>(some v7))))))))
theorem x_36:ch_ cx_36 an_36 36 [bq_] [.int]=fun x=>gv_ x.1:=by kernel_rfl
noncomputable def c_36:Con Tryz.prog:=ck_ _ _ 36 [bq_] [.int] _ x_36
def an_37:An:=(.p .z (.p .z (.p .z (.p (.p .z (.lp [.v 23 .int] [] [.b (.s 5) [.row .int 3,.keep,.keep]] 0 .z)) (.p (.p .z (.lp [.v 38 .int] [] [.b (.s 5) [.keep,.row .int 3,.keep]] 2 .z)) .z)))))
def at_37:FuncId→An:=fun k=>cond (Nat.beq k 81) (.p .z (.p (.j0 [.v 6 .bool,.o (.c (.s 0) 8) .int] .z .z) .z)) (cond (Nat.beq k 159) (.p .z (.p (.p .z (.ls [.v 4 .int] [] [.o (.c (.s 0) 8) .int] 0 (.p .z (.p .z (.p (.j0 [.v 3 .int] .z .z) .z))))) .z)) (cond (Nat.beq k 225) (.p .z (.p (.p .z (.ls [.v 8 .int] [] [] 0 .z)) .z)) (cond (Nat.beq k 226) (.p .z (.j0 [.v 3 .bool] .z .z)) (.z))))
noncomputable def cs_37:List (Con Tryz.prog):=[c_74,c_161]
noncomputable def cl_37:List (Cpy Tryz.prog):=[cp_34]
noncomputable def cx_37:Cx Tryz.prog:=cxI at_37 (fun k=>Nat.beq k 34||Nat.beq k 74||Nat.beq k 161||false) (cxC cs_37 cl_37) 6
noncomputable def kp_ (a0:ae_):Option (ar_×Int×Unit) :=
 ((gs_ a0).bind fun v0 =>
 (cond (v0.1 != 0)
 (some (([],([],[])),(v0.1,())))
 ((mk? (α:=Int) a0.2.2.2.2.2.2.1 0).bind fun v1 =>
 ((af_ (ρ:=(((List Int)×Unit)×Unit)) (fun (v2:(Int×(((List Int)×Unit)×Unit))) =>
 (cond (decide (v2.1<(a0.2.1.length:Int)))
 ((at? a0.2.1 v2.1).bind fun v3 =>
 ((push? (α:=Int) v2.2.1.1 [v3.2.2.2]).bind fun v4 =>
 (some (Sum.inl ((w64 (v2.1+1)),((v4,()),()))))))
 (some (Sum.inr ((v2.2.1.1,()),()))))) (0,(([],()),()))).bind fun v5 =>
 ((af_ (ρ:=(((List Int)×Unit)×Unit)) (fun (v6:(Int×(((List Int)×Unit)×Unit))) =>
 (cond (decide (v6.1<(a0.2.2.1.length:Int)))
 ((at? a0.2.2.1 v6.1).bind fun v7 =>
 ((push? (α:=Int) v6.2.1.1 [v7.2.1]).bind fun v8 =>
 (some (Sum.inl ((w64 (v6.1+1)),((v8,()),()))))))
 (some (Sum.inr ((v6.2.1.1,()),()))))) (0,(([],()),()))).bind fun v9 =>
 ((push? (α:=Int) [] v5.1.1).bind fun v10 =>
 ((push? (α:=Int) [] v9.1.1).bind fun v11 =>
 ((push? (α:=Int) [] v1).bind fun v12 =>
 ((((af_ (ρ:=(((List Int)×Unit)⊕(Bool×((List Int)×Unit)))) (fun (v13:(Int×((List Int)×Unit))) =>
 (cond (decide (v13.1<101))
 ((((af_ (ρ:=(Unit⊕(Int×Unit))) (fun (v14:(Int×Unit)) =>
 (cond (decide (v14.1<(a0.2.2.2.2.2.1.length:Int)))
 ((at? a0.2.2.2.2.2.1 v14.1).bind fun v15 =>
 ((((at? v13.2.1 v15.2.1).bind fun v16 =>
 ((at? v13.2.1 v15.2.1).bind fun v17 =>
 (cond (v17 != v15.2.2)
 ((bg_ (a0,(v13.2.1,(v11,v12))) v15.1).bind fun v18 =>
 (some (v18.1,())))
 (some (false,())))))).bind fun v19 =>
 (cond v19.1
 (some (Sum.inr (Sum.inr (v14.1,()))))
 (some (Sum.inl ((w64 (v14.1+1)),()))))))
 (some (Sum.inr (Sum.inl ()))))) (0,())).bind fun v20 =>
 (de_ v20 (fun v21=>(some ((-1),())))
 (fun v22=>(some v22))))).bind fun v23 =>
 (cond (decide (v23.1<0))
 (some (Sum.inr (Sum.inr ((!true),(v13.2.1,())))))
 ((at? a0.2.2.2.2.2.1 v23.1).bind fun v24 =>
 ((at? a0.2.2.2.2.2.1 v23.1).bind fun v25 =>
 ((at? v13.2.1 v24.2.1).bind fun v26 =>
 ((at? v13.2.1 v24.2.1).bind fun v27 =>
 (some (Sum.inl ((w64 (v13.1+1)),((v13.2.1.set v24.2.1.toNat v25.2.2),()))))))))))
 (some (Sum.inr (Sum.inl (v13.2.1,())))))) (0,(v10,()))).bind fun v28 =>
 (de_ v28 (fun v29=>(some ((!false),(v29.1,()))))
 (fun v30=>(some v30))))).bind fun v31 =>
 (cond v31.1
 (some (([],([],[])),(27,())))
 (some ((v31.2.1,(v11,v12)),(0,())))))))))))))
theorem x_37:ch_ cx_37 an_37 37 [ay_] [cc_,.int]=fun x=>kp_ x.1:=by kernel_rfl
noncomputable def c_37:Con Tryz.prog:=ck_ _ _ 37 [ay_] [cc_,.int] _ x_37
def an_160:An:=(.p .z (.p .z (.p (.j0 [.v 40 .bool] .z .z) (.p (.p .z (.ls [.v 44 .int] [] [] 0 .z)) (.p (.p .z (.ls [.v 58 .int] [] [] 2 .z)) (.p (.p .z (.ls [.v 77 .int] [] [] 4 .z)) .z))))))
noncomputable def cs_160:List (Con Tryz.prog):=[c_74,c_140,c_149]
noncomputable def cl_160:List (Cpy Tryz.prog):=[]
noncomputable def cx_160:Cx Tryz.prog:=cxC cs_160 cl_160
noncomputable def cs_ (a0:ae_) (a1:ar_):Option (Int×Unit) :=
 ((gs_ a0).bind fun v0 =>
 (cond (v0.1 != 0)
 (some (v0.1,()))
 (((cond ((a1.1.length:Int) != (a0.2.1.length:Int))
 (some (true,()))
 (cond ((a1.2.1.length:Int) != (a0.2.2.1.length:Int))
 (some (true,()))
 (some (((a1.2.2.length:Int) != a0.2.2.2.2.2.2.1),()))))).bind fun v1 =>
 (cond v1.1
 (some (28,()))
 ((af_ (ρ:=(Unit⊕(Int×Unit))) (fun (v2:(Int×Unit)) =>
 (cond (decide (v2.1<(a1.1.length:Int)))
 ((at? a1.1 v2.1).bind fun v3 =>
 ((gr_ a0 v2.1 v3).bind fun v4 =>
 (cond (!v4.1)
 (some (Sum.inr (Sum.inr (28,()))))
 (some (Sum.inl ((w64 (v2.1+1)),()))))))
 (some (Sum.inr (Sum.inl ()))))) (0,())).bind fun v5 =>
 (de_ v5 (fun v6=>((af_ (ρ:=(Unit⊕(Int×Unit))) (fun (v8:(Int×Unit)) =>
 (cond (decide (v8.1<(a1.2.1.length:Int)))
 ((at? a1.2.1 v8.1).bind fun v9 =>
 ((bl_ v9 (w64 ((w64 ((-2) - a0.2.2.2.2.2.2.1))+1)) (w64 ((a0.1.length:Int) - 1))).bind fun v10 =>
 (cond (!v10.1)
 (some (Sum.inr (Sum.inr (28,()))))
 (some (Sum.inl ((w64 (v8.1+1)),()))))))
 (some (Sum.inr (Sum.inl ()))))) (0,())).bind fun v11 =>
 (de_ v11 (fun v12=>((af_ (ρ:=(Unit⊕(Int×Unit))) (fun (v14:(Int×Unit)) =>
 (cond (decide (v14.1<(a1.2.2.length:Int)))
 ((at? a1.2.2 v14.1).bind fun v15 =>
 ((bl_ v15 0 (w64 ((a0.1.length:Int) - 1))).bind fun v16 =>
 (cond (!v16.1)
 (some (Sum.inr (Sum.inr (28,()))))
 (some (Sum.inl ((w64 (v14.1+1)),()))))))
 (some (Sum.inr (Sum.inl ()))))) (0,())).bind fun v17 =>
 (de_ v17 (fun v18=>(some (0,())))
 (fun v19=>(some v19)))))
 (fun v13=>(some v13)))))
 (fun v7=>(some v7))))))))
theorem x_160:ch_ cx_160 an_160 160 [ay_,cc_] [.int]=fun x=>cs_ x.1 x.2.1:=by kernel_rfl
noncomputable def c_160:Con Tryz.prog:=ck_ _ _ 160 [ay_,cc_] [.int] _ x_160
def an_40:An:=(.p .z (.p .z (.p .z (.p (.j0 [.v 24 .bool] .z .z) (.p (.p .z (.ls [.v 4 .int] [] [] 0 .z)) (.p .z (.p (.p .z (.ls [.v 6 .int] [] [] 2 (.p .z (.p (.p (.q [] .z .z) .z) .z)))) (.p (.p .z (.ls [.v 7 .int] [] [] 4 (.p .z (.p (.p (.q [] .z .z) .z) .z)))) (.p (.p .z (.ls [.v 8 .int] [] [] 6 (.p .z (.p (.p .z (.p (.q [] .z .z) .z)) .z)))) .z)))))))))
noncomputable def cs_40:List (Con Tryz.prog):=[c_85,c_86,c_87,c_88,c_89,c_90]
noncomputable def cl_40:List (Cpy Tryz.prog):=[]
noncomputable def cx_40:Cx Tryz.prog:=cxC cs_40 cl_40
noncomputable def jk_ (a0:ai_):Option (Int×Unit) :=
 ((jm_ a0.1).bind fun v0 =>
 (cond (v0.1 != 0)
 (some (v0.1,()))
 (((cond (decide (8<(a0.2.1.length:Int)))
 (some (true,()))
 (some ((decide (16<(a0.2.2.2.1.length:Int))),())))).bind fun v1 =>
 (cond v1.1
 (some (2,()))
 ((af_ (ρ:=(Unit⊕(Int×Unit))) (fun (v2:(Int×Unit)) =>
 (cond (decide (v2.1<(a0.2.1.length:Int)))
 ((at? a0.2.1 v2.1).bind fun v3 =>
 ((lm_ v3).bind fun v4 =>
 (cond (v4.1 != 0)
 (some (Sum.inr (Sum.inr (v4.1,()))))
 (some (Sum.inl ((w64 (v2.1+1)),()))))))
 (some (Sum.inr (Sum.inl ()))))) (0,())).bind fun v5 =>
 (de_ v5 (fun v6=>(cond ((a0.2.2.1.length:Int) != (a0.2.1.length:Int))
 (some (12,()))
 ((af_ (ρ:=(Unit⊕(Int×Unit))) (fun (v8:(Int×Unit)) =>
 (cond (decide (v8.1<(a0.2.2.1.length:Int)))
 ((at? a0.2.1 v8.1).bind fun v9 =>
 ((at? a0.2.2.1 v8.1).bind fun v10 =>
 ((hf_ v9 v10).bind fun v11 =>
 (cond (v11.1 != 0)
 (some (Sum.inr (Sum.inr (12,()))))
 (some (Sum.inl ((w64 (v8.1+1)),())))))))
 (some (Sum.inr (Sum.inl ()))))) (0,())).bind fun v12 =>
 (de_ v12 (fun v13=>((af_ (ρ:=(Unit⊕(Int×Unit))) (fun (v15:(Int×Unit)) =>
 (cond (decide (v15.1<(a0.1.2.2.2.2.1.length:Int)))
 ((at? a0.1.2.2.2.2.1 v15.1).bind fun v16 =>
 (cond (decide ((a0.2.1.length:Int)≤v16.2.2.1))
 (some (Sum.inr (Sum.inr (26,()))))
 (some (Sum.inl ((w64 (v15.1+1)),())))))
 (some (Sum.inr (Sum.inl ()))))) (0,())).bind fun v17 =>
 (de_ v17 (fun v18=>((af_ (ρ:=(Unit⊕(Int×Unit))) (fun (v20:(Int×Unit)) =>
 (cond (decide (v20.1<(a0.2.2.2.1.length:Int)))
 ((ll_ a0 v20.1).bind fun v21 =>
 (cond (!v21.1)
 (some (Sum.inr (Sum.inr (40,()))))
 ((at? a0.2.2.2.1 v20.1).bind fun v22 =>
 ((dk_ a0.1 v22.2.2.2.1).bind fun v23 =>
 (cond (!v23.1)
 (some (Sum.inr (Sum.inr (25,()))))
 (some (Sum.inl ((w64 (v20.1+1)),()))))))))
 (some (Sum.inr (Sum.inl ()))))) (0,())).bind fun v24 =>
 (de_ v24 (fun v25=>((kq_ a0.2.2.2.2 1 100).bind fun v27 =>
 (cond (!v27.1)
 (some (1,()))
 (some (0,())))))
 (fun v26=>(some v26)))))
 (fun v19=>(some v19)))))
 (fun v14=>(some v14))))))
 (fun v7=>(some v7))))))))
theorem x_40:ch_ cx_40 an_40 40 [bq_] [.int]=fun x=>jk_ x.1:=by kernel_rfl
noncomputable def c_40:Con Tryz.prog:=ck_ _ _ 40 [bq_] [.int] _ x_40
def an_41:An:=(.p .z (.p .z (.p .z (.p (.j0 [.v 38 .bool] .z .z) (.p (.p .z (.ls [.v 6 .int] [] [] 0 (.p .z (.p (.p (.q [] .z .z) .z) .z)))) (.p (.p .z (.ls [.v 7 .int] [] [] 2 (.p .z (.p (.p .z (.j0 [.v 83 .bool] .z .z)) .z)))) (.p (.p .z (.ls [.v 9 .int] [] [] 4 (.p .z (.p (.p (.q [] .z .z) .z) .z)))) .z)))))))
noncomputable def cs_41:List (Con Tryz.prog):=[c_85,c_91,c_92,c_93]
noncomputable def cl_41:List (Cpy Tryz.prog):=[]
noncomputable def cx_41:Cx Tryz.prog:=cxC cs_41 cl_41
noncomputable def gf_ (a0:ae_) (a1:ar_):Option (Int×Unit) :=
 ((jm_ a0).bind fun v0 =>
 (cond (v0.1 != 0)
 (some (v0.1,()))
 (((cond ((a1.1.length:Int) != (a0.2.1.length:Int))
 (some (true,()))
 (cond ((a1.2.1.length:Int) != (a0.2.2.1.length:Int))
 (some (true,()))
 (some (((a1.2.2.length:Int) != a0.2.2.2.2.2.2.1),()))))).bind fun v1 =>
 (cond v1.1
 (some (28,()))
 ((af_ (ρ:=(Unit⊕(Int×Unit))) (fun (v2:(Int×Unit)) =>
 (cond (decide (v2.1<(a1.1.length:Int)))
 ((at? a1.1 v2.1).bind fun v3 =>
 ((im_ a0 v2.1 v3).bind fun v4 =>
 (cond (!v4.1)
 (some (Sum.inr (Sum.inr (28,()))))
 (some (Sum.inl ((w64 (v2.1+1)),()))))))
 (some (Sum.inr (Sum.inl ()))))) (0,())).bind fun v5 =>
 (de_ v5 (fun v6=>((af_ (ρ:=(Unit⊕(Int×Unit))) (fun (v8:(Int×Unit)) =>
 (cond (decide (v8.1<(a1.2.1.length:Int)))
 ((at? a1.2.1 v8.1).bind fun v9 =>
 ((((dj_ a0 v9).bind fun v10 =>
 (cond (!v10.1)
 (cond (v9 != (-1))
 ((dq_ v9 (w64 ((w64 ((-2) - a0.2.2.2.2.2.2.1))+1)) (-2)).bind fun v11 =>
 (some ((!v11.1),())))
 (some (false,())))
 (some (false,()))))).bind fun v12 =>
 (cond v12.1
 (some (Sum.inr (Sum.inr (28,()))))
 (some (Sum.inl ((w64 (v8.1+1)),()))))))
 (some (Sum.inr (Sum.inl ()))))) (0,())).bind fun v13 =>
 (de_ v13 (fun v14=>((af_ (ρ:=(Unit⊕(Int×Unit))) (fun (v16:(Int×Unit)) =>
 (cond (decide (v16.1<(a1.2.2.length:Int)))
 ((at? a1.2.2 v16.1).bind fun v17 =>
 ((dj_ a0 v17).bind fun v18 =>
 (cond (!v18.1)
 (some (Sum.inr (Sum.inr (28,()))))
 (some (Sum.inl ((w64 (v16.1+1)),()))))))
 (some (Sum.inr (Sum.inl ()))))) (0,())).bind fun v19 =>
 (de_ v19 (fun v20=>(some (0,())))
 (fun v21=>(some v21)))))
 (fun v15=>(some v15)))))
 (fun v7=>(some v7))))))))
theorem x_41:ch_ cx_41 an_41 41 [ay_,cc_] [.int]=fun x=>gf_ x.1 x.2.1:=by kernel_rfl
noncomputable def c_41:Con Tryz.prog:=ck_ _ _ 41 [ay_,cc_] [.int] _ x_41
end Go.Proofs.YtfcgcpjnpdkjmaaGreatDoor.Rx
end
section
namespace Go.Proofs.YtfcgcpjnpdkjmaaGreatDoor.Rx
open Go Go.Proofs.YtfcgcpjnpdkjmaaGreatDoor.Pad Go.Proofs.YtfcgcpjnpdkjmaaGreatDoor.Rex
theorem lv_ {α ρ:Type} {p:Nat→α→Option ρ} {e:ρ} (h:∀ i x,p i x≠some e):∀ (l:List α) (i:Nat),ib_ p i l≠some e
  | [],_=>by simp [ib_]
  | x::l,i=>by
    unfold ib_
    cases hp:p i x with
    | some r =>
      intro he
      cases he
      exact h i x hp
    | none=>exact lv_ h l (i+1)
theorem hx_ {o:Option Int} {k:Int} (h:o.getD k=0) (hn:o≠some 0):o=none∧k=0:=by
  cases o with
  | none=>exact ⟨rfl,h⟩
  | some e =>
    have:e=0:=h
    subst this
    exact absurd rfl hn
theorem yq_ {a:Bool} {e:Int} (h:e≠0):mf_ a e≠some 0:=by
  unfold mf_
  cases a with
  | true=>simp
  | false=>simpa using h
theorem yp_ {a b:Bool} {e f:Int} (h:e≠0) (k:f≠0):tv_ a e b f≠some 0:=by
  unfold tv_
  cases a with
  | false=>simpa using h
  | true =>
    cases b with
    | true=>simp
    | false=>simpa using k
theorem me_ {a:Bool} {e:Int} (h:mf_ a e=none):a=true:=by cases a with
  | true=>rfl
  | false=>cases h
theorem pw_ {a b:Bool} {e f:Int} (h:tv_ a e b f=none):a=true∧b=true:=by
  cases a with
  | false=>cases h
  | true=>cases b with
    | true=>exact ⟨rfl,rfl⟩
    | false=>cases h
theorem eg_ {α ρ:Type} {p:Nat→α→Option ρ} {l:List α} (h:ib_ p 0 l=none) {i:Nat} {x:α} (hx:l[i]?=some x):p i x=none:=by
  have:=(km_ l 0).1 h i x hx
  rwa [Nat.zero_add] at this
structure OkR (r:ae_):Prop where
  many:manyR r=false
  pl:∀ (i:Nat) x,r.1[i]?=some x→plOk r i x=true
  ne:r.1≠[]
  th:∀ (i:Nat) x,r.2.1[i]?=some x→thOk r i x=true
  pr:∀ (i:Nat) x,r.2.2.1[i]?=some x→prOk r i x=true∧cOk r.2.1 x.2.2=true
  wy:∀ (i:Nat) x,r.2.2.2.1[i]?=some x→wyOk r x=true∧cOk r.2.1 x.2.2=true
  ac:∀ (i:Nat) x,r.2.2.2.2.1[i]?=some x→wc_ r i x=true∧cOk r.2.1 x.2.2.2.2.1=true
  au:∀ (i:Nat) x,r.2.2.2.2.2.1[i]?=some x→ph_ r.2.1 x.2.1 x.2.2=true∧cOk r.2.1 x.1=true
  py:wi r.2.2.2.2.2.2.1 1 4=true
  go:cOk r.2.1 r.2.2.2.2.2.2.2=true
theorem fb_ {r:ae_} (h:en_ r=0):OkR r:=by
  unfold en_ at h
  cases hm:manyR r with
  | true=>rw [hm] at h; exact absurd (show (2:Int)=0 from h) (by decide)
  | false =>
  rw [hm] at h
  have h:(ib_ (fun i x=>mf_ (plOk r i x) 22) 0 r.1).getD _=0:=h
  obtain ⟨h1,h⟩:=hx_ h (lv_ (fun i x=>yq_ (by decide)) _ _)
  cases he:(r.1.length:Int)==0 with
  | true=>rw [he] at h; exact absurd (show (22:Int)=0 from h) (by decide)
  | false =>
  rw [he] at h
  have h:(ib_ (fun i x=>mf_ (thOk r i x) 21) 0 r.2.1).getD _=0:=h
  obtain ⟨h2,h⟩:=hx_ h (lv_ (fun i x=>yq_ (by decide)) _ _)
  obtain ⟨h3,h⟩:=hx_ h (lv_ (fun i x=>yp_ (by decide) (by decide)) _ _)
  obtain ⟨h4,h⟩:=hx_ h (lv_ (fun i x=>yp_ (by decide) (by decide)) _ _)
  obtain ⟨h5,h⟩:=hx_ h (lv_ (fun i x=>yp_ (by decide) (by decide)) _ _)
  obtain ⟨h6,h⟩:=hx_ h (lv_ (fun i x=>yp_ (by decide) (by decide)) _ _)
  cases h7:wi r.2.2.2.2.2.2.1 1 4 with
  | false=>rw [h7] at h; exact absurd (show (1:Int)=0 from h) (by decide)
  | true =>
  rw [h7] at h
  cases h8:cOk r.2.1 r.2.2.2.2.2.2.2 with
  | false=>rw [h8] at h; exact absurd (show (25:Int)=0 from h) (by decide)
  | true =>
  refine ⟨hm,fun i x hx=>me_ (eg_ h1 hx),fun e => ?_,fun i x hx=>me_ (eg_ h2 hx),fun i x hx=>pw_ (eg_ h3 hx),fun i x hx=>pw_ (eg_ h4 hx),fun i x hx=>pw_ (eg_ h5 hx),fun i x hx=>pw_ (eg_ h6 hx),h7,h8⟩
  rw [e] at he
  cases he
def inR (r:ae_) (p:Int):Bool:=wi p (w64 ((w64 ((-2) - r.2.2.2.2.2.2.1))+1)) (w64 ((r.1.length:Int) - 1))
def lensS (r:ae_) (s:ar_):Bool:=((s.1.length:Int) != (r.2.1.length:Int))||(((s.2.1.length:Int) != (r.2.2.1.length:Int))||((s.2.2.length:Int) != r.2.2.2.2.2.2.1))
def ckS (r:ae_) (s:ar_):Int :=
  cond (lensS r s) 28 ((ib_ (fun i n=>mf_ (ph_ r.2.1 (i:Int) n) 28) 0 s.1).getD ((ib_ (fun _ p=>mf_ (inR r p) 28) 0 s.2.1).getD ((ib_ (fun _ p=>mf_ (te_ r p) 28) 0 s.2.2).getD 0)))
def nm_ (r:ae_) (s:ar_):Int:=cond (en_ r != 0) (en_ r) (ckS r s)
theorem lens_of (r:ae_) (s:ar_):(cond ((s.1.length:Int) != (r.2.1.length:Int))
 (some (true,()))
 (cond ((s.2.1.length:Int) != (r.2.2.1.length:Int))
 (some (true,()))
 (some (((s.2.2.length:Int) != r.2.2.2.2.2.2.1),()))))=some (lensS r s,()):=by
  unfold lensS
  cases (s.1.length:Int) != (r.2.1.length:Int) with
  | true=>rfl
  | false =>
  cases (s.2.1.length:Int) != (r.2.2.1.length:Int) with
  | true=>rfl
  | false=>rfl
theorem lensS_ok {r:ae_} {s:ar_} (h:lensS r s=false):s.1.length=r.2.1.length∧s.2.1.length=r.2.2.1.length∧(s.2.2.length:Int)=r.2.2.2.2.2.2.1:=by
  unfold lensS at h
  simp only [Bool.or_eq_false_iff,bne_eq_false_iff_eq] at h
  omega
theorem gn_ {r:ae_} (h:SmR r) (s:ar_):cs_ r s=some (nm_ r s,()):=by
  unfold cs_ nm_
  rw [ua_ h,Option.bind_some]
  cases hr:en_ r != 0 with
  | true=>rfl
  | false =>
  have ok:=fb_ (by simpa using hr)
  simp only [cond_false]
  refine Eq.trans (congrArg (fun o=>Option.bind o _) (lens_of r s)) ?_
  rw [Option.bind_some]
  unfold ckS
  cases hl:lensS r s with
  | true=>rfl
  | false =>
  obtain ⟨l1,l2,l3⟩:=lensS_ok hl
  have hp:=wi_iff.1 ok.py
  have m1:Sm s.1.length:=by rw [l1]; exact h.th
  have m2:Sm s.2.1.length:=by rw [l2]; exact h.pr
  have m3:Sm s.2.2.length:=by show s.2.2.length≤1000000000; omega
  simp only [cond_false]
  refine ce_ s.1 (fun i n=>mf_ (ph_ r.2.1 (i:Int) n) 28) (fun i y hy => ?_) ?_ (gb_ ?_)
  · have hi:=ax_ hy
    simp only [dlt hi,cond_true,am_ hy,Option.bind_some,cf_ (show Sm i by omega),qw_ h.th]
    unfold mf_
    cases ph_ r.2.1 (i:Int) y <;> rfl
  · simp only [dnl,cond_false]
  refine ce_ s.2.1 (fun _ p=>mf_ (inR r p) 28) (fun i y hy => ?_) ?_ (gb_ ?_)
  · have hi:=ax_ hy
    simp only [dlt hi,cond_true,am_ hy,Option.bind_some,cf_ (show Sm i by omega),fe_]
    unfold mf_ inR
    cases wi y (w64 ((w64 ((-2) - r.2.2.2.2.2.2.1))+1)) (w64 ((r.1.length:Int) - 1)) <;> rfl
  · simp only [dnl,cond_false]
  refine ce_ s.2.2 (fun _ p=>mf_ (te_ r p) 28) (fun i y hy => ?_) ?_ (gb_ ?_)
  · have hi:=ax_ hy
    simp only [dlt hi,cond_true,am_ hy,Option.bind_some,cf_ (show Sm i by omega),fe_]
    unfold mf_ te_
    cases wi y 0 (w64 ((r.1.length:Int) - 1)) <;> rfl
  · simp only [dnl,cond_false]
  rfl
theorem inR_eq {r:ae_} (h:SmR r) (hp:wi r.2.2.2.2.2.2.1 1 4=true) (p:Int):inR r p=(te_ r p||(p==-1||wi p (w64 ((w64 ((-2) - r.2.2.2.2.2.2.1))+1)) (-2))):=by
  have hp:=wi_iff.1 hp
  have hpl:=h.pl
  have e1:w64 ((r.1.length:Int) - 1)=(r.1.length:Int) - 1:=kk_ (by omega) (by omega)
  have e2:w64 ((-2) - r.2.2.2.2.2.2.1)=(-2) - r.2.2.2.2.2.2.1:=kk_ (by omega) (by omega)
  have e3:w64 (((-2) - r.2.2.2.2.2.2.1)+1)=((-2) - r.2.2.2.2.2.2.1)+1:=kk_ (by omega) (by omega)
  unfold inR te_
  rw [e1,e2,e3,Bool.eq_iff_iff]
  simp only [Bool.or_eq_true,wi_iff,beq_iff_eq]
  omega
theorem vq_ {r:ae_} (h:SmR r) (s:ar_):gf_ r s=some (nm_ r s,()):=by
  unfold gf_ nm_
  rw [xl_ h,Option.bind_some]
  cases hr:en_ r != 0 with
  | true=>rfl
  | false =>
  have ok:=fb_ (by simpa using hr)
  simp only [cond_false]
  refine Eq.trans (congrArg (fun o=>Option.bind o _) (lens_of r s)) ?_
  rw [Option.bind_some]
  unfold ckS
  cases hl:lensS r s with
  | true=>rfl
  | false =>
  obtain ⟨l1,l2,l3⟩:=lensS_ok hl
  have hp:=wi_iff.1 ok.py
  have m1:Sm s.1.length:=by rw [l1]; exact h.th
  have m2:Sm s.2.1.length:=by rw [l2]; exact h.pr
  have m3:Sm s.2.2.length:=by show s.2.2.length≤1000000000; omega
  simp only [cond_false]
  refine ce_ s.1 (fun i n=>mf_ (ph_ r.2.1 (i:Int) n) 28) (fun i y hy => ?_) ?_ (gb_ ?_)
  · have hi:=ax_ hy
    simp only [dlt hi,cond_true,am_ hy,Option.bind_some,cf_ (show Sm i by omega),sw_ h.th]
    unfold mf_
    cases ph_ r.2.1 (i:Int) y <;> rfl
  · simp only [dnl,cond_false]
  refine ce_ s.2.1 (fun _ p=>mf_ (inR r p) 28) (fun i y hy => ?_) ?_ (gb_ ?_)
  · have hi:=ax_ hy
    simp only [dlt hi,cond_true,am_ hy,Option.bind_some,cf_ (show Sm i by omega),jv_,iq_]
    rw [inR_eq h ok.py]
    unfold mf_ te_
    have e:(y != -1) = !(y==-1):=rfl
    rw [e]
    cases wi y 0 (w64 ((r.1.length:Int) - 1)) with
    | true=>rfl
    | false =>
    cases y==-1 with
    | true=>rfl
    | false=>cases wi y (w64 ((w64 ((-2) - r.2.2.2.2.2.2.1))+1)) (-2) <;> rfl
  · simp only [dnl,cond_false]
  refine ce_ s.2.2 (fun _ p=>mf_ (te_ r p) 28) (fun i y hy => ?_) ?_ (gb_ ?_)
  · have hi:=ax_ hy
    simp only [dlt hi,cond_true,am_ hy,Option.bind_some,cf_ (show Sm i by omega),jv_]
    unfold mf_ te_
    cases wi y 0 (w64 ((r.1.length:Int) - 1)) <;> rfl
  · simp only [dnl,cond_false]
  rfl
end Go.Proofs.YtfcgcpjnpdkjmaaGreatDoor.Rx
end
section
namespace Go.Proofs.YtfcgcpjnpdkjmaaGreatDoor.Rx
open Go Go.Proofs.YtfcgcpjnpdkjmaaGreatDoor.Pad Go.Proofs.YtfcgcpjnpdkjmaaGreatDoor.Rex
def gi (l:List Int) (i:Int):Int:=(at? l i).getD 0
theorem gi_at {l:List Int} {i x:Int} (h:at? l i=some x):gi l i=x:=by unfold gi; rw [h]; rfl
theorem zr_ {l:List Int} {i:Int} (h0:0≤i) (h1:i<l.length):at? l i=some (gi l i):=by
  obtain ⟨x,hx⟩:=dn_ (l:=l) (i:=i.toNat) (by omega)
  have:at? l i=some x:=by rw [show i=((i.toNat:Nat):Int) by omega]; exact am_ hx
  rw [this,gi_at this]
def InC (n:Nat) (c:List az_):Prop:=∀ l ∈ c,0≤l.1∧l.1<n
theorem yw_ {things:List io_} (hl:Sm things.length) {c:List az_} (h:cOk things c=true):InC things.length c∧c.length≤8:=by
  unfold cOk at h
  rw [Bool.and_eq_true] at h
  refine ⟨fun l hm => ?_,by have:=of_decide_eq_true h.1; omega⟩
  have h2:=List.all_eq_true.1 h.2 l hm
  unfold ph_ at h2
  rw [Bool.and_eq_true] at h2
  have:=wi_iff.1 h2.1
  rw [kk_ (by omega) (by omega)] at this
  omega
def fm_ (th:List Int) (c:List az_):Bool:=c.all fun l=>!((gi th l.1==l.2.1)==l.2.2)
theorem any_not {α:Type} (l:List α) (q:α→Bool):(!(l.any q))=l.all fun x=>!(q x):=by
  induction l with
  | nil=>rfl
  | cons x l ih =>
    rw [List.any_cons,List.all_cons,← ih]
    cases q x <;> rfl
theorem js_ {t:kt_} {c:List az_} (hc:Sm c.length) (hi:InC t.2.1.length c):bg_ t c=some (fm_ t.2.1 c,()):=by
  unfold bg_ fm_
  refine Eq.trans (congrArg (fun o=>Option.bind o _) (pb_ hc (fun l=>(gi t.2.1 l.1==l.2.1)==l.2.2) (fun i y hy => ?_) ?_)) ?_
  · have:=hi y (cj_ hy)
    simp only [dlt (ax_ hy),cond_true,am_ hy,zr_ this.1 this.2,Option.bind_some]
    cases (gi t.2.1 y.1==y.2.1)==y.2.2 <;> rfl
  · simp only [dnl,cond_false]
  · rw [Option.bind_some]
    exact congrArg (fun b=>some (b,())) (any_not c _)
theorem ref02_Holding {s:ar_} {c:List az_} (hc:Sm c.length) (hi:InC s.1.length c):gt_ s c=some (fm_ s.1 c,()):=by
  unfold gt_ fm_
  refine cp_ c (fun i l=>cond ((gi s.1 l.1==l.2.1)==l.2.2) (some (Sum.inr (false,()):Unit⊕(Bool×Unit))) none) (fun i=>((i:Int),())) (r0:=Sum.inl ()) (fun i y hy => ?_) ?_ ?_
  · have:=hi y (cj_ hy)
    have hl:=ax_ hy
    simp only [dlt hl,cond_true,am_ hy,zr_ this.1 this.2,Option.bind_some,cf_ (show Sm i by omega)]
    cases (gi s.1 y.1==y.2.1)==y.2.2 <;> rfl
  · simp only [dnl,cond_false]
  · rw [jd_ (q:=fun l:az_=>(gi s.1 l.1==l.2.1)==l.2.2),← any_not]
    cases c.any fun l=>(gi s.1 l.1==l.2.1)==l.2.2 <;> rfl
end Go.Proofs.YtfcgcpjnpdkjmaaGreatDoor.Rx
end
section
set_option maxRecDepth 100000
set_option maxHeartbeats 0
namespace Go.Proofs.YtfcgcpjnpdkjmaaGreatDoor.Rx
open Go Go.Proofs.YtfcgcpjnpdkjmaaGreatDoor.Pad Go.Proofs.YtfcgcpjnpdkjmaaGreatDoor.Rex Go.Proofs
def an_82:An:=.z
def at_82:FuncId→An:=fun k=>.z
noncomputable def cs_82:List (Con Tryz.prog):=[c_147,c_160,c_161]
noncomputable def cl_82:List (Cpy Tryz.prog):=[cp_34]
noncomputable def cx_82:Cx Tryz.prog:=cxI at_82 (fun k=>Nat.beq k 34||Nat.beq k 147||Nat.beq k 160||Nat.beq k 161||false) (cxC cs_82 cl_82) 2
noncomputable def fr_ (a0:ae_) (a1:ar_) (a2:(List az_)):Option (Bool×Int×Unit) :=
 ((cs_ a0 a1).bind fun v0 =>
 (cond (v0.1 != 0)
 (some (false,(v0.1,())))
 ((ev_ a0 a2).bind fun v1 =>
 (cond (!v1.1)
 (some (false,(25,())))
 ((push? (α:=Int) [] a1.1).bind fun v2 =>
 ((push? (α:=Int) [] a1.2.1).bind fun v3 =>
 ((push? (α:=Int) [] a1.2.2).bind fun v4 =>
 ((bg_ (a0,(v2,(v3,v4))) a2).bind fun v5 =>
 (some (v5.1,(0,())))))))))))
theorem x_82:ch_ cx_82 an_82 82 [ay_,cc_,(.list cr_)] [.bool,.int]=fun x=>fr_ x.1 x.2.1 x.2.2.1:=by kernel_rfl
noncomputable def c_82:Con Tryz.prog:=ck_ _ _ 82 [ay_,cc_,(.list cr_)] [.bool,.int] _ x_82
noncomputable abbrev nl_:Gb:=⟨Gb.ev,fun c p=>cond (Nat.beq c 1107331088&&eqS p "room.go:184") true (cond (Nat.beq c 197138433&&eqS p "room.go:183") true (cond (Nat.beq c 130027520&&eqS p "room.go:183") true (Gb.fz c p))),Gb.gd,Gb.gl,fun c=>cond (Nat.beq c 1107331088) (some gj_) (cond (Nat.beq c 197138433) (some cc_) (cond (Nat.beq c 130027520) (some ay_) (none)))⟩
def an_137:An:=.z
def at_137:FuncId→An:=fun k=>.z
noncomputable def cs_137:List (@Con nl_ Tryz.prog _):=[@cvG instGb nl_ Tryz.prog _ (fun _=>rfl) c_160,@cvG instGb nl_ Tryz.prog _ (fun _=>rfl) c_161,@cpCon nl_ Tryz.prog _ cp_34]
noncomputable def cx_137:@Cx nl_ Tryz.prog _:=@cxI nl_ Tryz.prog _ at_137 (fun k=>Nat.beq k 34||Nat.beq k 160||Nat.beq k 161||false) (@cxC nl_ Tryz.prog _ cs_137 []) 2
noncomputable def ka_ (a0:ae_) (a1:ar_):Option (Bool×Int×Unit) :=
 ((cs_ a0 a1).bind fun v0 =>
 (cond (v0.1 != 0)
 (some (false,(v0.1,())))
 ((((push? (α:=Int) [] a1.1).bind fun v1 =>
 (some (v1,())))).bind fun v2 =>
 ((((push? (α:=Int) [] a1.2.1).bind fun v3 =>
 (some (v3,())))).bind fun v4 =>
 ((((push? (α:=Int) [] a1.2.2).bind fun v5 =>
 (some (v5,())))).bind fun v6 =>
 ((bg_ (a0,(v2.1,(v4.1,v6.1))) a0.2.2.2.2.2.2.2).bind fun v7 =>
 (some (v7.1,(0,())))))))))
theorem x_137:@ch_ nl_ Tryz.prog _ cx_137 an_137 137 [ay_,cc_] [.bool,.int]=fun x=>ka_ x.1 x.2.1:=by kernel_rfl
noncomputable def c_137:Con Tryz.prog:=@cvG nl_ instGb Tryz.prog _ (fun _=>rfl) <| @ck_ nl_ Tryz.prog _ _ _ 137 [ay_,cc_] [.bool,.int] _ x_137
def an_185:An:=.z
noncomputable def cs_185:List (Con Tryz.prog):=[c_36,c_160]
noncomputable def cl_185:List (Cpy Tryz.prog):=[]
noncomputable def cx_185:Cx Tryz.prog:=cxC cs_185 cl_185
noncomputable def iy_ (a0:ai_) (a1:bk_):Option (Int×Unit) :=
 ((gv_ a0).bind fun v0 =>
 (cond (v0.1 != 0)
 (some (v0.1,()))
 ((cs_ a0.1 a1.1).bind fun v1 =>
 (cond (v1.1 != 0)
 (some (v1.1,()))
 (cond ((a1.2.length:Int) != (a0.2.2.2.1.length:Int))
 (some (28,()))
 (some (0,())))))))
theorem x_185:ch_ cx_185 an_185 185 [bq_,cy_] [.int]=fun x=>iy_ x.1 x.2.1:=by kernel_rfl
noncomputable def c_185:Con Tryz.prog:=ck_ _ _ 185 [bq_,cy_] [.int] _ x_185
def an_205:An:=(.p .z (.p .z (.p .z (.p .z (.j0 [.o (.c (.s 9) 8) .int,.o (.c (.s 9) 9) .int,.o (.c (.s 9) 10) .int] .z .z)))))
def at_205:FuncId→An:=fun k=>cond (Nat.beq k 81) (.p .z (.p (.j0 [.v 6 .bool,.o (.c (.s 0) 8) .int] .z .z) .z)) (cond (Nat.beq k 159) (.p .z (.p (.p .z (.ls [.v 4 .int] [] [.o (.c (.s 0) 8) .int] 0 (.p .z (.p .z (.p (.j0 [.v 3 .int] .z .z) .z))))) .z)) (cond (Nat.beq k 225) (.p .z (.p (.p .z (.ls [.v 8 .int] [] [] 0 .z)) .z)) (cond (Nat.beq k 226) (.p .z (.j0 [.v 3 .bool] .z .z)) (cond (Nat.beq k 257) (.p .z (.p .z (.p .z (.p .z (.p .z (.p .z (.p .z (.p .z (.p .z (.p .z (.p (.p .z (.p (.p .z (.lp [.v 96 .int] [] [.o (.c (.s 0) 9) .int] 1 .z)) (.p (.p .z (.lp [.v 111 .int] [] [.o (.c (.s 0) 9) .int] 3 .z)) (.p .z (.lp [.v 127 .int] [] [.o (.c (.s 0) 8) .int] 5 .z))))) .z))))))))))) (.z)))))
noncomputable def cs_205:List (Con Tryz.prog):=[c_160,c_161,c_250]
noncomputable def cl_205:List (Cpy Tryz.prog):=[cp_34]
noncomputable def cx_205:Cx Tryz.prog:=cxI at_205 (fun k=>Nat.beq k 34||Nat.beq k 160||Nat.beq k 161||Nat.beq k 250||false) (cxC cs_205 cl_205) 7
noncomputable def ma_ (a0:ae_) (a1:ar_) (a2:bp_):Option (ar_×Int×Unit) :=
 ((cs_ a0 a1).bind fun v0 =>
 (cond (v0.1 != 0)
 (some (([],([],[])),(v0.1,())))
 ((push? (α:=Int) [] a1.1).bind fun v1 =>
 ((push? (α:=Int) [] a1.2.1).bind fun v2 =>
 ((push? (α:=Int) [] a1.2.2).bind fun v3 =>
 ((ew_ (a0,(v1,(v2,v3))) a2).bind fun v4 =>
 (cond (!v4.1)
 (some (([],([],[])),(29,())))
 (((cond (a2.2.1==1)
 ((at? a0.2.2.2.1 a2.2.2).bind fun v5 =>
 ((at? v3 a2.1).bind fun v6 =>
 ((at? v3 a2.1).bind fun v7 =>
 ((at? v3 a2.1).bind fun v8 =>
 ((at? v3 a2.1).bind fun v9 =>
 (some (v1,(v2,((v3.set a2.1.toNat (w64 ((w64 (v5.1+v5.2.1)) - v7))),())))))))))
 (cond (a2.2.1==2)
 ((at? v2 a2.2.2).bind fun v10 =>
 ((at? v2 a2.2.2).bind fun v11 =>
 (some (v1,((v2.set a2.2.2.toNat (w64 ((-2) - a2.1))),(v3,()))))))
 (cond (a2.2.1==3)
 ((at? v3 a2.1).bind fun v12 =>
 ((at? v3 a2.1).bind fun v13 =>
 ((at? v2 a2.2.2).bind fun v14 =>
 ((at? v2 a2.2.2).bind fun v15 =>
 (some (v1,((v2.set a2.2.2.toNat v13),(v3,()))))))))
 (cond (a2.2.1==4)
 ((at? a0.2.2.2.2.1 a2.2.2).bind fun v16 =>
 ((af_ (ρ:=((List Int)×Unit)) (fun (v17:(Int×((List Int)×Unit))) =>
 (cond (decide (v17.1<(v16.2.2.2.2.2.2.1.length:Int)))
 ((at? v16.2.2.2.2.2.2.1 v17.1).bind fun v18 =>
 ((at? v17.2.1 v18).bind fun v19 =>
 ((at? v17.2.1 v18).bind fun v20 =>
 (some (Sum.inl ((w64 (v17.1+1)),((v17.2.1.set v18.toNat (-1)),())))))))
 (some (Sum.inr (v17.2.1,()))))) (0,(v2,()))).bind fun v21 =>
 ((af_ (ρ:=((List Int)×Unit)) (fun (v22:(Int×((List Int)×Unit))) =>
 (cond (decide (v22.1<(v16.2.2.2.2.2.2.2.length:Int)))
 ((at? v16.2.2.2.2.2.2.2 v22.1).bind fun v23 =>
 ((at? v22.2.1 v23).bind fun v24 =>
 ((at? v22.2.1 v23).bind fun v25 =>
 (some (Sum.inl ((w64 (v22.1+1)),((v22.2.1.set v23.toNat (w64 ((-2) - a2.1))),())))))))
 (some (Sum.inr (v22.2.1,()))))) (0,(v21.1,()))).bind fun v26 =>
 ((af_ (ρ:=((List Int)×Unit)) (fun (v27:(Int×((List Int)×Unit))) =>
 (cond (decide (v27.1<(v16.2.2.2.2.2.1.length:Int)))
 ((at? v16.2.2.2.2.2.1 v27.1).bind fun v28 =>
 ((at? v27.2.1 v28.1).bind fun v29 =>
 ((at? v27.2.1 v28.1).bind fun v30 =>
 (some (Sum.inl ((w64 (v27.1+1)),((v27.2.1.set v28.1.toNat v28.2),())))))))
 (some (Sum.inr (v27.2.1,()))))) (0,(v1,()))).bind fun v31 =>
 (some (v31.1,(v26.1,(v3,()))))))))
 (some (v1,(v2,(v3,()))))))))).bind fun v32 =>
 ((((af_ (ρ:=(((List Int)×Unit)⊕(Bool×((List Int)×Unit)))) (fun (v33:(Int×((List Int)×Unit))) =>
 (cond (decide (v33.1<101))
 ((((af_ (ρ:=(Unit⊕(Int×Unit))) (fun (v34:(Int×Unit)) =>
 (cond (decide (v34.1<(a0.2.2.2.2.2.1.length:Int)))
 ((at? a0.2.2.2.2.2.1 v34.1).bind fun v35 =>
 ((((at? v33.2.1 v35.2.1).bind fun v36 =>
 ((at? v33.2.1 v35.2.1).bind fun v37 =>
 (cond (v37 != v35.2.2)
 ((bg_ (a0,(v33.2.1,(v32.2.1,v32.2.2.1))) v35.1).bind fun v38 =>
 (some (v38.1,())))
 (some (false,())))))).bind fun v39 =>
 (cond v39.1
 (some (Sum.inr (Sum.inr (v34.1,()))))
 (some (Sum.inl ((w64 (v34.1+1)),()))))))
 (some (Sum.inr (Sum.inl ()))))) (0,())).bind fun v40 =>
 (de_ v40 (fun v41=>(some ((-1),())))
 (fun v42=>(some v42))))).bind fun v43 =>
 (cond (decide (v43.1<0))
 (some (Sum.inr (Sum.inr ((!true),(v33.2.1,())))))
 ((at? a0.2.2.2.2.2.1 v43.1).bind fun v44 =>
 ((at? a0.2.2.2.2.2.1 v43.1).bind fun v45 =>
 ((at? v33.2.1 v44.2.1).bind fun v46 =>
 ((at? v33.2.1 v44.2.1).bind fun v47 =>
 (some (Sum.inl ((w64 (v33.1+1)),((v33.2.1.set v44.2.1.toNat v45.2.2),()))))))))))
 (some (Sum.inr (Sum.inl (v33.2.1,())))))) (0,(v32.1,()))).bind fun v48 =>
 (de_ v48 (fun v49=>(some ((!false),(v49.1,()))))
 (fun v50=>(some v50))))).bind fun v51 =>
 (cond v51.1
 (some (([],([],[])),(27,())))
 (some ((v51.2.1,(v32.2.1,v32.2.2.1)),(0,())))))))))))))
theorem x_205:ch_ cx_205 an_205 205 [ay_,cc_,fy_] [cc_,.int]=fun x=>ma_ x.1 x.2.1 x.2.2.1:=by kernel_rfl
noncomputable def c_205:Con Tryz.prog:=ck_ _ _ 205 [ay_,cc_,fy_] [cc_,.int] _ x_205
def an_11:An:=.z
noncomputable def cs_11:List (Con Tryz.prog):=[c_40,c_41]
noncomputable def cl_11:List (Cpy Tryz.prog):=[]
noncomputable def cx_11:Cx Tryz.prog:=cxC cs_11 cl_11
noncomputable def dp_ (a0:ai_) (a1:bk_):Option (Int×Unit) :=
 ((jk_ a0).bind fun v0 =>
 (cond (v0.1 != 0)
 (some (v0.1,()))
 ((gf_ a0.1 a1.1).bind fun v1 =>
 (cond (v1.1 != 0)
 (some (v1.1,()))
 (cond ((a1.2.length:Int) != (a0.2.2.2.1.length:Int))
 (some (28,()))
 (some (0,())))))))
theorem x_11:ch_ cx_11 an_11 11 [bq_,cy_] [.int]=fun x=>dp_ x.1 x.2.1:=by kernel_rfl
noncomputable def c_11:Con Tryz.prog:=ck_ _ _ 11 [bq_,cy_] [.int] _ x_11
end Go.Proofs.YtfcgcpjnpdkjmaaGreatDoor.Rx
end
section
set_option maxRecDepth 100000
set_option maxHeartbeats 0
namespace Go.Proofs.YtfcgcpjnpdkjmaaGreatDoor.Rx
open Go Go.Proofs.YtfcgcpjnpdkjmaaGreatDoor.Pad Go.Proofs.YtfcgcpjnpdkjmaaGreatDoor.Rex Go.Proofs
def an_10:An:=.z
def at_10:FuncId→An:=fun k=>cond (Nat.beq k 38) (.p .z (.lp [.v 12 .int] [] [.o (.c (.s 0) 15) .bool,.m (.c (.s 0) 16) .int .int] 0 (.p .z (.p .z (.j0 [.o (.c (.s 0) 15) .bool,.m (.c (.s 0) 16) .int .int] (.p .z (.p .z (.j0 [.v 55 .bool] .z .z))) .z))))) (.z)
noncomputable def cs_10:List (Con Tryz.prog):=[c_36,c_37,c_82,c_83]
noncomputable def cl_10:List (Cpy Tryz.prog):=[cp_34,cp_84]
noncomputable def cx_10:Cx Tryz.prog:=cxI at_10 (fun k=>Nat.beq k 34||Nat.beq k 36||Nat.beq k 37||Nat.beq k 82||Nat.beq k 83||Nat.beq k 84||false) (cxC cs_10 cl_10) 3
noncomputable def ey_ (a0:ai_):Option (bk_×Int×Unit) :=
 ((gv_ a0).bind fun v0 =>
 (cond (v0.1 != 0)
 (some ((([],([],[])),[]),(v0.1,())))
 ((kp_ a0.1).bind fun v1 =>
 (cond (v1.2.1 != 0)
 (some ((([],([],[])),[]),(v1.2.1,())))
 ((mk? (α:=Bool) (a0.2.2.2.1.length:Int) false).bind fun v2 =>
 ((af_ (ρ:=((List Bool)×((List ag_)×Unit))) (fun (v3:(Int×((List Bool)×((List ag_)×Unit)))) =>
 (cond (decide (v3.1<(a0.2.2.2.1.length:Int)))
 ((((at? a0.2.2.2.1 v3.1).bind fun v4 =>
 ((fr_ a0.1 v1.1 v4.2.2.2.1).bind fun v5 =>
 (((cond v5.1
 ((cb_ v1.1.2.2 v4.2.1).bind fun v6 =>
 (cond v6.1
 ((at? v3.2.1 v3.1).bind fun v7 =>
 ((at? v3.2.1 v3.1).bind fun v8 =>
 (some ((!v8),()))))
 (some (false,()))))
 (some (false,())))).bind fun v9 =>
 (cond v9.1
 ((at? v3.2.1 v3.1).bind fun v10 =>
 ((at? v3.2.1 v3.1).bind fun v11 =>
 (some ((v3.2.1.set v3.1.toNat true),((mdel v3.2.2.1 v4.2.2.1),())))))
 (some (v3.2.1,(v3.2.2.1,())))))))).bind fun v12 =>
 (some (Sum.inl ((w64 (v3.1+1)),(v12.1,(v12.2.1,()))))))
 (some (Sum.inr (v3.2.1,(v3.2.2.1,())))))) (0,(v2,([],())))).bind fun v13 =>
 ((push? (α:=Int) [] v1.1.1).bind fun v14 =>
 ((push? (α:=Int) [] v1.1.2.1).bind fun v15 =>
 ((push? (α:=Int) [] v1.1.2.2).bind fun v16 =>
 ((push? (α:=Bool) [] v13.1).bind fun v17 =>
 (some (((v14,(v15,v16)),v17),(0,())))))))))))))
theorem x_10:ch_ cx_10 an_10 10 [bq_] [cy_,.int]=fun x=>ey_ x.1:=by kernel_rfl
noncomputable def c_10:Con Tryz.prog:=ck_ _ _ 10 [bq_] [cy_,.int] _ x_10
def an_73:An:=(.p .z (.p .z (.p .z (.p (.j0 [.v 23 .bool,.o (.c (.s 8) 15) .bool,.m (.c (.s 8) 16) .int .int,.b (.s 8) [.keep,.keep,.keep,.keep,.keep,.keep,.keep,.keep,.keep,.keep,.keep,.keep,.val (.list .int),.val (.list .int),.val (.list .int),.keep,.keep]] .z .z) .z))))
def at_73:FuncId→An:=fun k=>cond (Nat.beq k 38) (.p .z (.lp [.v 12 .int] [] [.o (.c (.s 0) 15) .bool,.m (.c (.s 0) 16) .int .int] 0 (.p .z (.p .z (.j0 [.o (.c (.s 0) 15) .bool,.m (.c (.s 0) 16) .int .int] (.p .z (.p .z (.j0 [.v 55 .bool] .z .z))) .z))))) (cond (Nat.beq k 108) (.p .z (.p .z (.j0 [.m (.c (.s 0) 16) .int .int] (.p .z (.p (.p .z (.p .z (.j0 [.v 37 .bool] .z .z))) .z)) .z))) (cond (Nat.beq k 110) (.p .z (.p (.p .z (.lp [.r 6 .int 3,.r 7 dc_ 98,.v 13 .int] [.r 6 .int 3,.r 7 dc_ 98] [] 0 (.p .z (.p .z (.j0 [.r 6 .int 3,.r 7 dc_ 98] (.p .z (.j0 [.v 26 .bool] .z .z)) .z))))) .z)) (cond (Nat.beq k 138) (.p .z (.p (.j0 [.v 38 .bool,.m (.c (.s 0) 16) .int .int] .z .z) .z)) (.z))))
noncomputable def cs_73:List (Con Tryz.prog):=[c_29,c_79,c_82,c_83,c_185,c_205]
noncomputable def cl_73:List (Cpy Tryz.prog):=[cp_34,cp_84]
noncomputable def cx_73:Cx Tryz.prog:=cxI at_73 (fun k=>Nat.beq k 29||Nat.beq k 34||Nat.beq k 79||Nat.beq k 82||Nat.beq k 83||Nat.beq k 84||Nat.beq k 185||Nat.beq k 205||false) (cxC cs_73 cl_73) 9
noncomputable def kb_ (a0:ai_) (a1:bk_) (a2:bp_):Option (bk_×Int×Unit) :=
 ((iy_ a0 a1).bind fun v0 =>
 (cond (v0.1 != 0)
 (cond (v0.1 != 0)
 (some ((([],([],[])),[]),(v0.1,())))
 none)
 ((push? (α:=Bool) [] a1.2).bind fun v1 =>
 (((((cond (a2.2.1==4)
 ((ed_ a2.2.2 0 (w64 ((a0.1.2.2.2.2.1.length:Int) - 1))).bind fun v2 =>
 (cond v2.1
 ((at? a0.1.2.2.2.2.1 a2.2.2).bind fun v3 =>
 (cond (decide (v3.2.2.1<0))
 (some ((!true),([],())))
 ((((af_ (ρ:=((List Int)×((List bn_)×Unit))) (fun (v4:((List Int)×((List bn_)×(Int×Unit)))) =>
 (cond (decide (v4.2.2.1<(a0.2.2.2.1.length:Int)))
 ((((at? a0.2.2.2.1 v4.2.2.1).bind fun v5 =>
 (((cond (v5.2.2.1==v3.2.2.1)
 ((at? v1 v4.2.2.1).bind fun v6 =>
 ((at? v1 v4.2.2.1).bind fun v7 =>
 (some (v7,()))))
 (some (false,())))).bind fun v8 =>
 (cond v8.1
 ((push? (α:=Int) v4.1 [v4.2.2.1]).bind fun v9 =>
 ((push? (α:=bn_) v4.2.1 [v5.2.2.2.2]).bind fun v10 =>
 (some (v9,(v10,())))))
 (some (v4.1,(v4.2.1,()))))))).bind fun v11 =>
 (some (Sum.inl (v11.1,(v11.2.1,((w64 (v4.2.2.1+1)),()))))))
 (some (Sum.inr (v4.1,(v4.2.1,())))))) ([],([],(0,())))).bind fun v12 =>
 ((at? a0.2.1 v3.2.2.1).bind fun v13 =>
 ((ez_ v13 v12.2.1).bind fun v14 =>
 (((cond (v14.2.1==0)
 (some ((decide (v14.1≤a0.2.2.2.2)),()))
 (some (false,())))).bind fun v15 =>
 (cond v15.1
 (some ((mset (mset [] v3.2.2.1 2) v3.2.2.1 1),()))
 (some ((mset [] v3.2.2.1 2),())))))))).bind fun v16 =>
 (some ((!((mlook 0 v16.1 v3.2.2.1)==1)),(v16.1,()))))))
 (some (false,([],())))))
 (some (false,([],()))))).bind fun v17 =>
 (cond v17.1
 (some ((!false),(v1,(v17.2.1,((a1.1.1,(a1.1.2.1,(a1.1.2.2,()))),())))))
 ((ma_ a0.1 a1.1 a2).bind fun v18 =>
 (cond (v18.2.1 != 0)
 (some ((!false),(v1,(v17.2.1,((a1.1.1,(a1.1.2.1,(a1.1.2.2,()))),())))))
 ((af_ (ρ:=((List Bool)×((List ag_)×Unit))) (fun (v19:(Int×((List Bool)×((List ag_)×Unit)))) =>
 (cond (decide (v19.1<(a0.2.2.2.1.length:Int)))
 ((((at? a0.2.2.2.1 v19.1).bind fun v20 =>
 ((fr_ a0.1 v18.1 v20.2.2.2.1).bind fun v21 =>
 (((cond v21.1
 ((cb_ v18.1.2.2 v20.2.1).bind fun v22 =>
 (cond v22.1
 ((at? v19.2.1 v19.1).bind fun v23 =>
 ((at? v19.2.1 v19.1).bind fun v24 =>
 (some ((!v24),()))))
 (some (false,()))))
 (some (false,())))).bind fun v25 =>
 (cond v25.1
 ((at? v19.2.1 v19.1).bind fun v26 =>
 ((at? v19.2.1 v19.1).bind fun v27 =>
 (some ((v19.2.1.set v19.1.toNat true),((mdel v19.2.2.1 v20.2.2.1),())))))
 (some (v19.2.1,(v19.2.2.1,())))))))).bind fun v28 =>
 (some (Sum.inl ((w64 (v19.1+1)),(v28.1,(v28.2.1,()))))))
 (some (Sum.inr (v19.2.1,(v19.2.2.1,())))))) (0,(v1,(v17.2.1,())))).bind fun v29 =>
 (some ((!true),(v29.1,(v29.2.1,((v18.1.1,(v18.1.2.1,(v18.1.2.2,()))),()))))))))))).bind fun v30 =>
 (cond v30.1
 (some ((([],([],[])),[]),(29,())))
 ((push? (α:=Int) [] v30.2.2.2.1.1).bind fun v31 =>
 ((push? (α:=Int) [] v30.2.2.2.1.2.1).bind fun v32 =>
 ((push? (α:=Int) [] v30.2.2.2.1.2.2.1).bind fun v33 =>
 ((push? (α:=Bool) [] v30.2.1).bind fun v34 =>
 (some (((v31,(v32,v33)),v34),(0,()))))))))))))
theorem x_73:ch_ cx_73 an_73 73 [bq_,cy_,fy_] [cy_,.int]=fun x=>kb_ x.1 x.2.1 x.2.2.1:=by kernel_rfl
noncomputable def c_73:Con Tryz.prog:=ck_ _ _ 73 [bq_,cy_,fy_] [cy_,.int] _ x_73
end Go.Proofs.YtfcgcpjnpdkjmaaGreatDoor.Rx
end
section
set_option maxRecDepth 100000
set_option maxHeartbeats 0
namespace Go.Proofs.YtfcgcpjnpdkjmaaGreatDoor.Rx
open Go Go.Proofs.YtfcgcpjnpdkjmaaGreatDoor.Pad Go.Proofs.YtfcgcpjnpdkjmaaGreatDoor.Rex Go.Proofs
def an_9:An:=(.p .z (.p .z (.p .z (.p .z (.p (.p .z (.ls [.r 4 ij_ 70,.v 8 .int,.v 24 .int] [.r 4 ij_ 70] [.b (.s 7) [.keep,.keep,.keep,.keep,.keep,.keep,.keep,.keep,.keep,.keep,.keep,.keep,.val (.list .int),.val (.list .int),.val (.list .int),.val (.list .bool),.keep,.keep,.keep,.keep,.keep]] 0 (.p .z (.p .z (.p (.p .z (.p .z (.p .z (.p .z (.p (.j0 [.v 48 .bool,.b (.s 7) [.keep,.keep,.keep,.keep,.keep,.keep,.keep,.keep,.keep,.keep,.keep,.keep,.val (.list .int),.val (.list .int),.val (.list .int),.val (.list .bool),.keep,.keep,.keep,.keep,.keep]] .z .z) (.p .z (.p .z (.lp [.r 4 ij_ 70,.v 65 .int] [.r 4 ij_ 70] [] 2 (.p .z (.p .z (.j0 [.r 4 ij_ 70] .z .z))))))))))) .z))))) .z)))))
def at_9:FuncId→An:=fun k=>cond (Nat.beq k 32) (.p .z (.p .z (.p .z (.p .z (.j0 [.b (.s 6) [.keep,.keep,.keep,.keep,.keep,.keep,.keep,.keep,.keep,.keep,.keep,.keep,.keep,.keep,.keep,.keep,.keep,.keep,.keep,.val .int,.keep]] .z .z))))) (cond (Nat.beq k 72) (.p .z (.p .z (.j0 [.v 2 .bool] .z .z))) (.z))
noncomputable def cs_9:List (Con Tryz.prog):=[c_10,c_33,c_73,c_137]
noncomputable def cl_9:List (Cpy Tryz.prog):=[cp_34]
noncomputable def cx_9:Cx Tryz.prog:=cxI at_9 (fun k=>Nat.beq k 10||Nat.beq k 33||Nat.beq k 34||Nat.beq k 73||Nat.beq k 137||false) (cxC cs_9 cl_9) 4
noncomputable def gu_ (a0:ai_) (a1:(List fg_)):Option ((List ak_)×Int×Int×Unit) :=
 ((ey_ a0).bind fun v0 =>
 (cond (v0.2.1 != 0)
 (cond (v0.2.1 != 0)
 (some ([],(0,(v0.2.1,()))))
 none)
 ((((ka_ a0.1 v0.1.1).bind fun v1 =>
 (((cond (v1.2.1==0)
 (some (v1.1,()))
 (some (false,())))).bind fun v2 =>
 (cond v2.1
 (some ((0,()),()))
 (some (((-1),()),())))))).bind fun v3 =>
 ((af_ (ρ:=(((List ak_)×(((List Int)×((List Int)×((List Int)×((List Bool)×Unit))))×Unit))⊕((List ak_)×(Int×(Int×Unit))))) (fun (v4:((List ak_)×(Int×(Int×(((List Int)×((List Int)×((List Int)×((List Bool)×Unit))))×Unit))))) =>
 (cond (decide (v4.2.2.1<(a1.length:Int)))
 ((at? a1 v4.2.2.1).bind fun v5 =>
 ((jn_ v5.1 v4.2.1 1000000).bind fun v6 =>
 (cond (!v6.1)
 (some (Sum.inr (Sum.inr ([],(v4.2.2.1,(1,()))))))
 ((push? (α:=Int) [] v4.2.2.2.1.1).bind fun v7 =>
 ((((kb_ a0 ((v4.2.2.2.1.1,(v4.2.2.2.1.2.1,v4.2.2.2.1.2.2.1)),v4.2.2.2.1.2.2.2.1) v5.2).bind fun v8 =>
 (cond (v8.2.1 != 0)
 (some ((!false),((v4.2.2.2.1.1,(v4.2.2.2.1.2.1,(v4.2.2.2.1.2.2.1,(v4.2.2.2.1.2.2.2.1,())))),())))
 (some ((!true),((v8.1.1.1,(v8.1.1.2.1,(v8.1.1.2.2,(v8.1.2,())))),())))))).bind fun v9 =>
 (cond v9.1
 (some (Sum.inr (Sum.inr ([],(v4.2.2.1,(29,()))))))
 ((push? (α:=ak_) v4.1 [(v5.1,(1,(v5.2,(0,0))))]).bind fun v10 =>
 ((af_ (ρ:=((List ak_)×Unit)) (fun (v11:((List ak_)×(Int×Unit))) =>
 (cond (decide (v11.2.1<(v9.2.1.1.length:Int)))
 ((((at? v9.2.1.1 v11.2.1).bind fun v12 =>
 ((at? v7 v11.2.1).bind fun v13 =>
 ((at? v7 v11.2.1).bind fun v14 =>
 (cond (v12 != v14)
 ((push? (α:=ak_) v11.1 [(v5.1,(5,((0,(0,0)),(v11.2.1,v12))))]).bind fun v15 =>
 (some (v15,())))
 (some (v11.1,()))))))).bind fun v16 =>
 (some (Sum.inl (v16.1,((w64 (v11.2.1+1)),())))))
 (some (Sum.inr (v11.1,()))))) (v10,(0,()))).bind fun v17 =>
 (some (Sum.inl (v17.1,(v5.1,((w64 (v4.2.2.1+1)),((v9.2.1.1,(v9.2.1.2.1,(v9.2.1.2.2.1,(v9.2.1.2.2.2.1,())))),()))))))))))))))
 (some (Sum.inr (Sum.inl (v4.1,((v4.2.2.2.1.1,(v4.2.2.2.1.2.1,(v4.2.2.2.1.2.2.1,(v4.2.2.2.1.2.2.2.1,())))),()))))))) ([],(0,(0,((v0.1.1.1,(v0.1.1.2.1,(v0.1.1.2.2,(v0.1.2,())))),()))))).bind fun v18 =>
 (de_ v18 (fun v19=>(cond (decide (500<(v19.1.length:Int)))
 (some ([],(0,(2,()))))
 (some (v19.1,(0,(0,()))))))
 (fun v20=>(some v20)))))))
theorem x_9:ch_ cx_9 an_9 9 [bq_,(.list od_)] [(.list ij_),.int,.int]=fun x=>gu_ x.1 x.2.1:=by kernel_rfl
noncomputable def c_9:Con Tryz.prog:=ck_ _ _ 9 [bq_,(.list od_)] [(.list ij_),.int,.int] _ x_9
end Go.Proofs.YtfcgcpjnpdkjmaaGreatDoor.Rx
end
section
set_option maxRecDepth 100000
set_option maxHeartbeats 0
namespace Go.Proofs.YtfcgcpjnpdkjmaaGreatDoor.Rx
open Go Go.Proofs.YtfcgcpjnpdkjmaaGreatDoor.Pad Go.Proofs.YtfcgcpjnpdkjmaaGreatDoor.Rex Go.Proofs
def an_3:An:=(.p .z (.p (.j0 [.v 46 .bool] .z .z) (.p .z (.p .z (.p .z (.p .z (.p (.j0 [.v 74 .bool] .z .z) (.p .z (.p .z (.p (.p .z (.lp [.v 15 .int] [] [.g (.s 80) jt_] 0 .z)) (.p .z (.p (.p .z (.lp [.r 17 gk_ 66,.v 18 .int] [.r 17 gk_ 66] [] 2 .z)) (.p (.p .z (.lp [.r 17 gk_ 66,.v 19 .int] [.r 17 gk_ 66] [] 4 (.p .z (.j0 [.r 17 gk_ 66] (.j0 [.v 153 .bool] .z .z) .z)))) (.p (.q [(.c (.s 14) 1)] .z .z) (.j0 [.v 20 (.list .int),.v 21 .int] .z (.p (.j0 [.v 191 .bool] .z .z) (.p .z (.p .z (.p (.p .z (.ls [.v 23 .int,.v 24 .int] [] [.o (.c (.s 22) 0) .int] 6 (.p .z (.p (.p (.ls [.v 23 .int] [.v 23 .int] [.o (.c (.s 22) 0) .int] 8 (.p (.j0 [.v 212 .bool] .z .z) (.js [.o (.c (.s 22) 0) .int] (.p .z (.p (.p (.j0 [.v 235 .bool] .z .z) .z) .z)) .z))) .z) .z)))) (.p (.j0 [.v 269 .bool] .z .z) (.j0 [.v 20 (.list .int),.v 21 .int,.x (.s 17)] .z (.p (.j0 [.v 289 .bool] .z .z) (.p (.p .z (.ls [.v 25 .int] [] [] 10 .z)) .z)))))))))))))))))))))))
def at_3:FuncId→An:=fun k=>cond (Nat.beq k 12) (.p .z (.j0 [.v 8 (.list fd_),.v 9 .int] .z .z)) (cond (Nat.beq k 42) (.p .z (.p .z (.p .z (.p (.j0 [.v 38 .bool] .z .z) (.p .z (.p .z (.p .z (.p (.p .z (.lp [.r 9 fd_ 204,.v 10 .bool,.v 49 .int] [.r 9 fd_ 204] [.o (.s 11) .int,.o (.s 12) .int,.o (.s 13) .int] 0 (.p .z (.p .z (.p (.p .z (.p .z (.p .z (.p .z (.p (.p .z (.lp [.v 10 .bool,.v 74 .int] [.v 10 .bool] [.o (.s 11) .int,.o (.s 15) .bool,.o (.s 66) .bool,.o (.s 17) .bool] 2 (.p .z (.p .z (.j0 [.v 10 .bool,.o (.s 11) .int,.o (.s 15) .bool,.o (.s 66) .bool,.o (.s 17) .bool] .z .z))))) (.p (.p .z (.lp [.v 118 .int] [] [.o (.s 12) .int,.o (.s 13) .int] 5 (.p .z (.p .z (.j0 [.o (.s 12) .int,.o (.s 13) .int] (.p .z (.p .z (.j0 [.v 134 .bool] .z .z))) .z))))) (.p .z (.p (.p .z (.lp [.v 157 .int] [] [.o (.s 58) .int,.o (.s 62) .int] 7 (.p .z (.p .z (.j0 [.o (.s 58) .int,.o (.s 62) .int] (.p .z (.j0 [.o (.s 58) .int] .z .z)) .z))))) .z)))))))) .z))))) .z)))))))) (cond (Nat.beq k 96) (.p .z (.j0 [.v 4 .bool] .z .z)) (cond (Nat.beq k 173) (.p .z (.p (.p .z (.ls [.v 8 .int] [] [] 0 .z)) .z)) (.z))))
noncomputable def cs_3:List (Con Tryz.prog):=[c_6,c_7,c_8,c_9,c_10,c_11,c_14,c_43,c_94,c_95,c_98,c_99]
noncomputable def cl_3:List (Cpy Tryz.prog):=[cp_34]
noncomputable def cx_3:Cx Tryz.prog:=cxI at_3 (fun k=>Nat.beq k 6||Nat.beq k 7||Nat.beq k 8||Nat.beq k 9||Nat.beq k 10||Nat.beq k 11||Nat.beq k 14||Nat.beq k 34||Nat.beq k 43||Nat.beq k 94||Nat.beq k 95||Nat.beq k 98||Nat.beq k 99||false) (cxC cs_3 cl_3) 7
noncomputable def kh_ (a0:ai_) (a1:(List fg_)) (a2:Int):Option (Bool×Unit) :=
 ((((mc_ a0).bind fun v0 =>
 (cond v0.1
 (some (true,()))
 (cond (decide (20<(a1.length:Int)))
 (some (true,()))
 (cond (decide (12<(a0.1.2.1.length:Int)))
 (some (true,()))
 (some (((a0.1.2.2.2.2.2.2.2.length:Int)==0),()))))))).bind fun v1 =>
 (cond v1.1
 ((cm_).bind fun v2 =>
 (some (v2.1,())))
 ((kr_ a0).bind fun v3 =>
 ((push? (α:=al_) [] a1).bind fun v4 =>
 ((gu_ v3.1 v4).bind fun v5 =>
 (cond (v5.2.2.1 != 0)
 ((cm_).bind fun v6 =>
 (some (v6.1,())))
 ((ey_ v3.1).bind fun v7 =>
 (((cond (v7.2.1 != 0)
 (some (true,()))
 ((dp_ a0 v7.1).bind fun v8 =>
 (some ((v8.1 != 0),()))))).bind fun v9 =>
 (cond v9.1
 (some (false,()))
 ((af_ (ρ:=((List bu_)×Unit)) (fun (v10:(Int×((List bu_)×Unit))) =>
 (cond (decide (v10.1<(a0.1.2.2.2.2.2.2.2.length:Int)))
 ((at? a0.1.2.2.2.2.2.2.2 v10.1).bind fun v11 =>
 ((at? v10.2.1 0).bind fun v12 =>
 ((at? v10.2.1 0).bind fun v13 =>
 ((push? (α:=az_) v13.2 [v11]).bind fun v14 =>
 ((at? v10.2.1 0).bind fun v15 =>
 ((at? v10.2.1 0).bind fun v16 =>
 (some (Sum.inl ((w64 (v10.1+1)),((v10.2.1.set (0:Int).toNat (v16.1,v14)),()))))))))))
 (some (Sum.inr (v10.2.1,()))))) (0,([(3,[])],()))).bind fun v17 =>
 ((af_ (ρ:=((List al_)×Unit)) (fun (v18:((List al_)×(Int×Unit))) =>
 (cond (decide (v18.2.1<(v7.1.1.1.length:Int)))
 ((at? v7.1.1.1 v18.2.1).bind fun v19 =>
 ((push? (α:=al_) v18.1 [(0,(1,(v18.2.1,v19)))]).bind fun v20 =>
 (some (Sum.inl (v20,((w64 (v18.2.1+1)),()))))))
 (some (Sum.inr (v18.1,()))))) ([],(0,()))).bind fun v21 =>
 ((af_ (ρ:=((List al_)×Unit)) (fun (v22:((List al_)×(Int×Unit))) =>
 (cond (decide (v22.2.1<(v5.1.length:Int)))
 ((((((at? v5.1 v22.2.1).bind fun v23 =>
 (cond (v23.2.1==5)
 ((at? v5.1 v22.2.1).bind fun v24 =>
 (some ((decide (v24.1<40)),())))
 (some (false,()))))).bind fun v25 =>
 (cond v25.1
 ((at? v5.1 v22.2.1).bind fun v26 =>
 ((at? v5.1 v22.2.1).bind fun v27 =>
 ((at? v5.1 v22.2.1).bind fun v28 =>
 ((push? (α:=al_) v22.1 [(v26.1,(1,(v27.2.2.2.1,v28.2.2.2.2)))]).bind fun v29 =>
 (some (v29,()))))))
 (some (v22.1,()))))).bind fun v30 =>
 (some (Sum.inl (v30.1,((w64 (v22.2.1+1)),())))))
 (some (Sum.inr (v22.1,()))))) (v21.1,(0,()))).bind fun v31 =>
 (cond (decide (199<(v31.1.length:Int)))
 ((cm_).bind fun v32 =>
 (some (v32.1,())))
 ((((((fn_ ((a0.1.2.1.length:Int),(v17.1,(2,1000)))).bind fun v33 =>
 (cond (v33.1 != 0)
 (some ([],(v33.1,())))
 (((cond (decide (200<(v31.1.length:Int)))
 (some (true,()))
 ((((af_ (ρ:=(Unit⊕(Bool×Unit))) (fun (v34:(Int×Unit)) =>
 (cond (decide (v34.1<(v31.1.length:Int)))
 ((at? v31.1 v34.1).bind fun v35 =>
 ((at? v31.1 v34.1).bind fun v36 =>
 ((el_ ((a0.1.2.1.length:Int),(v17.1,(2,1000))) 40 v36).bind fun v37 =>
 (cond (!v37.1)
 (some (Sum.inr (Sum.inr ((decide (0≤v34.1)),()))))
 (some (Sum.inl ((w64 (v34.1+1)),())))))))
 (some (Sum.inr (Sum.inl ()))))) (0,())).bind fun v38 =>
 (de_ v38 (fun v39=>(some ((decide (0≤(-1))),())))
 (fun v40=>(some v40))))).bind fun v41 =>
 (some (v41.1,()))))).bind fun v42 =>
 (cond v42.1
 (some ([],(81,())))
 ((mk? (α:=Int) (a0.1.2.1.length:Int) 0).bind fun v43 =>
 ((mk? (α:=Int) (a0.1.2.1.length:Int) 0).bind fun v44 =>
 ((mk? (α:=Int) (a0.1.2.1.length:Int) 0).bind fun v45 =>
 ((af_ (ρ:=((List bi_)×((List Int)×((List Int)×((List Int)×Unit))))) (fun (v46:((List bi_)×(Bool×(Int×((List Int)×((List Int)×((List Int)×Unit))))))) =>
 (cond (decide (v46.2.2.1<40))
 ((mk? (α:=Bool) (a0.1.2.1.length:Int) false).bind fun v47 =>
 ((mk? (α:=Int) (v17.1.length:Int) 0).bind fun v48 =>
 ((mk? (α:=Int) (v17.1.length:Int) 0).bind fun v49 =>
 ((mk? (α:=Bool) (v17.1.length:Int) false).bind fun v50 =>
 ((mk? (α:=Bool) (v17.1.length:Int) false).bind fun v51 =>
 ((af_ (ρ:=(Bool×((List Int)×((List Bool)×((List Bool)×((List Bool)×Unit)))))) (fun (v52:(Bool×(Int×((List Int)×((List Bool)×((List Bool)×((List Bool)×Unit))))))) =>
 (cond (decide (v52.2.1<(v31.1.length:Int)))
 ((((at? v31.1 v52.2.1).bind fun v53 =>
 ((at? v31.1 v52.2.1).bind fun v54 =>
 (cond (v54.1 != v46.2.2.1)
 (some (v52.1,(v52.2.2.1,(v52.2.2.2.1,(v52.2.2.2.2.1,(v52.2.2.2.2.2.1,()))))))
 (cond (v54.2.1==1)
 ((at? v52.2.2.1 v54.2.2.1).bind fun v55 =>
 ((at? v52.2.2.1 v54.2.2.1).bind fun v56 =>
 (some (v52.1,((v52.2.2.1.set v54.2.2.1.toNat v54.2.2.2),(v52.2.2.2.1,(v52.2.2.2.2.1,(v52.2.2.2.2.2.1,()))))))))
 (cond (v54.2.1==2)
 ((at? v52.2.2.2.1 v54.2.2.1).bind fun v57 =>
 ((at? v52.2.2.2.1 v54.2.2.1).bind fun v58 =>
 (some (v52.1,(v52.2.2.1,((v52.2.2.2.1.set v54.2.2.1.toNat true),(v52.2.2.2.2.1,(v52.2.2.2.2.2.1,()))))))))
 (cond (v54.2.1==3)
 ((at? v52.2.2.2.2.2.1 v54.2.2.1).bind fun v59 =>
 ((at? v52.2.2.2.2.2.1 v54.2.2.1).bind fun v60 =>
 (some (v52.1,(v52.2.2.1,(v52.2.2.2.1,(v52.2.2.2.2.1,((v52.2.2.2.2.2.1.set v54.2.2.1.toNat true),()))))))))
 (cond (v54.2.1==4)
 (some (false,(v52.2.2.1,(v52.2.2.2.1,(v52.2.2.2.2.1,(v52.2.2.2.2.2.1,()))))))
 (cond (v54.2.1==5)
 (some (true,(v52.2.2.1,(v52.2.2.2.1,(v52.2.2.2.2.1,(v52.2.2.2.2.2.1,()))))))
 (cond (v54.2.1==6)
 ((at? v52.2.2.2.2.1 v54.2.2.1).bind fun v61 =>
 ((at? v52.2.2.2.2.1 v54.2.2.1).bind fun v62 =>
 (some (v52.1,(v52.2.2.1,(v52.2.2.2.1,((v52.2.2.2.2.1.set v54.2.2.1.toNat true),(v52.2.2.2.2.2.1,()))))))))
 (some (v52.1,(v52.2.2.1,(v52.2.2.2.1,(v52.2.2.2.2.1,(v52.2.2.2.2.2.1,())))))))))))))))).bind fun v63 =>
 (some (Sum.inl (v63.1,((w64 (v52.2.1+1)),(v63.2.1,(v63.2.2.1,(v63.2.2.2.1,(v63.2.2.2.2.1,())))))))))
 (some (Sum.inr (v52.1,(v52.2.2.1,(v52.2.2.2.1,(v52.2.2.2.2.1,(v52.2.2.2.2.2.1,()))))))))) (v46.2.1,(0,(v46.2.2.2.1,(v47,(v50,(v51,()))))))).bind fun v64 =>
 ((af_ (ρ:=((List Int)×((List Int)×Unit))) (fun (v65:(Int×((List Int)×((List Int)×Unit)))) =>
 (cond (decide (v65.1<(v64.2.1.length:Int)))
 ((((at? v65.2.2.1 v65.1).bind fun v66 =>
 ((at? v65.2.2.1 v65.1).bind fun v67 =>
 ((at? v65.2.2.1 v65.1).bind fun v68 =>
 ((at? v65.2.2.1 v65.1).bind fun v69 =>
 (((cond v64.1
 ((at? v64.2.2.1 v65.1).bind fun v70 =>
 ((at? v64.2.2.1 v65.1).bind fun v71 =>
 (some ((!v71),()))))
 (some (false,())))).bind fun v72 =>
 (cond v72.1
 ((at? v64.2.1 v65.1).bind fun v73 =>
 ((at? v64.2.1 v65.1).bind fun v74 =>
 ((at? v65.2.1 v65.1).bind fun v75 =>
 ((at? v65.2.1 v65.1).bind fun v76 =>
 ((at? (v65.2.2.1.set v65.1.toNat (w64 (v67+1))) v65.1).bind fun v77 =>
 ((at? (v65.2.2.1.set v65.1.toNat (w64 (v67+1))) v65.1).bind fun v78 =>
 (some ((v65.2.1.set v65.1.toNat v74),(((v65.2.2.1.set v65.1.toNat (w64 (v67+1))).set v65.1.toNat 0),())))))))))
 (some (v65.2.1,((v65.2.2.1.set v65.1.toNat (w64 (v67+1))),())))))))))).bind fun v79 =>
 (some (Sum.inl ((w64 (v65.1+1)),(v79.1,(v79.2.1,()))))))
 (some (Sum.inr (v65.2.1,(v65.2.2.1,())))))) (0,(v46.2.2.2.2.1,(v46.2.2.2.2.2.1,())))).bind fun v80 =>
 ((push? (α:=Int) [] v80.1).bind fun v81 =>
 ((push? (α:=Int) [] v80.2.1).bind fun v82 =>
 ((af_ (ρ:=((List Int)×((List Int)×Unit))) (fun (v83:(Int×((List Int)×((List Int)×Unit)))) =>
 (cond (decide (v83.1<(v17.1.length:Int)))
 ((((at? v17.1 v83.1).bind fun v84 =>
 (((cond v64.1
 ((ct_ (v64.1,(v81,(v82,(v83.2.1,(v83.2.2.1,v64.2.2.2.1))))) ((a0.1.2.1.length:Int),(v17.1,(2,1000))) v46.2.2.1 v84).bind fun v85 =>
 ((at? v83.2.1 v83.1).bind fun v86 =>
 ((at? v83.2.1 v83.1).bind fun v87 =>
 (some ((v83.2.1.set v83.1.toNat v85.1),())))))
 (some (v83.2.1,())))).bind fun v88 =>
 ((at? v64.2.2.2.2.1 v83.1).bind fun v89 =>
 ((at? v64.2.2.2.2.1 v83.1).bind fun v90 =>
 (cond (!v90)
 ((at? v88.1 v83.1).bind fun v91 =>
 ((at? v88.1 v83.1).bind fun v92 =>
 ((at? v83.2.2.1 v83.1).bind fun v93 =>
 ((at? v83.2.2.1 v83.1).bind fun v94 =>
 (some (v88.1,((v83.2.2.1.set v83.1.toNat v92),())))))))
 (some (v88.1,(v83.2.2.1,()))))))))).bind fun v95 =>
 (some (Sum.inl ((w64 (v83.1+1)),(v95.1,(v95.2.1,()))))))
 (some (Sum.inr (v83.2.1,(v83.2.2.1,())))))) (0,(v48,(v49,())))).bind fun v96 =>
 ((push? (α:=bi_) v46.1 [(v64.1,(v81,(v82,(v96.1,(v96.2.1,v64.2.2.2.1)))))]).bind fun v97 =>
 (some (Sum.inl (v97,(v64.1,((w64 (v46.2.2.1+1)),(v64.2.1,(v80.1,(v80.2.1,())))))))))))))))))))
 (some (Sum.inr (v46.1,(v46.2.2.2.1,(v46.2.2.2.2.1,(v46.2.2.2.2.2.1,())))))))) ([],(true,(0,(v43,(v44,(v45,()))))))).bind fun v98 =>
 (some (v98.1,(0,())))))))))))).bind fun v99 =>
 (cond (v99.2.1 != 0)
 (some ([],(v99.2.1,())))
 ((ef_ ((a0.1.2.1.length:Int),(v17.1,(2,1000))) v99.1).bind fun v100 =>
 (some (v100.1,(0,()))))))).bind fun v101 =>
 (((cond (v101.2.1 != 0)
 (some (true,()))
 (some (((v101.1.length:Int) != 40),())))).bind fun v102 =>
 (cond v102.1
 (some (false,()))
 ((push? (α:=Int) [] v7.1.1.1).bind fun v103 =>
 ((push? (α:=Int) [] v7.1.1.2.1).bind fun v104 =>
 ((push? (α:=Int) [] v7.1.1.2.2).bind fun v105 =>
 ((af_ (ρ:=(((List Int)×Unit)⊕(Bool×Unit))) (fun (v106:(Int×(Int×((List Int)×Unit)))) =>
 (cond (decide (v106.2.1<40))
 ((af_ (ρ:=((Int×((List Int)×Unit))⊕((Int×(Int×((List Int)×Unit)))⊕(((List Int)×Unit)⊕(Bool×Unit))))) (fun (v107:(Int×((List Int)×Unit))) =>
 (((cond (decide (v107.1<(v5.1.length:Int)))
 ((at? v5.1 v107.1).bind fun v108 =>
 (some ((decide (v108.1≤v106.2.1)),())))
 (some (false,())))).bind fun v109 =>
 (cond v109.1
 ((((at? v5.1 v107.1).bind fun v110 =>
 (cond (v110.2.1==5)
 ((((at? v5.1 v107.1).bind fun v111 =>
 (cond (decide (v111.2.2.2.1<0))
 (some (true,()))
 ((at? v5.1 v107.1).bind fun v112 =>
 (some ((decide ((v107.2.1.length:Int)≤v112.2.2.2.1)),())))))).bind fun v113 =>
 (cond v113.1
 (some (Sum.inr (Sum.inr (Sum.inr (Sum.inr (Sum.inr (false,())))))))
 ((at? v5.1 v107.1).bind fun v114 =>
 ((at? v5.1 v107.1).bind fun v115 =>
 ((at? v107.2.1 v114.2.2.2.1).bind fun v116 =>
 ((at? v107.2.1 v114.2.2.2.1).bind fun v117 =>
 (some (Sum.inl ((v107.2.1.set v114.2.2.2.1.toNat v115.2.2.2.2),())))))))))
 (some (Sum.inl (v107.2.1,())))))).bind fun v118 =>
 (de_ v118 (fun v119=>(some (Sum.inl ((w64 (v107.1+1)),(v119.1,())))))
 (fun v120=>(some v120))))
 (some (Sum.inr (Sum.inl (v107.1,(v107.2.1,())))))))) (v106.1,(v106.2.2.1,()))).bind fun v121 =>
 (de_ v121 (fun v122=>((at? v101.1 v106.2.1).bind fun v124 =>
 ((gt_ (v122.2.1,(v104,v105)) a0.1.2.2.2.2.2.2.2).bind fun v125 =>
 (cond (((Int.tmod v124 2)==0) != v125.1)
 (some (Sum.inr (Sum.inr (false,()))))
 (some (Sum.inl (v122.1,((w64 (v106.2.1+1)),(v122.2.1,())))))))))
 (fun v123=>(some v123))))
 (some (Sum.inr (Sum.inl (v106.2.2.1,())))))) (0,(0,(v103,())))).bind fun v126 =>
 (de_ v126 (fun v127=>(((cond (decide (a2<0))
 (some (true,()))
 (some ((decide (40≤a2)),())))).bind fun v129 =>
 (cond v129.1
 ((cm_).bind fun v130 =>
 (some (v130.1,())))
 ((((push? (α:=al_) v31.1 [(a2,(4,(0,0)))]).bind fun v131 =>
 ((((fn_ ((a0.1.2.1.length:Int),(v17.1,(2,1000)))).bind fun v132 =>
 (cond (v132.1 != 0)
 (some ([],(v132.1,())))
 (((cond (decide (200<(v131.length:Int)))
 (some (true,()))
 ((((af_ (ρ:=(Unit⊕(Bool×Unit))) (fun (v133:(Int×Unit)) =>
 (cond (decide (v133.1<(v131.length:Int)))
 ((at? v131 v133.1).bind fun v134 =>
 ((at? v131 v133.1).bind fun v135 =>
 ((el_ ((a0.1.2.1.length:Int),(v17.1,(2,1000))) 40 v135).bind fun v136 =>
 (cond (!v136.1)
 (some (Sum.inr (Sum.inr ((decide (0≤v133.1)),()))))
 (some (Sum.inl ((w64 (v133.1+1)),())))))))
 (some (Sum.inr (Sum.inl ()))))) (0,())).bind fun v137 =>
 (de_ v137 (fun v138=>(some ((decide (0≤(-1))),())))
 (fun v139=>(some v139))))).bind fun v140 =>
 (some (v140.1,()))))).bind fun v141 =>
 (cond v141.1
 (some ([],(81,())))
 ((mk? (α:=Int) (a0.1.2.1.length:Int) 0).bind fun v142 =>
 ((mk? (α:=Int) (a0.1.2.1.length:Int) 0).bind fun v143 =>
 ((mk? (α:=Int) (a0.1.2.1.length:Int) 0).bind fun v144 =>
 ((af_ (ρ:=((List bi_)×((List Int)×((List Int)×((List Int)×Unit))))) (fun (v145:((List bi_)×(Bool×(Int×((List Int)×((List Int)×((List Int)×Unit))))))) =>
 (cond (decide (v145.2.2.1<40))
 ((mk? (α:=Bool) (a0.1.2.1.length:Int) false).bind fun v146 =>
 ((mk? (α:=Int) (v17.1.length:Int) 0).bind fun v147 =>
 ((mk? (α:=Int) (v17.1.length:Int) 0).bind fun v148 =>
 ((mk? (α:=Bool) (v17.1.length:Int) false).bind fun v149 =>
 ((mk? (α:=Bool) (v17.1.length:Int) false).bind fun v150 =>
 ((af_ (ρ:=(Bool×((List Int)×((List Bool)×((List Bool)×((List Bool)×Unit)))))) (fun (v151:(Bool×(Int×((List Int)×((List Bool)×((List Bool)×((List Bool)×Unit))))))) =>
 (cond (decide (v151.2.1<(v131.length:Int)))
 ((((at? v131 v151.2.1).bind fun v152 =>
 ((at? v131 v151.2.1).bind fun v153 =>
 (cond (v153.1 != v145.2.2.1)
 (some (v151.1,(v151.2.2.1,(v151.2.2.2.1,(v151.2.2.2.2.1,(v151.2.2.2.2.2.1,()))))))
 (cond (v153.2.1==1)
 ((at? v151.2.2.1 v153.2.2.1).bind fun v154 =>
 ((at? v151.2.2.1 v153.2.2.1).bind fun v155 =>
 (some (v151.1,((v151.2.2.1.set v153.2.2.1.toNat v153.2.2.2),(v151.2.2.2.1,(v151.2.2.2.2.1,(v151.2.2.2.2.2.1,()))))))))
 (cond (v153.2.1==2)
 ((at? v151.2.2.2.1 v153.2.2.1).bind fun v156 =>
 ((at? v151.2.2.2.1 v153.2.2.1).bind fun v157 =>
 (some (v151.1,(v151.2.2.1,((v151.2.2.2.1.set v153.2.2.1.toNat true),(v151.2.2.2.2.1,(v151.2.2.2.2.2.1,()))))))))
 (cond (v153.2.1==3)
 ((at? v151.2.2.2.2.2.1 v153.2.2.1).bind fun v158 =>
 ((at? v151.2.2.2.2.2.1 v153.2.2.1).bind fun v159 =>
 (some (v151.1,(v151.2.2.1,(v151.2.2.2.1,(v151.2.2.2.2.1,((v151.2.2.2.2.2.1.set v153.2.2.1.toNat true),()))))))))
 (cond (v153.2.1==4)
 (some (false,(v151.2.2.1,(v151.2.2.2.1,(v151.2.2.2.2.1,(v151.2.2.2.2.2.1,()))))))
 (cond (v153.2.1==5)
 (some (true,(v151.2.2.1,(v151.2.2.2.1,(v151.2.2.2.2.1,(v151.2.2.2.2.2.1,()))))))
 (cond (v153.2.1==6)
 ((at? v151.2.2.2.2.1 v153.2.2.1).bind fun v160 =>
 ((at? v151.2.2.2.2.1 v153.2.2.1).bind fun v161 =>
 (some (v151.1,(v151.2.2.1,(v151.2.2.2.1,((v151.2.2.2.2.1.set v153.2.2.1.toNat true),(v151.2.2.2.2.2.1,()))))))))
 (some (v151.1,(v151.2.2.1,(v151.2.2.2.1,(v151.2.2.2.2.1,(v151.2.2.2.2.2.1,())))))))))))))))).bind fun v162 =>
 (some (Sum.inl (v162.1,((w64 (v151.2.1+1)),(v162.2.1,(v162.2.2.1,(v162.2.2.2.1,(v162.2.2.2.2.1,())))))))))
 (some (Sum.inr (v151.1,(v151.2.2.1,(v151.2.2.2.1,(v151.2.2.2.2.1,(v151.2.2.2.2.2.1,()))))))))) (v145.2.1,(0,(v145.2.2.2.1,(v146,(v149,(v150,()))))))).bind fun v163 =>
 ((af_ (ρ:=((List Int)×((List Int)×Unit))) (fun (v164:(Int×((List Int)×((List Int)×Unit)))) =>
 (cond (decide (v164.1<(v163.2.1.length:Int)))
 ((((at? v164.2.2.1 v164.1).bind fun v165 =>
 ((at? v164.2.2.1 v164.1).bind fun v166 =>
 ((at? v164.2.2.1 v164.1).bind fun v167 =>
 ((at? v164.2.2.1 v164.1).bind fun v168 =>
 (((cond v163.1
 ((at? v163.2.2.1 v164.1).bind fun v169 =>
 ((at? v163.2.2.1 v164.1).bind fun v170 =>
 (some ((!v170),()))))
 (some (false,())))).bind fun v171 =>
 (cond v171.1
 ((at? v163.2.1 v164.1).bind fun v172 =>
 ((at? v163.2.1 v164.1).bind fun v173 =>
 ((at? v164.2.1 v164.1).bind fun v174 =>
 ((at? v164.2.1 v164.1).bind fun v175 =>
 ((at? (v164.2.2.1.set v164.1.toNat (w64 (v166+1))) v164.1).bind fun v176 =>
 ((at? (v164.2.2.1.set v164.1.toNat (w64 (v166+1))) v164.1).bind fun v177 =>
 (some ((v164.2.1.set v164.1.toNat v173),(((v164.2.2.1.set v164.1.toNat (w64 (v166+1))).set v164.1.toNat 0),())))))))))
 (some (v164.2.1,((v164.2.2.1.set v164.1.toNat (w64 (v166+1))),())))))))))).bind fun v178 =>
 (some (Sum.inl ((w64 (v164.1+1)),(v178.1,(v178.2.1,()))))))
 (some (Sum.inr (v164.2.1,(v164.2.2.1,())))))) (0,(v145.2.2.2.2.1,(v145.2.2.2.2.2.1,())))).bind fun v179 =>
 ((push? (α:=Int) [] v179.1).bind fun v180 =>
 ((push? (α:=Int) [] v179.2.1).bind fun v181 =>
 ((af_ (ρ:=((List Int)×((List Int)×Unit))) (fun (v182:(Int×((List Int)×((List Int)×Unit)))) =>
 (cond (decide (v182.1<(v17.1.length:Int)))
 ((((at? v17.1 v182.1).bind fun v183 =>
 (((cond v163.1
 ((ct_ (v163.1,(v180,(v181,(v182.2.1,(v182.2.2.1,v163.2.2.2.1))))) ((a0.1.2.1.length:Int),(v17.1,(2,1000))) v145.2.2.1 v183).bind fun v184 =>
 ((at? v182.2.1 v182.1).bind fun v185 =>
 ((at? v182.2.1 v182.1).bind fun v186 =>
 (some ((v182.2.1.set v182.1.toNat v184.1),())))))
 (some (v182.2.1,())))).bind fun v187 =>
 ((at? v163.2.2.2.2.1 v182.1).bind fun v188 =>
 ((at? v163.2.2.2.2.1 v182.1).bind fun v189 =>
 (cond (!v189)
 ((at? v187.1 v182.1).bind fun v190 =>
 ((at? v187.1 v182.1).bind fun v191 =>
 ((at? v182.2.2.1 v182.1).bind fun v192 =>
 ((at? v182.2.2.1 v182.1).bind fun v193 =>
 (some (v187.1,((v182.2.2.1.set v182.1.toNat v191),())))))))
 (some (v187.1,(v182.2.2.1,()))))))))).bind fun v194 =>
 (some (Sum.inl ((w64 (v182.1+1)),(v194.1,(v194.2.1,()))))))
 (some (Sum.inr (v182.2.1,(v182.2.2.1,())))))) (0,(v147,(v148,())))).bind fun v195 =>
 ((push? (α:=bi_) v145.1 [(v163.1,(v180,(v181,(v195.1,(v195.2.1,v163.2.2.2.1)))))]).bind fun v196 =>
 (some (Sum.inl (v196,(v163.1,((w64 (v145.2.2.1+1)),(v163.2.1,(v179.1,(v179.2.1,())))))))))))))))))))
 (some (Sum.inr (v145.1,(v145.2.2.2.1,(v145.2.2.2.2.1,(v145.2.2.2.2.2.1,())))))))) ([],(true,(0,(v142,(v143,(v144,()))))))).bind fun v197 =>
 (some (v197.1,(0,())))))))))))).bind fun v198 =>
 (cond (v198.2.1 != 0)
 (some ([],(v198.2.1,((),()))))
 ((ef_ ((a0.1.2.1.length:Int),(v17.1,(2,1000))) v198.1).bind fun v199 =>
 (some (v199.1,(0,((),()))))))))).bind fun v200 =>
 (((cond (v200.2.1 != 0)
 (some (true,()))
 (some (((v200.1.length:Int) != 40),())))).bind fun v201 =>
 (cond v201.1
 (some (false,()))
 ((af_ (ρ:=(Unit⊕(Bool×Unit))) (fun (v202:(Int×Unit)) =>
 (cond (decide (v202.1<40))
 ((at? v200.1 v202.1).bind fun v203 =>
 (cond (v203 != 0)
 (some (Sum.inr (Sum.inr (false,()))))
 (some (Sum.inl ((w64 (v202.1+1)),())))))
 (some (Sum.inr (Sum.inl ()))))) (a2,())).bind fun v204 =>
 (de_ v204 (fun v205=>((cm_).bind fun v207 =>
 (some (v207.1,()))))
 (fun v206=>(some v206))))))))))
 (fun v128=>(some v128)))))))))))))))))))))))
theorem x_3:ch_ cx_3 an_3 3 [bq_,(.list od_),.int] [.bool]=fun x=>kh_ x.1 x.2.1 x.2.2.1:=by kernel_rfl
noncomputable def c_3:Con Tryz.prog:=ck_ _ _ 3 [bq_,(.list od_),.int] [.bool] _ x_3
end Go.Proofs.YtfcgcpjnpdkjmaaGreatDoor.Rx
end
section
namespace Go.Proofs.YtfcgcpjnpdkjmaaGreatDoor.Rx
open Go Go.Proofs.YtfcgcpjnpdkjmaaGreatDoor.Pad Go.Proofs.YtfcgcpjnpdkjmaaGreatDoor.Rex
theorem bj_ {α:Type} {l:List α} (h:Sm l.length):push? [] l=some l:=by
  rw [push?_le (by simp only [List.length_nil]; omega)]
  rfl
theorem hd_ {α:Type} {l:List α} {x:α} (h:Sm l.length):push? l [x]=some (l++[x]):=push?_le (by simp only [List.length_cons,List.length_nil]; omega)
theorem ss_ {α:Type} {l:List α} {i:Nat} {x:α} (h:l[i]?=some x):l.set ((i:Nat):Int).toNat x=l:=by
  show l.set i x=l
  refine List.ext_getElem? fun j => ?_
  rw [List.getElem?_set]
  split
  · next e =>
    subst e
    rw [if_pos (ax_ h),h]
  · rfl
theorem tm_ (c:List az_) (h:Sm c.length):dd_ c=some (c,()):=by
  unfold dd_
  rw [bj_ h]
  rfl
theorem copyInts (c:List Int) (h:Sm c.length):er_ c=some (c,()):=by
  unfold er_
  rw [bj_ h]
  rfl
theorem qf_ {α τ:Type} {l:List α} (hl:Sm l.length) {body:(Int×(List α×Unit))→Option ((Int×(List α×Unit))⊕(List α×Unit))} {K:(List α×Unit)→Option τ} {x:Option τ}
    (h:∀ (i:Nat) y,l[i]?=some y→body ((i:Int),(l,()))=some (.inl ((w64 ((i:Int)+1)),(l,())))) (e:body ((l.length:Int),(l,()))=some (.inr (l,()))) (hk:K (l,())=x):(af_ body (0,(l,()))).bind K=x:=by
  refine cp_ l (fun _ _=>none) (fun i=>((i:Int),(l,()))) (r0:=(l,())) (fun i y hy => ?_) e ?_
  · have hi:=ax_ hy
    rw [h i y hy,cf_ (show Sm i by omega)]
  · have:ib_ (fun (_:Nat) (_:α)=>(none:Option (List α×Unit))) 0 l=none:=(km_ l 0).2 fun _ _ _=>rfl
    rw [this]
    exact hk
theorem ref02_Copy {r:ae_} (h:SmR r):mr_ r=some (r,()):=by
  unfold mr_
  simp only [bj_ h.pl,bj_ h.th,bj_ h.pr,bj_ h.wy,bj_ h.ac,bj_ h.au,tm_ _ h.go,Option.bind_some]
  refine qf_ h.pr (fun i y hy => ?_) ?_ ?_
  · have:=h.prn y (cj_ hy)
    simp only [dlt (ax_ hy),cond_true,am_ hy,Option.bind_some,tm_ _ this.2,ss_ hy]
  · simp only [dnl,cond_false]
  refine qf_ h.wy (fun i y hy => ?_) ?_ ?_
  · have:=h.wyn y (cj_ hy)
    simp only [dlt (ax_ hy),cond_true,am_ hy,Option.bind_some,tm_ _ this,ss_ hy]
  · simp only [dnl,cond_false]
  refine qf_ h.ac (fun i y hy => ?_) ?_ ?_
  · obtain ⟨h1,h2,h3,h4,h5,h6⟩:=h.acn y (cj_ hy)
    simp only [dlt (ax_ hy),cond_true,am_ hy,Option.bind_some,tm_ _ h3,copyInts _ h2,copyInts _ h5,copyInts _ h6,bj_ h4,ss_ hy]
  · simp only [dnl,cond_false]
  refine qf_ h.au (fun i y hy => ?_) ?_ ?_
  · have:=h.aun y (cj_ hy)
    simp only [dlt (ax_ hy),cond_true,am_ hy,Option.bind_some,tm_ _ this,ss_ hy]
  · simp only [dnl,cond_false]
  rfl
theorem zd_ (c:bn_) (h:Sm c.2.2.2.2.2.1.length):ie_ c=some (c,()):=by
  unfold ie_
  rw [bj_ h]
  rfl
theorem ref04_Copy {g:ai_} (h:SmG g):kr_ g=some (g,()):=by
  have hl:Sm g.2.1.length:=by have:=h.lk; omega
  have hn:Sm g.2.2.2.1.length:=by have:=h.nt; omega
  have hc:Sm g.2.2.1.length:=by have:=h.cd; omega
  unfold kr_
  rw [ref02_Copy h.room]
  simp only [bj_ hl,bj_ hn,Option.bind_some]
  have hgo:=ye_ g.2.2.1 (fun _ t x=>t++[x]) (fun i t=>((i:Int),((t,()),()))) (fun t=>((t,()),())) [] (body:=(fun (v3:(Int×(((List (List Int))×Unit)×Unit))) =>
 (cond (decide (v3.1<(g.2.2.1.length:Int)))
 ((at? g.2.2.1 v3.1).bind fun v4 =>
 ((push? (α:=Int) [] v4).bind fun v5 =>
 ((push? (α:=(List Int)) v3.2.1.1 [v5]).bind fun v6 =>
 (some (Sum.inl ((w64 (v3.1+1)),((v6,()),())))))))
 (some (Sum.inr ((v3.2.1.1,()),())))))) (fun i t=>t=g.2.2.1.take i) (by simp) (fun i x t hx ht=>by
    have hi:=ax_ hx
    have hx2:Sm x.length:=by have:=h.cdn x (cj_ hx); omega
    have ht2:Sm t.length:=by rw [ht,List.length_take]; omega
    refine ⟨?_,?_⟩
    · simp only [dlt hi,cond_true,am_ hx,Option.bind_some,bj_ hx2,hd_ ht2,cf_ (show Sm i by omega)]
    · rw [ht,List.take_add_one,hx]
      rfl) (fun t ht=>by simp only [dnl,cond_false])
  obtain ⟨t,ht,hw⟩:=hgo
  rw [List.take_length] at ht
  subst ht
  refine Eq.trans (congrArg (fun o=>Option.bind o _) hw) ?_
  rw [Option.bind_some]
  refine qf_ hn (fun i y hy => ?_) ?_ ?_
  · have hy2:=h.ntn y (cj_ hy)
    simp only [dlt (ax_ hy),cond_true,am_ hy,Option.bind_some,bj_ (show Sm y.2.2.2.1.length by omega),ss_ hy,zd_ _ (show Sm y.2.2.2.2.2.2.2.2.2.1.length by omega)]
  · simp only [dnl,cond_false]
  rfl
end Go.Proofs.YtfcgcpjnpdkjmaaGreatDoor.Rx
end
section
namespace Go.Proofs.YtfcgcpjnpdkjmaaGreatDoor.Rx
open Go Go.Proofs.YtfcgcpjnpdkjmaaGreatDoor.Pad Go.Proofs.YtfcgcpjnpdkjmaaGreatDoor.Rex Go.Proofs
noncomputable def dorB (n:Int) (gs:List bu_) (t:Int) (pw:Bool) (va ag:List Int) (st ms:List Bool):(Int×((List Int)×((List Int)×Unit)))→Option ((Int×((List Int)×((List Int)×Unit)))⊕((List Int)×((List Int)×Unit))) :=
 (fun (v83:(Int×((List Int)×((List Int)×Unit)))) =>
 (cond (decide (v83.1<(gs.length:Int)))
 ((((at? gs v83.1).bind fun v84 =>
 (((cond pw
 ((ct_ (pw,(va,(ag,(v83.2.1,(v83.2.2.1,st))))) (n,(gs,(2,1000))) t v84).bind fun v85 =>
 ((at? v83.2.1 v83.1).bind fun v86 =>
 ((at? v83.2.1 v83.1).bind fun v87 =>
 (some ((v83.2.1.set v83.1.toNat v85.1),())))))
 (some (v83.2.1,())))).bind fun v88 =>
 ((at? ms v83.1).bind fun v89 =>
 ((at? ms v83.1).bind fun v90 =>
 (cond (!v90)
 ((at? v88.1 v83.1).bind fun v91 =>
 ((at? v88.1 v83.1).bind fun v92 =>
 ((at? v83.2.2.1 v83.1).bind fun v93 =>
 ((at? v83.2.2.1 v83.1).bind fun v94 =>
 (some (v88.1,((v83.2.2.1.set v83.1.toNat v92),())))))))
 (some (v88.1,(v83.2.2.1,()))))))))).bind fun v95 =>
 (some (Sum.inl ((w64 (v83.1+1)),(v95.1,(v95.2.1,()))))))
 (some (Sum.inr (v83.2.1,(v83.2.2.1,()))))))
noncomputable def senB (pw:Bool) (se:List Int) (mu:List Bool):(Int×((List Int)×((List Int)×Unit)))→Option ((Int×((List Int)×((List Int)×Unit)))⊕((List Int)×((List Int)×Unit))) :=
 (fun (v65:(Int×((List Int)×((List Int)×Unit)))) =>
 (cond (decide (v65.1<(se.length:Int)))
 ((((at? v65.2.2.1 v65.1).bind fun v66 =>
 ((at? v65.2.2.1 v65.1).bind fun v67 =>
 ((at? v65.2.2.1 v65.1).bind fun v68 =>
 ((at? v65.2.2.1 v65.1).bind fun v69 =>
 (((cond pw
 ((at? mu v65.1).bind fun v70 =>
 ((at? mu v65.1).bind fun v71 =>
 (some ((!v71),()))))
 (some (false,())))).bind fun v72 =>
 (cond v72.1
 ((at? se v65.1).bind fun v73 =>
 ((at? se v65.1).bind fun v74 =>
 ((at? v65.2.1 v65.1).bind fun v75 =>
 ((at? v65.2.1 v65.1).bind fun v76 =>
 ((at? (v65.2.2.1.set v65.1.toNat (w64 (v67+1))) v65.1).bind fun v77 =>
 ((at? (v65.2.2.1.set v65.1.toNat (w64 (v67+1))) v65.1).bind fun v78 =>
 (some ((v65.2.1.set v65.1.toNat v74),(((v65.2.2.1.set v65.1.toNat (w64 (v67+1))).set v65.1.toNat 0),())))))))))
 (some (v65.2.1,((v65.2.2.1.set v65.1.toNat (w64 (v67+1))),())))))))))).bind fun v79 =>
 (some (Sum.inl ((w64 (v65.1+1)),(v79.1,(v79.2.1,()))))))
 (some (Sum.inr (v65.2.1,(v65.2.2.1,()))))))
noncomputable def sigB (l:List al_) (t:Int):(Bool×(Int×((List Int)×((List Bool)×((List Bool)×((List Bool)×Unit))))))→Option ((Bool×(Int×((List Int)×((List Bool)×((List Bool)×((List Bool)×Unit))))))⊕(Bool×((List Int)×((List Bool)×((List Bool)×((List Bool)×Unit)))))) :=
 (fun (v52:(Bool×(Int×((List Int)×((List Bool)×((List Bool)×((List Bool)×Unit))))))) =>
 (cond (decide (v52.2.1<(l.length:Int)))
 ((((at? l v52.2.1).bind fun v53 =>
 ((at? l v52.2.1).bind fun v54 =>
 (cond (v54.1 != t)
 (some (v52.1,(v52.2.2.1,(v52.2.2.2.1,(v52.2.2.2.2.1,(v52.2.2.2.2.2.1,()))))))
 (cond (v54.2.1==1)
 ((at? v52.2.2.1 v54.2.2.1).bind fun v55 =>
 ((at? v52.2.2.1 v54.2.2.1).bind fun v56 =>
 (some (v52.1,((v52.2.2.1.set v54.2.2.1.toNat v54.2.2.2),(v52.2.2.2.1,(v52.2.2.2.2.1,(v52.2.2.2.2.2.1,()))))))))
 (cond (v54.2.1==2)
 ((at? v52.2.2.2.1 v54.2.2.1).bind fun v57 =>
 ((at? v52.2.2.2.1 v54.2.2.1).bind fun v58 =>
 (some (v52.1,(v52.2.2.1,((v52.2.2.2.1.set v54.2.2.1.toNat true),(v52.2.2.2.2.1,(v52.2.2.2.2.2.1,()))))))))
 (cond (v54.2.1==3)
 ((at? v52.2.2.2.2.2.1 v54.2.2.1).bind fun v59 =>
 ((at? v52.2.2.2.2.2.1 v54.2.2.1).bind fun v60 =>
 (some (v52.1,(v52.2.2.1,(v52.2.2.2.1,(v52.2.2.2.2.1,((v52.2.2.2.2.2.1.set v54.2.2.1.toNat true),()))))))))
 (cond (v54.2.1==4)
 (some (false,(v52.2.2.1,(v52.2.2.2.1,(v52.2.2.2.2.1,(v52.2.2.2.2.2.1,()))))))
 (cond (v54.2.1==5)
 (some (true,(v52.2.2.1,(v52.2.2.2.1,(v52.2.2.2.2.1,(v52.2.2.2.2.2.1,()))))))
 (cond (v54.2.1==6)
 ((at? v52.2.2.2.2.1 v54.2.2.1).bind fun v61 =>
 ((at? v52.2.2.2.2.1 v54.2.2.1).bind fun v62 =>
 (some (v52.1,(v52.2.2.1,(v52.2.2.2.1,((v52.2.2.2.2.1.set v54.2.2.1.toNat true),(v52.2.2.2.2.2.1,()))))))))
 (some (v52.1,(v52.2.2.1,(v52.2.2.2.1,(v52.2.2.2.2.1,(v52.2.2.2.2.2.1,())))))))))))))))).bind fun v63 =>
 (some (Sum.inl (v63.1,((w64 (v52.2.1+1)),(v63.2.1,(v63.2.2.1,(v63.2.2.2.1,(v63.2.2.2.2.1,())))))))))
 (some (Sum.inr (v52.1,(v52.2.2.1,(v52.2.2.2.1,(v52.2.2.2.2.1,(v52.2.2.2.2.2.1,())))))))))
noncomputable def tickB (n:Int) (gs:List bu_) (l:List al_):((List bi_)×(Bool×(Int×((List Int)×((List Int)×((List Int)×Unit))))))→Option (((List bi_)×(Bool×(Int×((List Int)×((List Int)×((List Int)×Unit))))))⊕((List bi_)×((List Int)×((List Int)×((List Int)×Unit))))) :=
 (fun (v46:((List bi_)×(Bool×(Int×((List Int)×((List Int)×((List Int)×Unit))))))) =>
 (cond (decide (v46.2.2.1<40))
 ((mk? (α:=Bool) n false).bind fun v47 =>
 ((mk? (α:=Int) (gs.length:Int) 0).bind fun v48 =>
 ((mk? (α:=Int) (gs.length:Int) 0).bind fun v49 =>
 ((mk? (α:=Bool) (gs.length:Int) false).bind fun v50 =>
 ((mk? (α:=Bool) (gs.length:Int) false).bind fun v51 =>
 ((af_ (ρ:=(Bool×((List Int)×((List Bool)×((List Bool)×((List Bool)×Unit)))))) (sigB l v46.2.2.1) (v46.2.1,(0,(v46.2.2.2.1,(v47,(v50,(v51,()))))))).bind fun v64 =>
 ((af_ (ρ:=((List Int)×((List Int)×Unit))) (senB v64.1 v64.2.1 v64.2.2.1) (0,(v46.2.2.2.2.1,(v46.2.2.2.2.2.1,())))).bind fun v80 =>
 ((push? (α:=Int) [] v80.1).bind fun v81 =>
 ((push? (α:=Int) [] v80.2.1).bind fun v82 =>
 ((af_ (ρ:=((List Int)×((List Int)×Unit))) (dorB n gs v46.2.2.1 v64.1 v81 v82 v64.2.2.2.1 v64.2.2.2.2.1) (0,(v48,(v49,())))).bind fun v96 =>
 ((push? (α:=bi_) v46.1 [(v64.1,(v81,(v82,(v96.1,(v96.2.1,v64.2.2.2.1)))))]).bind fun v97 =>
 (some (Sum.inl (v97,(v64.1,((w64 (v46.2.2.1+1)),(v64.2.1,(v80.1,(v80.2.1,())))))))))))))))))))
 (some (Sum.inr (v46.1,(v46.2.2.2.1,(v46.2.2.2.2.1,(v46.2.2.2.2.2.1,()))))))))
noncomputable def begX (n:Int) (gs:List bu_) (l:List al_):Option ((List bi_)×(Int×Unit)) :=
 ((fn_ (n,(gs,(2,1000)))).bind fun v33 =>
 (cond (v33.1 != 0)
 (some ([],(v33.1,())))
 (((cond (decide (200<(l.length:Int)))
 (some (true,()))
 ((((af_ (ρ:=(Unit⊕(Bool×Unit))) (fun (v34:(Int×Unit)) =>
 (cond (decide (v34.1<(l.length:Int)))
 ((at? l v34.1).bind fun v35 =>
 ((at? l v34.1).bind fun v36 =>
 ((el_ (n,(gs,(2,1000))) 40 v36).bind fun v37 =>
 (cond (!v37.1)
 (some (Sum.inr (Sum.inr ((decide (0≤v34.1)),()))))
 (some (Sum.inl ((w64 (v34.1+1)),())))))))
 (some (Sum.inr (Sum.inl ()))))) (0,())).bind fun v38 =>
 (de_ v38 (fun v39=>(some ((decide (0≤(-1))),())))
 (fun v40=>(some v40))))).bind fun v41 =>
 (some (v41.1,()))))).bind fun v42 =>
 (cond v42.1
 (some ([],(81,())))
 ((mk? (α:=Int) n 0).bind fun v43 =>
 ((mk? (α:=Int) n 0).bind fun v44 =>
 ((mk? (α:=Int) n 0).bind fun v45 =>
 ((af_ (ρ:=((List bi_)×((List Int)×((List Int)×((List Int)×Unit))))) (tickB n gs l) ([],(true,(0,(v43,(v44,(v45,()))))))).bind fun v98 =>
 (some (v98.1,(0,())))))))))))
end Go.Proofs.YtfcgcpjnpdkjmaaGreatDoor.Rx
end
section
set_option maxRecDepth 10000
namespace Go.Proofs.YtfcgcpjnpdkjmaaGreatDoor.Rx
open Go Go.Proofs.YtfcgcpjnpdkjmaaGreatDoor.Pad Go.Proofs.YtfcgcpjnpdkjmaaGreatDoor.Rex
theorem hc_ {σ ρ τ:Type} (n:Nat) (F:Nat→τ→σ) (R:τ→ρ) (t0:τ) {body:σ→Option (σ⊕ρ)} (I:Nat→τ→Prop) (h0:I 0 t0)
    (h:∀ i t,i<n→I i t→Tot (body (F i t)) (fun r=>∃ t',r = .inl (F (i+1) t')∧I (i+1) t')) (e:∀ t,I n t→body (F n t)=some (.inr (R t))) :
    Tot (af_ body (F 0 t0)) (fun r=>∃ t,r=R t∧I n t):=by
  refine hb_ (fun i s=>∃ t,s=F i t∧I i t) _ n 0 (F 0 t0) ⟨t0,rfl,h0⟩ (fun j s h1 h2 hs => ?_) (fun s hs => ?_)
  · obtain ⟨t,rfl,ht⟩:=hs
    obtain ⟨r,hr,t',rfl,ht'⟩:=h j t (by omega) ht
    exact .inl ⟨_,hr,t',rfl,ht'⟩
  · obtain ⟨t,rfl,ht⟩:=hs
    rw [Nat.zero_add] at ht ⊢
    exact ⟨_,e t ht,t,rfl,ht⟩
abbrev PN (n:Int) (c:List az_):mi_:=(n,([(3,c)],(2,1000)))
def GoS (n:Int) (c:List az_):Prop:=c.length≤8∧∀ l ∈ c,(0≤l.1∧l.1<n)∧(0≤l.2.1∧l.2.1≤9)
def SigOk (n:Int) (s:al_):Prop:=(0≤s.1∧s.1<40)∧((s.2.1=1∧(0≤s.2.2.1∧s.2.2.1<n)∧(0≤s.2.2.2∧s.2.2.2≤9))∨s.2=(4,(0,0)))
theorem control_right {n:Int} (hn:0≤n∧n≤12) {c:List az_} {s:al_} (h:SigOk n s):el_ (PN n c) 40 s=some (true,()):=by
  obtain ⟨t,k,i,v⟩:=s
  obtain ⟨h1,h2⟩:=h
  have e1:wi t 0 (w64 (40 - 1))=true:=wi_iff.2 (by rw [kk_ (by omega) (by omega)]; exact ⟨h1.1,by have:=h1.2; simp only at this; omega⟩)
  unfold el_
  simp only [rp_,e1,Option.bind_some,Bool.not_true,cond_false]
  rcases h2 with ⟨h3,h4,h5⟩ | h3
  · simp only at h3 h4 h5
    subst h3
    have e2:wi i 0 (w64 (n - 1))=true:=wi_iff.2 (by rw [kk_ (by omega) (by omega)]; omega)
    have e3:wi v 0 9=true:=wi_iff.2 (by omega)
    simp only [e2,e3]
    rfl
  · simp only [Prod.mk.injEq] at h3
    obtain ⟨rfl,rfl,rfl⟩:=h3
    rfl
theorem any_ff {α:Type} (l:List α):(l.any fun _=>false)=false:=by induction l <;> simp
theorem control_Check {n:Int} (hn:0≤n∧n≤12) {c:List az_} (h:GoS n c):fn_ (PN n c)=some (0,()):=by
  have e1:wi n 0 12=true:=wi_iff.2 hn
  have hl:Sm c.length:=by have:=h.1; omega
  have e2:decide (8<(c.length:Int))=false:=decide_eq_false (by have:=h.1; omega)
  have d1:decide (8<(([(3,c)]:List bu_).length:Int))=false:=rfl
  unfold fn_
  simp only [rp_,e1,d1,show wi 2 1 50=true from rfl,show wi 1000 1 1000=true from rfl,Option.bind_some,Bool.not_true,cond_false]
  refine cp_ [(3,c)] (fun _ _=>none) (fun i=>((i:Int),())) (r0:=Sum.inl ()) (fun i y hy => ?_) ?_ ?_
  · have hi:=ax_ hy
    rw [List.length_singleton] at hi
    obtain rfl:i=0:=by omega
    obtain rfl:(3,c)=y:=by simpa using hy
    simp only [show decide (((0:Nat):Int)<(([(3,c)]:List bu_).length:Int))=true from rfl,show at? ([(3,c)]:List bu_) ((0:Nat):Int)=some (3,c) from rfl,cond_true,Option.bind_some,show wi 3 1 50=true from rfl,Bool.not_true,cond_false,e2]
    refine Eq.trans (congrArg (fun o=>Option.bind (Option.bind o _) _) (pb_ hl (fun _=>false) (fun i y hy => ?_) ?_)) ?_
    · obtain ⟨g1,g2⟩:=h.2 y (cj_ hy)
      have e3:wi y.1 0 (w64 (n - 1))=true:=wi_iff.2 (by rw [kk_ (by omega) (by omega)]; omega)
      have e4:wi y.2.1 0 9=true:=wi_iff.2 g2
      simp only [dlt (ax_ hy),cond_true,am_ hy,Option.bind_some,e3,e4,Bool.not_true,cond_false]
    · simp only [dnl,cond_false]
    · rw [any_ff]
      rfl
  · rfl
  · rfl
theorem zl_ {n t:Int} (ht:t<1000) {c:List az_} (h:GoS n c) {x:bi_} (hv:(x.2.1.length:Int)=n) (ha:(x.2.2.1.length:Int)=n) (hz:∀ (i:Nat) a,x.2.2.1[i]?=some a→a=0) :
    ct_ x (PN n c) t (3,c)=some (cond (fm_ x.2.1 c) 2 1,()):=by
  have hl:Sm c.length:=by have:=h.1; omega
  have d1:decide (1000≤t)=false:=decide_eq_false (by omega)
  unfold ct_
  simp only [d1,cond_false]
  have h1:=pb_ hl (fun _=>false) (body:=(fun (v0:(Int×Unit)) =>
 (cond (decide (v0.1<(c.length:Int)))
 ((at? c v0.1).bind fun v1 =>
 ((at? x.2.2.1 v1.1).bind fun v2 =>
 (cond (decide (2≤v2))
 (some (Sum.inr (Sum.inr ((decide (0≤v0.1)),()))))
 (some (Sum.inl ((w64 (v0.1+1)),()))))))
 (some (Sum.inr (Sum.inl ())))))) (fun i y hy=>by
    obtain ⟨g1,g2⟩:=h.2 y (cj_ hy)
    obtain ⟨a,ea,ea2⟩:=uv_ (l:=x.2.2.1) g1.1 (by omega)
    have:=hz _ _ ea2
    subst this
    simp only [dlt (ax_ hy),cond_true,am_ hy,Option.bind_some,ea]
    rfl) (by simp only [dnl,cond_false])
  rw [any_ff] at h1
  have h2:=pb_ hl (fun l=>(gi x.2.1 l.1==l.2.1)==l.2.2) (body:=(fun (v7:(Int×Unit)) =>
 (cond (decide (v7.1<(c.length:Int)))
 ((at? c v7.1).bind fun v8 =>
 ((at? x.2.1 v8.1).bind fun v9 =>
 (cond ((v9==v8.2.1)==v8.2.2)
 (some (Sum.inr (Sum.inr ((decide (0≤v7.1)),()))))
 (some (Sum.inl ((w64 (v7.1+1)),()))))))
 (some (Sum.inr (Sum.inl ())))))) (fun i y hy=>by
    obtain ⟨g1,g2⟩:=h.2 y (cj_ hy)
    simp only [dlt (ax_ hy),cond_true,am_ hy,Option.bind_some,zr_ g1.1 (show y.1<x.2.1.length by omega)]
    cases (gi x.2.1 y.1==y.2.1)==y.2.2 <;> rfl) (by simp only [dnl,cond_false])
  rw [h1,Option.bind_some]
  simp only [cond_false]
  rw [h2,Option.bind_some]
  simp only [any_not,Option.bind_some]
  show cond (fm_ x.2.1 c) _ _=_
  cases fm_ x.2.1 c <;> rfl
theorem door_dark (d:bo_) (w:Int):cq_ d 3 false false w=some ((0,false),()):=rfl
theorem door_open (d:bo_):cq_ d 3 true false 2=some ((0,false),()):=rfl
theorem door_hold (d:bo_):cq_ d 3 true false 1=some ((3,true),()):=rfl
end Go.Proofs.YtfcgcpjnpdkjmaaGreatDoor.Rx
end
section
set_option maxRecDepth 10000
namespace Go.Proofs.YtfcgcpjnpdkjmaaGreatDoor.Rx
open Go Go.Proofs.YtfcgcpjnpdkjmaaGreatDoor.Pad Go.Proofs.YtfcgcpjnpdkjmaaGreatDoor.Rex
def ht_ (t:Int) (q:Bool×List Int) (s:al_):Bool×List Int :=
  cond (s.1 != t) q (cond (s.2.1==1) (q.1,q.2.set s.2.2.1.toNat s.2.2.2) (cond (s.2.1==4) (false,q.2) q))
theorem sstep_len (t:Int) (q:Bool×List Int) (s:al_):(ht_ t q s).2.length=q.2.length:=by
  unfold ht_
  cases s.1 != t with
  | true=>rfl
  | false =>
  cases s.2.1==1 with
  | true=>exact List.length_set
  | false=>cases s.2.1==4 <;> rfl
theorem fold_len (t:Int) (l:List al_) (q:Bool×List Int):(l.foldl (ht_ t) q).2.length=q.2.length:=by
  induction l generalizing q with
  | nil=>rfl
  | cons s l ih=>rw [List.foldl_cons,ih,sstep_len]
theorem sig_loop {n t:Int} {l:List al_} (hl:Sm l.length) (ho:∀ s ∈ l,SigOk n s) {pw:Bool} {se:List Int} (hs:(se.length:Int)=n) (mu st ms:List Bool) :
    af_ (sigB l t) (pw,(0,(se,(mu,(st,(ms,()))))))=some ((l.foldl (ht_ t) (pw,se)).1,((l.foldl (ht_ t) (pw,se)).2,(mu,(st,(ms,()))))):=by
  have:=hc_ l.length (fun i (q:Bool×List Int)=>(q.1,((i:Int),(q.2,(mu,(st,(ms,()))))))) (fun q=>(q.1,(q.2,(mu,(st,(ms,())))))) (pw,se) (body:=sigB l t)
    (fun i q=>q=(l.take i).foldl (ht_ t) (pw,se)) rfl (fun i q hi hq => ?_) (fun q hq => ?_)
  · obtain ⟨r,hr,q,rfl,hq⟩:=this
    rw [List.take_length] at hq
    subst hq
    exact hr
  · have hq2:(q.2.length:Int)=n:=by rw [hq,fold_len]; exact hs
    obtain ⟨s,hx⟩:=dn_ hi
    refine ⟨.inl ((ht_ t q s).1,((((i+1:Nat):Int)),((ht_ t q s).2,(mu,(st,(ms,())))))),?_,ht_ t q s,rfl,?_⟩
    · unfold sigB
      simp only [dlt hi,cond_true,am_ hx,Option.bind_some,cf_ (show Sm i by omega)]
      unfold ht_
      obtain ⟨g1,g2⟩:=ho s (cj_ hx)
      cases s.1 != t with
      | true=>rfl
      | false =>
      rcases g2 with ⟨h3,h4,h5⟩ | h3
      · obtain ⟨a,ea,_⟩:=uv_ (l:=q.2) h4.1 (by omega)
        simp only [h3,cond_false,ea]
        rfl
      · simp only [h3]
        rfl
    · rw [List.take_add_one,hx,hq,List.foldl_append]
      rfl
  · unfold sigB
    simp only [dnl,cond_false]
theorem sen_loop {n:Nat} (hn:Sm n) {pw:Bool} {se va ag:List Int} (hs:se.length=n) (hv:va.length=n) (ha:ag.length=n) :
    ∃ va' ag',af_ (senB pw se (List.replicate n false)) (0,(va,(ag,())))=some (va',(ag',()))∧va'.length=n∧ag'.length=n∧(pw=true→va'=se∧∀ (i:Nat) a,ag'[i]?=some a→a=0):=by
  have:=hc_ n (fun i (q:List Int×List Int)=>((i:Int),(q.1,(q.2,())))) (fun q=>(q.1,(q.2,()))) (va,ag) (body:=senB pw se (List.replicate n false))
    (fun i q=>q.1.length=n∧q.2.length=n∧(pw=true→∀ j,j<i→q.1[j]?=se[j]?∧q.2[j]?=some 0)) ⟨hv,ha,fun _ j hj=>absurd hj (Nat.not_lt_zero _)⟩ (fun i q hi hq => ?_) (fun q hq => ?_)
  · obtain ⟨r,hr,q,rfl,h1,h2,h3⟩:=this
    refine ⟨q.1,q.2,hr,h1,h2,fun hp=>⟨?_,fun i a hx => ?_⟩⟩
    · refine List.ext_getElem? fun j => ?_
      by_cases hj:j<n
      · exact (h3 hp j hj).1
      · rw [List.getElem?_eq_none (by omega),List.getElem?_eq_none (by omega)]
    · have:=(h3 hp i (by have:=ax_ hx; omega)).2
      rw [hx] at this
      exact Option.some.inj this
  · obtain ⟨h1,h2,h3⟩:=hq
    obtain ⟨a,hx⟩:=dn_ (l:=q.2) (i:=i) (by omega)
    obtain ⟨b,hb⟩:=dn_ (l:=q.1) (i:=i) (by omega)
    obtain ⟨s,hse⟩:=dn_ (l:=se) (i:=i) (by omega)
    have hm:at? (List.replicate n false) (i:Int)=some false:=am_ (by rw [List.getElem?_replicate,if_pos hi])
    have hset:at? (q.2.set i (w64 (a+1))) (i:Int)=some (w64 (a+1)):=am_ (by rw [List.getElem?_set_self (by omega)])
    cases pw with
    | true =>
      refine ⟨.inl (((i+1:Nat):Int),(q.1.set i s,((q.2.set i (w64 (a+1))).set i 0,()))),?_,(q.1.set i s,(q.2.set i (w64 (a+1))).set i 0),rfl,by simp [h1],by simp [h2],fun _ j hj => ?_⟩
      · unfold senB
        simp only [hs,dlt hi,cond_true,am_ hx,am_ hb,am_ hse,hm,Option.bind_some,Bool.not_false,Int.toNat_natCast,hset,cf_ (show Sm i by omega)]
      · by_cases e:j=i
        · subst e
          simp only [List.getElem?_set_self,h1,h2,hi,List.length_set,hse]
          exact ⟨trivial,trivial⟩
        · have:=h3 rfl j (by omega)
          rw [List.getElem?_set_ne (Ne.symm e),List.getElem?_set_ne (Ne.symm e),List.getElem?_set_ne (Ne.symm e)]
          exact this
    | false =>
      refine ⟨.inl (((i+1:Nat):Int),(q.1,(q.2.set i (w64 (a+1)),()))),?_,(q.1,q.2.set i (w64 (a+1))),rfl,h1,by simp [h2],fun h=>by cases h⟩
      unfold senB
      simp only [hs,dlt hi,cond_true,cond_false,am_ hx,Option.bind_some,Int.toNat_natCast,cf_ (show Sm i by omega)]
  · unfold senB
    simp only [hs,dnl,cond_false]
def pg_ (pw:Bool) (va:List Int) (c:List az_):Int:=cond pw (cond (fm_ va c) 2 1) 0
theorem dor_loop {n t:Int} (ht:t<1000) {c:List az_} (h:GoS n c) {pw:Bool} {va ag:List Int} (hv:(va.length:Int)=n) (ha:(ag.length:Int)=n) (hz:pw=true→∀ (i:Nat) a,ag[i]?=some a→a=0) :
    af_ (dorB n [(3,c)] t pw va ag [false] [false]) (0,([0],([0],())))=some ([pg_ pw va c],([pg_ pw va c],())):=by
  rw [ql_ (s':=(1,([pg_ pw va c],([pg_ pw va c],())))),lr_ (r:=([pg_ pw va c],([pg_ pw va c],())))]
  · rfl
  · unfold dorB
    cases pw with
    | false=>rfl
    | true =>
      simp only [show decide ((0:Int)<(([(3,c)]:List bu_).length:Int))=true from rfl,show at? ([(3,c)]:List bu_) (0:Int)=some (3,c) from rfl,cond_true,Option.bind_some,
        zl_ ht h (x:=(true,(va,(ag,([0],([0],[false])))))) hv ha (hz rfl)]
      rfl
end Go.Proofs.YtfcgcpjnpdkjmaaGreatDoor.Rx
end
section
set_option maxRecDepth 10000
namespace Go.Proofs.YtfcgcpjnpdkjmaaGreatDoor.Rx
open Go Go.Proofs.YtfcgcpjnpdkjmaaGreatDoor.Pad Go.Proofs.YtfcgcpjnpdkjmaaGreatDoor.Rex
def SN (n:Nat) (l:List al_):Nat→Bool×List Int
  | 0=>(true,List.replicate n 0)
  | t+1=>l.foldl (ht_ (t:Int)) (SN n l t)
theorem SN_len (n:Nat) (l:List al_) (t:Nat):(SN n l t).2.length=n:=by
  induction t with
  | zero=>exact List.length_replicate
  | succ t ih=>exact (fold_len _ l _).trans ih
def TickOk (n:Nat) (l:List al_) (c:List az_) (j:Nat) (x:bi_):Prop :=
  x.1=(SN n l (j+1)).1∧x.2.2.2.2.1=[pg_ (SN n l (j+1)).1 (SN n l (j+1)).2 c]∧x.2.2.2.2.2=[false]
theorem tick_loop {n:Nat} (hn:n≤12) {c:List az_} (hc:GoS n c) {l:List al_} (hl:l.length≤200) (ho:∀ s ∈ l,SigOk n s) :
    ∃ ts x,af_ (tickB n [(3,c)] l) ([],(true,(0,(List.replicate n 0,(List.replicate n 0,(List.replicate n 0,()))))))=some (ts,x)∧ts.length=40∧∀ j x,ts[j]?=some x→TickOk n l c j x:=by
  have:=hc_ 40 (fun i (q:List bi_×Bool×List Int×List Int×List Int)=>(q.1,(q.2.1,((i:Int),(q.2.2.1,(q.2.2.2.1,(q.2.2.2.2,()))))))) (fun q=>(q.1,(q.2.2.1,(q.2.2.2.1,(q.2.2.2.2,()))))) ([],true,List.replicate n 0,List.replicate n 0,List.replicate n 0) (body:=tickB n [(3,c)] l)
    (fun i q=>q.1.length=i∧(q.2.1,q.2.2.1)=SN n l i∧q.2.2.2.1.length=n∧q.2.2.2.2.length=n∧∀ j x,q.1[j]?=some x→TickOk n l c j x) ⟨rfl,rfl,List.length_replicate,List.length_replicate,fun j x hx=>by cases hx⟩ (fun i q hi hq => ?_) (fun q hq => ?_)
  · obtain ⟨r,hr,q,rfl,h1,h2,h3,h4,h5⟩:=this
    exact ⟨_,_,hr,h1,h5⟩
  · obtain ⟨h1,h2,h3,h4,h5⟩:=hq
    obtain ⟨out,pw,se,va,ag⟩:=q
    simp only at h1 h2 h3 h4 h5
    have hse:se.length=n:=by have:=SN_len n l i; rw [← h2] at this; exact this
    have hsg:=sig_loop (n:=n) (t:=(i:Int)) (l:=l) (by omega) ho (pw:=pw) (se:=se) (by omega) (List.replicate n false) [false] [false]
    have e:SN n l (i+1)=l.foldl (ht_ (i:Int)) (pw,se):=by show l.foldl _ (SN n l i)=_; rw [h2]
    rw [← e] at hsg
    have hl2:=SN_len n l (i+1)
    obtain ⟨va',ag',k1,k2,k3,k4⟩:=sen_loop (n:=n) (by omega) (pw:=(SN n l (i+1)).1) hl2 h3 h4
    have hd:=dor_loop (n:=n) (t:=(i:Int)) (by omega) hc (pw:=(SN n l (i+1)).1) (va:=va') (ag:=ag') (by omega) (by omega) (fun hp=>(k4 hp).2)
    have hw:pg_ (SN n l (i+1)).1 va' c=pg_ (SN n l (i+1)).1 (SN n l (i+1)).2 c:=by
      cases hp:(SN n l (i+1)).1 with
      | false=>rfl
      | true=>rw [(k4 hp).1]
    rw [hw] at hd
    have hmn:mk? (α:=Bool) (n:Int) false=some (List.replicate n false):=by rw [mk?_le (by omega) (by omega)]; rfl
    have m1:∀ {α:Type} (z:α),mk? (([(3,c)]:List bu_).length:Int) z=some [z]:=fun z=>rfl
    refine ⟨.inl (out++[((SN n l (i+1)).1,(va',(ag',([pg_ (SN n l (i+1)).1 (SN n l (i+1)).2 c],([pg_ (SN n l (i+1)).1 (SN n l (i+1)).2 c],[false])))))],((SN n l (i+1)).1,(((i+1:Nat):Int),((SN n l (i+1)).2,(va',(ag',())))))),?_,(out++[((SN n l (i+1)).1,(va',(ag',([pg_ (SN n l (i+1)).1 (SN n l (i+1)).2 c],([pg_ (SN n l (i+1)).1 (SN n l (i+1)).2 c],[false])))))],(SN n l (i+1)).1,(SN n l (i+1)).2,va',ag'),rfl,?_,rfl,k2,k3,fun j x hx => ?_⟩
    · unfold tickB
      simp only [show decide ((i:Int)<40)=true from decide_eq_true (by omega),cond_true,hmn,m1,Option.bind_some,hsg,k1,bj_ (show Sm va'.length by omega),bj_ (show Sm ag'.length by omega),hd,hd_ (show Sm out.length by omega),cf_ (show Sm i by omega)]
    · simp [h1]
    · rw [List.getElem?_append] at hx
      split at hx
      · exact h5 j x hx
      · next hj =>
        have hj2:j=i:=by
          have:=ax_ hx
          simp only [List.length_singleton] at this
          omega
        subst hj2
        rw [h1,Nat.sub_self] at hx
        obtain rfl:=Option.some.inj hx
        exact ⟨rfl,rfl,rfl⟩
  · unfold tickB
    simp only [show decide (((40:Nat):Int)<40)=false from rfl,cond_false]
theorem begX_eq {n:Nat} (hn:n≤12) {c:List az_} (hc:GoS n c) {l:List al_} (hl:l.length≤200) (ho:∀ s ∈ l,SigOk n s) :
    ∃ ts,begX n [(3,c)] l=some (ts,(0,()))∧ts.length=40∧∀ j x,ts[j]?=some x→TickOk n l c j x:=by
  obtain ⟨ts,x,e,h1,h2⟩:=tick_loop hn hc hl ho
  refine ⟨ts,?_,h1,h2⟩
  unfold begX
  rw [control_Check (by omega) hc,Option.bind_some]
  have d1:decide (200<(l.length:Int))=false:=decide_eq_false (by omega)
  have hf:=pb_ (l:=l) (show Sm l.length by omega) (fun _=>false) (body:=(fun (v34:(Int×Unit)) =>
 (cond (decide (v34.1<(l.length:Int)))
 ((at? l v34.1).bind fun v35 =>
 ((at? l v34.1).bind fun v36 =>
 ((el_ ((n:Int),([(3,c)],(2,1000))) 40 v36).bind fun v37 =>
 (cond (!v37.1)
 (some (Sum.inr (Sum.inr ((decide (0≤v34.1)),()))))
 (some (Sum.inl ((w64 (v34.1+1)),())))))))
 (some (Sum.inr (Sum.inl ())))))) (fun i y hy=>by
    have:=control_right (n:=(n:Int)) (by omega) (c:=c) (ho y (cj_ hy))
    simp only [dlt (ax_ hy),cond_true,am_ hy,Option.bind_some,this,Bool.not_true,cond_false]) (by simp only [dnl,cond_false])
  rw [any_ff] at hf
  simp only [d1,cond_false]
  simp only [show ((0:Int) != 0)=false from rfl,cond_false]
  rw [hf]
  have hm:mk? (α:=Int) (n:Int) 0=some (List.replicate n 0):=by rw [mk?_le (by omega) (by omega)]; rfl
  simp only [Option.bind_some,cond_false,hm,e]
def rowX (q:Bool×List Int) (c:List az_):Int:=cond (q.1&&!(fm_ q.2 c)) 1 0
theorem door_next {n:Nat} {l:List al_} {c:List az_} {j:Nat} {x:bi_} (h:TickOk n l c j x) (d:bo_) :
    ∃ k,cq_ d 3 x.1 false (pg_ (SN n l (j+1)).1 (SN n l (j+1)).2 c)=some ((k,(SN n l (j+1)).1&&!(fm_ (SN n l (j+1)).2 c)),()):=by
  rw [h.1]
  unfold pg_
  cases (SN n l (j+1)).1 with
  | false=>exact ⟨0,door_dark d 0⟩
  | true =>
  cases fm_ (SN n l (j+1)).2 c with
  | true=>exact ⟨0,door_open d⟩
  | false=>exact ⟨3,door_hold d⟩
theorem control_rows {n:Nat} {l:List al_} {c:List az_} {ts:List bi_} (hl:ts.length=40) (h:∀ j x,ts[j]?=some x→TickOk n l c j x) :
    ∃ rs,ef_ (PN n c) ts=some (rs,())∧rs.length=40∧∀ (j:Nat) r,rs[j]?=some r→r=rowX (SN n l (j+1)) c:=by
  unfold ef_
  rw [show mk? (α:=bo_) (([(3,c)]:List bu_).length:Int) (0,false)=some [(0,false)] from rfl,Option.bind_some]
  have:=hc_ ts.length (fun i (q:List Int×List bo_)=>(q.1,((i:Int),(q.2,())))) (fun q=>(q.1,(q.2,()))) ([],[(0,false)]) (body:=(fun (v1:((List Int)×(Int×((List bo_)×Unit)))) =>
 (cond (decide (v1.2.1<(ts.length:Int)))
 ((at? ts v1.2.1).bind fun v2 =>
 ((af_ (ρ:=(Int×((List bo_)×Unit))) (fun (v3:(Int×(Int×((List bo_)×Unit)))) =>
 (cond (decide (v3.2.1<(v1.2.2.1.length:Int)))
 ((((at? v3.2.2.1 v3.2.1).bind fun v4 =>
 ((at? v3.2.2.1 v3.2.1).bind fun v5 =>
 ((at? ([(3,c)]:List bu_) v3.2.1).bind fun v6 =>
 ((at? v2.2.2.2.2.2 v3.2.1).bind fun v7 =>
 ((at? v2.2.2.2.2.1 v3.2.1).bind fun v8 =>
 ((cq_ v5 v6.1 v2.1 v7 v8).bind fun v9 =>
 ((at? v3.2.2.1 v3.2.1).bind fun v10 =>
 ((at? v3.2.2.1 v3.2.1).bind fun v11 =>
 ((at? (v3.2.2.1.set v3.2.1.toNat v9.1) v3.2.1).bind fun v12 =>
 ((at? (v3.2.2.1.set v3.2.1.toNat v9.1) v3.2.1).bind fun v13 =>
 (cond v13.2
 (((cond (decide (0≤v3.2.1))
 (some (shlI 1 v3.2.1))
 none)).bind fun v14 =>
 (some ((orI v3.1 v14),((v3.2.2.1.set v3.2.1.toNat v9.1),()))))
 (some (v3.1,((v3.2.2.1.set v3.2.1.toNat v9.1),()))))))))))))))).bind fun v15 =>
 (some (Sum.inl (v15.1,((w64 (v3.2.1+1)),(v15.2.1,()))))))
 (some (Sum.inr (v3.1,(v3.2.2.1,())))))) (0,(0,(v1.2.2.1,())))).bind fun v16 =>
 ((push? (α:=Int) v1.1 [v16.1]).bind fun v17 =>
 (some (Sum.inl (v17,((w64 (v1.2.1+1)),(v16.2.1,()))))))))
 (some (Sum.inr (v1.1,(v1.2.2.1,())))))))
    (fun i q=>q.1.length=i∧q.2.length=1∧∀ (j:Nat) r,q.1[j]?=some r→r=rowX (SN n l (j+1)) c) ⟨rfl,rfl,fun j r hr=>by cases hr⟩ (fun i q hi hq => ?_) (fun q hq => ?_)
  · obtain ⟨r,hr,q,rfl,h1,h2,h3⟩:=this
    refine ⟨q.1,?_,by omega,h3⟩
    refine Eq.trans (congrArg (fun o=>Option.bind o _) hr) rfl
  · obtain ⟨out,ds⟩:=q
    obtain ⟨h1,h2,h3⟩:=hq
    simp only at h1 h2 h3
    obtain ⟨d,rfl⟩:=List.length_eq_one_iff.1 h2
    obtain ⟨x,hx⟩:=dn_ hi
    have hT:=h i x hx
    obtain ⟨k,hk⟩:=door_next hT d
    refine ⟨.inl (out++[rowX (SN n l (i+1)) c],(((i+1:Nat):Int),([(k,(SN n l (i+1)).1&&!(fm_ (SN n l (i+1)).2 c))],()))),?_,(out++[rowX (SN n l (i+1)) c],[(k,(SN n l (i+1)).1&&!(fm_ (SN n l (i+1)).2 c))]),rfl,by simp [h1],rfl,fun j r hr => ?_⟩
    · simp only [dlt hi,cond_true,am_ hx,Option.bind_some]
      rw [ql_ (s':=(rowX (SN n l (i+1)) c,(1,([(k,(SN n l (i+1)).1&&!(fm_ (SN n l (i+1)).2 c))],())))),lr_ (r:=(rowX (SN n l (i+1)) c,([(k,(SN n l (i+1)).1&&!(fm_ (SN n l (i+1)).2 c))],())))]
      · simp only [Option.bind_some,hd_ (show Sm out.length by omega),cf_ (show Sm i by omega)]
      · rfl
      · simp only [hT.2.1,hT.2.2]
        simp only [show decide ((0:Int)<(([d]:List bo_).length:Int))=true from rfl,cond_true,show at? [d] (0:Int)=some d from rfl,show at? ([(3,c)]:List bu_) (0:Int)=some (3,c) from rfl,show at? [false] (0:Int)=some false from rfl,
          show at? [pg_ (SN n l (i+1)).1 (SN n l (i+1)).2 c] (0:Int)=some (pg_ (SN n l (i+1)).1 (SN n l (i+1)).2 c) from rfl,Option.bind_some,hk]
        show Option.bind (cond ((SN n l (i+1)).1&&!(fm_ (SN n l (i+1)).2 c)) _ _) _=_
        unfold rowX
        cases (SN n l (i+1)).1&&!(fm_ (SN n l (i+1)).2 c) <;> rfl
    · rw [List.getElem?_append] at hr
      split at hr
      · exact h3 j r hr
      · next hj =>
        have hj2:j=i:=by
          have:=ax_ hr
          simp only [List.length_singleton] at this
          omega
        subst hj2
        rw [h1,Nat.sub_self] at hr
        exact (Option.some.inj hr).symm
  · simp only [dnl,cond_false]
end Go.Proofs.YtfcgcpjnpdkjmaaGreatDoor.Rx
end
section
set_option maxRecDepth 10000
namespace Go.Proofs.YtfcgcpjnpdkjmaaGreatDoor.Rx
open Go Go.Proofs.YtfcgcpjnpdkjmaaGreatDoor.Pad Go.Proofs.YtfcgcpjnpdkjmaaGreatDoor.Rex
def est (s:List Int) (e:ak_):List Int:=cond (e.2.1==5) (s.set e.2.2.2.1.toNat e.2.2.2.2) s
structure EOk (n:Int) (out:List ak_):Prop where
  len:Sm out.length
  ord:out.Pairwise (fun a b=>a.1≤b.1)
  ent:∀ e ∈ out,0≤e.1∧(e.2.1=5→(0≤e.2.2.2.1∧e.2.2.2.1<n)∧(0≤e.2.2.2.2∧e.2.2.2.2≤9))
def mj_ (out:List ak_) (t:Int):Nat:=(out.filter fun e=>decide (e.1≤t)).length
theorem op_ {out:List ak_} {t:Int} (h:∀ e ∈ out,t<e.1):(out.filter fun e=>decide (e.1≤t))=[]:=by
  refine List.filter_eq_nil_iff.2 fun e he => ?_
  have:=h e he
  simp only [decide_eq_true_eq]
  omega
theorem oo_ {out:List ak_} (h:out.Pairwise (fun a b=>a.1≤b.1)) (t:Int):(out.filter fun e=>decide (e.1≤t))=out.take (mj_ out t):=by
  induction out with
  | nil=>rfl
  | cons x l ih =>
    obtain ⟨h1,h2⟩:=List.pairwise_cons.1 h
    unfold mj_
    by_cases hx:x.1≤t
    · rw [List.filter_cons_of_pos (by simpa using hx),List.length_cons,List.take_succ_cons]
      rw [ih h2]
      have:(l.take (mj_ l t)).length=mj_ l t:=by rw [← ih h2]; rfl
      rw [this]
    · rw [op_ (fun e he => ?_)]
      · rfl
      · rcases List.mem_cons.1 he with rfl | he
        · omega
        · have:=h1 e he
          omega
theorem upto_iff {out:List ak_} (h:out.Pairwise (fun a b=>a.1≤b.1)) {t:Int} {i:Nat} {e:ak_} (he:out[i]?=some e):e.1≤t↔i<mj_ out t:=by
  have hf:=oo_ h t
  constructor
  · intro ht
    have h1:out.filter (fun e=>decide (e.1≤t))=(out.take (mj_ out t)).filter (fun e=>decide (e.1≤t))++(out.drop (mj_ out t)).filter (fun e=>decide (e.1≤t)):=by
      rw [← List.filter_append,List.take_append_drop]
    have h2:(out.take (mj_ out t)).filter (fun e=>decide (e.1≤t))=out.take (mj_ out t):=by
      rw [← hf,List.filter_filter]
      simp
    rw [h2,hf] at h1
    have h3:(out.drop (mj_ out t)).filter (fun e=>decide (e.1≤t))=[]:=by
      have:=congrArg List.length h1
      rw [List.length_append] at this
      exact List.length_eq_zero_iff.1 (by omega)
    refine Nat.lt_of_not_le fun hle => ?_
    have hm:e ∈ out.drop (mj_ out t):=by
      refine List.mem_of_getElem? (i:=i - mj_ out t) ?_
      rw [List.getElem?_drop,show mj_ out t+(i - mj_ out t)=i by omega,he]
    have:=List.filter_eq_nil_iff.1 h3 e hm
    exact this (by simpa using ht)
  · intro hi
    have hm:e ∈ out.take (mj_ out t):=by
      refine List.mem_of_getElem? (i:=i) ?_
      rw [List.getElem?_take,if_pos hi,he]
    rw [← hf] at hm
    simpa using (List.mem_filter.1 hm).2
theorem upto_le (out:List ak_) (t:Int):mj_ out t≤out.length:=List.length_filter_le _ _
theorem filter_mono (out:List ak_) {t t':Int} (h:t≤t'):mj_ out t≤mj_ out t':=by
  unfold mj_
  induction out with
  | nil=>exact Nat.le_refl _
  | cons x l ih =>
    by_cases h1:x.1≤t
    · rw [List.filter_cons_of_pos (by simpa using h1),List.filter_cons_of_pos (by simp; omega)]
      simp only [List.length_cons]
      omega
    · rw [List.filter_cons_of_neg (by simpa using h1),List.filter_cons]
      split
      · simp only [List.length_cons]; omega
      · exact ih
def ST (th:List Int) (out:List ak_) (t:Int):List Int:=(out.take (mj_ out t)).foldl est th
theorem filter_step {out:List ak_} (h:out.Pairwise (fun a b=>a.1≤b.1)) (t:Int) :
    (out.filter fun e=>decide (e.1≤t))=(out.filter fun e=>decide (e.1≤t - 1))++out.filter fun e=>e.1==t:=by
  induction out with
  | nil=>rfl
  | cons x l ih =>
    obtain ⟨h1,h2⟩:=List.pairwise_cons.1 h
    by_cases hx:x.1≤t - 1
    · rw [List.filter_cons_of_pos (by simp; omega),List.filter_cons_of_pos (by simpa using hx),List.filter_cons_of_neg (by simp; omega),ih h2]
      rfl
    · have hn:∀ (m:List ak_),(∀ e ∈ m,x.1≤e.1)→(m.filter fun e=>decide (e.1≤t - 1))=[]:=fun m hm=>op_ fun e he=>by have:=hm e he; omega
      rw [hn (x::l) (fun e he=>by
        rcases List.mem_cons.1 he with rfl | he
        · exact Int.le_refl _
        · exact h1 e he),List.nil_append]
      refine List.filter_congr fun e he => ?_
      have:x.1≤e.1:=by
        rcases List.mem_cons.1 he with rfl | he
        · exact Int.le_refl _
        · exact h1 e he
      by_cases h3:e.1=t
      · simp [h3]
      · have:¬ e.1≤t:=by omega
        simp [h3,this]
theorem ST_step {out:List ak_} (h:out.Pairwise (fun a b=>a.1≤b.1)) (th:List Int) (t:Int):ST th out t=(out.filter fun e=>e.1==t).foldl est (ST th out (t - 1)):=by
  unfold ST
  rw [← oo_ h,← oo_ h,filter_step h,List.foldl_append]
theorem ST_neg {out:List ak_} {n:Int} (h:EOk n out) (th:List Int):ST th out (-1)=th:=by
  unfold ST
  rw [← oo_ h.ord,op_ fun e he=>by have:=(h.ent e he).1; omega]
  rfl
theorem est_len (s:List Int) (e:ak_):(est s e).length=s.length:=by
  unfold est
  cases e.2.1==5 with
  | true=>exact List.length_set
  | false=>rfl
theorem vf_ (l:List ak_) (s:List Int):(l.foldl est s).length=s.length:=by
  induction l generalizing s with
  | nil=>rfl
  | cons e l ih=>rw [List.foldl_cons,ih,est_len]
theorem ST_len (th:List Int) (out:List ak_) (t:Int):(ST th out t).length=th.length:=vf_ _ _
def sigT (i:Nat) (v:Int):al_:=(0,(1,((i:Int),v)))
def ha_ (th:List Int):List al_:=th.mapIdx sigT
def sigE (e:ak_):al_:=(e.1,(1,(e.2.2.2.1,e.2.2.2.2)))
def inE (e:ak_):Bool:=e.2.1==5&&decide (e.1<40)
def evs (out:List ak_):List al_:=(out.filter inE).map sigE
theorem fold_skip {l:List al_} {t:Int} (h:∀ s ∈ l,s.1≠t) (q:Bool×List Int):l.foldl (ht_ t) q=q:=by
  induction l generalizing q with
  | nil=>rfl
  | cons s l ih =>
    rw [List.foldl_cons]
    have:ht_ t q s=q:=by
      unfold ht_
      rw [show (s.1 != t)=true by simpa using h s (List.mem_cons_self ..)]
      rfl
    rw [this]
    exact ih (fun x hx=>h x (List.mem_cons_of_mem _ hx)) q
theorem fold_evs {t:Int} (ht:t<40) (out:List ak_) (b:Bool) (s:List Int):(evs out).foldl (ht_ t) (b,s)=(b,(out.filter fun e=>e.1==t).foldl est s):=by
  unfold evs
  induction out generalizing s with
  | nil=>rfl
  | cons e l ih =>
    by_cases h1:e.1=t
    · rw [List.filter_cons_of_pos (p:=fun e:ak_=>e.1==t) (by simpa using h1),List.foldl_cons]
      cases h5:e.2.1==5 with
      | true =>
        rw [List.filter_cons_of_pos (by unfold inE; rw [h5]; simp; omega),List.map_cons,List.foldl_cons]
        have:ht_ t (b,s) (sigE e)=(b,est s e):=by
          unfold ht_ sigE est
          rw [h5,show (e.1 != t)=false by simpa using h1]
          rfl
        rw [this,ih]
      | false =>
        rw [List.filter_cons_of_neg (by unfold inE; rw [h5]; simp),ih]
        have:est s e=s:=by unfold est; rw [h5]; rfl
        rw [this]
    · rw [List.filter_cons_of_neg (p:=fun e:ak_=>e.1==t) (by simpa using h1)]
      rw [List.filter_cons]
      split
      · rw [List.map_cons,List.foldl_cons]
        have:ht_ t (b,s) (sigE e)=(b,s):=by
          unfold ht_
          rw [show ((sigE e).1 != t)=true by simpa [sigE] using h1]
          rfl
        rw [this,ih]
      · exact ih s
theorem base_at (th:List Int):∀ (m:List Int) (b:Bool) (s:List Int) (k:Nat),s.length=k+m.length→(m.mapIdx fun i v=>sigT (k+i) v).foldl (ht_ 0) (b,s)=(b,s.take k++m)
  | [],b,s,k,h=>by
    simp only [List.length_nil,Nat.add_zero] at h
    simp [← h]
  | v::m,b,s,k,h=>by
    simp only [List.length_cons] at h
    rw [List.mapIdx_cons,List.foldl_cons]
    have e1:ht_ 0 (b,s) (sigT (k+0) v)=(b,s.set k v):=rfl
    rw [e1]
    have:=base_at th m b (s.set k v) (k+1) (by rw [List.length_set]; omega)
    rw [show (fun i v=>sigT (k+(i+1)) v)=fun i v=>sigT (k+1+i) v from funext fun i=>by rw [show k+(i+1)=k+1+i by omega]]
    rw [this]
    have:(s.set k v).take (k+1)=s.take k++[v]:=by
      rw [List.take_add_one,List.getElem?_set_self (by omega),List.take_set_of_le (Nat.le_refl _)]
      rfl
    rw [this,List.append_assoc]
    rfl
theorem base_zero (th:List Int) (b:Bool) (s:List Int) (h:s.length=th.length):(ha_ th).foldl (ht_ 0) (b,s)=(b,th):=by
  have:=base_at th th b s 0 (by omega)
  simpa [ha_] using this
theorem mem_base {th:List Int} {s:al_} (h:s ∈ ha_ th):∃ (i:Nat) (v:Int),th[i]?=some v∧s=sigT i v:=by
  unfold ha_ at h
  obtain ⟨i,hi,rfl⟩:=List.mem_mapIdx.1 h
  exact ⟨i,th[i],List.getElem?_eq_getElem hi,rfl⟩
theorem SN_ST {th:List Int} {out:List ak_} {n:Nat} (hn:th.length=n) (h:EOk n out):∀ t:Nat,t<40→SN n (ha_ th++evs out) (t+1)=(true,ST th out t)
  | 0,_=>by
    show (ha_ th++evs out).foldl (ht_ (0:Int)) (true,List.replicate n 0)=(true,ST th out (0:Int))
    rw [List.foldl_append,base_zero th true _ (by rw [List.length_replicate,hn]),fold_evs (by omega),ST_step h.ord,show (0:Int) - 1 = -1 from rfl,ST_neg h]
  | t+1,ht=>by
    show (ha_ th++evs out).foldl (ht_ ((t+1:Nat):Int)) (SN n (ha_ th++evs out) (t+1))=_
    rw [SN_ST hn h t (by omega),List.foldl_append,fold_skip (l:=ha_ th) (fun s hs => ?_),fold_evs (by omega),ST_step h.ord th ((t+1:Nat):Int),show ((t+1:Nat):Int) - 1=(t:Int) by omega]
    obtain ⟨i,v,_,rfl⟩:=mem_base hs
    show (0:Int)≠_
    omega
theorem sigs_ok {th:List Int} {out:List ak_} {n:Nat} (hn:th.length=n) (h:EOk n out) (hv:∀ v ∈ th,0≤v∧v≤9):∀ s ∈ ha_ th++evs out,SigOk n s:=by
  intro s hs
  rcases List.mem_append.1 hs with hs | hs
  · obtain ⟨i,v,hi,rfl⟩:=mem_base hs
    have:=ax_ hi
    have hv:=hv v (cj_ hi)
    exact ⟨by show (0:Int)≤0∧(0:Int)<40; omega,.inl ⟨rfl,by show (0:Int)≤(i:Int)∧(i:Int)<n; omega,hv⟩⟩
  · unfold evs at hs
    obtain ⟨e,he,rfl⟩:=List.mem_map.1 hs
    obtain ⟨h1,h2⟩:=List.mem_filter.1 he
    unfold inE at h2
    simp only [Bool.and_eq_true,beq_iff_eq,decide_eq_true_eq] at h2
    obtain ⟨h3,h4⟩:=h.ent e h1
    exact ⟨⟨h3,h2.2⟩,.inl ⟨rfl,h4 h2.1⟩⟩
def darkS (d:Int):al_:=(d,(4,(0,0)))
theorem sstep_pw {n t:Int} {q:Bool×List Int} {s:al_} (h:SigOk n s) (hq:q.1=false):(ht_ t q s).1=false:=by
  unfold ht_
  cases s.1 != t with
  | true=>exact hq
  | false =>
  rcases h.2 with ⟨h3,_⟩ | h3
  · rw [h3]; exact hq
  · rw [h3]; rfl
theorem fold_pw {n t:Int} {l:List al_} (h:∀ s ∈ l,SigOk n s) {q:Bool×List Int} (hq:q.1=false):(l.foldl (ht_ t) q).1=false:=by
  induction l generalizing q with
  | nil=>exact hq
  | cons s l ih=>exact ih (fun x hx=>h x (List.mem_cons_of_mem _ hx)) (sstep_pw (h s (List.mem_cons_self ..)) hq)
theorem SN_dark {n:Nat} {l:List al_} (h:∀ s ∈ l,SigOk n s) {d:Nat} (hd:d<40):∀ t,d≤t→(SN n (l++[darkS d]) (t+1)).1=false
  | 0,ht=>by
    obtain rfl:d=0:=by omega
    show ((l++[darkS ((0:Nat):Int)]).foldl (ht_ ((0:Nat):Int)) (SN n (l++[darkS ((0:Nat):Int)]) 0)).1=false
    rw [List.foldl_append]
    rfl
  | t+1,ht=>by
    show ((l++[darkS (d:Int)]).foldl (ht_ ((t+1:Nat):Int)) (SN n (l++[darkS (d:Int)]) (t+1))).1=false
    by_cases e:d=t+1
    · subst e
      rw [List.foldl_append]
      show (ht_ _ _ _).1=false
      unfold ht_ darkS
      simp
    · refine fold_pw (n:=(n:Int)) (fun s hs => ?_) (SN_dark h hd t (by omega))
      rcases List.mem_append.1 hs with hs | hs
      · exact h s hs
      · rw [List.mem_singleton] at hs
        subst hs
        exact ⟨by show (0:Int)≤(d:Int)∧(d:Int)<40; omega,.inr rfl⟩
end Go.Proofs.YtfcgcpjnpdkjmaaGreatDoor.Rx
end
section
set_option maxRecDepth 100000
namespace Go.Proofs.YtfcgcpjnpdkjmaaGreatDoor.Rx
open Go Go.Proofs.YtfcgcpjnpdkjmaaGreatDoor.Pad Go.Proofs.YtfcgcpjnpdkjmaaGreatDoor.Rex Go.Proofs
noncomputable def gateB (c:List az_):(Int×((List bu_)×Unit))→Option ((Int×((List bu_)×Unit))⊕((List bu_)×Unit)) :=
 (fun (v10:(Int×((List bu_)×Unit))) =>
 (cond (decide (v10.1<(c.length:Int)))
 ((at? c v10.1).bind fun v11 =>
 ((at? v10.2.1 0).bind fun v12 =>
 ((at? v10.2.1 0).bind fun v13 =>
 ((push? (α:=az_) v13.2 [v11]).bind fun v14 =>
 ((at? v10.2.1 0).bind fun v15 =>
 ((at? v10.2.1 0).bind fun v16 =>
 (some (Sum.inl ((w64 (v10.1+1)),((v10.2.1.set (0:Int).toNat (v16.1,v14)),()))))))))))
 (some (Sum.inr (v10.2.1,())))))
noncomputable def baseB (th:List Int):((List al_)×(Int×Unit))→Option (((List al_)×(Int×Unit))⊕((List al_)×Unit)) :=
 (fun (v18:((List al_)×(Int×Unit))) =>
 (cond (decide (v18.2.1<(th.length:Int)))
 ((at? th v18.2.1).bind fun v19 =>
 ((push? (α:=al_) v18.1 [(0,(1,(v18.2.1,v19)))]).bind fun v20 =>
 (some (Sum.inl (v20,((w64 (v18.2.1+1)),()))))))
 (some (Sum.inr (v18.1,())))))
noncomputable def evsB (out:List ak_):((List al_)×(Int×Unit))→Option (((List al_)×(Int×Unit))⊕((List al_)×Unit)) :=
 (fun (v22:((List al_)×(Int×Unit))) =>
 (cond (decide (v22.2.1<(out.length:Int)))
 ((((((at? out v22.2.1).bind fun v23 =>
 (cond (v23.2.1==5)
 ((at? out v22.2.1).bind fun v24 =>
 (some ((decide (v24.1<40)),())))
 (some (false,()))))).bind fun v25 =>
 (cond v25.1
 ((at? out v22.2.1).bind fun v26 =>
 ((at? out v22.2.1).bind fun v27 =>
 ((at? out v22.2.1).bind fun v28 =>
 ((push? (α:=al_) v22.1 [(v26.1,(1,(v27.2.2.2.1,v28.2.2.2.2)))]).bind fun v29 =>
 (some (v29,()))))))
 (some (v22.1,()))))).bind fun v30 =>
 (some (Sum.inl (v30.1,((w64 (v22.2.1+1)),())))))
 (some (Sum.inr (v22.1,())))))
noncomputable def innB (out:List ak_) (t:Int):(Int×((List Int)×Unit))→Option ((Int×((List Int)×Unit))⊕((Int×((List Int)×Unit))⊕((Int×(Int×((List Int)×Unit)))⊕(((List Int)×Unit)⊕(Bool×Unit))))) :=
 (fun (v107:(Int×((List Int)×Unit))) =>
 (((cond (decide (v107.1<(out.length:Int)))
 ((at? out v107.1).bind fun v108 =>
 (some ((decide (v108.1≤t)),())))
 (some (false,())))).bind fun v109 =>
 (cond v109.1
 ((((at? out v107.1).bind fun v110 =>
 (cond (v110.2.1==5)
 ((((at? out v107.1).bind fun v111 =>
 (cond (decide (v111.2.2.2.1<0))
 (some (true,()))
 ((at? out v107.1).bind fun v112 =>
 (some ((decide ((v107.2.1.length:Int)≤v112.2.2.2.1)),())))))).bind fun v113 =>
 (cond v113.1
 (some (Sum.inr (Sum.inr (Sum.inr (Sum.inr (Sum.inr (false,())))))))
 ((at? out v107.1).bind fun v114 =>
 ((at? out v107.1).bind fun v115 =>
 ((at? v107.2.1 v114.2.2.2.1).bind fun v116 =>
 ((at? v107.2.1 v114.2.2.2.1).bind fun v117 =>
 (some (Sum.inl ((v107.2.1.set v114.2.2.2.1.toNat v115.2.2.2.2),())))))))))
 (some (Sum.inl (v107.2.1,())))))).bind fun v118 =>
 (de_ v118 (fun v119=>(some (Sum.inl ((w64 (v107.1+1)),(v119.1,())))))
 (fun v120=>(some v120))))
 (some (Sum.inr (Sum.inl (v107.1,(v107.2.1,()))))))))
noncomputable def finB (out:List ak_) (rs:List Int) (x y:List Int) (c:List az_):(Int×(Int×((List Int)×Unit)))→Option ((Int×(Int×((List Int)×Unit)))⊕(((List Int)×Unit)⊕(Bool×Unit))) :=
 (fun (v106:(Int×(Int×((List Int)×Unit)))) =>
 (cond (decide (v106.2.1<40))
 ((af_ (ρ:=((Int×((List Int)×Unit))⊕((Int×(Int×((List Int)×Unit)))⊕(((List Int)×Unit)⊕(Bool×Unit))))) (innB out v106.2.1) (v106.1,(v106.2.2.1,()))).bind fun v121 =>
 (de_ v121 (fun v122=>((at? rs v106.2.1).bind fun v124 =>
 ((gt_ (v122.2.1,(x,y)) c).bind fun v125 =>
 (cond (((Int.tmod v124 2)==0) != v125.1)
 (some (Sum.inr (Sum.inr (false,()))))
 (some (Sum.inl (v122.1,((w64 (v106.2.1+1)),(v122.2.1,())))))))))
 (fun v123=>(some v123))))
 (some (Sum.inr (Sum.inl (v106.2.2.1,()))))))
noncomputable def drkB (rs:List Int):(Int×Unit)→Option ((Int×Unit)⊕(Unit⊕(Bool×Unit))) :=
 (fun (v202:(Int×Unit)) =>
 (cond (decide (v202.1<40))
 ((at? rs v202.1).bind fun v203 =>
 (cond (v203 != 0)
 (some (Sum.inr (Sum.inr (false,()))))
 (some (Sum.inl ((w64 (v202.1+1)),())))))
 (some (Sum.inr (Sum.inl ())))))
noncomputable def topX (a0:ai_) (a1:(List fg_)) (a2:Int):Option (Bool×Unit) :=
 ((((mc_ a0).bind fun v0 =>
 (cond v0.1
 (some (true,()))
 (cond (decide (20<(a1.length:Int)))
 (some (true,()))
 (cond (decide (12<(a0.1.2.1.length:Int)))
 (some (true,()))
 (some (((a0.1.2.2.2.2.2.2.2.length:Int)==0),()))))))).bind fun v1 =>
 (cond v1.1
 ((cm_).bind fun v2 =>
 (some (v2.1,())))
 ((kr_ a0).bind fun v3 =>
 ((push? (α:=al_) [] a1).bind fun v4 =>
 ((gu_ v3.1 v4).bind fun v5 =>
 (cond (v5.2.2.1 != 0)
 ((cm_).bind fun v6 =>
 (some (v6.1,())))
 ((ey_ v3.1).bind fun v7 =>
 (((cond (v7.2.1 != 0)
 (some (true,()))
 ((dp_ a0 v7.1).bind fun v8 =>
 (some ((v8.1 != 0),()))))).bind fun v9 =>
 (cond v9.1
 (some (false,()))
 ((af_ (ρ:=((List bu_)×Unit)) (gateB a0.1.2.2.2.2.2.2.2) (0,([(3,[])],()))).bind fun v17 =>
 ((af_ (ρ:=((List al_)×Unit)) (baseB v7.1.1.1) ([],(0,()))).bind fun v21 =>
 ((af_ (ρ:=((List al_)×Unit)) (evsB v5.1) (v21.1,(0,()))).bind fun v31 =>
 (cond (decide (199<(v31.1.length:Int)))
 ((cm_).bind fun v32 =>
 (some (v32.1,())))
 ((((begX (a0.1.2.1.length:Int) v17.1 v31.1).bind fun v99 =>
 (cond (v99.2.1 != 0)
 (some ([],(v99.2.1,())))
 ((ef_ ((a0.1.2.1.length:Int),(v17.1,(2,1000))) v99.1).bind fun v100 =>
 (some (v100.1,(0,()))))))).bind fun v101 =>
 (((cond (v101.2.1 != 0)
 (some (true,()))
 (some (((v101.1.length:Int) != 40),())))).bind fun v102 =>
 (cond v102.1
 (some (false,()))
 ((push? (α:=Int) [] v7.1.1.1).bind fun v103 =>
 ((push? (α:=Int) [] v7.1.1.2.1).bind fun v104 =>
 ((push? (α:=Int) [] v7.1.1.2.2).bind fun v105 =>
 ((af_ (ρ:=(((List Int)×Unit)⊕(Bool×Unit))) (finB v5.1 v101.1 v104 v105 a0.1.2.2.2.2.2.2.2) (0,(0,(v103,())))).bind fun v126 =>
 (de_ v126 (fun v127=>(((cond (decide (a2<0))
 (some (true,()))
 (some ((decide (40≤a2)),())))).bind fun v129 =>
 (cond v129.1
 ((cm_).bind fun v130 =>
 (some (v130.1,())))
 ((((push? (α:=al_) v31.1 [(a2,(4,(0,0)))]).bind fun v131 =>
 ((begX (a0.1.2.1.length:Int) v17.1 v131).bind fun v198 =>
 (cond (v198.2.1 != 0)
 (some ([],(v198.2.1,((),()))))
 ((ef_ ((a0.1.2.1.length:Int),(v17.1,(2,1000))) v198.1).bind fun v199 =>
 (some (v199.1,(0,((),()))))))))).bind fun v200 =>
 (((cond (v200.2.1 != 0)
 (some (true,()))
 (some (((v200.1.length:Int) != 40),())))).bind fun v201 =>
 (cond v201.1
 (some (false,()))
 ((af_ (ρ:=(Unit⊕(Bool×Unit))) (drkB v200.1) (a2,())).bind fun v204 =>
 (de_ v204 (fun v205=>((cm_).bind fun v207 =>
 (some (v207.1,()))))
 (fun v206=>(some v206))))))))))
 (fun v128=>(some v128)))))))))))))))))))))))
theorem topX_eq:kh_=topX:=by kernel_rfl
end Go.Proofs.YtfcgcpjnpdkjmaaGreatDoor.Rx
end
section
set_option maxRecDepth 10000
namespace Go.Proofs.YtfcgcpjnpdkjmaaGreatDoor.Rx
open Go Go.Proofs.YtfcgcpjnpdkjmaaGreatDoor.Pad Go.Proofs.YtfcgcpjnpdkjmaaGreatDoor.Rex
theorem gate_loop {c:List az_} (hc:Sm c.length):af_ (gateB c) (0,([(3,[])],()))=some ([(3,c)],()):=by
  obtain ⟨r,hr,q,rfl,hq⟩:=hc_ c.length (fun i (q:List az_)=>((i:Int),([((3:Int),q)],()))) (fun q=>([((3:Int),q)],())) [] (body:=gateB c) (fun i q=>q=c.take i) rfl (fun i q hi hq=>by
    obtain ⟨x,hx⟩:=dn_ hi
    have hq2:Sm q.length:=by rw [hq,List.length_take]; omega
    refine ⟨_,?_,q++[x],rfl,?_⟩
    · unfold gateB
      simp only [dlt hi,cond_true,am_ hx,Option.bind_some,show at? [((3:Int),q)] (0:Int)=some (3,q) from rfl,hd_ hq2,cf_ (show Sm i by omega)]
      rfl
    · rw [List.take_add_one,hx,hq]
      rfl) (fun q hq=>by
    unfold gateB
    simp only [dnl,cond_false])
  rw [List.take_length] at hq
  subst hq
  exact hr
theorem base_get {th:List Int} {i:Nat} {v:Int} (h:th[i]?=some v):(ha_ th)[i]?=some (sigT i v):=by
  unfold ha_
  rw [List.getElem?_mapIdx,h]
  rfl
theorem base_len (th:List Int):(ha_ th).length=th.length:=List.length_mapIdx
theorem base_loop {th:List Int} (h:Sm th.length):af_ (baseB th) ([],(0,()))=some (ha_ th,()):=by
  obtain ⟨r,hr,q,rfl,hq⟩:=hc_ th.length (fun i (q:List al_)=>(q,((i:Int),()))) (fun q=>(q,())) [] (body:=baseB th) (fun i q=>q=(ha_ th).take i) rfl (fun i q hi hq=>by
    obtain ⟨x,hx⟩:=dn_ hi
    have hq2:Sm q.length:=by rw [hq,List.length_take]; omega
    refine ⟨_,?_,q++[sigT i x],rfl,?_⟩
    · unfold baseB
      simp only [dlt hi,cond_true,am_ hx,Option.bind_some,hd_ hq2,cf_ (show Sm i by omega)]
      rfl
    · rw [List.take_add_one,base_get hx,hq]
      rfl) (fun q hq=>by
    unfold baseB
    simp only [dnl,cond_false])
  rw [← base_len,List.take_length] at hq
  subst hq
  exact hr
theorem evs_loop {out:List ak_} (h:Sm out.length) {b:List al_} (hb:b.length≤100) (h2:out.length≤1000):af_ (evsB out) (b,(0,()))=some (b++evs out,()):=by
  obtain ⟨r,hr,q,rfl,hq⟩:=hc_ out.length (fun i (q:List al_)=>(q,((i:Int),()))) (fun q=>(q,())) b (body:=evsB out) (fun i q=>q=b++evs (out.take i)) (by simp [evs]) (fun i q hi hq=>by
    obtain ⟨e,hx⟩:=dn_ hi
    have hq2:Sm q.length:=by
      rw [hq,List.length_append]
      have:(evs (out.take i)).length≤out.length:=by
        unfold evs
        rw [List.length_map]
        exact Nat.le_trans (List.length_filter_le _ _) (by rw [List.length_take]; omega)
      omega
    have e1:evs (out.take (i+1))=evs (out.take i)++cond (inE e) [sigE e] []:=by
      unfold evs
      rw [List.take_add_one,hx,List.filter_append,List.map_append]
      cases hi:inE e with
      | true=>simp [hi]
      | false=>simp [hi]
    refine ⟨.inl (cond (inE e) (q++[sigE e]) q,(((i+1:Nat):Int),())),?_,cond (inE e) (q++[sigE e]) q,rfl,?_⟩
    · unfold evsB inE
      simp only [dlt hi,cond_true,am_ hx,Option.bind_some,cf_ (show Sm i by omega)]
      cases e.2.1==5 with
      | false=>rfl
      | true =>
      cases h40:decide (e.1<40) with
      | false =>
        simp only [cond_true,Option.bind_some,h40,cond_false]
        rfl
      | true =>
        simp only [cond_true,Option.bind_some,h40,hd_ hq2]
        rfl
    · rw [e1,hq]
      cases inE e <;> simp) (fun q hq=>by
    unfold evsB
    simp only [dnl,cond_false])
  rw [List.take_length] at hq
  subst hq
  exact hr
theorem inn_loop {n:Nat} {out:List ak_} (h:EOk n out) (t:Int) {th:List Int} (hn:th.length=n) :
    af_ (innB out t) ((mj_ out (t - 1):Nat),(ST th out (t - 1),()))=some (.inl ((mj_ out t:Nat),(ST th out t,()))):=by
  have hm:=filter_mono out (show t - 1≤t by omega)
  have hle:=upto_le out t
  have hsm:=h.len
  obtain ⟨r,hr,q,rfl,hq⟩:=hc_ (mj_ out t - mj_ out (t - 1)) (fun i (q:List Int)=>(((mj_ out (t - 1)+i:Nat):Int),(q,()))) (fun q=>.inl (((mj_ out t:Nat):Int),(q,()))) (ST th out (t - 1)) (body:=innB out t) (fun i q=>q=(out.take (mj_ out (t - 1)+i)).foldl est th) rfl (fun i q hi hq=>by
    have hk:mj_ out (t - 1)+i<out.length:=by omega
    obtain ⟨e,hx⟩:=dn_ hk
    have hat:e.1≤t:=(upto_iff h.ord hx).2 (by omega)
    have hql:q.length=n:=by rw [hq,vf_,hn]
    refine ⟨.inl (((mj_ out (t - 1)+(i+1):Nat):Int),(est q e,())),?_,est q e,rfl,?_⟩
    · unfold innB
      simp only [dlt hk,cond_true,am_ hx,Option.bind_some,show decide (e.1≤t)=true from decide_eq_true hat]
      rw [cf_ (show Sm (mj_ out (t - 1)+i) by omega)]
      unfold est
      cases h5:e.2.1==5 with
      | false=>rfl
      | true =>
      obtain ⟨h6,h7⟩:=(h.ent e (cj_ hx)).2 (by simpa using h5)
      obtain ⟨a,ea,_⟩:=uv_ (l:=q) h6.1 (by omega)
      simp only [cond_true,show decide (e.2.2.2.1<0)=false from decide_eq_false (by omega),cond_false,Option.bind_some,show decide ((q.length:Int)≤e.2.2.2.1)=false from decide_eq_false (by omega),ea]
      rfl
    · rw [show mj_ out (t - 1)+(i+1)=mj_ out (t - 1)+i+1 by omega,List.take_add_one,hx,List.foldl_append,hq]
      rfl) (fun q hq=>by
    rw [show mj_ out (t - 1)+(mj_ out t - mj_ out (t - 1))=mj_ out t by omega]
    unfold innB
    by_cases hk:mj_ out t<out.length
    · obtain ⟨e,hx⟩:=dn_ hk
      have hat:¬ e.1≤t:=fun hc=>by have:=(upto_iff h.ord hx).1 hc; omega
      simp only [dlt hk,cond_true,am_ hx,Option.bind_some,show decide (e.1≤t)=false from decide_eq_false hat,cond_false]
    · simp only [show decide (((mj_ out t:Nat):Int)<(out.length:Int))=false from decide_eq_false (by omega),cond_false,Option.bind_some])
  rw [show mj_ out (t - 1)+(mj_ out t - mj_ out (t - 1))=mj_ out t by omega] at hq
  subst hq
  exact hr
theorem fin_loop {n:Nat} {out:List ak_} (h:EOk n out) {th rs x y:List Int} (hn:th.length=n) (hr:rs.length=40) {c:List az_} (hc:Sm c.length) (hi:InC n c)
    (hrs:∀ (j:Nat) r,rs[j]?=some r→r=rowX (true,ST th out j) c) :
    ∃ z,af_ (finB out rs x y c) (0,(0,(th,())))=some (.inl z):=by
  obtain ⟨r,hr,q,rfl,hq⟩:=hc_ 40 (fun i (q:List Int)=>(((mj_ out ((i:Int) - 1):Nat):Int),((i:Int),(q,())))) (fun q=>.inl (q,())) th (body:=finB out rs x y c) (fun i q=>q=ST th out ((i:Int) - 1)) (ST_neg h th).symm (fun i q hi' hq=>by
    obtain ⟨r,hx⟩:=dn_ (l:=rs) (i:=i) (by omega)
    have e1:=hrs i r hx
    refine ⟨.inl (((mj_ out (((i+1:Nat):Int) - 1):Nat):Int),(((i+1:Nat):Int),(ST th out (((i+1:Nat):Int) - 1),()))),?_,_,rfl,rfl⟩
    unfold finB
    rw [hq]
    simp only [show decide ((i:Int)<40)=true from decide_eq_true (by omega),cond_true,inn_loop h (i:Int) hn,Option.bind_some]
    show Option.bind (at? rs (i:Int)) _=_
    rw [am_ hx,Option.bind_some,ref02_Holding hc (by show InC (ST th out i).length c; rw [ST_len,hn]; exact hi),Option.bind_some,e1,cf_ (show Sm i by omega)]
    rw [show ((i+1:Nat):Int) - 1=(i:Int) by omega]
    unfold rowX
    show cond ((Int.tmod (cond (true&&!(fm_ (ST th out i) c)) 1 0) 2==0) != fm_ (ST th out i) c) _ _=_
    cases fm_ (ST th out i) c <;> rfl) (fun q hq=>by
    unfold finB
    simp only [show decide (((40:Nat):Int)<40)=false from rfl,cond_false])
  rw [show (((mj_ out (((0:Nat):Int) - 1):Nat):Int))=0 by
    unfold mj_
    rw [op_ fun e he=>by have:=(h.ent e he).1; omega]
    rfl] at hr
  exact ⟨_,hr⟩
theorem drk_loop {rs:List Int} (hr:rs.length=40) {d:Nat} (hd:d<40) (h:∀ (j:Nat) r,d≤j→rs[j]?=some r→r=0):af_ (drkB rs) ((d:Int),())=some (.inl ()):=by
  obtain ⟨r,hr,q,rfl,hq⟩:=hc_ (40 - d) (fun i (q:Unit)=>(((d+i:Nat):Int),q)) (fun q=>.inl ()) () (body:=drkB rs) (fun i q=>True) trivial (fun i q hi hq=>by
    obtain ⟨r,hx⟩:=dn_ (l:=rs) (i:=d+i) (by omega)
    refine ⟨.inl (((d+(i+1):Nat):Int),()),?_,(),rfl,trivial⟩
    unfold drkB
    simp only [show decide (((d+i:Nat):Int)<40)=true from decide_eq_true (by omega),cond_true,am_ hx,Option.bind_some,h _ _ (by omega) hx,cf_ (show Sm (d+i) by omega)]
    rfl) (fun q hq=>by
    unfold drkB
    simp only [show decide (((d+(40 - d):Nat):Int)<40)=false from decide_eq_false (by omega),cond_false])
  exact hr
end Go.Proofs.YtfcgcpjnpdkjmaaGreatDoor.Rx
end
section
set_option maxRecDepth 10000
namespace Go.Proofs.YtfcgcpjnpdkjmaaGreatDoor.Rx
open Go Go.Proofs.YtfcgcpjnpdkjmaaGreatDoor.Pad Go.Proofs.YtfcgcpjnpdkjmaaGreatDoor.Rex
structure VS (r:ae_) (s:ar_):Prop where
  l1:s.1.length=r.2.1.length
  l2:s.2.1.length=r.2.2.1.length
  l3:(s.2.2.length:Int)=r.2.2.2.2.2.2.1
  th:∀ (i:Nat) n,s.1[i]?=some n→ph_ r.2.1 (i:Int) n=true
  pr:∀ (i:Nat) p,s.2.1[i]?=some p→inR r p=true
  py:∀ (i:Nat) p,s.2.2[i]?=some p→te_ r p=true
theorem ckS_zero {r:ae_} {s:ar_} (h:VS r s):ckS r s=0:=by
  unfold ckS
  have hl:lensS r s=false:=by
    unfold lensS
    have:=h.l1
    have:=h.l2
    have:=h.l3
    simp only [Bool.or_eq_false_iff,bne_eq_false_iff_eq]
    omega
  rw [hl,cond_false]
  rw [(km_ s.1 0).2 (fun j x hx=>by rw [Nat.zero_add,h.th j x hx]; rfl),Option.getD_none]
  rw [(km_ s.2.1 0).2 (fun j x hx=>by rw [h.pr j x hx]; rfl),Option.getD_none]
  rw [(km_ s.2.2 0).2 (fun j x hx=>by rw [h.py j x hx]; rfl),Option.getD_none]
theorem lh_ {r:ae_} (h:SmR r) (ok:OkR r) {i n:Int} (hs:ph_ r.2.1 i n=true):(0≤i∧i<r.2.1.length)∧(0≤n∧n≤5):=by
  unfold ph_ at hs
  rw [Bool.and_eq_true] at hs
  have hi:=wi_iff.1 hs.1
  have hth:=h.th
  rw [kk_ (by omega) (by omega)] at hi
  obtain ⟨t,ht,hg⟩:=uv_ (l:=r.2.1) (i:=i) (by omega) (by omega)
  have h2:=hs.2
  rw [ht] at h2
  have hn:=wi_iff.1 h2
  have:=ok.th _ _ hg
  unfold thOk at this
  simp only [Bool.and_eq_true] at this
  have h3:=wi_iff.1 this.2.2.1
  rw [kk_ (by omega) (by omega)] at hn
  omega
theorem GoS_of {r:ae_} (h:SmR r) (ok:OkR r):GoS r.2.1.length r.2.2.2.2.2.2.2:=by
  obtain ⟨h1,h2⟩:=yw_ h.th ok.go
  refine ⟨h2,fun l hl=>⟨h1 l hl,?_⟩⟩
  have hc:=ok.go
  unfold cOk at hc
  rw [Bool.and_eq_true] at hc
  have:=(lh_ h ok (List.all_eq_true.1 hc.2 l hl)).2
  omega
def BegOk (g:ai_):Prop:=en_ g.1=0∧∃ b,ey_ g=some (b,(0,()))∧dp_ g b=some (0,())∧VS g.1 b.1
def RecOk (g:ai_) (l:List fg_):Prop:=∃ r,gu_ g l=some r∧(r.2.2.1=0→BegOk g∧EOk g.1.2.1.length r.1∧r.1.length≤500)
theorem play_x {n:Nat} (hn:n≤12) {c:List az_} (hc:GoS n c) {l:List al_} (hl:l.length≤200) (ho:∀ s ∈ l,SigOk n s) :
    ∃ ts rs,begX n [(3,c)] l=some (ts,(0,()))∧ef_ (PN n c) ts=some (rs,())∧rs.length=40∧∀ (j:Nat) r,rs[j]?=some r→r=rowX (SN n l (j+1)) c:=by
  obtain ⟨ts,e1,e2,e3⟩:=begX_eq hn hc hl ho
  obtain ⟨rs,e4,e5,e6⟩:=control_rows e2 e3
  exact ⟨ts,rs,e1,e4,e5,e6⟩
theorem TopDoors_of {g:ai_} {l:List fg_} {dark:Int} (hcount:cm_=some (true,())) (hrec:SmG g→l.length≤20→RecOk g l):kh_ g l dark=some (true,()):=by
  rw [topX_eq]
  unfold topX
  obtain ⟨b0,e0,hG⟩:=law04_Far g
  rw [e0,Option.bind_some]
  cases b0 with
  | true=>simp only [cond_true,Option.bind_some,hcount]
  | false =>
  have sg:=hG rfl
  simp only [cond_false]
  cases h1:decide (20<(l.length:Int)) with
  | true=>simp only [cond_true,Option.bind_some,hcount]
  | false =>
  simp only [cond_false]
  cases h2:decide (12<(g.1.2.1.length:Int)) with
  | true=>simp only [cond_true,Option.bind_some,hcount]
  | false =>
  simp only [cond_false,Option.bind_some]
  cases h3:(g.1.2.2.2.2.2.2.2.length:Int)==0 with
  | true=>simp only [cond_true,Option.bind_some,hcount]
  | false =>
  have hl20:l.length≤20:=by have:=of_decide_eq_false h1; omega
  have hn:g.1.2.1.length≤12:=by have:=of_decide_eq_false h2; omega
  simp only [cond_false]
  rw [ref04_Copy sg,Option.bind_some,bj_ (show Sm l.length by omega),Option.bind_some]
  obtain ⟨r,er,hr⟩:=hrec sg hl20
  rw [er,Option.bind_some]
  cases h4:r.2.2.1 != 0 with
  | true=>simp only [cond_true,Option.bind_some,hcount]
  | false =>
  obtain ⟨⟨ck,b,eb,ec,vs⟩,he,hlen⟩:=hr (by simpa using h4)
  have ok:=fb_ ck
  have hc:=GoS_of sg.room ok
  simp only [cond_false]
  rw [eb,Option.bind_some]
  simp only [show ((0:Int) != 0)=false from rfl,cond_false]
  rw [ec]
  simp only [Option.bind_some,show ((0:Int) != 0)=false from rfl,cond_false]
  have hbl:=vs.l1
  have hc8:=hc.1
  rw [gate_loop (by omega),Option.bind_some,base_loop (by omega),Option.bind_some,evs_loop he.len (by rw [base_len]; omega) (by omega),Option.bind_some]
  simp only
  cases h5:decide (199<((ha_ b.1.1++evs r.1).length:Int)) with
  | true=>simp only [cond_true,Option.bind_some,hcount]
  | false =>
  have hsl:(ha_ b.1.1++evs r.1).length≤199:=by have:=of_decide_eq_false h5; omega
  have hso:=sigs_ok hbl he (fun v hv=>by
    obtain ⟨i,hi⟩:=List.getElem?_of_mem hv
    have:=(lh_ sg.room ok (vs.th i v hi)).2
    omega)
  simp only [cond_false]
  obtain ⟨ts,rs,e1,e2,e3,e4⟩:=play_x hn hc (by omega) hso
  rw [e1,Option.bind_some]
  simp only [show ((0:Int) != 0)=false from rfl,cond_false]
  rw [e2]
  simp only [Option.bind_some,show ((0:Int) != 0)=false from rfl,cond_false,e3,show (((40:Nat):Int) != 40)=false from rfl]
  have hth:=sg.room.th
  have hpr:=sg.room.pr
  have hpy:=wi_iff.1 ok.py
  have v2:=vs.l2
  have v3:=vs.l3
  rw [bj_ (show Sm b.1.1.length by omega),Option.bind_some,bj_ (show Sm b.1.2.1.length by omega),Option.bind_some,bj_ (show Sm b.1.2.2.length by show b.1.2.2.length≤1000000000; omega),Option.bind_some]
  obtain ⟨z,ez⟩:=fin_loop (n:=g.1.2.1.length) he hbl e3 (x:=b.1.2.1) (y:=b.1.2.2) (c:=g.1.2.2.2.2.2.2.2) (by omega) (fun x hx=>(hc.2 x hx).1) (fun j r' hr'=>by
    have h40:=ax_ hr'
    rw [e4 j r' hr',SN_ST hbl he j (by omega)])
  rw [ez,Option.bind_some]
  unfold de_
  simp only
  cases h6:decide (dark<0) with
  | true=>simp only [cond_true,Option.bind_some,hcount]
  | false =>
  simp only [cond_false,Option.bind_some]
  cases h7:decide (40≤dark) with
  | true=>simp only [cond_true,Option.bind_some,hcount]
  | false =>
  have d1:=of_decide_eq_false h6
  have d2:=of_decide_eq_false h7
  obtain ⟨d,rfl⟩:∃ d:Nat,dark=(d:Int):=⟨dark.toNat,by omega⟩
  simp only [cond_false]
  rw [hd_ (show Sm (ha_ b.1.1++evs r.1).length by omega),Option.bind_some]
  obtain ⟨ts',rs',f1,f2,f3,f4⟩:=play_x (l:=(ha_ b.1.1++evs r.1)++[darkS d]) hn hc (by rw [List.length_append,List.length_singleton]; omega) (fun s hs=>by
    rcases List.mem_append.1 hs with hs | hs
    · exact hso s hs
    · rw [List.mem_singleton] at hs
      subst hs
      exact ⟨by show (0:Int)≤(d:Int)∧(d:Int)<40; omega,.inr rfl⟩)
  rw [show ((ha_ b.1.1++evs r.1)++[((d:Int),((4:Int),((0:Int),(0:Int))))])=(ha_ b.1.1++evs r.1)++[darkS d] from rfl,f1,Option.bind_some]
  simp only [show ((0:Int) != 0)=false from rfl,cond_false]
  rw [f2]
  simp only [Option.bind_some,show ((0:Int) != 0)=false from rfl,cond_false,f3,show (((40:Nat):Int) != 40)=false from rfl]
  rw [drk_loop f3 (by omega) (fun j r' hj hr'=>by
    have h40:=ax_ hr'
    have:=SN_dark hso (d:=d) (by omega) j hj
    rw [f4 j r' hr']
    unfold rowX
    rw [this]
    rfl),Option.bind_some]
  simp only [hcount,Option.bind_some]
end Go.Proofs.YtfcgcpjnpdkjmaaGreatDoor.Rx
end
section
set_option maxRecDepth 100000
namespace Go.Proofs.YtfcgcpjnpdkjmaaGreatDoor.Rx
open Go Go.Proofs.YtfcgcpjnpdkjmaaGreatDoor.Pad Go.Proofs.YtfcgcpjnpdkjmaaGreatDoor.Rex Go.Proofs
noncomputable def autB (a0:ae_) (th pr py:List Int):(Int×Unit)→Option ((Int×Unit)⊕(Unit⊕(Int×Unit))) :=
 (fun (v14:(Int×Unit)) =>
 (cond (decide (v14.1<(a0.2.2.2.2.2.1.length:Int)))
 ((at? a0.2.2.2.2.2.1 v14.1).bind fun v15 =>
 ((((at? th v15.2.1).bind fun v16 =>
 ((at? th v15.2.1).bind fun v17 =>
 (cond (v17 != v15.2.2)
 ((bg_ (a0,(th,(pr,py))) v15.1).bind fun v18 =>
 (some (v18.1,())))
 (some (false,())))))).bind fun v19 =>
 (cond v19.1
 (some (Sum.inr (Sum.inr (v14.1,()))))
 (some (Sum.inl ((w64 (v14.1+1)),()))))))
 (some (Sum.inr (Sum.inl ())))))
noncomputable def setB (a0:ae_) (v11 v12:List Int):(Int×((List Int)×Unit))→Option ((Int×((List Int)×Unit))⊕(((List Int)×Unit)⊕(Bool×((List Int)×Unit)))) :=
 (fun (v13:(Int×((List Int)×Unit))) =>
 (cond (decide (v13.1<101))
 ((((af_ (ρ:=(Unit⊕(Int×Unit))) (autB a0 v13.2.1 v11 v12) (0,())).bind fun v20 =>
 (de_ v20 (fun v21=>(some ((-1),())))
 (fun v22=>(some v22))))).bind fun v23 =>
 (cond (decide (v23.1<0))
 (some (Sum.inr (Sum.inr ((!true),(v13.2.1,())))))
 ((at? a0.2.2.2.2.2.1 v23.1).bind fun v24 =>
 ((at? a0.2.2.2.2.2.1 v23.1).bind fun v25 =>
 ((at? v13.2.1 v24.2.1).bind fun v26 =>
 ((at? v13.2.1 v24.2.1).bind fun v27 =>
 (some (Sum.inl ((w64 (v13.1+1)),((v13.2.1.set v24.2.1.toNat v25.2.2),()))))))))))
 (some (Sum.inr (Sum.inl (v13.2.1,()))))))
noncomputable def thgB (a0:ae_):(Int×(((List Int)×Unit)×Unit))→Option ((Int×(((List Int)×Unit)×Unit))⊕(((List Int)×Unit)×Unit)) :=
 (fun (v2:(Int×(((List Int)×Unit)×Unit))) =>
 (cond (decide (v2.1<(a0.2.1.length:Int)))
 ((at? a0.2.1 v2.1).bind fun v3 =>
 ((push? (α:=Int) v2.2.1.1 [v3.2.2.2]).bind fun v4 =>
 (some (Sum.inl ((w64 (v2.1+1)),((v4,()),()))))))
 (some (Sum.inr ((v2.2.1.1,()),())))))
noncomputable def prpB (a0:ae_):(Int×(((List Int)×Unit)×Unit))→Option ((Int×(((List Int)×Unit)×Unit))⊕(((List Int)×Unit)×Unit)) :=
 (fun (v6:(Int×(((List Int)×Unit)×Unit))) =>
 (cond (decide (v6.1<(a0.2.2.1.length:Int)))
 ((at? a0.2.2.1 v6.1).bind fun v7 =>
 ((push? (α:=Int) v6.2.1.1 [v7.2.1]).bind fun v8 =>
 (some (Sum.inl ((w64 (v6.1+1)),((v8,()),()))))))
 (some (Sum.inr ((v6.2.1.1,()),())))))
noncomputable def rbegX (a0:ae_):Option (ar_×(Int×Unit)) :=
 ((gs_ a0).bind fun v0 =>
 (cond (v0.1 != 0)
 (some (([],([],[])),(v0.1,())))
 ((mk? (α:=Int) a0.2.2.2.2.2.2.1 0).bind fun v1 =>
 ((af_ (ρ:=(((List Int)×Unit)×Unit)) (thgB a0) (0,(([],()),()))).bind fun v5 =>
 ((af_ (ρ:=(((List Int)×Unit)×Unit)) (prpB a0) (0,(([],()),()))).bind fun v9 =>
 ((push? (α:=Int) [] v5.1.1).bind fun v10 =>
 ((push? (α:=Int) [] v9.1.1).bind fun v11 =>
 ((push? (α:=Int) [] v1).bind fun v12 =>
 ((((af_ (ρ:=(((List Int)×Unit)⊕(Bool×((List Int)×Unit)))) (setB a0 v11 v12) (0,(v10,()))).bind fun v28 =>
 (de_ v28 (fun v29=>(some ((!false),(v29.1,()))))
 (fun v30=>(some v30))))).bind fun v31 =>
 (cond v31.1
 (some (([],([],[])),(27,())))
 (some ((v31.2.1,(v11,v12)),(0,())))))))))))))
theorem rbegX_eq:kp_=rbegX:=by kernel_rfl
end Go.Proofs.YtfcgcpjnpdkjmaaGreatDoor.Rx
end
section
set_option maxRecDepth 10000
namespace Go.Proofs.YtfcgcpjnpdkjmaaGreatDoor.Rx
open Go Go.Proofs.YtfcgcpjnpdkjmaaGreatDoor.Pad Go.Proofs.YtfcgcpjnpdkjmaaGreatDoor.Rex
def VT (r:ae_) (th:List Int):Prop:=th.length=r.2.1.length∧∀ (i:Nat) n,th[i]?=some n→ph_ r.2.1 (i:Int) n=true
theorem VT_set {r:ae_} (h:SmR r) (ok:OkR r) {th:List Int} (hv:VT r th) {i n:Int} (hs:ph_ r.2.1 i n=true):VT r (th.set i.toNat n):=by
  refine ⟨by rw [List.length_set]; exact hv.1,fun j m hj => ?_⟩
  have hi:=(lh_ h ok hs).1
  rw [List.getElem?_set] at hj
  split at hj
  · next e =>
    split at hj
    · obtain rfl:=Option.some.inj hj
      rw [show (j:Int)=i by omega]
      exact hs
    · cases hj
  · exact hv.2 j m hj
theorem thg_loop {r:ae_} (h:SmR r):af_ (thgB r) (0,(([],()),()))=some ((r.2.1.map (·.2.2.2),()),()):=by
  have hth:=h.th
  obtain ⟨z,hz,q,rfl,hq⟩:=hc_ r.2.1.length (fun i (q:List Int)=>((i:Int),((q,()),()))) (fun q=>((q,()),())) [] (body:=thgB r) (fun i q=>q=(r.2.1.take i).map (·.2.2.2)) rfl (fun i q hi hq=>by
    obtain ⟨x,hx⟩:=dn_ hi
    have hq2:Sm q.length:=by rw [hq,List.length_map,List.length_take]; omega
    refine ⟨_,?_,q++[x.2.2.2],rfl,?_⟩
    · unfold thgB
      simp only [dlt hi,cond_true,am_ hx,Option.bind_some,hd_ hq2,cf_ (show Sm i by omega)]
    · rw [List.take_add_one,hx,hq,List.map_append]
      rfl) (fun q hq=>by
    unfold thgB
    simp only [dnl,cond_false])
  rw [List.take_length] at hq
  subst hq
  exact hz
theorem prp_loop {r:ae_} (h:SmR r):af_ (prpB r) (0,(([],()),()))=some ((r.2.2.1.map (·.2.1),()),()):=by
  have hth:=h.pr
  obtain ⟨z,hz,q,rfl,hq⟩:=hc_ r.2.2.1.length (fun i (q:List Int)=>((i:Int),((q,()),()))) (fun q=>((q,()),())) [] (body:=prpB r) (fun i q=>q=(r.2.2.1.take i).map (·.2.1)) rfl (fun i q hi hq=>by
    obtain ⟨x,hx⟩:=dn_ hi
    have hq2:Sm q.length:=by rw [hq,List.length_map,List.length_take]; omega
    refine ⟨_,?_,q++[x.2.1],rfl,?_⟩
    · unfold prpB
      simp only [dlt hi,cond_true,am_ hx,Option.bind_some,hd_ hq2,cf_ (show Sm i by omega)]
    · rw [List.take_add_one,hx,hq,List.map_append]
      rfl) (fun q hq=>by
    unfold prpB
    simp only [dnl,cond_false])
  rw [List.take_length] at hq
  subst hq
  exact hz
theorem aut_loop {r:ae_} (h:SmR r) (ok:OkR r) {th pr py:List Int} (hv:VT r th) :
    ∃ n:Int,((af_ (autB r th pr py) (0,())).bind fun v=>de_ v (fun _=>some ((-1:Int),())) (fun w=>some w))=some (n,())∧(n = -1∨∃ i:Nat,n=(i:Int)∧i<r.2.2.2.2.2.1.length):=by
  obtain ⟨n,e,_,hc⟩:=if_lt (l:=r.2.2.2.2.2.1) h.au (fun y=>(gi th y.2.1 != y.2.2)&&fm_ th y.1) (body:=autB r th pr py) (fun i y hy=>by
    obtain ⟨g1,g2⟩:=ok.au i y hy
    have hi:=(lh_ h ok g1).1
    obtain ⟨c1,c2⟩:=yw_ h.th g2
    have hl:=hv.1
    unfold autB
    have ht:bg_ (r,(th,(pr,py))) y.1=some (fm_ th y.1,()):=js_ (t:=(r,(th,(pr,py)))) (by omega) (by show InC th.length y.1; rw [hl]; exact c1)
    simp only [dlt (ax_ hy),cond_true,am_ hy,Option.bind_some,zr_ hi.1 (show y.2.1<th.length by omega),ht]
    cases gi th y.2.1 != y.2.2 with
    | false=>rfl
    | true=>cases fm_ th y.1 <;> rfl) (by
    unfold autB
    simp only [dnl,cond_false])
  exact ⟨n,e,hc⟩
theorem set_loop {r:ae_} (h:SmR r) (ok:OkR r) {pr py th:List Int} (hv:VT r th) :
    ∃ z,af_ (setB r pr py) (0,(th,()))=some z∧Sum.elim (fun _=>True) (fun w=>w.1=false∧VT r w.2.1) z:=by
  refine hb_ (fun (i:Nat) (s:Int×(List Int×Unit))=>∃ th,s=((i:Int),(th,()))∧VT r th) _ 101 0 _ ⟨th,rfl,hv⟩ (fun j s h1 h2 hs => ?_) (fun s hs => ?_)
  · obtain ⟨th,rfl,hv⟩:=hs
    unfold setB
    obtain ⟨n,e,hc⟩:=aut_loop h ok hv (pr:=pr) (py:=py)
    simp only [show decide ((j:Int)<101)=true from decide_eq_true (by omega),cond_true]
    rcases hc with rfl | ⟨i,rfl,hi⟩
    · refine .inr ⟨.inr (false,(th,())),?_,rfl,hv⟩
      refine Eq.trans (congrArg (fun o=>Option.bind o _) e) rfl
    · obtain ⟨y,hy⟩:=dn_ hi
      have g1:=(ok.au i y hy).1
      have hi2:=(lh_ h ok g1).1
      have hl:=hv.1
      refine .inl ⟨(((j+1:Nat):Int),(th.set y.2.1.toNat y.2.2,())),?_,_,rfl,VT_set h ok hv g1⟩
      refine Eq.trans (congrArg (fun o=>Option.bind o _) e) ?_
      simp only [Option.bind_some,show decide ((i:Int)<0)=false from decide_eq_false (by omega),cond_false,am_ hy,zr_ hi2.1 (show y.2.1<th.length by omega),cf_ (show Sm j by omega)]
  · obtain ⟨th,rfl,hv⟩:=hs
    unfold setB
    exact ⟨.inl (th,()),rfl,trivial⟩
theorem room_Begin {r:ae_} (h:SmR r):∃ s e,kp_ r=some (s,(e,()))∧(e=0→en_ r=0∧VS r s):=by
  rw [rbegX_eq]
  unfold rbegX
  rw [ua_ h,Option.bind_some]
  cases hr:en_ r != 0 with
  | true=>exact ⟨_,_,rfl,fun he=>by rw [bne_iff_ne] at hr; exact absurd he hr⟩
  | false =>
  have h0:en_ r=0:=by simpa using hr
  have ok:=fb_ h0
  have hpy:=wi_iff.1 ok.py
  have hth:=h.th
  have hpr:=h.pr
  simp only [cond_false]
  have hv:VT r (r.2.1.map (·.2.2.2)):=by
    refine ⟨List.length_map _,fun i n hn => ?_⟩
    rw [List.getElem?_map] at hn
    obtain ⟨x,hx,rfl⟩:=Option.map_eq_some_iff.1 hn
    have hk:=ok.th i x hx
    unfold thOk at hk
    simp only [Bool.and_eq_true] at hk
    have hi:=ax_ hx
    unfold ph_
    rw [am_ hx,Bool.and_eq_true]
    exact ⟨wi_iff.2 (by rw [kk_ (by omega) (by omega)]; omega),hk.2.2.2⟩
  have hplayers:mk? (α:=Int) r.2.2.2.2.2.2.1 0=some (List.replicate r.2.2.2.2.2.2.1.toNat 0):=mk?_le (by omega) (by omega)
  rw [hplayers,Option.bind_some,thg_loop h,Option.bind_some,prp_loop h,Option.bind_some]
  simp only
  rw [bj_ (by rw [List.length_map]; exact hth),Option.bind_some,bj_ (by rw [List.length_map]; exact hpr),Option.bind_some,bj_ (by rw [List.length_replicate]; show _≤1000000000; omega),Option.bind_some]
  obtain ⟨z,ez,hz⟩:=set_loop h ok hv (pr:=r.2.2.1.map (·.2.1)) (py:=List.replicate r.2.2.2.2.2.2.1.toNat 0)
  rw [ez,Option.bind_some]
  cases z with
  | inl z=>exact ⟨_,_,rfl,fun he=>absurd (show (27:Int)=0 from he) (by decide)⟩
  | inr z =>
  obtain ⟨b,th,u⟩:=z
  obtain ⟨rfl,h2⟩:b=false∧VT r th:=hz
  refine ⟨(th,(r.2.2.1.map (·.2.1),List.replicate r.2.2.2.2.2.2.1.toNat 0)),0,rfl,fun _=>⟨h0,⟨h2.1,List.length_map _,?_,h2.2,fun i p hp => ?_,fun i p hp => ?_⟩⟩⟩
  · show ((List.replicate _ (0:Int)).length:Int)=_
    rw [List.length_replicate]
    omega
  · have hp:(r.2.2.1.map (·.2.1))[i]?=some p:=hp
    rw [List.getElem?_map] at hp
    obtain ⟨x,hx,rfl⟩:=Option.map_eq_some_iff.1 hp
    have hk:=(ok.pr i x hx).1
    unfold prOk at hk
    simp only [Bool.and_eq_true,Bool.or_eq_true] at hk
    rw [inR_eq h ok.py,Bool.or_eq_true,Bool.or_eq_true]
    rcases hk.2 with hk | hk
    · exact .inl hk
    · exact .inr (.inl hk)
  · have hp:(List.replicate r.2.2.2.2.2.2.1.toNat (0:Int))[i]?=some p:=hp
    rw [List.getElem?_replicate] at hp
    split at hp
    · obtain rfl:=Option.some.inj hp
      have hpl:=h.pl
      have hne:r.1.length≠0:=fun e=>ok.ne (List.length_eq_zero_iff.1 e)
      unfold te_
      exact wi_iff.2 (by rw [kk_ (by omega) (by omega)]; omega)
    · cases hp
end Go.Proofs.YtfcgcpjnpdkjmaaGreatDoor.Rx
end
section
set_option maxRecDepth 100000
namespace Go.Proofs.YtfcgcpjnpdkjmaaGreatDoor.Rx
open Go Go.Proofs.YtfcgcpjnpdkjmaaGreatDoor.Pad Go.Proofs.YtfcgcpjnpdkjmaaGreatDoor.Rex Go.Proofs
noncomputable def pbgB (a0:ai_) (s:ar_):(Int×((List Bool)×((List ag_)×Unit)))→Option ((Int×((List Bool)×((List ag_)×Unit)))⊕((List Bool)×((List ag_)×Unit))) :=
 (fun (v3:(Int×((List Bool)×((List ag_)×Unit)))) =>
 (cond (decide (v3.1<(a0.2.2.2.1.length:Int)))
 ((((at? a0.2.2.2.1 v3.1).bind fun v4 =>
 ((fr_ a0.1 s v4.2.2.2.1).bind fun v5 =>
 (((cond v5.1
 ((cb_ s.2.2 v4.2.1).bind fun v6 =>
 (cond v6.1
 ((at? v3.2.1 v3.1).bind fun v7 =>
 ((at? v3.2.1 v3.1).bind fun v8 =>
 (some ((!v8),()))))
 (some (false,()))))
 (some (false,())))).bind fun v9 =>
 (cond v9.1
 ((at? v3.2.1 v3.1).bind fun v10 =>
 ((at? v3.2.1 v3.1).bind fun v11 =>
 (some ((v3.2.1.set v3.1.toNat true),((mdel v3.2.2.1 v4.2.2.1),())))))
 (some (v3.2.1,(v3.2.2.1,())))))))).bind fun v12 =>
 (some (Sum.inl ((w64 (v3.1+1)),(v12.1,(v12.2.1,()))))))
 (some (Sum.inr (v3.2.1,(v3.2.2.1,()))))))
noncomputable def pbegX (a0:ai_):Option (bk_×(Int×Unit)) :=
 ((gv_ a0).bind fun v0 =>
 (cond (v0.1 != 0)
 (some ((([],([],[])),[]),(v0.1,())))
 ((kp_ a0.1).bind fun v1 =>
 (cond (v1.2.1 != 0)
 (some ((([],([],[])),[]),(v1.2.1,())))
 ((mk? (α:=Bool) (a0.2.2.2.1.length:Int) false).bind fun v2 =>
 ((af_ (ρ:=((List Bool)×((List ag_)×Unit))) (pbgB a0 v1.1) (0,(v2,([],())))).bind fun v13 =>
 ((push? (α:=Int) [] v1.1.1).bind fun v14 =>
 ((push? (α:=Int) [] v1.1.2.1).bind fun v15 =>
 ((push? (α:=Int) [] v1.1.2.2).bind fun v16 =>
 ((push? (α:=Bool) [] v13.1).bind fun v17 =>
 (some (((v14,(v15,v16)),v17),(0,())))))))))))))
theorem pbegX_eq:ey_=pbegX:=by kernel_rfl
noncomputable def chgB (t:Int) (old new:List Int):((List ak_)×(Int×Unit))→Option (((List ak_)×(Int×Unit))⊕((List ak_)×Unit)) :=
 (fun (v11:((List ak_)×(Int×Unit))) =>
 (cond (decide (v11.2.1<(new.length:Int)))
 ((((at? new v11.2.1).bind fun v12 =>
 ((at? old v11.2.1).bind fun v13 =>
 ((at? old v11.2.1).bind fun v14 =>
 (cond (v12 != v14)
 ((push? (α:=ak_) v11.1 [(t,(5,((0,(0,0)),(v11.2.1,v12))))]).bind fun v15 =>
 (some (v15,())))
 (some (v11.1,()))))))).bind fun v16 =>
 (some (Sum.inl (v16.1,((w64 (v11.2.1+1)),())))))
 (some (Sum.inr (v11.1,())))))
noncomputable def recB (a0:ai_) (a1:List fg_):((List ak_)×(Int×(Int×(((List Int)×((List Int)×((List Int)×((List Bool)×Unit))))×Unit))))→Option (((List ak_)×(Int×(Int×(((List Int)×((List Int)×((List Int)×((List Bool)×Unit))))×Unit))))⊕(((List ak_)×(((List Int)×((List Int)×((List Int)×((List Bool)×Unit))))×Unit))⊕((List ak_)×(Int×(Int×Unit))))) :=
 (fun (v4:((List ak_)×(Int×(Int×(((List Int)×((List Int)×((List Int)×((List Bool)×Unit))))×Unit))))) =>
 (cond (decide (v4.2.2.1<(a1.length:Int)))
 ((at? a1 v4.2.2.1).bind fun v5 =>
 ((jn_ v5.1 v4.2.1 1000000).bind fun v6 =>
 (cond (!v6.1)
 (some (Sum.inr (Sum.inr ([],(v4.2.2.1,(1,()))))))
 ((push? (α:=Int) [] v4.2.2.2.1.1).bind fun v7 =>
 ((((kb_ a0 ((v4.2.2.2.1.1,(v4.2.2.2.1.2.1,v4.2.2.2.1.2.2.1)),v4.2.2.2.1.2.2.2.1) v5.2).bind fun v8 =>
 (cond (v8.2.1 != 0)
 (some ((!false),((v4.2.2.2.1.1,(v4.2.2.2.1.2.1,(v4.2.2.2.1.2.2.1,(v4.2.2.2.1.2.2.2.1,())))),())))
 (some ((!true),((v8.1.1.1,(v8.1.1.2.1,(v8.1.1.2.2,(v8.1.2,())))),())))))).bind fun v9 =>
 (cond v9.1
 (some (Sum.inr (Sum.inr ([],(v4.2.2.1,(29,()))))))
 ((push? (α:=ak_) v4.1 [(v5.1,(1,(v5.2,(0,0))))]).bind fun v10 =>
 ((af_ (ρ:=((List ak_)×Unit)) (chgB v5.1 v7 v9.2.1.1) (v10,(0,()))).bind fun v17 =>
 (some (Sum.inl (v17.1,(v5.1,((w64 (v4.2.2.1+1)),((v9.2.1.1,(v9.2.1.2.1,(v9.2.1.2.2.1,(v9.2.1.2.2.2.1,())))),()))))))))))))))
 (some (Sum.inr (Sum.inl (v4.1,((v4.2.2.2.1.1,(v4.2.2.2.1.2.1,(v4.2.2.2.1.2.2.1,(v4.2.2.2.1.2.2.2.1,())))),())))))))
noncomputable def recX (a0:ai_) (a1:List fg_):Option ((List ak_)×(Int×(Int×Unit))) :=
 ((ey_ a0).bind fun v0 =>
 (cond (v0.2.1 != 0)
 (cond (v0.2.1 != 0)
 (some ([],(0,(v0.2.1,()))))
 none)
 ((((ka_ a0.1 v0.1.1).bind fun v1 =>
 (((cond (v1.2.1==0)
 (some (v1.1,()))
 (some (false,())))).bind fun v2 =>
 (cond v2.1
 (some ((0,()),()))
 (some (((-1),()),())))))).bind fun v3 =>
 ((af_ (ρ:=(((List ak_)×(((List Int)×((List Int)×((List Int)×((List Bool)×Unit))))×Unit))⊕((List ak_)×(Int×(Int×Unit))))) (recB a0 a1) ([],(0,(0,((v0.1.1.1,(v0.1.1.2.1,(v0.1.1.2.2,(v0.1.2,())))),()))))).bind fun v18 =>
 (de_ v18 (fun v19=>(cond (decide (500<(v19.1.length:Int)))
 (some ([],(0,(2,()))))
 (some (v19.1,(0,(0,()))))))
 (fun v20=>(some v20)))))))
theorem recX_eq:gu_=recX:=by kernel_rfl
end Go.Proofs.YtfcgcpjnpdkjmaaGreatDoor.Rx
end
section
set_option maxRecDepth 10000
namespace Go.Proofs.YtfcgcpjnpdkjmaaGreatDoor.Rx
open Go Go.Proofs.YtfcgcpjnpdkjmaaGreatDoor.Pad Go.Proofs.YtfcgcpjnpdkjmaaGreatDoor.Rex
theorem wd_ {r:ae_} (h:SmR r) (ok:OkR r) {s:ar_} (hv:VS r s):Sm s.1.length∧Sm s.2.1.length∧Sm s.2.2.length:=by
  have:=wi_iff.1 ok.py
  have h1:=hv.l1
  have h2:=hv.l2
  have h3:=hv.l3
  have:=h.th
  have:=h.pr
  refine ⟨by show s.1.length≤1000000000; omega,by show s.2.1.length≤1000000000; omega,by show s.2.2.length≤1000000000; omega⟩
theorem iz_ {r:ae_} {s:ar_} (h0:en_ r=0) (hv:VS r s):nm_ r s=0:=by
  unfold nm_
  rw [h0]
  exact ckS_zero hv
theorem room_Holds {r:ae_} (h:SmR r) (h0:en_ r=0) {s:ar_} (hv:VS r s) (c:List az_):∃ b e,fr_ r s c=some (b,(e,())):=by
  have ok:=fb_ h0
  obtain ⟨m1,m2,m3⟩:=wd_ h ok hv
  unfold fr_
  rw [gn_ h,Option.bind_some,iz_ h0 hv]
  simp only [show ((0:Int) != 0)=false from rfl,cond_false]
  rw [ju_ h.th,Option.bind_some]
  cases hc:cOk r.2.1 c with
  | false=>exact ⟨_,_,rfl⟩
  | true =>
  obtain ⟨c1,c2⟩:=yw_ h.th hc
  have hl:=hv.l1
  simp only [Bool.not_true,cond_false]
  rw [bj_ m1,Option.bind_some,bj_ m2,Option.bind_some,bj_ m3,Option.bind_some,js_ (t:=(r,(s.1,(s.2.1,s.2.2)))) (show c.length≤1000000000 by omega) (by show InC s.1.length c; rw [hl]; exact c1)]
  exact ⟨_,_,rfl⟩
def CkP (g:ai_):Prop:=∃ e,gv_ g=some (e,())∧(e=0→en_ g.1=0∧jk_ g=some (0,()))
theorem pbg_loop {g:ai_} (hg:SmG g) (h0:en_ g.1=0) {s:ar_} (hv:VS g.1 s) {d:List Bool} (hd:d.length=g.2.2.2.1.length) (m:List ag_) :
    ∃ z,af_ (pbgB g s) (0,(d,(m,())))=some z∧z.1.length=g.2.2.2.1.length:=by
  have ok:=fb_ h0
  obtain ⟨m1,m2,m3⟩:=wd_ hg.room ok hv
  have hn:=hg.nt
  refine hb_ (fun (i:Nat) (z:Int×(List Bool×(List ag_×Unit)))=>∃ d m,z=((i:Int),(d,(m,())))∧d.length=g.2.2.2.1.length) _ g.2.2.2.1.length 0 _ ⟨d,m,rfl,hd⟩ (fun j z h1 h2 hz=>.inl ?_) (fun z hz => ?_)
  · obtain ⟨d,m,rfl,hd⟩:=hz
    obtain ⟨x,hx⟩:=dn_ (l:=g.2.2.2.1) (i:=j) (by omega)
    obtain ⟨y,hy⟩:=dn_ (l:=d) (i:=j) (by omega)
    obtain ⟨b,e,eb⟩:=room_Holds hg.room h0 hv x.2.2.2.1
    unfold pbgB
    simp only [dlt (ax_ hx),cond_true,am_ hx,am_ hy,Option.bind_some,eb,ne_ m3,cf_ (show Sm j by omega)]
    cases b with
    | false=>exact ⟨_,rfl,_,_,rfl,hd⟩
    | true =>
    cases s.2.2.contains x.2.1 with
    | false=>exact ⟨_,rfl,_,_,rfl,hd⟩
    | true =>
    cases y with
    | true=>exact ⟨_,rfl,_,_,rfl,hd⟩
    | false=>exact ⟨_,rfl,_,_,rfl,by rw [List.length_set]; exact hd⟩
  · obtain ⟨d,m,rfl,hd⟩:=hz
    rw [Nat.zero_add]
    unfold pbgB
    simp only [dnl,cond_false]
    exact ⟨_,rfl,hd⟩
theorem play_Begin {g:ai_} (hg:SmG g) (hk:CkP g):∃ b e,ey_ g=some (b,(e,()))∧(e=0→BegOk g∧VS g.1 b.1∧b.2.length=g.2.2.2.1.length):=by
  obtain ⟨e,ee,he⟩:=hk
  have hn:=hg.nt
  by_cases hz:e=0
  · obtain ⟨h0,hr⟩:=he hz
    subst hz
    obtain ⟨s,e2,es,hs⟩:=room_Begin hg.room
    by_cases hz2:e2=0
    · obtain ⟨_,hv⟩:=hs hz2
      subst hz2
      have ok:=fb_ h0
      obtain ⟨m1,m2,m3⟩:=wd_ hg.room ok hv
      obtain ⟨z,ez,hzl⟩:=pbg_loop hg h0 hv (d:=List.replicate g.2.2.2.1.length false) List.length_replicate []
      have hb:ey_ g=some (((s.1,(s.2.1,s.2.2)),z.1),(0,())):=by
        rw [pbegX_eq]
        unfold pbegX
        rw [ee,Option.bind_some]
        simp only [show ((0:Int) != 0)=false from rfl,cond_false]
        rw [es,Option.bind_some]
        simp only [show ((0:Int) != 0)=false from rfl,cond_false]
        rw [mk?_le (by omega) (by omega),Option.bind_some,Int.toNat_natCast,ez,Option.bind_some,bj_ m1,Option.bind_some,bj_ m2,Option.bind_some,bj_ m3,Option.bind_some,bj_ (by show z.1.length≤1000000000; omega),Option.bind_some]
      refine ⟨_,_,hb,fun _=>⟨⟨h0,_,hb,?_,hv⟩,hv,hzl⟩⟩
      unfold dp_
      rw [hr,Option.bind_some]
      simp only [show ((0:Int) != 0)=false from rfl,cond_false]
      rw [vq_ hg.room,Option.bind_some]
      have:nm_ g.1 (s.1,(s.2.1,s.2.2))=0:=iz_ h0 hv
      rw [this]
      simp only [show ((0:Int) != 0)=false from rfl,cond_false]
      rw [hzl,show ((g.2.2.2.1.length:Int) != (g.2.2.2.1.length:Int))=false by simp]
      rfl
    · refine ⟨(([],([],[])),[]),e2,?_,fun he2=>absurd he2 hz2⟩
      · rw [pbegX_eq]
        unfold pbegX
        rw [ee,Option.bind_some]
        simp only [show ((0:Int) != 0)=false from rfl,cond_false]
        rw [es,Option.bind_some]
        simp only [show (e2 != 0)=true by simpa using hz2,cond_true]
  · refine ⟨(([],([],[])),[]),e,?_,fun he2=>absurd he2 hz⟩
    · rw [pbegX_eq]
      unfold pbegX
      rw [ee,Option.bind_some]
      simp only [show (e != 0)=true by simpa using hz,cond_true]
end Go.Proofs.YtfcgcpjnpdkjmaaGreatDoor.Rx
end
section
set_option maxRecDepth 10000
namespace Go.Proofs.YtfcgcpjnpdkjmaaGreatDoor.Rx
open Go Go.Proofs.YtfcgcpjnpdkjmaaGreatDoor.Pad Go.Proofs.YtfcgcpjnpdkjmaaGreatDoor.Rex
def StepOk (g:ai_):Prop:=∀ (b:bk_) (m:bp_),VS g.1 b.1→b.2.length=g.2.2.2.1.length→∃ b' e,kb_ g b m=some (b',(e,()))∧(e=0→VS g.1 b'.1∧b'.2.length=g.2.2.2.1.length)
theorem EOk.push {n:Int} {q:List ak_} (h:EOk n q) {t:Int} (ht:0≤t) (hq:∀ e ∈ q,e.1≤t) (hl:q.length≤1000) {e:ak_} (he:e.1=t) (hv:e.2.1=5→(0≤e.2.2.2.1∧e.2.2.2.1<n)∧(0≤e.2.2.2.2∧e.2.2.2.2≤9)) :
    EOk n (q++[e])∧∀ e' ∈ q++[e],e'.1≤t:=by
  refine ⟨⟨by rw [List.length_append,List.length_singleton]; show _≤1000000000; omega,?_,fun e' he' => ?_⟩,fun e' he' => ?_⟩
  · rw [List.pairwise_append]
    refine ⟨h.ord,List.pairwise_singleton _ _,fun a ha b hb => ?_⟩
    rw [List.mem_singleton] at hb
    subst hb
    have:=hq a ha
    omega
  · rcases List.mem_append.1 he' with hm | hm
    · exact h.ent e' hm
    · rw [List.mem_singleton] at hm
      subst hm
      exact ⟨by omega,hv⟩
  · rcases List.mem_append.1 he' with hm | hm
    · exact hq e' hm
    · rw [List.mem_singleton] at hm
      subst hm
      omega
theorem chg_loop {n:Nat} {t:Int} (ht:0≤t) {old new:List Int} (ho:old.length=n) (hn:new.length=n) (hs:n≤15) (hv:∀ v ∈ new,0≤v∧v≤9) {q:List ak_} (h:EOk n q) (hq:∀ e ∈ q,e.1≤t) (hl:q.length≤900) :
    ∃ q',af_ (chgB t old new) (q,(0,()))=some (q',())∧EOk n q'∧(∀ e ∈ q',e.1≤t)∧q'.length≤q.length+n:=by
  obtain ⟨z,hz,q',rfl,h1,h2,h3⟩:=hc_ n (fun i (q:List ak_)=>(q,((i:Int),()))) (fun q=>(q,())) q (body:=chgB t old new) (fun i q'=>EOk n q'∧(∀ e ∈ q',e.1≤t)∧q'.length≤q.length+i) ⟨h,hq,by omega⟩ (fun i q' hi hq'=>by
    obtain ⟨h1,h2,h3⟩:=hq'
    obtain ⟨x,hx⟩:=dn_ (l:=new) (i:=i) (by omega)
    obtain ⟨y,hy⟩:=dn_ (l:=old) (i:=i) (by omega)
    unfold chgB
    simp only [dlt (ax_ hx),cond_true,am_ hx,am_ hy,Option.bind_some,cf_ (show Sm i by omega)]
    cases x != y with
    | false=>exact ⟨_,rfl,q',rfl,h1,h2,by omega⟩
    | true =>
      obtain ⟨k1,k2⟩:=EOk.push h1 ht h2 (by omega) (e:=(t,(5,((0,(0,0)),((i:Int),x))))) rfl (fun _=>⟨⟨by show (0:Int)≤(i:Int); omega,by show (i:Int)<(n:Int); omega⟩,hv x (cj_ hx)⟩)
      simp only [cond_true,hd_ (show Sm q'.length by omega),Option.bind_some]
      exact ⟨_,rfl,_,rfl,k1,k2,by rw [List.length_append,List.length_singleton]; omega⟩) (fun q' hq'=>by
    unfold chgB
    simp only [hn,dnl,cond_false])
  exact ⟨q',hz,h1,h2,h3⟩
theorem VS_val {r:ae_} (h:SmR r) (ok:OkR r) {s:ar_} (hv:VS r s):∀ v ∈ s.1,0≤v∧v≤9:=by
  intro v hm
  obtain ⟨i,hi⟩:=List.getElem?_of_mem hm
  have:=(lh_ h ok (hv.th i v hi)).2
  omega
theorem rec_loop {g:ai_} (hg:SmG g) (h0:en_ g.1=0) (hst:StepOk g) {l:List fg_} (hl:l.length≤20) {b:bk_} (hv:VS g.1 b.1) (hd:b.2.length=g.2.2.2.1.length) :
    ∃ z,af_ (recB g l) ([],(0,(0,((b.1.1,(b.1.2.1,(b.1.2.2,(b.2,())))),()))))=some z∧Sum.elim (fun w=>EOk g.1.2.1.length w.1) (fun w=>w.2.2.1≠0) z:=by
  have ok:=fb_ h0
  have hth:=hg.th
  refine hb_ (fun (i:Nat) (z:List ak_×(Int×(Int×(((List Int)×((List Int)×((List Int)×((List Bool)×Unit))))×Unit))))=>∃ (q:List ak_) (last:Int) (b:bk_),z=(q,(last,((i:Int),((b.1.1,(b.1.2.1,(b.1.2.2,(b.2,())))),()))))∧EOk g.1.2.1.length q∧(∀ e ∈ q,e.1≤last)∧0≤last∧q.length≤16 * i∧VS g.1 b.1∧b.2.length=g.2.2.2.1.length) _ l.length 0 _ ⟨[],0,b,rfl,⟨by show 0≤1000000000; omega,List.Pairwise.nil,fun e he=>by cases he⟩,(fun e he=>by cases he),Int.le_refl _,Nat.le_refl _,hv,hd⟩ (fun j z h1 h2 hz => ?_) (fun z hz => ?_)
  · obtain ⟨q,last,b,rfl,k1,k2,k3,k4,k5,k6⟩:=hz
    obtain ⟨x,hx⟩:=dn_ (l:=l) (i:=j) (by omega)
    obtain ⟨m1,m2,m3⟩:=wd_ hg.room ok k5
    obtain ⟨b',e,eb,he⟩:=hst b x.2 k5 k6
    unfold recB
    simp only [dlt (ax_ hx),cond_true,am_ hx,Option.bind_some,record_within]
    cases hw:wi x.1 last 1000000 with
    | false=>exact .inr ⟨_,rfl,by show (1:Int)≠0; decide⟩
    | true =>
    have hw:=(wi_iff.1 hw).1
    simp only [Bool.not_true,cond_false]
    rw [bj_ m1,Option.bind_some,eb,Option.bind_some]
    cases hz:e != 0 with
    | true=>exact .inr ⟨_,rfl,by show (29:Int)≠0; decide⟩
    | false =>
    obtain ⟨v1,v2⟩:=he (by simpa using hz)
    obtain ⟨n1,n2⟩:=EOk.push k1 (t:=x.1) (by omega) (fun e he=>by have:=k2 e he; omega) (by omega) (e:=(x.1,(1,(x.2,(0,0))))) rfl (fun h=>absurd (show (1:Int)=5 from h) (by decide))
    obtain ⟨q',eq,o1,o2,o3⟩:=chg_loop (t:=x.1) (by omega) k5.l1 v1.l1 hth (VS_val hg.room ok v1) n1 n2 (by rw [List.length_append,List.length_singleton]; omega)
    rw [List.length_append,List.length_singleton] at o3
    simp only [cond_false,Option.bind_some,Bool.not_true,hd_ (show Sm q.length by omega)]
    rw [eq,Option.bind_some,cf_ (show Sm j by omega)]
    exact .inl ⟨_,rfl,q',x.1,b',rfl,o1,o2,by omega,by omega,v1,v2⟩
  · obtain ⟨q,last,b,rfl,k1,k2,k3,k4,k5,k6⟩:=hz
    rw [Nat.zero_add]
    unfold recB
    simp only [dnl,cond_false]
    exact ⟨_,rfl,k1⟩
def DoneOk:Prop:=∀ (r:ae_) (s:ar_),SmR r→en_ r=0→VS r s→∃ b e,ka_ r s=some (b,(e,()))
theorem record_Record {g:ai_} (hg:SmG g) (hk:CkP g) (hD:DoneOk) (hst:StepOk g) {l:List fg_} (hl:l.length≤20):RecOk g l:=by
  unfold RecOk
  rw [recX_eq]
  unfold recX
  obtain ⟨b,e,eb,hb⟩:=play_Begin hg hk
  rw [eb,Option.bind_some]
  cases hz:e != 0 with
  | true=>exact ⟨_,rfl,fun h=>by rw [bne_iff_ne] at hz; exact absurd h hz⟩
  | false =>
  obtain ⟨hB,hv,hd⟩:=hb (by simpa using hz)
  have h0:=hB.1
  simp only [cond_false]
  obtain ⟨b1,e1,eD⟩:=hD g.1 b.1 hg.room h0 hv
  rw [eD,Option.bind_some]
  obtain ⟨z,ez,hzz⟩:=rec_loop hg h0 hst hl hv hd
  have hstep:∀ (o:Option ((Int×Unit)×Unit)) ,(∃ x,o=some x)→∃ r,(o.bind fun v3=>((af_ (recB g l) ([],(0,(0,((b.1.1,(b.1.2.1,(b.1.2.2,(b.2,())))),()))))).bind fun v18 =>
 (de_ v18 (fun v19=>(cond (decide (500<(v19.1.length:Int)))
 (some ([],(0,(2,()))))
 (some (v19.1,(0,(0,()))))))
 (fun v20=>(some v20)))))=some r∧(r.2.2.1=0→BegOk g∧EOk g.1.2.1.length r.1∧r.1.length≤500):=by
    rintro o ⟨x,rfl⟩
    rw [Option.bind_some,ez,Option.bind_some]
    cases z with
    | inr w=>exact ⟨w,rfl,fun h=>absurd h hzz⟩
    | inl w =>
      unfold de_
      simp only
      cases h5:decide (500<(w.1.length:Int)) with
      | true=>exact ⟨_,rfl,fun h=>absurd (show (2:Int)=0 from h) (by decide)⟩
      | false =>
        have:=of_decide_eq_false h5
        exact ⟨_,rfl,fun _=>⟨hB,hzz,by show w.1.length≤500; omega⟩⟩
  refine hstep _ ?_
  cases e1==0 with
  | false=>exact ⟨_,rfl⟩
  | true=>cases b1 <;> exact ⟨_,rfl⟩
end Go.Proofs.YtfcgcpjnpdkjmaaGreatDoor.Rx
end
section
namespace Go.Proofs.YtfcgcpjnpdkjmaaGreatDoor.Pad
open Go
def wi (n lo hi:Int):Bool:=decide (lo≤n)&&decide (n≤hi)
theorem wi_iff {n lo hi:Int}:wi n lo hi=true↔lo≤n∧n≤hi:=by simp [wi]
theorem wi_eq (a b c:Int):(if decide (b≤a)=true then some (decide (a≤c)) else some false)=some (wi a b c):=by
  unfold wi
  by_cases h:b≤a <;> simp [h]
theorem jh_ (a b c:Int):ca_ a b c=some (wi a b c):=wi_eq a b c
theorem gw_ (a b c:Int):cu_ a b c=some (wi a b c):=wi_eq a b c
def okL (l:CodeLock):Bool:=wi l.Wheels 1 4&&wi l.Symbols 2 10
structure Lk (l:CodeLock):Prop where
  w1:1≤l.Wheels
  w2:l.Wheels≤4
  s1:2≤l.Symbols
  s2:l.Symbols≤10
theorem pn_ {l:CodeLock}:okL l=true↔Lk l:=by
  unfold okL
  rw [Bool.and_eq_true,wi_iff,wi_iff]
  exact ⟨fun h=>⟨h.1.1,h.1.2,h.2.1,h.2.2⟩,fun h=>⟨⟨h.w1,h.w2⟩,h.s1,h.s2⟩⟩
theorem nh_ (l:CodeLock):ik_ l=some (if okL l then 0 else 10):=by
  unfold ik_ okL
  rw [jh_,Option.bind_some,jh_]
  cases wi l.Wheels 1 4 <;> cases wi l.Symbols 2 10 <;> rfl
theorem kj_ (l:CodeLock):gy_ l=some (if okL l then 0 else 10):=by
  unfold gy_ okL
  rw [gw_,Option.bind_some,gw_]
  cases wi l.Wheels 1 4 <;> cases wi l.Symbols 2 10 <;> rfl
noncomputable def idxF {α:Type} (l:List α) (f:α→Option Bool):Option Int :=
  (forN (σ:=Unit) (fun i1 _=>(at? l (i1:Int)).bind fun x5=>(f x5).bind fun x6=>if x6 then some (Sum.inr (i1:Int)) else some (Sum.inl ())) l.length 0 ()).bind fun o2=>onL o2 fun _=>some (-1)
theorem idxF_spec {α:Type} {l:List α} {f:α→Option Bool} {p:α→Bool} (hf:∀ x ∈ l,f x=some (p x)):Tot (idxF l f) (fun r=>(r = -1∧l.any p=false)∨(0≤r∧l.any p=true)):=by
  unfold idxF
  refine Tot.bind _ (Tot.forN (fun j _=>∀ k x,k<j→l[k]?=some x→p x=false) (fun (r:Int)=>0≤r∧l.any p=true) (fun k x hk _=>by omega) ?_) ?_
  · intro j s hj hI
    refine Tot.bind _ (Tot.atN hj) fun x hx => ?_
    rw [hf x (List.mem_of_getElem? hx),Option.bind_some]
    refine Tot.ite (fun h=>Tot.pure ⟨by omega,List.any_eq_true.2 ⟨x,List.mem_of_getElem? hx,h⟩⟩) (fun h=>Tot.pure ?_)
    intro k y hk hy
    by_cases e:k=j
    · subst e; rw [hx] at hy; obtain rfl:=Option.some.inj hy; simpa using h
    · exact hI k y (by omega) hy
  · intro o ho
    refine Tot.onL (E:=fun r=>0≤r∧l.any p=true) ho (fun _ h=>Tot.pure (.inl ⟨rfl,?_⟩)) (fun r h=>.inr h)
    rw [List.any_eq_false]
    intro x hx
    obtain ⟨k,hk⟩:=List.getElem?_of_mem hx
    rw [h k x (List.getElem?_eq_some_iff.1 hk).1 hk]; simp
theorem idxF_any {α:Type} {l:List α} {f:α→Option Bool} {p:α→Bool} (hf:∀ x ∈ l,f x=some (p x)):((idxF l f).bind fun x1=>some (decide (0≤x1)))=some (l.any p):=by
  obtain ⟨r,h1,h2⟩:=idxF_spec hf
  rw [h1,Option.bind_some]
  rcases h2 with ⟨rfl,h⟩ | ⟨h0,h⟩
  · rw [h]; rfl
  · rw [h,decide_eq_true h0]
theorem any_int {l:List Int} {f:Int→Option Bool} {p:Int→Bool} (hf:∀ x ∈ l,f x=some (p x)):ec_ l f=some (l.any p):=idxF_any hf
theorem any_ints {l:List (List Int)} {f:List Int→Option Bool} {p:List Int→Bool} (hf:∀ x ∈ l,f x=some (p x)):ds_ l f=some (l.any p):=idxF_any hf
theorem any_clue {l:List Clue} {f:Clue→Option Bool} {p:Clue→Bool} (hf:∀ x ∈ l,f x=some (p x)):dt_ l f=some (l.any p):=idxF_any hf
def dw_ (l:CodeLock) (c:List Int):Bool:=decide ((c.length:Int)=l.Wheels)&&c.all fun n=>wi n 0 (l.Symbols - 1)
theorem Lk.ws {l:CodeLock} (h:Lk l):w64 (l.Symbols - 1)=l.Symbols - 1:=by have:=h.s1; have:=h.s2; exact la_ (by omega) (by omega)
theorem Lk.ww {l:CodeLock} (h:Lk l):w64 (l.Wheels - 1)=l.Wheels - 1:=by have:=h.w1; have:=h.w2; exact la_ (by omega) (by omega)
theorem pk_ {l:CodeLock} (h:Lk l) (c:List Int):iu_ l c=some (dw_ l c):=by
  unfold iu_ dw_
  by_cases hc:(c.length:Int)=l.Wheels
  · rw [if_neg (by simp [hc]),decide_eq_true hc,Bool.true_and]
    have:=Tot.bind (Q:=fun r=>r=c.all fun n=>wi n 0 (l.Symbols - 1)) _ (Tot.forN (σ:=Unit) (ρ:=Bool) (k:=c.length) (s:=()) (body:=fun i1 s1=>(at? c (i1:Int)).bind fun x7=>(ca_ x7 0 (w64 (l.Symbols - 1))).bind fun x8=>if !x8 then some (Sum.inr false) else some (Sum.inl ()))
      (fun j _=>∀ k x,k<j→c[k]?=some x→wi x 0 (l.Symbols - 1)=true) (fun (r:Bool)=>r=false∧(c.all fun n=>wi n 0 (l.Symbols - 1))=false) (fun k x hk _=>by omega) (by
        intro j s hj hI
        refine Tot.bind _ (Tot.atN hj) fun x hx => ?_
        rw [jh_,Option.bind_some,h.ws]
        refine Tot.ite (fun hh=>Tot.pure ⟨rfl,?_⟩) (fun hh=>Tot.pure ?_)
        · rw [List.all_eq_false]; exact ⟨x,List.mem_of_getElem? hx,by simpa using hh⟩
        · intro k y hk hy
          by_cases e:k=j
          · subst e; rw [hx] at hy; obtain rfl:=Option.some.inj hy; simpa using hh
          · exact hI k y (by omega) hy)) (f:=fun o2=>onL o2 fun _=>some true) (fun o ho=>Tot.onL (E:=fun r=>r=false∧(c.all fun n=>wi n 0 (l.Symbols - 1))=false) ho (fun _ hh=>Tot.pure (by
          symm; rw [List.all_eq_true]
          intro x hx
          obtain ⟨k,hk⟩:=List.getElem?_of_mem hx
          exact hh k x (List.getElem?_eq_some_iff.1 hk).1 hk)) (fun r hh=>hh.1.trans hh.2.symm))
    obtain ⟨r,h1,rfl⟩:=this
    exact h1
  · rw [if_pos (by simp [hc]),decide_eq_false hc]; rfl
theorem le_ {l:CodeLock} (h:Lk l) (n:Int):dh_ l n=some (wi n 0 (l.Symbols - 1)):=by
  unfold dh_; rw [gw_,h.ws]; rfl
theorem sc_ {l:CodeLock} (h:Lk l) (n:Int):cg_ l n=some (wi n 0 (l.Wheels - 1)):=by
  unfold cg_; rw [gw_,h.ww]; rfl
theorem mw_ {l:CodeLock} (h:Lk l) (c:List Int):fo_ l c=some (dw_ l c):=by
  unfold fo_ dw_
  by_cases hc:(c.length:Int)=l.Wheels
  · rw [if_pos (by simp [hc]),any_int (p:=fun n=>!wi n 0 (l.Symbols - 1)) (fun x _=>by unfold hi_; rw [le_ h]; rfl),decide_eq_true hc,Bool.true_and,Option.bind_some]
    congr 1
    simp [List.all_eq_not_any_not]
  · rw [if_neg (by simp [hc]),decide_eq_false hc]; rfl
theorem na_ (l:CodeLock) (c:List Int):fq_ l c=some (if okL l then (if dw_ l c then 0 else 12) else 10):=by
  unfold fq_ ii_
  rw [kj_,Option.bind_some]
  by_cases h:okL l=true
  · rw [h]
    have hl:=pn_.1 h
    rw [any_ints (p:=fun c=>!dw_ l c) (fun x _=>by unfold gg_; rw [mw_ hl]; rfl)]
    cases hc:dw_ l c <;> simp [hc]
  · have h':okL l=false:=by simpa using h
    rw [h']; rfl
theorem sy_ (l:CodeLock) (c:List Int):go_ l c=some (if okL l then (if dw_ l c then 0 else 12) else 10):=by
  unfold go_
  rw [nh_,Option.bind_some]
  by_cases h:okL l=true
  · rw [h,pk_ (pn_.1 h)]
    cases dw_ l c <;> simp
  · have h':okL l=false:=by simpa using h
    rw [h']; rfl
theorem ud_ (a b:List Int):hv_ a b=some (decide (a=b)):=by
  unfold hv_
  by_cases hc:a.length=b.length
  · rw [if_neg (by simp [hc])]
    have:=Tot.bind (Q:=fun r=>r=decide (a=b)) _ (Tot.forN (σ:=Unit) (ρ:=Bool) (k:=a.length) (s:=()) (body:=fun i1 s1=>(at? a (i1:Int)).bind fun x7=>(at? b (i1:Int)).bind fun x8=>if x7 != x8 then some (Sum.inr false) else some (Sum.inl ()))
      (fun j _=>∀ k,k<j→a[k]?=b[k]?) (fun (r:Bool)=>r=false∧a≠b) (fun k hk=>by omega) (by
        intro j s hj hI
        refine Tot.bind _ (Tot.atN hj) fun x hx => ?_
        refine Tot.bind _ (Tot.atN (l:=b) (by omega)) fun y hy => ?_
        refine Tot.ite (fun hh=>Tot.pure ⟨rfl,?_⟩) (fun hh=>Tot.pure ?_)
        · rintro rfl; rw [hx] at hy; obtain rfl:=Option.some.inj hy; simp at hh
        · intro k hk
          by_cases e:k=j
          · subst e; rw [hx,hy]; simp at hh; rw [hh]
          · exact hI k (by omega))) (f:=fun o2=>onL o2 fun _=>some true) (fun o ho=>Tot.onL (E:=fun r=>r=false∧a≠b) ho (fun _ hh=>Tot.pure (by
          symm; rw [decide_eq_true_iff]
          apply List.ext_getElem?
          intro k
          by_cases hk:k<a.length
          · exact hh k hk
          · rw [List.getElem?_eq_none (by omega),List.getElem?_eq_none (by omega)])) (fun r hh=>by rw [hh.1,decide_eq_false hh.2]))
    obtain ⟨r,h1,rfl⟩:=this
    exact h1
  · rw [if_pos (by simp; omega),decide_eq_false (fun e=>hc (by rw [e]))]
def sameClue (a b:Clue):Bool:=a.Kind==b.Kind&&(a.A==b.A&&(a.B==b.B&&(a.N==b.N&&(a.M==b.M&&(a.Not==b.Not&&decide (a.Guess=b.Guess))))))
theorem ue_ (a b:Clue):cz_ a b=some (sameClue a b):=by
  unfold cz_ sameClue
  rw [ud_]
  cases a.Kind==b.Kind <;> cases a.A==b.A <;> cases a.B==b.B <;> cases a.N==b.N <;> cases a.M==b.M <;> cases a.Not==b.Not <;> rfl
def fj_ (l:CodeLock) (c:Clue):Bool :=
  if c.Kind=1 then wi c.A 0 (l.Wheels - 1)&&(wi c.N 0 (l.Symbols - 1)&&(c.B==0&&(c.M==0&&decide (c.Guess=[]))))
  else if c.Kind=2 then wi c.A 0 (l.Wheels - 1)&&(wi c.B 0 (l.Wheels - 1)&&(decide (c.A≤c.B)&&(wi c.N 0 100&&(c.M==0&&decide (c.Guess=[])))))
  else if c.Kind=3∨c.Kind=4 then wi c.A 0 (l.Wheels - 1)&&(wi c.B 0 (l.Wheels - 1)&&(c.A != c.B&&(c.N==0&&(c.M==0&&decide (c.Guess=[])))))
  else if c.Kind=5 then wi c.N 0 (l.Symbols - 1)&&(wi c.M 0 l.Wheels&&(c.A==0&&(c.B==0&&decide (c.Guess=[]))))
  else if c.Kind=6 then dw_ l c.Guess&&(wi c.N 0 l.Wheels&&(wi c.M 0 l.Wheels&&(c.A==0&&c.B==0)))
  else if c.Kind=7 then wi c.A 0 (l.Wheels - 1)&&(wi c.N 2 10&&(wi c.M 0 (c.N - 1)&&(c.B==0&&decide (c.Guess=[]))))
  else false
theorem len1 (l:List Int):((l.length:Int)==0)=decide (l=[]):=by cases l <;> simp <;> omega
theorem len0 (l:List Int):((l.length:Int)==((([]:List Int)).length:Int))=decide (l=[]):=by cases l <;> simp <;> omega
theorem xn_ {l:CodeLock} (h:Lk l) (c:Clue):kn_ l c=some (fj_ l c):=by
  unfold kn_ fj_
  simp only [jh_,ue_,pk_ h,Option.bind_some,h.ww,h.ws,sameClue,beq_self_eq_true,Bool.true_and,Bool.and_true,decide_true]
  by_cases h1:c.Kind=1
  · simp only [h1]
    cases wi c.A 0 (l.Wheels - 1) <;> cases wi c.N 0 (l.Symbols - 1) <;> rfl
  by_cases h2:c.Kind=2
  · simp only [h2]
    cases wi c.A 0 (l.Wheels - 1) <;> cases wi c.B 0 (l.Wheels - 1) <;> cases decide (c.A≤c.B) <;> cases wi c.N 0 100 <;> rfl
  by_cases h3:c.Kind=3
  · simp only [h3]
    cases wi c.A 0 (l.Wheels - 1) <;> cases wi c.B 0 (l.Wheels - 1) <;> cases c.A != c.B <;> rfl
  by_cases h4:c.Kind=4
  · simp only [h4]
    cases wi c.A 0 (l.Wheels - 1) <;> cases wi c.B 0 (l.Wheels - 1) <;> cases c.A != c.B <;> rfl
  by_cases h5:c.Kind=5
  · simp only [h5]
    cases wi c.N 0 (l.Symbols - 1) <;> cases wi c.M 0 l.Wheels <;> rfl
  by_cases h6:c.Kind=6
  · simp only [h6]
    cases dw_ l c.Guess <;> cases wi c.N 0 l.Wheels <;> cases wi c.M 0 l.Wheels <;> simp
  by_cases h7:c.Kind=7
  · simp only [h7]
    cases wi c.A 0 (l.Wheels - 1)
    · rfl
    cases hn:wi c.N 2 10
    · rfl
    have:=wi_iff.1 hn
    rw [la_ (n:=c.N - 1) (by omega) (by omega)]
    cases wi c.M 0 (c.N - 1) <;> rfl
  simp [h1,h2,h3,h4,h5,h6,h7]
theorem my_ {l:CodeLock} (h:Lk l) (c:Clue):fp_ l c=some (fj_ l c):=by
  unfold fp_ fj_
  simp only [gw_,sc_ h,le_ h,mw_ h,Option.bind_some,len0]
  by_cases h1:c.Kind=1
  · simp only [h1]
    cases wi c.A 0 (l.Wheels - 1) <;> cases wi c.N 0 (l.Symbols - 1) <;> simp [len0]
    all_goals (by_cases hA:c.A=0 <;> by_cases hB:c.B=0 <;> by_cases hN:c.N=0 <;> by_cases hM:c.M=0 <;> simp_all [len1])
  by_cases h2:c.Kind=2
  · simp only [h2]
    cases wi c.A 0 (l.Wheels - 1) <;> cases wi c.B 0 (l.Wheels - 1) <;> cases hd:decide (c.A≤c.B) <;> cases wi c.N 0 100 <;> simp_all [len0]
    all_goals (by_cases hA:c.A=0 <;> by_cases hB:c.B=0 <;> by_cases hN:c.N=0 <;> by_cases hM:c.M=0 <;> simp_all [len1])
  by_cases h3:c.Kind=3
  · simp only [h3]
    cases wi c.A 0 (l.Wheels - 1) <;> cases wi c.B 0 (l.Wheels - 1) <;> cases c.A != c.B <;> simp [len0]
    all_goals (by_cases hA:c.A=0 <;> by_cases hB:c.B=0 <;> by_cases hN:c.N=0 <;> by_cases hM:c.M=0 <;> simp_all [len1])
  by_cases h4:c.Kind=4
  · simp only [h4]
    cases wi c.A 0 (l.Wheels - 1) <;> cases wi c.B 0 (l.Wheels - 1) <;> cases c.A != c.B <;> simp [len0]
    all_goals (by_cases hA:c.A=0 <;> by_cases hB:c.B=0 <;> by_cases hN:c.N=0 <;> by_cases hM:c.M=0 <;> simp_all [len1])
  by_cases h5:c.Kind=5
  · simp only [h5]
    cases wi c.N 0 (l.Symbols - 1) <;> cases wi c.M 0 l.Wheels <;> simp [len0]
    all_goals (by_cases hA:c.A=0 <;> by_cases hB:c.B=0 <;> by_cases hN:c.N=0 <;> by_cases hM:c.M=0 <;> simp_all [len1])
  by_cases h6:c.Kind=6
  · simp only [h6]
    cases dw_ l c.Guess <;> cases wi c.N 0 l.Wheels <;> cases wi c.M 0 l.Wheels <;> simp
    all_goals (by_cases hA:c.A=0 <;> by_cases hB:c.B=0 <;> by_cases hN:c.N=0 <;> by_cases hM:c.M=0 <;> simp_all [len1])
  by_cases h7:c.Kind=7
  · simp only [h7]
    cases wi c.A 0 (l.Wheels - 1)
    · rfl
    cases hn:wi c.N 2 10
    · rfl
    have:=wi_iff.1 hn
    rw [la_ (n:=c.N - 1) (by omega) (by omega)]
    cases wi c.M 0 (c.N - 1) <;> simp [len0]
    all_goals (by_cases hA:c.A=0 <;> by_cases hB:c.B=0 <;> by_cases hN:c.N=0 <;> by_cases hM:c.M=0 <;> simp_all [len1])
  simp [h1,h2,h3,h4,h5,h6,h7]
end Go.Proofs.YtfcgcpjnpdkjmaaGreatDoor.Pad
end
section
namespace Go.Proofs.YtfcgcpjnpdkjmaaGreatDoor.Pad
open Go
theorem qz_ {l:CodeLock} {c:List Int}:dw_ l c=true↔(c.length:Int)=l.Wheels∧∀ n ∈ c,0≤n∧n≤l.Symbols - 1:=by
  unfold dw_
  rw [Bool.and_eq_true,decide_eq_true_iff,List.all_eq_true]
  exact ⟨fun h=>⟨h.1,fun n hn=>wi_iff.1 (h.2 n hn)⟩,fun h=>⟨h.1,fun n hn=>wi_iff.2 (h.2 n hn)⟩⟩
theorem take_add_one {l:List Int} {j:Nat} {x:Int} (h:l[j]?=some x):l.take (j+1)=l.take j++[x]:=by
  rw [List.take_add_one,h]; rfl
def cnt (l:List Int) (k:Int):Int:=((l.filter fun x=>x==k).length:Int)
theorem cnt_step {l:List Int} {j:Nat} {x k:Int} (h:l[j]?=some x):cnt (l.take (j+1)) k=cnt (l.take j) k+if x=k then 1 else 0:=by
  unfold cnt
  rw [take_add_one h,List.filter_append,List.length_append]
  by_cases e:x=k <;> simp [e]
theorem cnt_bd (l:List Int) (k:Int):0≤cnt l k∧cnt l k≤l.length:=by
  unfold cnt
  have:=List.length_filter_le (fun x=>x==k) l
  omega
theorem shown_eq {l:List Int} {k:Int} (hl:l.length≤4):dz_ l k=some (cnt l k):=by
  unfold dz_
  have:=Tot.forS (σ:=Int) (k:=l.length) (s:=0) (body:=fun i1 s1=>(at? l (i1:Int)).bind fun x4=>if x4==k then some (w64 (s1+1)) else some s1) (fun j s=>s=cnt (l.take j) k) (by simp [cnt]) (by
    intro j s hj hI
    refine Tot.bind _ (Tot.atN hj) fun x hx => ?_
    have hc:=cnt_bd (l.take j) k
    have hlen:(l.take j).length≤4:=by rw [List.length_take]; omega
    have hst:=cnt_step (k:=k) hx
    refine Tot.ite (fun h=>Tot.pure ?_) (fun h=>Tot.pure ?_)
    · have:x=k:=by simpa using h
      rw [hst,if_pos this,hI,la_ (by omega) (by omega)]
    · have:¬ x=k:=by simpa using h
      rw [hst,if_neg this,hI]; omega)
  obtain ⟨r,h1,h2⟩:=this
  rw [List.take_length] at h2
  rw [h2] at h1
  rw [show (forS (σ:=Int) (fun i1 s1=>(at? l (i1:Int)).bind fun x4=>if x4==k then some (w64 (s1+1)) else some s1) l.length 0 0)=some (cnt l k) from h1]
  rfl
theorem answer_eq {l:CodeLock} (hl:Lk l) {code guess:List Int} (hc:dw_ l code=true) (hg:dw_ l guess=true):∃ r,ko_ code guess=some r∧ks_ code guess=some r:=by
  obtain ⟨c1,c2⟩:=qz_.1 hc
  obtain ⟨g1,g2⟩:=qz_.1 hg
  have w1:=hl.w1; have w2:=hl.w2; have s1:=hl.s1; have s2:=hl.s2
  have hlen:code.length=guess.length:=by omega
  have h4:code.length≤4:=by omega
  let R:Nat→Int:=fun j=>(List.zip (code.take j) (guess.take j)).foldl (fun s p=>if p.1==p.2 then w64 (s+1) else s) 0
  have hR:∀ (j:Nat) (x y:Int),code[j]?=some x→guess[j]?=some y→R (j+1)=if x==y then w64 (R j+1) else R j:=by
    intro j x y hx hy
    show (List.zip (code.take (j+1)) (guess.take (j+1))).foldl _ 0=_
    have hj:=(List.getElem?_eq_some_iff.1 hx).1
    rw [take_add_one hx,take_add_one hy,List.zip_append (by rw [List.length_take,List.length_take]; omega),List.foldl_append]
    rfl
  have hr:Tot (forS (σ:=Int) (fun i1 s1=>(at? code (i1:Int)).bind fun x7=>(at? guess (i1:Int)).bind fun x8=>if x7==x8 then some (w64 (s1+1)) else some s1) code.length 0 0) (fun s=>s=R code.length) :=
    Tot.forS (fun j s=>s=R j) rfl (by
      intro j s hj hI
      refine Tot.bind _ (Tot.atN hj) fun x hx => ?_
      refine Tot.bind _ (Tot.atN (l:=guess) (by omega)) fun y hy => ?_
      rw [hR j x y hx hy,hI]
      refine Tot.ite (fun h=>Tot.pure (by rw [if_pos h])) (fun h=>Tot.pure (by rw [if_neg h])))
  have hh:Tot (forS (σ:=(Int×List Int×List Int)) (fun i1 s1 =>
      (at? code (i1:Int)).bind fun x25 =>
      (((at? guess (i1:Int)).bind fun x27=>if x25==x27 then (some (w64 (s1.1+1))) else (some s1.1)):Option (Int)).bind fun v4 =>
      (at? s1.2.1 x25).bind fun x28=>(at? s1.2.1 x25).bind fun x29=>(at? guess (i1:Int)).bind fun x30=>(at? s1.2.2 x30).bind fun x31=>(at? s1.2.2 x30).bind fun x32 =>
      some (v4,s1.2.1.set (x25).toNat (w64 (x28+1)),s1.2.2.set (x30).toNat (w64 (x31+1)))) code.length 0 (0,List.replicate 10 (0:Int),List.replicate 10 (0:Int)))
      (fun s=>s.1=R code.length∧s.2.1.length=10∧s.2.2.length=10∧∀ k:Nat,k<10→s.2.1[k]?=some (cnt code k)∧s.2.2[k]?=some (cnt guess k)):=by
    have:=Tot.forS (σ:=(Int×List Int×List Int)) (k:=code.length) (s:=(0,List.replicate 10 (0:Int),List.replicate 10 (0:Int))) (body:=fun i1 s1 =>
      (at? code (i1:Int)).bind fun x25 =>
      (((at? guess (i1:Int)).bind fun x27=>if x25==x27 then (some (w64 (s1.1+1))) else (some s1.1)):Option (Int)).bind fun v4 =>
      (at? s1.2.1 x25).bind fun x28=>(at? s1.2.1 x25).bind fun x29=>(at? guess (i1:Int)).bind fun x30=>(at? s1.2.2 x30).bind fun x31=>(at? s1.2.2 x30).bind fun x32 =>
      some (v4,s1.2.1.set (x25).toNat (w64 (x28+1)),s1.2.2.set (x30).toNat (w64 (x31+1))))
      (fun j s=>s.1=R j∧s.2.1.length=10∧s.2.2.length=10∧∀ k:Nat,k<10→s.2.1[k]?=some (cnt (code.take j) k)∧s.2.2[k]?=some (cnt (guess.take j) k)) (by
        refine ⟨rfl,rfl,rfl,fun k hk => ?_⟩
        have hz:(List.replicate 10 (0:Int))[k]?=some 0:=by rw [List.getElem?_replicate,if_pos hk]
        exact ⟨hz.trans (by simp [cnt]),hz.trans (by simp [cnt])⟩) (by
        rintro j ⟨a,b,c⟩ hj ⟨hI1,hI2,hI3,hI4⟩
        simp only at hI1 hI2 hI3 hI4
        refine Tot.bind _ (Tot.atN hj) fun x hx => ?_
        have hgj:j<guess.length:=by omega
        have hy0:guess[j]?=some guess[j]:=List.getElem?_eq_getElem hgj
        generalize guess[j]=y at hy0
        have hya:at? guess (j:Int)=some y:=by rw [yy_]; exact hy0
        have hx':=c2 x (List.mem_of_getElem? hx)
        have hy':=g2 y (List.mem_of_getElem? hy0)
        rw [hya]
        simp only [Option.bind_some]
        refine Tot.bind (fun v=>v=R (j+1)) ?_ fun v hv => ?_
        · rw [hR j x y hx hy0,← hI1]
          refine Tot.ite (fun h=>Tot.pure (by rw [if_pos h])) (fun h=>Tot.pure (by rw [if_neg h]))
        have ax:at? b x=some (cnt (code.take j) x):=by
          have:=(hI4 x.toNat (by omega)).1
          rw [show ((x.toNat:Nat):Int)=x by omega] at this
          exact at?_of (by omega) this
        have ay:at? c y=some (cnt (guess.take j) y):=by
          have:=(hI4 y.toNat (by omega)).2
          rw [show ((y.toNat:Nat):Int)=y by omega] at this
          exact at?_of (by omega) this
        rw [ax]
        simp only [Option.bind_some]
        rw [ay]
        simp only [Option.bind_some]
        have b1:=cnt_bd (code.take j) x
        have b2:=cnt_bd (guess.take j) y
        rw [List.length_take] at b1 b2
        rw [la_ (n:=cnt (code.take j) x+1) (by omega) (by omega),la_ (n:=cnt (guess.take j) y+1) (by omega) (by omega)]
        refine Tot.pure ⟨hv,by simp [hI2],by simp [hI3],fun k hk => ?_⟩
        have q1:=cnt_step (k:=(k:Int)) hx
        have q2:=cnt_step (k:=(k:Int)) hy0
        obtain ⟨p1,p2⟩:=hI4 k hk
        constructor
        · rw [q1,List.getElem?_set]
          by_cases e:x.toNat=k
          · rw [if_pos e,if_pos (by omega),if_pos (by omega)]
            rw [show x=(k:Int) by omega]
          · rw [if_neg e,if_neg (by omega),p1]; simp
        · rw [q2,List.getElem?_set]
          by_cases e:y.toNat=k
          · rw [if_pos e,if_pos (by omega),if_pos (by omega)]
            rw [show y=(k:Int) by omega]
          · rw [if_neg e,if_neg (by omega),p2]; simp)
    obtain ⟨s,h1,h2,h3,h5,h6⟩:=this
    refine ⟨s,h1,h2,h3,h5,fun k hk => ?_⟩
    have:=h6 k hk
    rw [List.take_length,hlen,List.take_length] at this
    exact this
  obtain ⟨r,r1,r2⟩:=hr
  obtain ⟨s,e1,e2,e3,e4,e5⟩:=hh
  subst r2
  have hsum:Tot (forS (σ:=Int) (fun i2 s2=>(dz_ code (i2:Int)).bind fun x16=>(dz_ guess (i2:Int)).bind fun x17=>some (w64 (s2+(minI x16 x17)))) 10 0 0) (fun t =>
      forS (σ:=Int) (fun i2 s2=>(at? s.2.1 (i2:Int)).bind fun x40=>(at? s.2.2 (i2:Int)).bind fun x41=>some (w64 (s2+(minI x40 x41)))) 10 0 0=some t):=by
    have e:∀ (m i:Nat) (t:Int),i+m≤10→forS (σ:=Int) (fun i2 s2=>(dz_ code (i2:Int)).bind fun x16=>(dz_ guess (i2:Int)).bind fun x17=>some (w64 (s2+(minI x16 x17)))) m i t =
        forS (σ:=Int) (fun i2 s2=>(at? s.2.1 (i2:Int)).bind fun x40=>(at? s.2.2 (i2:Int)).bind fun x41=>some (w64 (s2+(minI x40 x41)))) m i t∧∃ u,forS (σ:=Int) (fun i2 s2=>(at? s.2.1 (i2:Int)).bind fun x40=>(at? s.2.2 (i2:Int)).bind fun x41=>some (w64 (s2+(minI x40 x41)))) m i t=some u:=by
      intro m
      induction m with
      | zero=>intro i t _; exact ⟨rfl,t,rfl⟩
      | succ m ih =>
        intro i t hi
        obtain ⟨p1,p2⟩:=e5 i (by omega)
        simp only [forS]
        rw [shown_eq h4,shown_eq (by omega),yy_,yy_,p1,p2]
        simp only [Option.bind_some]
        exact ih (i+1) _ (by omega)
    obtain ⟨q1,u,q2⟩:=e 10 0 0 (by omega)
    exact ⟨u,q1.trans q2,q2⟩
  obtain ⟨t,t1,t2⟩:=hsum
  refine ⟨(R code.length,w64 (t - R code.length)),?_,?_⟩
  · unfold ko_
    rw [show (forS (σ:=Int) (fun i1 s1=>(at? code (i1:Int)).bind fun x7=>(at? guess (i1:Int)).bind fun x8=>if x7==x8 then some (w64 (s1+1)) else some s1) code.length 0 0)=some (R code.length) from r1,Option.bind_some,cnt?_le (by omega),Option.bind_some]
    exact (congrArg (fun o=>Option.bind o _) t1).trans rfl
  · unfold ks_
    refine (congrArg (fun o=>Option.bind o _) e1).trans ?_
    rw [Option.bind_some,cnt?_le (by omega),Option.bind_some]
    refine (congrArg (fun o=>Option.bind o _) t2).trans ?_
    rw [Option.bind_some,e2]
theorem holds_eq {l:CodeLock} (hl:Lk l) {c:Clue} {code:List Int} (hc:fj_ l c=true) (hk:dw_ l code=true):∃ b,jw_ c code=some b∧gx_ c code=some b:=by
  obtain ⟨c1,c2⟩:=qz_.1 hk
  have w1:=hl.w1; have w2:=hl.w2; have s1:=hl.s1; have s2:=hl.s2
  unfold fj_ at hc
  have hat:∀ i,wi i 0 (l.Wheels - 1)=true→∃ x,at? code i=some x:=by
    intro i hi
    obtain ⟨a,b⟩:=wi_iff.1 hi
    obtain ⟨x,h1,_⟩:=uv_ (l:=code) (i:=i) a (by omega)
    exact ⟨x,h1⟩
  unfold jw_ gx_ ov_
  by_cases h1:c.Kind=1
  · simp only [h1,if_true,Bool.and_eq_true] at hc
    obtain ⟨x,hx⟩:=hat _ hc.1
    exact ⟨_,by simp [h1,hx]; rfl,by simp [h1,hx]⟩
  by_cases h2:c.Kind=2
  · simp only [h2,if_true,Bool.and_eq_true,show ¬ ((2:Int)=1) by omega,if_false] at hc
    obtain ⟨hA,hB,hAB,_⟩:=hc
    obtain ⟨a1,a2⟩:=wi_iff.1 hA
    obtain ⟨b1,b2⟩:=wi_iff.1 hB
    have hab:c.A≤c.B:=by simpa using hAB
    let sub:=(code.take (c.B+1).toNat).drop c.A.toNat
    have hsub:sub? code c.A (w64 (c.B+1))=some sub:=by
      rw [la_ (by omega) (by omega)]
      unfold sub?
      rw [if_pos ⟨a1,by omega,by omega⟩]
    have hsl:sub.length=(c.B - c.A+1).toNat:=by
      show ((code.take (c.B+1).toNat).drop c.A.toNat).length=_
      rw [List.length_drop,List.length_take]; omega
    have hsg:∀ j:Nat,j<sub.length→sub[j]?=code[c.A.toNat+j]?:=by
      intro j hj
      show ((code.take (c.B+1).toNat).drop c.A.toNat)[j]?=_
      rw [List.getElem?_drop,List.getElem?_take,if_pos (by omega)]
    let R:Nat→Int:=fun j=>(sub.take j).foldl (fun s x=>w64 (s+x)) 0
    have hR:∀ (j:Nat) (x:Int),sub[j]?=some x→R (j+1)=w64 (R j+x):=by
      intro j x hx
      show (sub.take (j+1)).foldl _ 0=_
      rw [take_add_one hx,List.foldl_append]; rfl
    have f1:Tot (forS (σ:=Int) (fun i1 s1=>(at? sub (i1:Int)).bind fun x6=>some (w64 (s1+x6))) sub.length 0 0) (fun s=>s=R sub.length) :=
      Tot.forS (fun j s=>s=R j) rfl (by
        intro j s hj hI
        refine Tot.bind _ (Tot.atN hj) fun x hx=>Tot.pure ?_
        rw [hR j x hx,hI])
    have f2:=hb_ (σ:=Int×Int) (ρ:=Int×Int) (body:=fun s1=>if decide (s1.2≤c.B) then (at? code s1.2).bind fun x8=>some (Sum.inl (w64 (s1.1+x8),w64 (s1.2+1))) else some (Sum.inr (s1.1,s1.2)))
      (fun j st=>st=(R j,c.A+j)) (fun r=>r.1=R sub.length) sub.length 0 (0,c.A) (by simp [R]) (by
        rintro j st _ hj rfl
        have hx:sub[j]?=some sub[j]:=List.getElem?_eq_getElem (by omega)
        generalize sub[j]'(by omega)=x at hx
        refine .inl ⟨_,?_,rfl⟩
        have hcx:at? code (c.A+j)=some x:=at?_of (by omega) (by rw [show (c.A+(j:Int)).toNat=c.A.toNat+j by omega,← hsg j (by omega)]; exact hx)
        simp only
        rw [if_pos (by simp; omega),hcx,hR j x hx,la_ (n:=c.A+↑j+1) (by omega) (by omega)]
        simp only [Option.bind_some]
        congr 3
        omega) (by
        rintro st rfl
        refine ⟨(R (0+sub.length),c.A+((0+sub.length:Nat):Int)),?_,?_⟩
        · simp only
          rw [if_neg (by simp; omega)]
        · simp)
    obtain ⟨o,o1,o2⟩:=f2
    obtain ⟨s,q1,q2⟩:=f1
    refine ⟨(o.1==c.N) != c.Not,?_,?_⟩
    · rw [if_neg (by simp [h2]),if_pos (by simp [h2])]
      exact (congrArg (fun z=>Option.bind z _) o1).trans rfl
    · rw [if_neg (by simp [h2]),if_pos (by simp [h2]),hsub,Option.bind_some]
      rw [show (forS (σ:=Int) (fun i1 s1=>(at? sub (i1:Int)).bind fun x6=>some (w64 (s1+x6))) sub.length 0 0)=some s from q1,Option.bind_some,Option.bind_some,q2,o2]
  by_cases h3:c.Kind=3
  · simp only [h3,if_true,Bool.and_eq_true,show ¬ ((3:Int)=1) by omega,show ¬ ((3:Int)=2) by omega,if_false,true_or] at hc
    obtain ⟨x,hx⟩:=hat _ hc.1
    obtain ⟨y,hy⟩:=hat _ hc.2.1
    exact ⟨_,by simp [h3,hx,hy]; rfl,by simp [h3,hx,hy]⟩
  by_cases h4:c.Kind=4
  · simp only [h4,if_true,Bool.and_eq_true,show ¬ ((4:Int)=1) by omega,show ¬ ((4:Int)=2) by omega,if_false,or_true] at hc
    obtain ⟨x,hx⟩:=hat _ hc.1
    obtain ⟨y,hy⟩:=hat _ hc.2.1
    exact ⟨_,by simp [h4,hx,hy]; rfl,by simp [h4,hx,hy]⟩
  by_cases h5:c.Kind=5
  · have hs:=shown_eq (k:=c.N) (l:=code) (by omega)
    have hs2:(forS (σ:=Int) (fun i2 s2=>(at? code (i2:Int)).bind fun x14=>if x14==c.N then some (w64 (s2+1)) else some s2) code.length 0 0)=some (cnt code c.N):=by
      have h:=hs
      unfold dz_ at h
      obtain ⟨y,h6,h7⟩:=bnd h
      rw [Option.some.inj h7] at h6
      exact h6
    refine ⟨(cnt code c.N==c.M) != c.Not,?_,?_⟩
    · rw [if_neg (by simp [h5]),if_neg (by simp [h5]),if_neg (by simp [h5]),if_neg (by simp [h5]),if_pos (by simp [h5]),hs]; rfl
    · rw [if_neg (by simp [h5]),if_neg (by simp [h5]),if_neg (by simp [h5]),if_neg (by simp [h5]),if_pos (by simp [h5])]
      rw [show (forS (σ:=Int) (fun i2 s2=>(at? code (i2:Int)).bind fun x14=>if x14==c.N then some (w64 (s2+1)) else some s2) code.length 0 0)=some (cnt code c.N) from hs2]
      rfl
  by_cases h6:c.Kind=6
  · simp only [h6,if_true,Bool.and_eq_true,show ¬ ((6:Int)=1) by omega,show ¬ ((6:Int)=2) by omega,show ¬ ((6:Int)=3∨(6:Int)=4) by omega,show ¬ ((6:Int)=5) by omega,if_false] at hc
    obtain ⟨r,r1,r2⟩:=answer_eq hl hk hc.1
    refine ⟨(if r.1==c.N then r.2==c.M else false) != c.Not,?_,?_⟩
    · rw [if_neg (by simp [h6]),if_neg (by simp [h6]),if_neg (by simp [h6]),if_neg (by simp [h6]),if_neg (by simp [h6]),if_pos (by simp [h6]),r1,Option.bind_some]
      cases r.1==c.N <;> rfl
    · rw [if_neg (by simp [h6]),if_neg (by simp [h6]),if_neg (by simp [h6]),if_neg (by simp [h6]),if_neg (by simp [h6]),if_pos (by simp [h6]),r2,Option.bind_some]
      cases r.1==c.N <;> rfl
  by_cases h7:c.Kind=7
  · simp only [h7,if_true,Bool.and_eq_true,show ¬ ((7:Int)=1) by omega,show ¬ ((7:Int)=2) by omega,show ¬ ((7:Int)=3∨(7:Int)=4) by omega,show ¬ ((7:Int)=5) by omega,show ¬ ((7:Int)=6) by omega,if_false] at hc
    obtain ⟨x,hx⟩:=hat _ hc.1
    obtain ⟨n1,n2⟩:=wi_iff.1 hc.2.1
    have hm:md x c.N=some (x.tmod c.N):=md_pos (by omega)
    exact ⟨_,by simp [h7,hx,hm]; rfl,by simp [h7,hx,hm]⟩
  · simp [h1,h2,h3,h4,h5,h6,h7] at hc
end Go.Proofs.YtfcgcpjnpdkjmaaGreatDoor.Pad
end
section
namespace Go.Proofs.YtfcgcpjnpdkjmaaGreatDoor.Pad
open Go
theorem whileO_ix {σ ρ:Type} {body:σ→Option (σ⊕ρ)} (F:Nat→σ) {n:Nat} {r:ρ} (h:∀ j,j<n→body (F j)=some (.inl (F (j+1)))) (e:body (F n)=some (.inr r)):af_ body (F 0)=some r:=by
  have:=hb_ (body:=body) (fun j s=>s=F j) (fun x=>x=r) n 0 (F 0) rfl (fun j s _ hj q=>by subst q; exact .inl ⟨_,h j (by omega),rfl⟩) (fun s q=>by subst q; rw [Nat.zero_add]; exact ⟨_,e,rfl⟩)
  obtain ⟨x,h1,rfl⟩:=this
  exact h1
theorem takeS {α:Type} {l:List α} {j:Nat} {x:α} (h:l[j]?=some x):l.take (j+1)=l.take j++[x]:=by
  rw [List.take_add_one,h]; rfl
theorem foldlS {α β:Type} {f:β→α→β} {b:β} {l:List α} {j:Nat} {x:α} (h:l[j]?=some x):(l.take (j+1)).foldl f b=f ((l.take j).foldl f b) x:=by
  rw [takeS h,List.foldl_append]; rfl
def lf_ (S:Nat):Nat→List (List Int)
  | 0=>[[]]
  | W+1=>(List.range S).flatMap fun (x:Nat)=>(lf_ S W).map fun c=>(x:Int)::c
theorem flat_len {α β:Type} {f:α→List β} {m:Nat}:∀ (l:List α),(∀ x ∈ l,(f x).length=m)→(l.flatMap f).length=l.length * m
  | [],_=>by simp
  | x::l,h=>by
    rw [List.flatMap_cons,List.length_append,h x (by simp),flat_len l (fun y hy=>h y (by simp [hy])),List.length_cons,Nat.add_mul]
    omega
theorem flat_get {α β:Type} {f:α→List β} {m:Nat}:∀ (l:List α) (q r:Nat) (x:α),(∀ x ∈ l,(f x).length=m)→r<m→l[q]?=some x→(l.flatMap f)[q * m+r]?=(f x)[r]?
  | [],q,r,x,h,hr,hq=>by simp at hq
  | y::l,0,r,x,h,hr,hq=>by
    have e:y=x:=by simpa using hq
    subst e
    rw [List.flatMap_cons,Nat.zero_mul,Nat.zero_add,List.getElem?_append_left (by rw [h y (by simp)]; exact hr)]
  | y::l,q+1,r,x,h,hr,hq=>by
    have hq':l[q]?=some x:=by simpa using hq
    have hl:=h y (by simp)
    rw [List.flatMap_cons,List.getElem?_append_right (by rw [hl,Nat.add_mul]; omega),hl,show (q+1) * m+r - m=q * m+r by rw [Nat.add_mul]; omega]
    exact flat_get l q r x (fun z hz=>h z (by simp [hz])) hr hq'
theorem rf_ (S:Nat):∀ W,(lf_ S W).length=S ^ W
  | 0=>rfl
  | W+1=>by
    unfold lf_
    rw [flat_len (m:=S ^ W) _ (fun x _=>by rw [List.length_map,rf_ S W]),List.length_range,Nat.pow_succ,Nat.mul_comm]
theorem uq_ (S:Nat):∀ W c,c ∈ lf_ S W↔c.length=W∧∀ n ∈ c,0≤n∧n<(S:Int)
  | 0,c=>by
    unfold lf_
    rw [List.mem_singleton]
    constructor
    · rintro rfl; exact ⟨rfl,by simp⟩
    · rintro ⟨h,_⟩; exact List.length_eq_zero_iff.1 h
  | W+1,c=>by
    unfold lf_
    rw [List.mem_flatMap]
    constructor
    · rintro ⟨x,hx,hc⟩
      obtain ⟨d,hd,rfl⟩:=List.mem_map.1 hc
      obtain ⟨h1,h2⟩:=(uq_ S W d).1 hd
      have:=List.mem_range.1 hx
      refine ⟨by rw [List.length_cons,h1],fun n hn => ?_⟩
      rcases List.mem_cons.1 hn with rfl | hn
      · omega
      · exact h2 n hn
    · rintro ⟨h1,h2⟩
      cases c with
      | nil=>simp at h1
      | cons x c =>
        obtain ⟨a,b⟩:=h2 x (by simp)
        refine ⟨x.toNat,List.mem_range.2 (by omega),List.mem_map.2 ⟨c,(uq_ S W c).2 ⟨by simpa using h1,fun n hn=>h2 n (by simp [hn])⟩,?_⟩⟩
        rw [show ((x.toNat:Nat):Int)=x by omega]
def dig (S:Nat):Nat→Nat→List Int
  | 0,_=>[]
  | W+1,i=>dig S W (i / S)++[((i % S:Nat):Int)]
theorem dig_len (S:Nat):∀ W i,(dig S W i).length=W
  | 0,_=>rfl
  | W+1,i=>by unfold dig; rw [List.length_append,dig_len S W]; rfl
theorem dig_cons {S:Nat} (hS:0<S):∀ (W q r:Nat),q<S→r<S ^ W→dig S (W+1) (q * S ^ W+r)=(q:Int)::dig S W r
  | 0,q,r,hq,hr=>by
    have:r=0:=by simpa using hr
    subst this
    simp [dig,Nat.mod_eq_of_lt hq]
  | W+1,q,r,hq,hr=>by
    have e1:(q * S ^ (W+1)+r) / S=q * S ^ W+r / S:=by
      rw [Nat.pow_succ,← Nat.mul_assoc,Nat.mul_comm (q * S ^ W) S,Nat.mul_add_div hS]
    have e2:(q * S ^ (W+1)+r) % S=r % S:=by
      rw [Nat.pow_succ,← Nat.mul_assoc,Nat.mul_comm (q * S ^ W) S,Nat.mul_add_mod]
    have hr':r / S<S ^ W:=Nat.div_lt_of_lt_mul (by rw [Nat.mul_comm,← Nat.pow_succ]; exact hr)
    rw [dig,e1,e2,dig_cons hS W q (r / S) hq hr']
    rfl
theorem rg_ {S:Nat} (hS:0<S):∀ (W i:Nat),i<S ^ W→(lf_ S W)[i]?=some (dig S W i)
  | 0,i,h=>by
    have:i=0:=by simpa using h
    subst this; rfl
  | W+1,i,h=>by
    have hP:0<S ^ W:=Nat.pow_pos hS
    have hr:i % S ^ W<S ^ W:=Nat.mod_lt _ hP
    have hq:i / S ^ W<S:=Nat.div_lt_of_lt_mul (by rw [← Nat.pow_succ]; exact h)
    have he:i=i / S ^ W * S ^ W+i % S ^ W:=by rw [Nat.mul_comm]; exact (Nat.div_add_mod i (S ^ W)).symm
    rw [he,dig_cons hS W _ _ hq hr]
    unfold lf_
    rw [flat_get (m:=S ^ W) _ _ _ (i / S ^ W) (fun x _=>by rw [List.length_map,rf_]) hr (by rw [List.getElem?_range hq]),List.getElem?_map,rg_ hS W _ hr]
    rfl
noncomputable def tr (c:Clue) (code:List Int):Bool:=(jw_ c code).getD false
noncomputable def rdg (l:CodeLock) (cl:List Clue):List (List Int):=(lf_ l.Symbols.toNat l.Wheels.toNat).filter fun c=>cl.all (tr · c)
theorem tr_ref {l:CodeLock} (hl:Lk l) {c:Clue} {code:List Int} (hc:fj_ l c=true) (hk:dw_ l code=true):jw_ c code=some (tr c code):=by
  obtain ⟨b,h1,_⟩:=holds_eq hl hc hk
  unfold tr; rw [h1]; rfl
theorem tr_holds {l:CodeLock} (hl:Lk l) {c:Clue} {code:List Int} (hc:fj_ l c=true) (hk:dw_ l code=true):gx_ c code=some (tr c code):=by
  obtain ⟨b,h1,h2⟩:=holds_eq hl hc hk
  unfold tr; rw [h1,h2]; rfl
theorem codes_ok {l:CodeLock} (hl:Lk l) {c:List Int}:c ∈ lf_ l.Symbols.toNat l.Wheels.toNat↔dw_ l c=true:=by
  have:=hl.w1; have:=hl.s1
  rw [uq_,qz_]
  constructor
  · rintro ⟨a,b⟩; exact ⟨by omega,fun n hn=>by have:=b n hn; omega⟩
  · rintro ⟨a,b⟩; exact ⟨by omega,fun n hn=>by have:=b n hn; omega⟩
theorem pow_bd {l:CodeLock} (hl:Lk l):l.Symbols.toNat ^ l.Wheels.toNat≤10000:=by
  have:=hl.w1; have:=hl.w2; have:=hl.s1; have:=hl.s2
  have h1:l.Symbols.toNat ^ l.Wheels.toNat≤10 ^ l.Wheels.toNat:=Nat.pow_le_pow_left (by omega) _
  have h2:10 ^ l.Wheels.toNat≤10 ^ 4:=Nat.pow_le_pow_right (by omega) (by omega)
  omega
theorem rdg_bd {l:CodeLock} (hl:Lk l) (cl:List Clue):(rdg l cl).length≤10000:=by
  have h:=List.length_filter_le (fun c=>cl.all (tr · c)) (lf_ l.Symbols.toNat l.Wheels.toNat)
  have:=pow_bd hl
  rw [rf_] at h
  unfold rdg; omega
end Go.Proofs.YtfcgcpjnpdkjmaaGreatDoor.Pad
end
section
namespace Go.Proofs.YtfcgcpjnpdkjmaaGreatDoor.Pad
open Go
theorem sh_ (l:CodeLock) (cl:List Clue):fx_ l cl=some (if okL l then (if 20<cl.length then 2 else if cl.all (fj_ l) then 0 else 11) else 10):=by
  unfold fx_
  rw [kj_,Option.bind_some]
  by_cases h:okL l=true
  · rw [h]
    have hl:=pn_.1 h
    rw [any_clue (p:=fun c=>!fj_ l c) (fun x _=>by unfold gh_; rw [my_ hl]; rfl)]
    by_cases h20:20<cl.length
    · rw [if_pos h20]
      simp [h20]
      intro h; omega
    · rw [if_neg h20]
      simp only [Option.bind_some,bne_self_eq_false,Bool.false_eq_true,if_false,if_true]
      rw [if_neg (by simp; omega),List.all_eq_not_any_not]
      cases cl.any fun c=>!fj_ l c <;> rfl
  · have h':okL l=false:=by simpa using h
    rw [h']; rfl
theorem yt_ {l:CodeLock} (hl:Lk l) {cl:List Clue} {code:List Int} (hc:∀ c ∈ cl,fj_ l c=true) (hk:dw_ l code=true):∃ r,mg_ cl code=some r∧(decide (r<0)=cl.all (tr · code)):=by
  have:=idxF_spec (l:=cl) (f:=fun x0_=>hj_ x0_ code) (p:=fun c=>!tr c code) (fun x hx=>by unfold hj_; rw [tr_holds hl (hc x hx) hk]; rfl)
  obtain ⟨r,h1,h2⟩:=this
  refine ⟨r,?_,?_⟩
  · unfold mg_
    rw [show dl_ cl (fun x0_=>hj_ x0_ code)=some r from h1]; rfl
  · rw [List.all_eq_not_any_not]
    rcases h2 with ⟨rfl,h⟩ | ⟨h0,h⟩
    · rw [h]; rfl
    · rw [h,decide_eq_false (by omega)]; rfl
theorem set_here {p:List Int} {x y:Int} {t:List Int}:(p++x::t).set p.length y=p++y::t:=by
  rw [List.set_append_right _ _ (Nat.le_refl _),Nat.sub_self]; rfl
theorem get_here {p:List Int} {x:Int} {t:List Int}:at? (p++x::t) ((p.length:Nat):Int)=some x:=by
  rw [yy_,List.getElem?_append_right (Nat.le_refl _),Nat.sub_self]; rfl
theorem odo {l:CodeLock} (hl:Lk l) {S:Nat} (hS:l.Symbols=(S:Int)):∀ (W j k:Nat),W≤4→∃ out:List Int×Int,
    af_ (σ:=(List Int×Int)) (ρ:=(List Int×Int)) (fun s15=>if decide (0≤s15.2) then ((at? s15.1 s15.2).bind fun x117=>if x117==(w64 (l.Symbols - 1)) then ((at? s15.1 s15.2).bind fun x118=>some (Sum.inl (s15.1.set (s15.2).toNat 0,w64 (s15.2 - 1)))) else (some (Sum.inr (s15.1,s15.2)))) else (some (Sum.inr (s15.1,s15.2)))) (dig S W j++List.replicate k 0,(W:Int) - 1)=some out ∧
    (j+1=S ^ W→out.2<0)∧(j+1<S ^ W→0≤out.2∧∃ x,at? out.1 out.2=some x∧out.1.set out.2.toNat (w64 (x+1))=dig S W (j+1)++List.replicate k 0):=by
  have s1:=hl.s1; have s2:=hl.s2
  intro W
  induction W with
  | zero =>
    intro j k _
    refine ⟨_,lr_ (r:=(dig S 0 j++List.replicate k 0,(0:Int) - 1)) (by rw [if_neg (by simp)]; rfl),fun _=>by simp,fun h => ?_⟩
    simp at h
  | succ W ih =>
    intro j k hW
    have hd:dig S (W+1) j++List.replicate k 0=dig S W (j / S)++((j % S:Nat):Int)::List.replicate k 0:=by rw [dig,List.append_assoc]; rfl
    have hlen:=dig_len S W (j / S)
    have hg:at? (dig S W (j / S)++((j % S:Nat):Int)::List.replicate k 0) ((W:Nat):Int)=some ((j % S:Nat):Int):=by
      have:=get_here (p:=dig S W (j / S)) (x:=((j % S:Nat):Int)) (t:=List.replicate k 0)
      rwa [hlen] at this
    have hse:∀ y:Int,(dig S W (j / S)++((j % S:Nat):Int)::List.replicate k 0).set W y=dig S W (j / S)++y::List.replicate k 0:=fun y=>by
      have:=set_here (p:=dig S W (j / S)) (x:=((j % S:Nat):Int)) (y:=y) (t:=List.replicate k 0)
      rwa [hlen] at this
    have hmod:j % S<S:=Nat.mod_lt _ (by omega)
    have hdm:=Nat.div_add_mod j S
    rw [hd,show ((W+1:Nat):Int) - 1=(W:Int) by omega]
    by_cases h9:j % S=S - 1
    · obtain ⟨out,e1,e2,e3⟩:=ih (j / S) (k+1) (by omega)
      have hj1:j+1=S * (j / S+1):=by rw [Nat.mul_add,Nat.mul_one]; omega
      refine ⟨out,?_,fun h=>e2 ?_,fun h => ?_⟩
      · rw [← e1]
        refine ql_ ?_
        simp only
        rw [if_pos (by simp),hg,Option.bind_some,if_pos (by rw [hl.ws,hS]; simp; omega),Option.bind_some,Int.toNat_natCast,hse,la_ (by omega) (by omega)]
        rfl
      · rw [Nat.pow_succ,Nat.mul_comm] at h
        rw [hj1] at h
        exact Nat.eq_of_mul_eq_mul_left (by omega) h
      · have:j / S+1<S ^ W:=by
          rw [Nat.pow_succ,Nat.mul_comm,hj1] at h
          exact Nat.lt_of_mul_lt_mul_left h
        obtain ⟨f1,x,f2,f3⟩:=e3 this
        refine ⟨f1,x,f2,?_⟩
        rw [f3,dig,hj1,Nat.mul_div_cancel_left _ (by omega),Nat.mul_mod_right,List.append_assoc]
        rfl
    · refine ⟨_,lr_ (r:=(dig S W (j / S)++((j % S:Nat):Int)::List.replicate k 0,(W:Int))) (by
        simp only
        rw [if_pos (by simp),hg,Option.bind_some,if_neg (by rw [hl.ws,hS]; simp; omega)]),fun h => ?_,fun h=>⟨by simp,_,hg,?_⟩⟩
      · exfalso
        have:(j+1) % S=0:=by rw [h,Nat.pow_succ]; exact Nat.mul_mod_left _ _
        have h2:(j+1) % S=j % S+1:=by rw [Nat.add_mod,Nat.mod_eq_of_lt (show 1<S by omega),Nat.mod_eq_of_lt (by omega)]
        omega
      · simp only [Int.toNat_natCast]
        rw [hse,la_ (by omega) (by omega),dig,List.append_assoc]
        have h2:(j+1) % S=j % S+1:=by rw [Nat.add_mod,Nat.mod_eq_of_lt (show 1<S by omega),Nat.mod_eq_of_lt (by omega)]
        have h3:(j+1) / S=j / S:=by
          refine Nat.div_eq_of_lt_le ?_ ?_
          · rw [Nat.mul_comm]; omega
          · rw [Nat.mul_comm,Nat.mul_add]; omega
        rw [h2,h3]
        simp
theorem pz_ {l:CodeLock} (hl:Lk l) {σ τ:Type} {f:List Int→σ→Option (σ⊕τ)} {g:σ→List Int→σ} (hf:∀ c s,dw_ l c=true→f c s=some (.inl (g s c))) (s:σ):dy_ f l s=some (.inl ((lf_ l.Symbols.toNat l.Wheels.toNat).foldl g s)):=by
  have w1:=hl.w1; have w2:=hl.w2; have s1:=hl.s1; have s2:=hl.s2
  obtain ⟨W,hW⟩:∃ W:Nat,l.Wheels=(W:Int):=⟨l.Wheels.toNat,by omega⟩
  obtain ⟨S,hS⟩:∃ S:Nat,l.Symbols=(S:Int):=⟨l.Symbols.toNat,by omega⟩
  have hSp:0<S:=by omega
  have hN:0<S ^ W:=Nat.pow_pos hSp
  have hok:∀ j,j<S ^ W→dw_ l (dig S W j)=true:=fun j hj=>(codes_ok hl).1 (by rw [hW,hS,Int.toNat_natCast,Int.toNat_natCast]; exact List.mem_of_getElem? (rg_ hSp W j hj))
  have hz:List.replicate W (0:Int)=dig S W 0:=by
    have h:∀ W,dig S W 0=List.replicate W 0:=by
      intro W
      induction W with
      | zero=>rfl
      | succ W ih=>rw [dig,Nat.zero_div,Nat.zero_mod,ih,List.replicate_succ']; rfl
    exact (h W).symm
  unfold dy_
  rw [hW,hS,Int.toNat_natCast,Int.toNat_natCast,mk?_le (by omega) (by omega),Option.bind_some,Int.toNat_natCast,hz]
  have hw:=whileO_ix (σ:=σ×List Int) (ρ:=(σ×List Int)⊕(σ⊕τ)) (n:=S ^ W - 1) (F:=fun j=>(((lf_ S W).take j).foldl g s,dig S W j)) (r:=.inr (.inl ((lf_ S W).foldl g s)))
    (body:=fun s13=>(f s13.2 s13.1).bind fun x104=>sm x104 (fun s14 =>
     (af_ (σ:=(List Int×Int)) (ρ:=(List Int×Int)) (fun s15 =>
     if decide (0≤s15.2) then
     ((at? s15.1 s15.2).bind fun x117 =>
     if x117==(w64 (l.Symbols - 1)) then
     ((at? s15.1 s15.2).bind fun x118 =>
     some (Sum.inl (s15.1.set (s15.2).toNat 0,w64 (s15.2 - 1))))
     else
     (some (Sum.inr (s15.1,s15.2))))
     else
     (some (Sum.inr (s15.1,s15.2)))) (s13.2,w64 ((W:Int) - 1))).bind fun out8 =>
     if decide (out8.2<0) then
     (some (Sum.inr (Sum.inr (Sum.inl s14))))
     else
     ((at? out8.1 out8.2).bind fun x119 =>
     (at? out8.1 out8.2).bind fun x120 =>
     some (Sum.inl (s14,out8.1.set (out8.2).toNat (w64 (x119+1)))))) fun q1687 =>
     some (Sum.inr (Sum.inr (Sum.inr q1687)))) (by
      intro j hj
      obtain ⟨out,o1,o2,o3⟩:=odo hl hS W j 0 (by omega)
      simp only [List.replicate_zero,List.append_nil] at o1 o3
      obtain ⟨p1,x,p2,p3⟩:=o3 (by omega)
      simp only
      rw [hf _ _ (hok j (by omega)),Option.bind_some]
      simp only [sm]
      rw [la_ (n:=(W:Int) - 1) (by omega) (by omega),o1,Option.bind_some,if_neg (by simp; omega),p2,Option.bind_some,Option.bind_some,p3,foldlS (rg_ hSp W j (by omega))]) (by
      obtain ⟨out,o1,o2,o3⟩:=odo hl hS W (S ^ W - 1) 0 (by omega)
      simp only [List.replicate_zero,List.append_nil] at o1
      have p1:=o2 (by omega)
      simp only
      rw [hf _ _ (hok (S ^ W - 1) (by omega)),Option.bind_some]
      simp only [sm]
      rw [la_ (n:=(W:Int) - 1) (by omega) (by omega),o1,Option.bind_some,if_pos (by simp; omega),← foldlS (f:=g) (rg_ hSp W (S ^ W - 1) (by omega)),show S ^ W - 1+1=(lf_ S W).length by rw [rf_]; omega,List.take_length])
  rw [← hS]
  refine (congrArg (fun o=>Option.bind o _) (show af_ _ _=_ from by simpa using hw)).trans ?_
  rfl
theorem oa_ {l:CodeLock} (hl:Lk l) {cl:List Clue} (hc:∀ c ∈ cl,fj_ l c=true) {σ τ:Type} {f:List Int→σ→Option (σ⊕τ)} {g:σ→List Int→σ} (hf:∀ c s,dw_ l c=true→f c s=some (.inl (g s c))) (s:σ):cw_ f l cl s=some (.inl ((rdg l cl).foldl g s)):=by
  unfold cw_ ih_
  rw [Option.bind_some,pz_ hl (g:=fun s c=>if cl.all (tr · c) then g s c else s) (by
    intro c s hk
    obtain ⟨r,r1,r2⟩:=yt_ hl hc hk
    rw [r1,Option.bind_some,r2]
    cases cl.all (tr · c)
    · rfl
    · rw [if_pos rfl,hf c s hk]; rfl),Option.bind_some]
  show some (Sum.inl _)=some (Sum.inl _)
  congr 2
  unfold rdg
  rw [List.foldl_filter]
theorem foldl_count {α:Type} (l:List α) (n:Int) (h0:0≤n) (h:n+l.length≤100000):l.foldl (fun s _=>w64 (s+1)) n=n+l.length:=by
  induction l generalizing n with
  | nil=>simp
  | cons x l ih =>
    rw [List.length_cons] at h
    rw [List.foldl_cons,la_ (by omega) (by omega),ih (n+1) (by omega) (by omega),List.length_cons]
    omega
theorem rr_ {l:CodeLock} (hl:Lk l) {cl:List Clue} (hn:cl.length≤20) (hc:∀ c ∈ cl,fj_ l c=true):kc_ l cl=some (((rdg l cl).length:Int),0):=by
  unfold kc_ ig_ fu_
  rw [sh_,pn_.2 hl,if_pos rfl,if_neg (by omega),if_pos (List.all_eq_true.2 hc),Option.bind_some,Option.bind_some,oa_ hl hc (g:=fun s _=>w64 (s+1)) (fun c s _=>rfl),Option.bind_some]
  have:=rdg_bd hl cl
  show (Option.bind (some _) _)=_
  rw [foldl_count _ 0 (by omega) (by omega),Int.zero_add]
  rfl
end Go.Proofs.YtfcgcpjnpdkjmaaGreatDoor.Pad
end
section
namespace Go.Proofs.YtfcgcpjnpdkjmaaGreatDoor.Rx
open Go Go.Proofs.YtfcgcpjnpdkjmaaGreatDoor.Pad Go.Proofs.YtfcgcpjnpdkjmaaGreatDoor.Rex
noncomputable def trc (c:Clue) (code:List Int):Bool:=(gx_ c code).getD false
theorem trc_eq {l:CodeLock} (hl:Lk l) {c:Clue} {code:List Int} (hc:fj_ l c=true) (hk:dw_ l code=true):tr c code=trc c code:=by
  unfold trc; rw [tr_holds hl hc hk]; rfl
theorem rdg_c {l:CodeLock} (hl:Lk l) {cl:List Clue} (hc:∀ c ∈ cl,fj_ l c=true):rdg l cl=(lf_ l.Symbols.toNat l.Wheels.toNat).filter fun c=>cl.all (trc · c):=by
  unfold rdg
  refine List.filter_congr fun c hm => ?_
  have hk:=(codes_ok hl).1 hm
  refine Bool.eq_iff_iff.2 ?_
  rw [List.all_eq_true,List.all_eq_true]
  exact ⟨fun h q hq=>by rw [← trc_eq hl (hc q hq) hk]; exact h q hq,fun h q hq=>by rw [trc_eq hl (hc q hq) hk]; exact h q hq⟩
theorem lk24:Lk (⟨2,4⟩:CodeLock):=⟨by decide,by decide,by decide,by decide⟩
theorem okq1:∀ c ∈ ([⟨2,0,1,4,0,[],false⟩]:List Clue),fj_ ⟨2,4⟩ c=true:=by
  intro c hc; rw [List.mem_singleton.1 hc]; kernel_rfl
theorem rdg24:(rdg ⟨2,4⟩ [⟨2,0,1,4,0,[],false⟩]).length=3:=by
  rw [rdg_c lk24 okq1]
  kernel_rfl
theorem top_counts:cm_=some (true,()):=by
  unfold cm_ ez_
  show Option.bind (Option.map zf_ (kc_ ⟨2,4⟩ [⟨2,0,1,4,0,[],false⟩])) _=_
  rw [rr_ lk24 (by decide) okq1,rdg24]
  rfl
theorem codes_Check' (x:ag_):lo_ x=some (if okL (cvL x) then 0 else 10,()):=by
  unfold lo_
  rw [kj_]
  rfl
theorem ref01_Check' (x:ag_):lm_ x=some (if okL (cvL x) then 0 else 10,()):=by
  unfold lm_
  rw [nh_]
  rfl
theorem vz_ (x:ag_) (c:List Int):hh_ x c=some (if okL (cvL x) then (if dw_ (cvL x) c then 0 else 12) else 10,()):=by
  unfold hh_
  rw [na_]
  rfl
theorem vr_ (x:ag_) (c:List Int):hf_ x c=some (if okL (cvL x) then (if dw_ (cvL x) c then 0 else 12) else 10,()):=by
  unfold hf_
  rw [sy_]
  rfl
end Go.Proofs.YtfcgcpjnpdkjmaaGreatDoor.Rx
end
section
namespace Go.Proofs.YtfcgcpjnpdkjmaaGreatDoor.Rx
open Go Go.Proofs.YtfcgcpjnpdkjmaaGreatDoor.Pad Go.Proofs.YtfcgcpjnpdkjmaaGreatDoor.Rex
theorem zero_eq:mb_=mq_:=rfl
noncomputable def clOk (l:ag_) (c:bn_) (k:List Int):Bool:=fj_ (cvL l) (cvC c)&&tr (cvC c) k
theorem vt_ {l:ag_} (hl:Lk (cvL l)) (c:bn_):hg_ l c=some (cond (fj_ (cvL l) (cvC c)) 0 11,()):=by
  unfold hg_ ji_
  rw [nh_,pn_.2 hl,Option.bind_some,xn_ hl]
  simp only [Option.bind_some]
  cases fj_ (cvL l) (cvC c) <;> rfl
theorem ref01_True' {l:ag_} (hl:Lk (cvL l)) {c:bn_} {k:List Int} (hc:fj_ (cvL l) (cvC c)=true) (hk:dw_ (cvL l) k=true):ms_ c k=some (tr (cvC c) k,()):=by
  unfold ms_
  rw [tr_ref hl hc hk]
  rfl
theorem codes_Holds' {l:ag_} (hl:Lk (cvL l)) (c:bn_) {k:List Int} (hk:dw_ (cvL l) k=true):ln_ l c k=some (cond (fj_ (cvL l) (cvC c)) (tr (cvC c) k) false,(cond (fj_ (cvL l) (cvC c)) 0 11,())):=by
  unfold ln_ ow_ jp_
  rw [kj_,pn_.2 hl,Option.bind_some,my_ hl,na_,pn_.2 hl,hk]
  simp only [Option.bind_some]
  cases hc:fj_ (cvL l) (cvC c) with
  | false=>rfl
  | true =>
    rw [tr_holds hl hc hk]
    rfl
end Go.Proofs.YtfcgcpjnpdkjmaaGreatDoor.Rx
end
section
set_option maxRecDepth 10000
namespace Go.Proofs.YtfcgcpjnpdkjmaaGreatDoor.Rx
open Go Go.Proofs.YtfcgcpjnpdkjmaaGreatDoor.Pad Go.Proofs.YtfcgcpjnpdkjmaaGreatDoor.Rex
def zeroB (c:bn_):Bool:=c.1==0&&(c.2.1==0&&(c.2.2.1==0&&(c.2.2.2.1==0&&(c.2.2.2.2.1==0&&(((c.2.2.2.2.2.1.length:Int)==0)&&!c.2.2.2.2.2.2)))))
theorem play_zero (c:bn_):mb_ c=some (zeroB c,()):=by
  unfold mb_ zeroB
  cases c.1==0 with
  | false=>rfl
  | true =>
  cases c.2.1==0 with
  | false=>rfl
  | true =>
  cases c.2.2.1==0 with
  | false=>rfl
  | true =>
  cases c.2.2.2.1==0 with
  | false=>rfl
  | true =>
  cases c.2.2.2.2.1==0 with
  | false=>rfl
  | true=>cases (c.2.2.2.2.2.1.length:Int)==0 <;> rfl
theorem ref04_zero (c:bn_):mq_ c=some (zeroB c,()):=by rw [← zero_eq]; exact play_zero c
def twNt (g:ai_) (i:Nat) (n:di_):Bool:=(g.2.2.2.1.take i).any fun y=>y.1==n.1
def cdOk (g:ai_) (i:Nat) (l:ag_):Bool:=match g.2.2.1[i]? with
  | some k=>dw_ (cvL l) k
  | none=>false
noncomputable def ntOk (g:ai_) (i:Nat) (n:di_):Bool:=okN n.1&&(!(twNt g i n)&&(wi n.2.1 0 (w64 ((g.1.1.length:Int) - 1))&&(wi n.2.2.1 (-1) (w64 ((g.2.1.length:Int) - 1))&&(cond (decide (n.2.2.1<0)) (zeroB n.2.2.2.2) (match at? g.2.1 n.2.2.1,at? g.2.2.1 n.2.2.1 with
  | some l,some k=>clOk l n.2.2.2.2 k
  | _,_=>false)))))
def LkAll (g:ai_):Prop:=∀ (i:Nat) l,g.2.1[i]?=some l→Lk (cvL l)∧∃ k,g.2.2.1[i]?=some k∧dw_ (cvL l) k=true
theorem LkAll.at {g:ai_} (hg:SmG g) (h:LkAll g) {i:Int} (h0:¬ i<0) (hw:wi i (-1) (w64 ((g.2.1.length:Int) - 1))=true):∃ l k,at? g.2.1 i=some l∧at? g.2.2.1 i=some k∧Lk (cvL l)∧dw_ (cvL l) k=true:=by
  have hlk:=hg.lk
  rw [kk_ (by omega) (by omega)] at hw
  have hw:=wi_iff.1 hw
  obtain ⟨l,hl⟩:=dn_ (l:=g.2.1) (i:=i.toNat) (by omega)
  obtain ⟨h1,k,hk,h2⟩:=h _ l hl
  have hi:i=((i.toNat:Nat):Int):=by omega
  exact ⟨l,k,by rw [hi]; exact am_ hl,by rw [hi]; exact am_ hk,h1,h2⟩
theorem play_right {g:ai_} (hg:SmG g) (hL:LkAll g) {i:Nat} {n:di_} (hn:g.2.2.2.1[i]?=some n):mu_ g (i:Int) n=some (ntOk g i n,()):=by
  have hi:=ax_ hn
  have hs:=hg.nt
  have hnm:=(hg.ntn n (cj_ hn)).1
  have ht:Sm (g.2.2.2.1.take i).length:=by rw [List.length_take]; show _≤1000000000; omega
  unfold mu_
  rw [qr_ (Nat.le_of_lt hi),Option.bind_some]
  refine Eq.trans (congrArg (fun o=>Option.bind o _) (pb_ ht (fun y=>y.1==n.1) (fun k y hy => ?_) ?_)) ?_
  · simp only [dlt (ax_ hy),cond_true,am_ hy,Option.bind_some]
    cases y.1==n.1 <;> rfl
  · simp only [dnl,cond_false]
  rw [Option.bind_some]
  simp only [play_word (show Sm n.1.length by show _≤1000000000; omega),oh_,Option.bind_some]
  unfold ntOk okN twNt
  cases okW n.1 with
  | false=>simp only [Bool.and_false,Bool.false_and]; rfl
  | true =>
  by_cases h12:(n.1.length:Int)≤12
  · rw [decide_eq_true h12,decide_eq_false (by omega:¬ 12<(n.1.length:Int))]
    cases (g.2.2.2.1.take i).any fun y=>y.1==n.1 with
    | true=>rfl
    | false =>
    cases wi n.2.1 0 (w64 ((g.1.1.length:Int) - 1)) with
    | false=>rfl
    | true =>
    cases hw:wi n.2.2.1 (-1) (w64 ((g.2.1.length:Int) - 1)) with
    | false=>rfl
    | true =>
    cases hz:decide (n.2.2.1<0) with
    | true=>simp only [play_zero]; rfl
    | false =>
    obtain ⟨l,k,e1,e2,h1,h2⟩:=hL.at hg (of_decide_eq_false hz) hw
    simp only [e1,e2,Bool.not_true,Bool.not_false,cond_false,Option.bind_some,codes_Holds' h1 _ h2,Bool.true_and]
    unfold clOk
    cases fj_ (cvL l) (cvC n.2.2.2.2) <;> rfl
  · rw [decide_eq_false h12,decide_eq_true (by omega:12<(n.1.length:Int))]
    rfl
theorem ref04_noted {g:ai_} (hg:SmG g) (hL:LkAll g) {i:Nat} {n:di_} (hn:g.2.2.2.1[i]?=some n):ll_ g (i:Int)=some (ntOk g i n,()):=by
  have hi:=ax_ hn
  have hs:=hg.nt
  have hnm:=(hg.ntn n (cj_ hn)).1
  have hle:(g.2.2.2.1.take i).length=i:=by rw [List.length_take]; omega
  unfold ll_
  rw [am_ hn,Option.bind_some]
  refine cp_ (g.2.2.2.1.take i) (fun _ y=>cond (y.1==n.1) (some (Sum.inr (false,()):Unit⊕(Bool×Unit))) none) (fun i=>((i:Int),())) (r0:=Sum.inl ()) (fun k y hy => ?_) ?_ ?_
  · have hk:=ax_ hy
    have hy':g.2.2.2.1[k]?=some y:=by
      rw [List.getElem?_take] at hy
      split at hy
      · exact hy
      · cases hy
    simp only [dlt (show k<i by omega),cond_true,am_ hy',Option.bind_some,cf_ (show Sm k by show _≤1000000000; omega)]
    cases y.1==n.1 <;> rfl
  · rw [hle]
    simp only [dnl,cond_false]
  rw [jd_ (q:=fun y:di_=>y.1==n.1)]
  unfold ntOk twNt
  cases (g.2.2.2.1.take i).any fun y=>y.1==n.1 with
  | true=>simp only [Bool.not_true,Bool.false_and,Bool.and_false]; rfl
  | false =>
  simp only [cond_false,Option.getD_none]
  unfold de_
  simp only [lx_ (show Sm n.1.length by show _≤1000000000; omega),zx_,Option.bind_some]
  cases okN n.1 with
  | false=>rfl
  | true =>
  cases wi n.2.1 0 (w64 ((g.1.1.length:Int) - 1)) with
  | false=>rfl
  | true =>
  cases hw:wi n.2.2.1 (-1) (w64 ((g.2.1.length:Int) - 1)) with
  | false=>rfl
  | true =>
  cases hz:decide (n.2.2.1<0) with
  | true =>
    have hz:=of_decide_eq_true hz
    have:=wi_iff.1 hw
    rw [show (n.2.2.1==-1)=true by rw [beq_iff_eq]; omega]
    simp only [ref04_zero]
    rfl
  | false =>
    have hz:=of_decide_eq_false hz
    obtain ⟨l,k,e1,e2,h1,h2⟩:=hL.at hg hz hw
    rw [show (n.2.2.1==-1)=false by rw [beq_eq_false_iff_ne]; omega]
    simp only [e1,e2,Bool.not_true,Bool.not_false,cond_false,Option.bind_some,vt_ h1,Bool.true_and]
    unfold clOk
    cases hc:fj_ (cvL l) (cvC n.2.2.2.2) with
    | false=>rfl
    | true =>
      simp only [cond_true,show ((0:Int)==0)=true from rfl,ref01_True' h1 hc h2]
      rfl
noncomputable def nc_ (g:ai_):Int :=
  cond (en_ g.1 != 0) (en_ g.1) (cond (decide (8<(g.2.1.length:Int))||decide (16<(g.2.2.2.1.length:Int))) 2
   ((ib_ (fun _ l=>mf_ (okL (cvL l)) 10) 0 g.2.1).getD
    (cond ((g.2.2.1.length:Int) != (g.2.1.length:Int)) 12
     ((ib_ (fun i l=>mf_ (cdOk g i l) 12) 0 g.2.1).getD
      ((ib_ (fun _ (a:dr_)=>mf_ (!(decide ((g.2.1.length:Int)≤a.2.2.1))) 26) 0 g.1.2.2.2.2.1).getD
       ((ib_ (fun i n=>tv_ (ntOk g i n) 40 (cOk g.1.2.1 n.2.2.2.1) 25) 0 g.2.2.2.1).getD
        (cond (wi g.2.2.2.2 1 100) 0 1)))))))
theorem nb_ {o:Option Int} {K:Unit→Option (Int×Unit)} {k:Int} (h:o=none→K ()=some (k,())):de_ (left o) K (fun y=>some y)=some (o.getD k,()):=by
  cases o with
  | none=>exact h rfl
  | some e=>rfl
theorem lks_of {g:ai_} (h1:ib_ (fun _ l=>mf_ (okL (cvL l)) 10) 0 g.2.1=none) (h2:ib_ (fun i l=>mf_ (cdOk g i l) 12) 0 g.2.1=none):LkAll g:=by
  intro i l hl
  refine ⟨pn_.1 (me_ (eg_ h1 hl)),?_⟩
  have:=me_ (eg_ h2 hl)
  unfold cdOk at this
  cases hk:g.2.2.1[i]? with
  | none=>rw [hk] at this; cases this
  | some k=>rw [hk] at this; exact ⟨k,rfl,this⟩
theorem mn_of (g:ai_):(cond (decide (8<(g.2.1.length:Int))) (some (true,())) (some ((decide (16<(g.2.2.2.1.length:Int))),())))=some (decide (8<(g.2.1.length:Int))||decide (16<(g.2.2.2.1.length:Int)),()):=by
  cases decide (8<(g.2.1.length:Int)) <;> rfl
theorem play_Check {g:ai_} (hg:SmG g):gv_ g=some (nc_ g,()):=by
  have hlk:=hg.lk
  have hac:=hg.ac
  have hnt:=hg.nt
  unfold gv_ nc_
  rw [ua_ hg.room,Option.bind_some]
  cases hr:en_ g.1 != 0 with
  | true=>rfl
  | false =>
  simp only [cond_false]
  refine Eq.trans (congrArg (fun o=>Option.bind o _) (mn_of g)) ?_
  rw [Option.bind_some]
  cases hm:(decide (8<(g.2.1.length:Int))||decide (16<(g.2.2.2.1.length:Int))) with
  | true=>rfl
  | false =>
  simp only [cond_false]
  refine ce_ g.2.1 (fun _ l=>mf_ (okL (cvL l)) 10) (fun i y hy => ?_) ?_ (nb_ fun hA => ?_)
  · have hi:=ax_ hy
    simp only [dlt hi,cond_true,am_ hy,Option.bind_some,cf_ (show Sm i by show _≤1000000000; omega),codes_Check']
    unfold mf_
    cases okL (cvL y) <;> rfl
  · simp only [dnl,cond_false]
  cases hcl:((g.2.2.1.length:Int) != (g.2.1.length:Int)) with
  | true=>rfl
  | false =>
  have hcl:(g.2.2.1.length:Int)=(g.2.1.length:Int):=by simpa using hcl
  simp only [cond_false]
  refine ce_ g.2.1 (fun i l=>mf_ (cdOk g i l) 12) (fun i y hy => ?_) ?_ (nb_ fun hB => ?_)
  · have hi:=ax_ hy
    obtain ⟨k,hk⟩:=dn_ (l:=g.2.2.1) (i:=i) (by omega)
    have hy1:=me_ (eg_ hA hy)
    simp only [dlt hi,cond_true,am_ hy,am_ hk,Option.bind_some,cf_ (show Sm i by show _≤1000000000; omega),vz_,hy1]
    unfold mf_ cdOk
    rw [hk]
    simp only
    cases dw_ (cvL y) k <;> rfl
  · simp only [dnl,cond_false]
  refine ce_ g.1.2.2.2.2.1 (fun _ (a:dr_)=>mf_ (!(decide ((g.2.1.length:Int)≤a.2.2.1))) 26) (fun i y hy => ?_) ?_ (nb_ fun hC => ?_)
  · have hi:=ax_ hy
    simp only [dlt hi,cond_true,am_ hy,Option.bind_some,cf_ (show Sm i by show _≤1000000000; omega)]
    unfold mf_
    cases decide ((g.2.1.length:Int)≤y.2.2.1) <;> rfl
  · simp only [dnl,cond_false]
  have hL:=lks_of hA hB
  refine ce_ g.2.2.2.1 (fun i n=>tv_ (ntOk g i n) 40 (cOk g.1.2.1 n.2.2.2.1) 25) (fun i y hy => ?_) ?_ (nb_ fun hD => ?_)
  · have hi:=ax_ hy
    simp only [dlt hi,cond_true,am_ hy,Option.bind_some,cf_ (show Sm i by show _≤1000000000; omega),play_right hg hL hy,play_valid hg.room.th]
    unfold tv_
    cases ntOk g i y with
    | false=>rfl
    | true=>cases cOk g.1.2.1 y.2.2.2.1 <;> rfl
  · simp only [dnl,cond_false]
  rw [oh_,Option.bind_some]
  cases wi g.2.2.2.2 1 100 <;> rfl
theorem ref04_Check {g:ai_} (hg:SmG g):jk_ g=some (nc_ g,()):=by
  have hlk:=hg.lk
  have hac:=hg.ac
  have hnt:=hg.nt
  unfold jk_ nc_
  rw [xl_ hg.room,Option.bind_some]
  cases hr:en_ g.1 != 0 with
  | true=>rfl
  | false =>
  simp only [cond_false]
  refine Eq.trans (congrArg (fun o=>Option.bind o _) (mn_of g)) ?_
  rw [Option.bind_some]
  cases hm:(decide (8<(g.2.1.length:Int))||decide (16<(g.2.2.2.1.length:Int))) with
  | true=>rfl
  | false =>
  simp only [cond_false]
  refine ce_ g.2.1 (fun _ l=>mf_ (okL (cvL l)) 10) (fun i y hy => ?_) ?_ (nb_ fun hA => ?_)
  · have hi:=ax_ hy
    simp only [dlt hi,cond_true,am_ hy,Option.bind_some,cf_ (show Sm i by show _≤1000000000; omega),ref01_Check']
    unfold mf_
    cases okL (cvL y) <;> rfl
  · simp only [dnl,cond_false]
  cases hcl:((g.2.2.1.length:Int) != (g.2.1.length:Int)) with
  | true=>rfl
  | false =>
  have hcl:(g.2.2.1.length:Int)=(g.2.1.length:Int):=by simpa using hcl
  simp only [cond_false]
  refine ce_ g.2.1 (fun i l=>mf_ (cdOk g i l) 12) (fun i y hy => ?_) ?_ (nb_ fun hB => ?_)
  · have hi:=ax_ hy
    obtain ⟨k,hk⟩:=dn_ (l:=g.2.2.1) (i:=i) (by omega)
    have hy1:=me_ (eg_ hA hy)
    simp only [dlt (show i<g.2.2.1.length by omega),cond_true,am_ hy,am_ hk,Option.bind_some,cf_ (show Sm i by show _≤1000000000; omega),vr_,hy1]
    unfold mf_ cdOk
    rw [hk]
    simp only
    cases dw_ (cvL y) k <;> rfl
  · rw [← hcl]
    simp only [dnl,cond_false]
  refine ce_ g.1.2.2.2.2.1 (fun _ (a:dr_)=>mf_ (!(decide ((g.2.1.length:Int)≤a.2.2.1))) 26) (fun i y hy => ?_) ?_ (nb_ fun hC => ?_)
  · have hi:=ax_ hy
    simp only [dlt hi,cond_true,am_ hy,Option.bind_some,cf_ (show Sm i by show _≤1000000000; omega)]
    unfold mf_
    cases decide ((g.2.1.length:Int)≤y.2.2.1) <;> rfl
  · simp only [dnl,cond_false]
  have hL:=lks_of hA hB
  refine ce_ g.2.2.2.1 (fun i n=>tv_ (ntOk g i n) 40 (cOk g.1.2.1 n.2.2.2.1) 25) (fun i y hy => ?_) ?_ (nb_ fun hD => ?_)
  · have hi:=ax_ hy
    have hw:=(hg.ntn y (cj_ hy)).2.1
    simp only [dlt hi,cond_true,am_ hy,Option.bind_some,cf_ (show Sm i by show _≤1000000000; omega),ref04_noted hg hL hy,ir_ hg.room.th (show Sm y.2.2.2.1.length by show _≤1000000000; omega)]
    unfold tv_
    cases ntOk g i y with
    | false=>rfl
    | true=>cases cOk g.1.2.1 y.2.2.2.1 <;> rfl
  · simp only [dnl,cond_false]
  rw [zx_,Option.bind_some]
  cases wi g.2.2.2.2 1 100 <;> rfl
structure OkG (g:ai_):Prop where
  room:en_ g.1=0
  n8:g.2.1.length≤8
  n16:g.2.2.2.1.length≤16
  lk:LkAll g
  cd:g.2.2.1.length=g.2.1.length
  ac:∀ (i:Nat) (a:dr_),g.1.2.2.2.2.1[i]?=some a→a.2.2.1<(g.2.1.length:Int)
  nt:∀ (i:Nat) n,g.2.2.2.1[i]?=some n→ntOk g i n=true∧cOk g.1.2.1 n.2.2.2.1=true
  tr:wi g.2.2.2.2 1 100=true
theorem tp_ {g:ai_} (h:nc_ g=0):OkG g:=by
  unfold nc_ at h
  cases hr:en_ g.1 != 0 with
  | true =>
    rw [hr] at h
    rw [bne_iff_ne] at hr
    exact absurd h hr
  | false =>
  rw [hr,cond_false] at h
  cases hm:(decide (8<(g.2.1.length:Int))||decide (16<(g.2.2.2.1.length:Int))) with
  | true=>rw [hm] at h; exact absurd (show (2:Int)=0 from h) (by decide)
  | false =>
  rw [hm,cond_false] at h
  rw [Bool.or_eq_false_iff] at hm
  have m1:=of_decide_eq_false hm.1
  have m2:=of_decide_eq_false hm.2
  obtain ⟨hA,h⟩:=hx_ h (lv_ (fun i x=>yq_ (by decide)) _ _)
  cases hcl:((g.2.2.1.length:Int) != (g.2.1.length:Int)) with
  | true=>rw [hcl] at h; exact absurd (show (12:Int)=0 from h) (by decide)
  | false =>
  rw [hcl,cond_false] at h
  have hcl:(g.2.2.1.length:Int)=(g.2.1.length:Int):=by simpa using hcl
  obtain ⟨hB,h⟩:=hx_ h (lv_ (fun i x=>yq_ (by decide)) _ _)
  obtain ⟨hC,h⟩:=hx_ h (lv_ (fun i x=>yq_ (by decide)) _ _)
  obtain ⟨hD,h⟩:=hx_ h (lv_ (fun i x=>yp_ (by decide) (by decide)) _ _)
  refine ⟨by simpa using hr,by omega,by omega,lks_of hA hB,by omega,fun i a ha => ?_,fun i n hn=>pw_ (eg_ hD hn),?_⟩
  · have:=me_ (eg_ hC ha)
    simpa using this
  · cases hw:wi g.2.2.2.2 1 100 with
    | true=>rfl
    | false=>rw [hw] at h; exact absurd (show (1:Int)=0 from h) (by decide)
theorem CkP_of {g:ai_} (hg:SmG g):CkP g:=by
  refine ⟨_,play_Check hg,fun h=>⟨(tp_ h).room,?_⟩⟩
  rw [ref04_Check hg,h]
end Go.Proofs.YtfcgcpjnpdkjmaaGreatDoor.Rx
end
