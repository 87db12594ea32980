/- TopSearched answers true for every input, where the package's variable holds what the program's text lays. -/
import Derived.Test.YthpilkoeneocmaaGreatDoorRows
import Derived.Test.YthpilkoeneocmaaGreatDoorChecked
import Derived.Test.YthpilkoeneocmaaGreatDoorTie
import Derived.Test.YthpilkoeneocmaaGreatDoorCards
import Derived.Test.YthpilkoeneocmaaGreatDoorPart3
import Derived.Test.YthpilkoeneocmaaGreatDoorPart6
import Derived.SevenTiedAt
import Derived.ProofKit
import Derived.LaidMore
import Derived.Lib.LaidTab
set_option linter.unusedVariables false
set_option maxRecDepth 100000
namespace Go.Proofs.YthpilkoeneocmaaGreatDoor
open Go Go.Proofs.YthpilkoeneocmaaGreatDoor.Pad Go.Proofs.YthpilkoeneocmaaGreatDoor.Rex Go.ChangeShapes Go.WideShapes Go.ChangeAt Go.RowKit Sum
theorem own:ownKnob Tryz.prog.godebug=none:=by kernel_rfl
theorem laidOut:laidOutB Tryz.prog=true:=by kernel_rfl
theorem gRes:Tryz.prog.globalNamed "padlock/room.reserved" = some 0:=by kernel_rfl
theorem tRes:(Tryz.prog.globals[0]?).map (·.type)=some 22:=by kernel_rfl
abbrev laid1:List (String×DataW Unit):=[("math/bits.deBruijn32tab",Rows.laid_math_bits_deBruijn32tab),("math/bits.deBruijn64tab",Rows.laid_math_bits_deBruijn64tab),("internal/strconv.uint64pow10",Rows.laid_internal_strconv_uint64pow10),("padlock/room.reserved",Rows.laid_padlock_room_reserved)]
theorem door_met (os:Os) (args:Array Value):laidMetH Tryz.prog laid1 ((World.doorLaid Tryz.prog 400 os).forCall (λ_ _=>0) ⟨#[],args,[]⟩).memory :=
 laidMetH_of_parts3 (fuel:=8) (laidMet_of_run' 8 (by kernel_rfl) (by kernel_rfl)) (by kernel_rfl) (by kernel_rfl)
def zsP:List Int:=(List.range 20).map λi=>((10 ^ i:Nat):Int)
theorem gPow:Tryz.prog.globalNamed "internal/strconv.uint64pow10" = some 1:=by kernel_rfl
theorem tPow:(Tryz.prog.globals[1]?).map (·.type)=some 309:=by kernel_rfl
theorem gl_laid {W:World} (h:laidMetH Tryz.prog laid1 W):GlS (PH.all W):=by
 rw[MakeChecks.laidMetH_plain _ _ _ (by kernel_rfl)] at h
 obtain⟨ps,h,_,_⟩:=h
 obtain⟨_,_,_,_,_,_,_,_,_,_,h,_⟩:=h
 obtain⟨_,_,_,_,_,_,_,_,_,_,h,_⟩:=h
 obtain⟨g1,t1,cs1,f1,p1,q1,hg1,ht1,hv1,hd1,h,_⟩:=h
 obtain⟨g0,t0,cs0,f0,p0,q0,hg0,ht0,hv0,hd0,_,_⟩:=h
 obtain rfl:=Option.some.inj (gRes.symm.trans hg0)
 obtain rfl:=Option.some.inj (tRes.symm.trans ht0)
 obtain rfl:=Option.some.inj (gPow.symm.trans hg1)
 obtain rfl:=Option.some.inj (tPow.symm.trans ht1)
 have hp:=by3 (l:=Go.Proofs.YthpilkoeneocmaaGreatDoor.Rx.reserved) Tryz.underlying22 Tryz.underlying9 (by kernel_rfl) hg0 hv0 hd0
 rw[show Rows.laid_internal_strconv_uint64pow10=Lib.tabData .u64 zsP from by kernel_rfl] at hd1
 have hc:=Lib.cells_of_tab (n:=20) (e:=290) (k:=.u64) (by kernel_rfl) (by kernel_rfl) (by kernel_rfl) (by kernel_rfl) hd1
 refine⟨λg d e => ?_,λg cs e => ?_⟩
 ·cases g with
  | zero =>
   obtain rfl:=Option.some.inj (show some (⟨.list .str,Go.Proofs.YthpilkoeneocmaaGreatDoor.Rx.reserved⟩:DV)=some d from e)
   exact hp
  | succ g=>cases (show (none:Option DV)=some d from e)
 ·match g,e with
  | 1,e =>
   obtain rfl:=Option.some.inj (show some Go.Proofs.YthpilkoeneocmaaGreatDoor.Rx.pow10V=some cs from e)
   unfold World.var? at hv1
   rw[gPow] at hv1
   show ∃ (T:TypeId) (fz:Nat×Nat),W.heap[1]?=some (.cells Go.Proofs.YthpilkoeneocmaaGreatDoor.Rx.pow10V.toArray T fz)
   have hv1:(match (W.heap[1]?:Option Obj) with
    | some (Obj.cells cs _ _)=>some cs
    | _=>none)=some cs1:=hv1
   split at hv1
   ·next cs T fz he =>
    obtain rfl:=Option.some.inj hv1
    refine⟨T,fz,?_⟩
    rw[he,← Array.toArray_toList (xs:=cs),hc]
    rfl
   ·cases hv1
  | 0,e=>cases (show (none:Option (List Value))=some cs from e)
  | g+2,e=>cases (show (none:Option (List Value))=some cs from e)
theorem topSearched_reads:∀ t ∈ Tryz.f3.params.toList,Tryz.prog.readableRec t=true∧t<Tryz.prog.types.size:=by
 rw[Tryz.params3]
 intro t ht
 simp only[List.mem_cons,List.not_mem_nil,or_false] at ht
 rcases ht with rfl | rfl | rfl
 ·exact⟨by kernel_rfl,of_decide_eq_true (by kernel_rfl)⟩
 ·exact⟨by kernel_rfl,of_decide_eq_true (by kernel_rfl)⟩
 ·exact⟨by kernel_rfl,of_decide_eq_true (by kernel_rfl)⟩
theorem topSearched_lifted (os:Os) (started:os.Started) (H:Type) (enc:TypeId×Value→H) :
  ReturnsInHanded {} Tryz.checked os 3 .any (λw args=>(Rows.topSearchedSpec.pre enc Tryz.prog Tryz.f3 [] false w args∧laidMetH Tryz.prog laid1 w)∧sizedMet enc Tryz.prog Tryz.f3 (OpenSpec.ofChange Rows.topSearchedSpec) false w args)
   (Rows.topSearchedSpec.post enc Tryz.prog Tryz.f3 false true false false):=by
 refine returnsInHanded_of_change_and (C:=Tryz.checked) (X:=λw _=>laidMetH Tryz.prog laid1 w) (λ_ _ _ hh h=>h.of_heap hh) own started (by kernel_rfl) Tryz.func3
  (ChangeSpec.witness_shaped (enc:=enc) (C:=Tryz.checked) (os:=os) (X:=λw _=>laidMetH Tryz.prog laid1 w) false (World.doorLaid Tryz.prog 400 os) #[.agg #[.slice none 0 0,.slice none 0 0,.slice none 0 0,.slice none 0 0,.slice none 0 0,.slice none 0 0,.int .i64 0,.slice none 0 0,.slice none 0 0,.slice none 0 0,.slice none 0 0,.int .i64 0],.agg #[.int .i64 0,.int .i64 0],.int .i64 0] 8 rfl (World.shaped_of_RefB (by kernel_rfl) (by kernel_rfl)) (by kernel_rfl) (by kernel_rfl) (by kernel_rfl) (door_met os _)) ?_
 intro W base args ds gs before hval0 hW _ _ hL _
 have hval:∀ (j:Nat) t v,Tryz.f3.params[j]?=some t→args[j]?=some v→Value.okWide Tryz.prog W .any base t v:=hval0
 have hW':=hW
 obtain⟨p,q,hA0,hV,hpq,hfz,hnd⟩:=hW
 have hA:DataW.TrodAll enc Tryz.prog W 0 (λ_=>true) true Tryz.f3.params.toList args.toList ds p:=hA0
 obtain⟨rfl,hq⟩:=trodVars_none hV
 have hds:∃ d0 d1 d2,ds=[d0,d1,d2]:=by
  rw[Tryz.params3] at hA
  obtain⟨v0,v1,v2,d0,d1,d2,p0,p1,p2,hav,rfl,hpl,_h0,_h1,_h2⟩:=trodAll_three hA
  exact⟨d0,d1,d2,rfl⟩
 obtain⟨d0,d1,d2,rfl⟩:=hds
 obtain⟨x,hx⟩:=cf1 (hv:=λ_=>undef) (ts:=[(.pair (.pair (.list .str) (.pair (.list (.pair .str (.pair .int (.pair .int (.one .int))))) (.pair (.list (.pair .str (.pair .int (.one (.list (.pair .int (.pair .int (.one .bool)))))))) (.pair (.list (.pair .int (.pair .int (.one (.list (.pair .int (.pair .int (.one .bool)))))))) (.pair (.list (.pair .str (.pair .int (.pair .int (.pair (.list .int) (.pair (.list (.pair .int (.pair .int (.one .bool)))) (.pair (.list (.pair .int (.one .int))) (.pair (.list .int) (.one (.list .int)))))))))) (.pair (.list (.pair (.list (.pair .int (.pair .int (.one .bool)))) (.one (.pair .int (.one .int))))) (.pair .int (.one (.list (.pair .int (.pair .int (.one .bool)))))))))))) (.pair (.list (.pair .int (.one .int))) (.pair (.list (.list .int)) (.pair (.list (.pair .str (.pair .int (.pair .int (.pair (.list (.pair .int (.pair .int (.one .bool)))) (.one (.pair .int (.pair .int (.pair .int (.pair .int (.pair .int (.pair (.list .int) (.one .bool))))))))))))) (.one .int))))),(.pair .int (.one .int)),.int]) (show rdBs Tryz.prog _ Tryz.f3.params.toList=true by rw[Tryz.params3];kernel_rfl) hA (λj t v e1 e2=>hval j t v (by simpa using e1) (by simpa using e2))
 have hc:=Go.Proofs.YthpilkoeneocmaaGreatDoor.Rx.c_3.ok (gl_laid hL) (inv_all W) hx (Go.Proofs.YthpilkoeneocmaaGreatDoor.Rx.top_TopSearched x.1 x.2.1 x.2.2.1)
 rw[Array.toArray_toList] at hc
 refine hc.mono λe W' he => ?_
 cases e with
 | returned v =>
  obtain⟨T,O',hle,hI,rfl,hr⟩:=he
  obtain rfl:=ra_true hr
  exact⟨_,rfl,cl2 laidOut topSearched_reads rfl (by kernel_rfl) Tryz.underlying4 hW' (Old.of_inv hI hle) rfl rfl rfl⟩
 | panicked c=>exact he.elim
 | outgrown=>exact he.elim
theorem and_t {a b:Bool} (h:a=true) (k:b=true):(a&&b)=true:=by rw[h,k];rfl
set_option maxHeartbeats 40000000 in
theorem topSearched_facts:joinedFacts Tryz.checked.prog 3 Tryz.f3 Rows.topSearchedSpec Rows.topSearchedRow=true:=by
 unfold joinedFacts
 repeat' (with_reducible refine and_t ?_ ?_)
 all_goals (as_aux_lemma=>kernel_rfl)
theorem topSearched_name:Tryz.checked.prog.funcNamed Rows.topSearchedRow.func=some 3:=by kernel_rfl
theorem topSearched_inst:Tryz.f3.isInstance Tryz.checked.prog Rows.topSearchedRow.origin Rows.topSearchedRow.targs:=of_decide_eq_true (by kernel_rfl)
theorem topSearched_wrap:Tryz.f3.isWrapper Tryz.checked.prog Rows.topSearchedRow.wrapper Rows.topSearchedRow.mainSum:=by unfold Func.isWrapper;first | (rw[if_pos (by decide +kernel)];kernel_rfl) | (rw[if_neg (by decide +kernel)];exact⟨rfl,rfl⟩)
theorem topSearched_said:Rows.TopSearchedSaid :=
 OpenClaim.holds_of_wide 3 Tryz.f3 rfl rfl rfl rfl rfl rfl rfl ⟨rfl,rfl,rfl,rfl,rfl⟩ rfl rfl rfl rfl rfl topSearched_name Tryz.func3 topSearched_facts
  topSearched_inst topSearched_wrap (λos started H enc _=>topSearched_lifted os started H enc)
set_option maxHeartbeats 40000000 in
theorem topSearched_holds:Rows.TopSearchedCardSaid :=
 Claim7.holds_tied_plain_at .later [] [.data,.data,.data,.widerDeep] true (true, "8152d076c3ea7194c00137e67c2dd688629fb4516e9ac6450b02136bea45255c") false
  topSearched_said (λ_ h=>by cases h) (by as_aux_lemma=>kernel_rfl) (λ_ h=>by cases h) topSearched_row_tie rfl ⟨rfl,rfl⟩ (by as_aux_lemma=>kernel_rfl) rfl
  (λf fn hf hfn=>by
   obtain rfl:f=3:=Option.some.inj ((show Tryz.prog.funcNamed "padlock/padlocktop.TopSearched" = some 3 by as_aux_lemma=>kernel_rfl).symm.trans hf) |>.symm
   obtain rfl:fn=Tryz.f3:=(Option.some.inj (Tryz.func3.symm.trans hfn)).symm
   exact⟨by as_aux_lemma=>kernel_rfl,λj t ht=>by
    rw[Tryz.params3] at ht
    have hm:t ∈ [36,38,3]:=by simpa using Array.mem_of_getElem? ht
    have hall:([36,38,3].all λu=>!Tryz.prog.wantsStandIn u)=true:=by as_aux_lemma=>kernel_rfl
    exact (show Tryz.prog.wantsStandIn t=false by simpa using List.all_eq_true.1 hall t hm)⟩)
  (by as_aux_lemma=>kernel_rfl)
end Go.Proofs.YthpilkoeneocmaaGreatDoor
