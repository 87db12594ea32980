/- TopHinted answers true for every input, where the package's variable holds what the program's text lays. -/
import Derived.Test.YtlbfbdbagohinaaGreatDoorRows
import Derived.Test.YtlbfbdbagohinaaGreatDoorChecked
import Derived.Test.YtlbfbdbagohinaaGreatDoorTie
import Derived.Test.YtlbfbdbagohinaaGreatDoorCards
import Derived.Test.YtlbfbdbagohinaaGreatDoorPart3
import Derived.Test.YtlbfbdbagohinaaGreatDoorPart5
import Derived.SevenTiedAt
import Derived.ProofKit
import Derived.LaidMore
set_option linter.unusedVariables false
set_option maxRecDepth 100000
namespace Go.Proofs.YtlbfbdbagohinaaGreatDoor
open Go Go.Proofs.YtlbfbdbagohinaaGreatDoor.Pad Go.Proofs.YtlbfbdbagohinaaGreatDoor.Rex Go.ChangeShapes Go.WideShapes Go.ChangeAt Go.RowKit Sum
theorem own:ownKnob Tryz.prog.godebug=none:=by kernel_rfl
theorem laidOut:laidOutB Tryz.prog=true:=by kernel_rfl
theorem gRes:Tryz.prog.globalNamed "padlock/room.reserved" = some 0:=by kernel_rfl
theorem tRes:(Tryz.prog.globals[0]?).map (·.type)=some 22:=by kernel_rfl
abbrev laid1:List (String×DataW Unit):=[("padlock/room.reserved",Rows.laid_padlock_room_reserved)]
theorem door_met (os:Os) (args:Array Value):laidMetH Tryz.prog laid1 ((World.doorLaid Tryz.prog 400 os).forCall (λ_ _=>0) ⟨#[],args,[]⟩).memory :=
 laidMetH_of_parts3 (fuel:=8) (laidMet_of_run' 8 (by kernel_rfl) (by kernel_rfl)) (by kernel_rfl) (by kernel_rfl)
theorem gl_laid {W:World} (h:laidMetH Tryz.prog laid1 W):GlS (PH.all W):=by
 rw[MakeChecks.laidMetH_plain _ _ _ (by kernel_rfl)] at h
 obtain⟨ps,⟨g0,t0,cs0,f0,p0,q0,hg0,ht0,hv0,hd0,_,_⟩,_,_⟩:=h
 obtain rfl:=Option.some.inj (gRes.symm.trans hg0)
 obtain rfl:=Option.some.inj (tRes.symm.trans ht0)
 have hp:=ay6 (l:=Go.Proofs.YtlbfbdbagohinaaGreatDoor.Rx.reserved) Tryz.underlying22 Tryz.underlying9 (by kernel_rfl) hg0 hv0 hd0
 refine⟨λg d e => ?_,λg cs e=>by cases (show (none:Option (List Value))=some cs from e)⟩
 cases g with
 | zero =>
  obtain rfl:=Option.some.inj (show some (⟨.list .str,Go.Proofs.YtlbfbdbagohinaaGreatDoor.Rx.reserved⟩:DV)=some d from e)
  exact hp
 | succ g=>cases (show (none:Option DV)=some d from e)
theorem topHinted_reads:∀ t ∈ Tryz.f3.params.toList,Tryz.prog.readableRec t=true∧t<Tryz.prog.types.size:=by
 rw[Tryz.params3]
 intro t ht
 simp only[List.mem_cons,List.not_mem_nil,or_false] at ht
 rcases ht with rfl | rfl | rfl
 ·exact⟨by kernel_rfl,of_decide_eq_true (by kernel_rfl)⟩
 ·exact⟨by kernel_rfl,of_decide_eq_true (by kernel_rfl)⟩
 ·exact⟨by kernel_rfl,of_decide_eq_true (by kernel_rfl)⟩
theorem topHinted_lifted (os:Os) (started:os.Started) (H:Type) (enc:TypeId×Value→H) :
  ReturnsInHanded {} Tryz.checked os 3 .any (λw args=>(Rows.topHintedSpec.pre enc Tryz.prog Tryz.f3 [] false w args∧laidMetH Tryz.prog laid1 w)∧sizedMet enc Tryz.prog Tryz.f3 (OpenSpec.ofChange Rows.topHintedSpec) false w args)
   (Rows.topHintedSpec.post enc Tryz.prog Tryz.f3 false true false false):=by
 refine returnsInHanded_of_change_and (C:=Tryz.checked) (X:=λw _=>laidMetH Tryz.prog laid1 w) (λ_ _ _ hh h=>h.of_heap hh) own started (by kernel_rfl) Tryz.func3
  (ChangeSpec.witness_shaped (enc:=enc) (C:=Tryz.checked) (os:=os) (X:=λw _=>laidMetH Tryz.prog laid1 w) false (World.doorLaid Tryz.prog 400 os) #[.agg #[.slice none 0 0,.slice none 0 0,.slice none 0 0,.slice none 0 0,.slice none 0 0,.slice none 0 0,.int .i64 0,.slice none 0 0,.slice none 0 0,.slice none 0 0,.slice none 0 0,.int .i64 0],.slice none 0 0,.agg #[.int .i64 0,.int .i64 0,.int .i64 0,.int .i64 0,.int .i64 0,.int .i64 0,.slice none 0 0,.bool false]] 8 rfl (World.shaped_of_RefB (by kernel_rfl) (by kernel_rfl)) (by kernel_rfl) (by kernel_rfl) (by kernel_rfl) (door_met os _)) ?_
 intro W base args ds gs before hval0 hW _ _ hL _
 have hval:∀ (j:Nat) t v,Tryz.f3.params[j]?=some t→args[j]?=some v→Value.okWide Tryz.prog W .any base t v:=hval0
 have hW':=hW
 obtain⟨p,q,hA0,hV,hpq,hfz,hnd⟩:=hW
 have hA:DataW.TrodAll enc Tryz.prog W 0 (λ_=>true) true Tryz.f3.params.toList args.toList ds p:=hA0
 obtain⟨rfl,hq⟩:=trodVars_none hV
 have hds:∃ d0 d1 d2,ds=[d0,d1,d2]:=by
  rw[Tryz.params3] at hA
  obtain⟨v0,v1,v2,d0,d1,d2,p0,p1,p2,hav,rfl,hpl,_h0,_h1,_h2⟩:=trodAll_three hA
  exact⟨d0,d1,d2,rfl⟩
 obtain⟨d0,d1,d2,rfl⟩:=hds
 obtain⟨x,hx⟩:=bf7 (hv:=λ_=>undef) (ts:=[(.pair (.pair (.list .str) (.pair (.list (.pair .str (.pair .int (.pair .int (.one .int))))) (.pair (.list (.pair .str (.pair .int (.one (.list (.pair .int (.pair .int (.one .bool)))))))) (.pair (.list (.pair .int (.pair .int (.one (.list (.pair .int (.pair .int (.one .bool)))))))) (.pair (.list (.pair .str (.pair .int (.pair .int (.pair (.list .int) (.pair (.list (.pair .int (.pair .int (.one .bool)))) (.pair (.list (.pair .int (.one .int))) (.pair (.list .int) (.one (.list .int)))))))))) (.pair (.list (.pair (.list (.pair .int (.pair .int (.one .bool)))) (.one (.pair .int (.one .int))))) (.pair .int (.one (.list (.pair .int (.pair .int (.one .bool)))))))))))) (.pair (.list (.pair .int (.one .int))) (.pair (.list (.list .int)) (.pair (.list (.pair .str (.pair .int (.pair .int (.pair (.list (.pair .int (.pair .int (.one .bool)))) (.one (.pair .int (.pair .int (.pair .int (.pair .int (.pair .int (.pair (.list .int) (.one .bool))))))))))))) (.one .int))))),(.list (.pair .int (.pair .int (.one .int)))),(.pair .int (.one (.pair .int (.pair .int (.pair .int (.pair .int (.pair .int (.pair (.list .int) (.one .bool)))))))))]) (show rdBs Tryz.prog _ Tryz.f3.params.toList=true by rw[Tryz.params3];kernel_rfl) hA (λj t v e1 e2=>hval j t v (by simpa using e1) (by simpa using e2))
 have hc:=Go.Proofs.YtlbfbdbagohinaaGreatDoor.Rx.c_3.ok (gl_laid hL) (inv_all W) hx (Go.Proofs.YtlbfbdbagohinaaGreatDoor.Rx.top_TopHinted x.1 x.2.1 x.2.2.1)
 rw[Array.toArray_toList] at hc
 refine hc.mono λe W' he => ?_
 cases e with
 | returned v =>
  obtain⟨T,O',hle,hI,rfl,hr⟩:=he
  obtain rfl:=ra_true hr
  exact⟨_,rfl,bl8 laidOut topHinted_reads rfl (by kernel_rfl) Tryz.underlying4 hW' (Old.of_inv hI hle) rfl rfl rfl⟩
 | panicked c=>exact he.elim
 | outgrown=>exact he.elim
theorem and_t {a b:Bool} (h:a=true) (k:b=true):(a&&b)=true:=by rw[h,k];rfl
set_option maxHeartbeats 40000000 in
theorem topHinted_facts:joinedFacts Tryz.checked.prog 3 Tryz.f3 Rows.topHintedSpec Rows.topHintedRow=true:=by
 unfold joinedFacts
 repeat' (with_reducible refine and_t ?_ ?_)
 all_goals (as_aux_lemma=>kernel_rfl)
theorem topHinted_name:Tryz.checked.prog.funcNamed Rows.topHintedRow.func=some 3:=by kernel_rfl
theorem topHinted_inst:Tryz.f3.isInstance Tryz.checked.prog Rows.topHintedRow.origin Rows.topHintedRow.targs:=of_decide_eq_true (by kernel_rfl)
theorem topHinted_wrap:Tryz.f3.isWrapper Tryz.checked.prog Rows.topHintedRow.wrapper Rows.topHintedRow.mainSum:=by unfold Func.isWrapper;first | (rw[if_pos (by decide +kernel)];kernel_rfl) | (rw[if_neg (by decide +kernel)];exact⟨rfl,rfl⟩)
theorem topHinted_said:Rows.TopHintedSaid :=
 OpenClaim.holds_of_wide 3 Tryz.f3 rfl rfl rfl rfl rfl rfl rfl ⟨rfl,rfl,rfl,rfl,rfl⟩ rfl rfl rfl rfl rfl topHinted_name Tryz.func3 topHinted_facts
  topHinted_inst topHinted_wrap (λos started H enc _=>topHinted_lifted os started H enc)
set_option maxHeartbeats 40000000 in
theorem topHinted_holds:Rows.TopHintedCardSaid :=
 Claim7.holds_tied_plain_at .later [] [.widerDeep] true (true, "6f800565475d9f3daeabd539c9cd1ddbcb2348db20d7bfa6bbe6d18829542139") false
  topHinted_said (λ_ h=>by cases h) (by as_aux_lemma=>kernel_rfl) (λ_ h=>by cases h) topHinted_row_tie rfl ⟨rfl,rfl⟩ (by as_aux_lemma=>kernel_rfl) rfl
  (λf fn hf hfn=>by
   obtain rfl:f=3:=Option.some.inj ((show Tryz.prog.funcNamed "padlock/padlocktop.TopHinted" = some 3 by as_aux_lemma=>kernel_rfl).symm.trans hf) |>.symm
   obtain rfl:fn=Tryz.f3:=(Option.some.inj (Tryz.func3.symm.trans hfn)).symm
   exact⟨by as_aux_lemma=>kernel_rfl,λj t ht=>by
    rw[Tryz.params3] at ht
    have hm:t ∈ [36,37,42]:=by simpa using Array.mem_of_getElem? ht
    have hall:([36,37,42].all λu=>!Tryz.prog.wantsStandIn u)=true:=by as_aux_lemma=>kernel_rfl
    exact (show Tryz.prog.wantsStandIn t=false by simpa using List.all_eq_true.1 hall t hm)⟩)
  (by as_aux_lemma=>kernel_rfl)
end Go.Proofs.YtlbfbdbagohinaaGreatDoor
