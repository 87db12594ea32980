/- SearchGames answers true for every input, where the package's variable holds what the program's text lays. -/
import Derived.Test.YtgeehfnbhbibeaaGreatDoorRows
import Derived.Test.YtgeehfnbhbibeaaGreatDoorChecked
import Derived.Test.YtgeehfnbhbibeaaGreatDoorTie
import Derived.Test.YtgeehfnbhbibeaaGreatDoorCards
import Derived.Test.YtgeehfnbhbibeaaGreatDoorPart3
import Derived.Test.YtgeehfnbhbibeaaGreatDoorPart6
import Derived.SevenTiedAt
import Derived.ProofKit
import Derived.LaidMore
import Derived.Lib.LaidTab
set_option linter.unusedVariables false
set_option maxRecDepth 100000
namespace Go.Proofs.YtgeehfnbhbibeaaGreatDoor
open Go Go.Proofs.YtgeehfnbhbibeaaGreatDoor.Pad Go.Proofs.YtgeehfnbhbibeaaGreatDoor.Rex Go.ChangeShapes Go.WideShapes Go.ChangeAt Go.RowKit Sum
theorem own:ownKnob Tryz.prog.godebug=none:=by kernel_rfl
theorem laidOut:laidOutB Tryz.prog=true:=by kernel_rfl
theorem gRes:Tryz.prog.globalNamed "padlock/room.reserved" = some 0:=by kernel_rfl
theorem tRes:(Tryz.prog.globals[0]?).map (·.type)=some 22:=by kernel_rfl
abbrev laid1:List (String×DataW Unit):=[("math/bits.deBruijn32tab",Rows.laid_math_bits_deBruijn32tab),("math/bits.deBruijn64tab",Rows.laid_math_bits_deBruijn64tab),("internal/strconv.uint64pow10",Rows.laid_internal_strconv_uint64pow10),("padlock/room.reserved",Rows.laid_padlock_room_reserved)]
theorem door_met (os:Os) (args:Array Value):laidMetH Tryz.prog laid1 ((World.doorLaid Tryz.prog 400 os).forCall (λ_ _=>0) ⟨#[],args,[]⟩).memory :=
 laidMetH_of_parts3 (fuel:=8) (laidMet_of_run' 8 (by kernel_rfl) (by kernel_rfl)) (by kernel_rfl) (by kernel_rfl)
def zsP:List Int:=(List.range 20).map λi=>((10 ^ i:Nat):Int)
theorem gPow:Tryz.prog.globalNamed "internal/strconv.uint64pow10" = some 1:=by kernel_rfl
theorem tPow:(Tryz.prog.globals[1]?).map (·.type)=some 328:=by kernel_rfl
theorem gl_laid {W:World} (h:laidMetH Tryz.prog laid1 W):GlS (PH.all W):=by
 rw[MakeChecks.laidMetH_plain _ _ _ (by kernel_rfl)] at h
 obtain⟨ps,h,_,_⟩:=h
 obtain⟨_,_,_,_,_,_,_,_,_,_,h,_⟩:=h
 obtain⟨_,_,_,_,_,_,_,_,_,_,h,_⟩:=h
 obtain⟨g1,t1,cs1,f1,p1,q1,hg1,ht1,hv1,hd1,h,_⟩:=h
 obtain⟨g0,t0,cs0,f0,p0,q0,hg0,ht0,hv0,hd0,_,_⟩:=h
 obtain rfl:=Option.some.inj (gRes.symm.trans hg0)
 obtain rfl:=Option.some.inj (tRes.symm.trans ht0)
 obtain rfl:=Option.some.inj (gPow.symm.trans hg1)
 obtain rfl:=Option.some.inj (tPow.symm.trans ht1)
 have hp:=bx3 (l:=Go.Proofs.YtgeehfnbhbibeaaGreatDoor.Rx.reserved) Tryz.underlying22 Tryz.underlying9 (by kernel_rfl) hg0 hv0 hd0
 rw[show Rows.laid_internal_strconv_uint64pow10=Lib.tabData .u64 zsP from by kernel_rfl] at hd1
 have hc:=Lib.cells_of_tab (n:=20) (e:=239) (k:=.u64) (by kernel_rfl) (by kernel_rfl) (by kernel_rfl) (by kernel_rfl) hd1
 refine⟨λg d e => ?_,λg cs e => ?_⟩
 ·cases g with
  | zero =>
   obtain rfl:=Option.some.inj (show some (⟨.list .str,Go.Proofs.YtgeehfnbhbibeaaGreatDoor.Rx.reserved⟩:DV)=some d from e)
   exact hp
  | succ g=>cases (show (none:Option DV)=some d from e)
 ·match g,e with
  | 1,e =>
   obtain rfl:=Option.some.inj (show some Go.Proofs.YtgeehfnbhbibeaaGreatDoor.Rx.pow10V=some cs from e)
   unfold World.var? at hv1
   rw[gPow] at hv1
   show ∃ (T:TypeId) (fz:Nat×Nat),W.heap[1]?=some (.cells Go.Proofs.YtgeehfnbhbibeaaGreatDoor.Rx.pow10V.toArray T fz)
   have hv1:(match (W.heap[1]?:Option Obj) with
    | some (Obj.cells cs _ _)=>some cs
    | _=>none)=some cs1:=hv1
   split at hv1
   ·next cs T fz he =>
    obtain rfl:=Option.some.inj hv1
    refine⟨T,fz,?_⟩
    rw[he,← Array.toArray_toList (xs:=cs),hc]
    rfl
   ·cases hv1
  | 0,e=>cases (show (none:Option (List Value))=some cs from e)
  | g+2,e=>cases (show (none:Option (List Value))=some cs from e)
theorem searchGames_reads:∀ t ∈ Tryz.f6.params.toList,Tryz.prog.readableRec t=true∧t<Tryz.prog.types.size:=by
 rw[Tryz.params6]
 intro t ht
 simp only[List.mem_cons,List.not_mem_nil,or_false] at ht
 rcases ht with rfl
 ·exact⟨by kernel_rfl,of_decide_eq_true (by kernel_rfl)⟩
theorem searchGames_lifted (os:Os) (started:os.Started) (H:Type) (enc:TypeId×Value→H) :
  ReturnsInHanded {} Tryz.checked os 6 .any (λw args=>(Rows.searchGamesSpec.pre enc Tryz.prog Tryz.f6 [] false w args∧laidMetH Tryz.prog laid1 w)∧sizedMet enc Tryz.prog Tryz.f6 (OpenSpec.ofChange Rows.searchGamesSpec) false w args)
   (Rows.searchGamesSpec.post enc Tryz.prog Tryz.f6 false true false false):=by
 refine returnsInHanded_of_change_and (C:=Tryz.checked) (X:=λw _=>laidMetH Tryz.prog laid1 w) (λ_ _ _ hh h=>h.of_heap hh) own started (by kernel_rfl) Tryz.func6
  (ChangeSpec.witness_shaped (enc:=enc) (C:=Tryz.checked) (os:=os) (X:=λw _=>laidMetH Tryz.prog laid1 w) false (World.doorLaid Tryz.prog 400 os) #[.agg #[.slice none 0 0,.slice none 0 0,.slice none 0 0,.slice none 0 0,.slice none 0 0,.slice none 0 0,.int .i64 0,.slice none 0 0,.slice none 0 0,.slice none 0 0,.slice none 0 0,.int .i64 0]] 8 rfl (World.shaped_of_RefB (by kernel_rfl) (by kernel_rfl)) (by kernel_rfl) (by kernel_rfl) (by kernel_rfl) (door_met os _)) ?_
 intro W base args ds gs before hval0 hW _ _ hL _
 have hval:∀ (j:Nat) t v,Tryz.f6.params[j]?=some t→args[j]?=some v→Value.okWide Tryz.prog W .any base t v:=hval0
 have hW':=hW
 obtain⟨p,q,hA0,hV,hpq,hfz,hnd⟩:=hW
 have hA:DataW.TrodAll enc Tryz.prog W 0 (λ_=>true) true Tryz.f6.params.toList args.toList ds p:=hA0
 obtain⟨rfl,hq⟩:=trodVars_none hV
 have hds:∃ d0,ds=[d0]:=by
  rw[Tryz.params6] at hA
  obtain⟨v0,d0,hav,rfl,_h0⟩:=trodAll_one hA
  exact⟨d0,rfl⟩
 obtain⟨d0,rfl⟩:=hds
 obtain⟨x,hx⟩:=ce4 (hv:=λ_=>undef) (ts:=[(.pair (.pair (.list .str) (.pair (.list (.pair .str (.pair .int (.pair .int (.one .int))))) (.pair (.list (.pair .str (.pair .int (.one (.list (.pair .int (.pair .int (.one .bool)))))))) (.pair (.list (.pair .int (.pair .int (.one (.list (.pair .int (.pair .int (.one .bool)))))))) (.pair (.list (.pair .str (.pair .int (.pair .int (.pair (.list .int) (.pair (.list (.pair .int (.pair .int (.one .bool)))) (.pair (.list (.pair .int (.one .int))) (.pair (.list .int) (.one (.list .int)))))))))) (.pair (.list (.pair (.list (.pair .int (.pair .int (.one .bool)))) (.one (.pair .int (.one .int))))) (.pair .int (.one (.list (.pair .int (.pair .int (.one .bool)))))))))))) (.pair (.list (.pair .int (.one .int))) (.pair (.list (.list .int)) (.pair (.list (.pair .str (.pair .int (.pair .int (.pair (.list (.pair .int (.pair .int (.one .bool)))) (.one (.pair .int (.pair .int (.pair .int (.pair .int (.pair .int (.pair (.list .int) (.one .bool))))))))))))) (.one .int)))))]) (show rdBs Tryz.prog _ Tryz.f6.params.toList=true by rw[Tryz.params6];kernel_rfl) hA (λj t v e1 e2=>hval j t v (by simpa using e1) (by simpa using e2))
 have hc:=Go.Proofs.YtgeehfnbhbibeaaGreatDoor.Rx.c_6.ok (gl_laid hL) (inv_all W) hx (Go.Proofs.YtgeehfnbhbibeaaGreatDoor.Rx.law06_SearchGames x.1)
 rw[Array.toArray_toList] at hc
 refine hc.mono λe W' he => ?_
 cases e with
 | returned v =>
  obtain⟨T,O',hle,hI,rfl,hr⟩:=he
  obtain rfl:=ra_true hr
  exact⟨_,rfl,ck7 laidOut searchGames_reads rfl (by kernel_rfl) Tryz.underlying4 hW' (Old.of_inv hI hle) rfl rfl rfl⟩
 | panicked c=>exact he.elim
 | outgrown=>exact he.elim
theorem and_t {a b:Bool} (h:a=true) (k:b=true):(a&&b)=true:=by rw[h,k];rfl
set_option maxHeartbeats 40000000 in
theorem searchGames_facts:joinedFacts Tryz.checked.prog 6 Tryz.f6 Rows.searchGamesSpec Rows.searchGamesRow=true:=by
 unfold joinedFacts
 repeat' (with_reducible refine and_t ?_ ?_)
 all_goals (as_aux_lemma=>kernel_rfl)
theorem searchGames_name:Tryz.checked.prog.funcNamed Rows.searchGamesRow.func=some 6:=by kernel_rfl
theorem searchGames_inst:Tryz.f6.isInstance Tryz.checked.prog Rows.searchGamesRow.origin Rows.searchGamesRow.targs:=of_decide_eq_true (by kernel_rfl)
theorem searchGames_wrap:Tryz.f6.isWrapper Tryz.checked.prog Rows.searchGamesRow.wrapper Rows.searchGamesRow.mainSum:=by unfold Func.isWrapper;first | (rw[if_pos (by decide +kernel)];kernel_rfl) | (rw[if_neg (by decide +kernel)];exact⟨rfl,rfl⟩)
theorem searchGames_said:Rows.SearchGamesSaid :=
 OpenClaim.holds_of_wide 6 Tryz.f6 rfl rfl rfl rfl rfl rfl rfl ⟨rfl,rfl,rfl,rfl,rfl⟩ rfl rfl rfl rfl rfl searchGames_name Tryz.func6 searchGames_facts
  searchGames_inst searchGames_wrap (λos started H enc _=>searchGames_lifted os started H enc)
set_option maxHeartbeats 40000000 in
theorem searchGames_holds:Rows.SearchGamesCardSaid :=
 Claim7.holds_tied_plain_at .later [] [.data,.data,.data,.widerDeep] true (true, "c63758b0032930f8d82eae7ac0be4ba8ebf1759d9a35e8c9fafd2972a4b6b6e3") false
  searchGames_said (λ_ h=>by cases h) (by as_aux_lemma=>kernel_rfl) (λ_ h=>by cases h) searchGames_row_tie rfl ⟨rfl,rfl⟩ (by as_aux_lemma=>kernel_rfl) rfl
  (λf fn hf hfn=>by
   obtain rfl:f=6:=Option.some.inj ((show Tryz.prog.funcNamed "padlock/padlocklaw06.SearchGames" = some 6 by as_aux_lemma=>kernel_rfl).symm.trans hf) |>.symm
   obtain rfl:fn=Tryz.f6:=(Option.some.inj (Tryz.func6.symm.trans hfn)).symm
   exact⟨by as_aux_lemma=>kernel_rfl,λj t ht=>by
    rw[Tryz.params6] at ht
    have hm:t ∈ [36]:=by simpa using Array.mem_of_getElem? ht
    have hall:([36].all λu=>!Tryz.prog.wantsStandIn u)=true:=by as_aux_lemma=>kernel_rfl
    exact (show Tryz.prog.wantsStandIn t=false by simpa using List.all_eq_true.1 hall t hm)⟩)
  (by as_aux_lemma=>kernel_rfl)
end Go.Proofs.YtgeehfnbhbibeaaGreatDoor
