/- A part of the proof: what the functions of the program compute, shown over the model. -/
import Derived.Test.YtgeehfnbhbibeaaGreatDoorProg
import Derived.KernelRfl
import Derived.Shelf.Small.Wraps
import Derived.Shelf.Strings.BuilderK
import Derived.Shelf.LaysM
import Derived.Shelf.Strconv.Itoa3
import Derived.Shelf.Bits.Mul64
import Derived.Test.YtgeehfnbhbibeaaGreatDoorPart1
import Derived.Test.YtgeehfnbhbibeaaGreatDoorPart3
set_option linter.unusedSectionVars false
set_option linter.unusedVariables false
set_option linter.unusedSimpArgs false
namespace Go.Proofs.YtgeehfnbhbibeaaGreatDoor.Rx
open Go Pad Rex Go.Proofs Go.Proofs.Tryz Sum
section
abbrev ag_:Ty:=(.pair .int (.one .int))
abbrev ab_:Type:=(Int×Int)
abbrev ar_:Ty:=(.pair .int ag_)
abbrev ah_:Type:=(Int×ab_)
abbrev co_:Ty:=(.pair .int (.pair .int (.one .bool)))
abbrev bn_:Type:=(Int×(Int×Bool))
abbrev rg_:Ty:=(.pair .str ar_)
abbrev jb_:Type:=((List UInt8)×ah_)
abbrev bq_:Ty:=(.pair ar_ (.one .int))
abbrev ae_:Type:=(ah_×Int)
abbrev ap_:Ty:=(.pair (.list .int) (.pair (.list .int) (.one (.list .int))))
abbrev aj_:Type:=((List Int)×((List Int)×(List Int)))
abbrev tr_:Ty:=(.pair .str (.pair .int (.one (.list co_))))
abbrev uv_:Type:=((List UInt8)×(Int×(List bn_)))
abbrev bo1:Ty:=(.pair .int (.pair .int (.one (.list co_))))
abbrev as0:Type:=(Int×(Int×(List bn_)))
abbrev bi1:Ty:=(.pair (.list co_) (.one ag_))
abbrev bl9:Type:=((List bn_)×ab_)
abbrev ak_:Ty:=(.pair ap_ (.one (.list .bool)))
abbrev aa_:Type:=(aj_×(List Bool))
abbrev ck_:Ty:=(.pair (.list (.list bq_)) (.one (.list .int)))
abbrev bd_:Type:=((List (List ae_))×(List Int))
abbrev aq_:Ty:=(.pair .int (.pair .int (.pair .int (.pair .int (.pair .int (.pair (.list .int) (.one .bool)))))))
abbrev al_:Type:=(Int×(Int×(Int×(Int×(Int×((List Int)×Bool))))))
abbrev bk_:Ty:=(.pair (.list ak_) (.one (.list (.list bq_))))
abbrev aw_:Type:=((List aa_)×(List (List ae_)))
abbrev os_:Ty:=(.pair .str (.pair .int (.pair .int (.pair (.list .int) (.pair (.list co_) (.pair (.list ag_) (.pair (.list .int) (.one (.list .int)))))))))
abbrev ed_:Type:=((List UInt8)×(Int×(Int×((List Int)×((List bn_)×((List ab_)×((List Int)×(List Int))))))))
abbrev ts_:Ty:=(.pair .str (.pair .int (.pair .int (.pair (.list co_) (.one aq_)))))
abbrev dw_:Type:=((List UInt8)×(Int×(Int×((List bn_)×al_))))
abbrev ao_:Ty:=(.pair (.list .str) (.pair (.list rg_) (.pair (.list tr_) (.pair (.list bo1) (.pair (.list os_) (.pair (.list bi1) (.pair .int (.one (.list co_)))))))))
abbrev ad_:Type:=((List (List UInt8))×((List jb_)×((List uv_)×((List as0)×((List ed_)×((List bl9)×(Int×(List bn_))))))))
abbrev fl_:Ty:=(.pair ao_ (.one ap_))
abbrev hx_:Type:=(ad_×aj_)
abbrev an_:Ty:=(.pair ao_ (.pair (.list ag_) (.pair (.list (.list .int)) (.pair (.list ts_) (.one .int)))))
abbrev ac_:Type:=(ad_×((List ab_)×((List (List Int))×((List dw_)×Int))))
def pow10V:List Value:=(List.range 20).map λi=>.int .u64 ((10 ^ i:Nat):Int)
def reserved:List (List UInt8):=[[97,116],[115,116,97,116,101,115],[115,116,97,114,116],[103,111,110,101],[105,102],[108,111,99,107],[119,105,116,104],[115,101,116,115],[115,112,101,110,100,115],[98,114,105,110,103,115]]
instance :Gb:=⟨λg=>cond (Nat.beq g 0) (some ⟨.list .str,reserved⟩) none,λc p=>cond (Nat.beq c 406849536) true (cond (Nat.blt c 406849536) (cond (Nat.beq c 255858689) (cond (eqS p "room.go:255") true (cond (eqS p "room.go:223") true false)) (cond (Nat.blt c 255858689) (cond (Nat.beq c 150996992) true (cond (Nat.blt c 150996992) (cond (Nat.beq c 37756929) true (cond (Nat.blt c 37756929) (cond (Nat.beq c 12589057) true (cond (Nat.blt c 12589057) (cond (Nat.beq c 12587008) true (cond (Nat.blt c 12587008) (false) (false))) (cond (Nat.beq c 12591103) true (cond (Nat.blt c 12591103) (false) (false))))) (cond (Nat.beq c 130027520) true (cond (Nat.blt c 130027520) (cond (Nat.beq c 130025472) true (cond (Nat.blt c 130025472) (false) (false))) (cond (Nat.beq c 130029568) true (cond (Nat.blt c 130029568) (false) (false))))))) (cond (Nat.beq c 226498560) true (cond (Nat.blt c 226498560) (cond (Nat.beq c 151001088) (cond (eqS p "ref.go:66") true (cond (eqS p "ref.go:196") true (cond (eqS p "ref.go:152") true (cond (eqS p "ref.go:147") true (cond (eqS p "ref.go:141") true (cond (eqS p "ref.go:121") true (cond (eqS p "prove.go:113") true (cond (eqS p "play.go:35") true (cond (eqS p "play.go:248") true false))))))))) (cond (Nat.blt c 151001088) (cond (Nat.beq c 150999040) true (cond (Nat.blt c 150999040) (false) (false))) (cond (Nat.beq c 226496512) true (cond (Nat.blt c 226496512) (false) (false))))) (cond (Nat.beq c 226500609) (cond (eqS p "ref.go:66") true false) (cond (Nat.blt c 226500609) (cond (Nat.beq c 226500608) true (cond (Nat.blt c 226500608) (false) (false))) (cond (Nat.beq c 230692865) true (cond (Nat.blt c 230692865) (false) (false))))))))) (cond (Nat.beq c 335552513) true (cond (Nat.blt c 335552513) (cond (Nat.beq c 289411072) true (cond (Nat.blt c 289411072) (cond (Nat.beq c 264243200) true (cond (Nat.blt c 264243200) (cond (Nat.beq c 255862786) true (cond (Nat.blt c 255862786) (false) (false))) (cond (Nat.beq c 264245248) true (cond (Nat.blt c 264245248) (false) (false))))) (cond (Nat.beq c 335548416) true (cond (Nat.blt c 335548416) (cond (Nat.beq c 335546368) (cond (eqS p "ref.go:14") true (cond (eqS p "play.go:30") true false)) (cond (Nat.blt c 335546368) (false) (false))) (cond (Nat.beq c 335550465) true (cond (Nat.blt c 335550465) (false) (false))))))) (cond (Nat.beq c 398462976) true (cond (Nat.blt c 398462976) (cond (Nat.beq c 343943170) true (cond (Nat.blt c 343943170) (cond (Nat.beq c 343937024) true (cond (Nat.blt c 343937024) (false) (false))) (cond (Nat.beq c 398460928) true (cond (Nat.blt c 398460928) (false) (false))))) (cond (Nat.beq c 398467073) true (cond (Nat.blt c 398467073) (cond (Nat.beq c 398465025) (cond (eqS p "room.go:337") true (cond (eqS p "room.go:291") true (cond (eqS p "room.go:151") true (cond (eqS p "ref.go:336") true (cond (eqS p "ref.go:254") true (cond (eqS p "ref.go:235") true (cond (eqS p "ref.go:182") true false))))))) (cond (Nat.blt c 398465025) (false) (false))) (false))))))))) (cond (Nat.beq c 650119168) true (cond (Nat.blt c 650119168) (cond (Nat.beq c 511707136) true (cond (Nat.blt c 511707136) (cond (Nat.beq c 457191426) true (cond (Nat.blt c 457191426) (cond (Nat.beq c 406855681) true (cond (Nat.blt c 406855681) (cond (Nat.beq c 406853633) (cond (eqS p "ref.go:94") true (cond (eqS p "ref.go:60") true (cond (eqS p "ref.go:170") true (cond (eqS p "play.go:95") true (cond (eqS p "play.go:230") true (cond (eqS p "play.go:132") true false)))))) (cond (Nat.blt c 406853633) (false) (false))) (cond (Nat.beq c 457187329) true (cond (Nat.blt c 457187329) (false) (false))))) (cond (Nat.beq c 486543360) true (cond (Nat.blt c 486543360) (cond (Nat.beq c 486541312) true (cond (Nat.blt c 486541312) (false) (false))) (cond (Nat.beq c 486545408) true (cond (Nat.blt c 486545408) (false) (false))))))) (cond (Nat.beq c 570431488) true (cond (Nat.blt c 570431488) (cond (Nat.beq c 511715330) true (cond (Nat.blt c 511715330) (cond (Nat.beq c 511711232) true (cond (Nat.blt c 511711232) (false) (false))) (cond (Nat.beq c 570427392) true (cond (Nat.blt c 570427392) (false) (false))))) (cond (Nat.beq c 599789568) true (cond (Nat.blt c 599789568) (cond (Nat.beq c 591400960) true (cond (Nat.blt c 591400960) (false) (false))) (cond (Nat.beq c 637540353) true (cond (Nat.blt c 637540353) (false) (false))))))))) (cond (Nat.beq c 1036003330) true (cond (Nat.blt c 1036003330) (cond (Nat.beq c 683677696) true (cond (Nat.blt c 683677696) (cond (Nat.beq c 650123264) true (cond (Nat.blt c 650123264) (cond (Nat.beq c 650121216) true (cond (Nat.blt c 650121216) (false) (false))) (cond (Nat.beq c 683673600) true (cond (Nat.blt c 683673600) (false) (false))))) (cond (Nat.beq c 956305408) (cond (eqS p "mind.go:71") true false) (cond (Nat.blt c 956305408) (cond (Nat.beq c 901779456) true (cond (Nat.blt c 901779456) (false) (false))) (cond (Nat.beq c 956307457) true (cond (Nat.blt c 956307457) (false) (false))))))) (cond (Nat.beq c 1191192578) true (cond (Nat.blt c 1191192578) (cond (Nat.beq c 1052780546) true (cond (Nat.blt c 1052780546) (cond (Nat.beq c 1044391938) true (cond (Nat.blt c 1044391938) (false) (false))) (cond (Nat.beq c 1161828353) true (cond (Nat.blt c 1161828353) (false) (false))))) (cond (Nat.beq c 1207963648) true (cond (Nat.blt c 1207963648) (cond (Nat.beq c 1207961600) true (cond (Nat.blt c 1207961600) (false) (false))) (false)))))))))),λc=>cond (Nat.beq c 138545152) (some []) (cond (Nat.blt c 138545152) (none) (none)),λc=>cond (Nat.beq c 230879325) true (cond (Nat.blt c 230879325) (cond (Nat.beq c 230871129) true (cond (Nat.blt c 230871129) (false) (false))) (false)),λc=>none,λg=>cond (Nat.beq g 1) (some pow10V) none⟩
end
end Go.Proofs.YtgeehfnbhbibeaaGreatDoor.Rx
namespace Go.Proofs
section
set_option maxRecDepth 100000
def Tryz.lays121_ren:Go.Shelf.Ren:=⟨λ| 121=>190 | 214=>228 | n=>n,λ| 4=>4 | 9=>9 | n=>n,λ| n=>n⟩
theorem Tryz.lays121:Go.Proofs.Lays.n121 Tryz.prog Tryz.lays121_ren:={
 mixed:=by kernel_rfl
 f121:=Tryz.func190.trans (congrArg some (by kernel_rfl))
 f214:=Tryz.func228.trans (congrArg some (by kernel_rfl))
 t4:=Tryz.underlying4
 a4:=Tryz.isAgg4
 z4:=Tryz.sizeOf4
 v4:=Tryz.zeroValue4
 t9:=Tryz.underlying9
 a9:=Tryz.isAgg9
 z9:=Tryz.sizeOf9
 v9:=Tryz.zeroValue9 }
def Tryz.lays169_ren:Go.Shelf.Ren:=⟨λ| 169=>189 | n=>n,λ| 70=>257 | 9=>9 | 0=>0 | 72=>260 | 37=>258 | 127=>293 | 3=>3 | 5=>5 | n=>n,λ| n=>n⟩
theorem Tryz.lays169:Go.Proofs.Lays.n169 Tryz.prog Tryz.lays169_ren:={
 mixed:=by kernel_rfl
 f169:=Tryz.func189.trans (congrArg some (by kernel_rfl))
 t0:=Tryz.underlying0
 a0:=Tryz.isAgg0
 z0:=Tryz.sizeOf0
 v0:=Tryz.zeroValue0
 t3:=Tryz.underlying3
 a3:=Tryz.isAgg3
 z3:=Tryz.sizeOf3
 v3:=Tryz.zeroValue3
 t9:=Tryz.underlying9
 a9:=Tryz.isAgg9
 z9:=Tryz.sizeOf9
 v9:=Tryz.zeroValue9
 t37:=Tryz.underlying258
 a37:=Tryz.isAgg258
 z37:=Tryz.sizeOf258
 v37:=Tryz.zeroValue258
 t70:=Tryz.underlying257
 a70:=Tryz.isAgg257
 z70:=Tryz.sizeOf257
 v70:=Tryz.zeroValue257
 t72:=Tryz.underlying260
 a72:=Tryz.isAgg260
 z72:=Tryz.sizeOf260
 v72:=Tryz.zeroValue260
 t127:=Tryz.underlying293
 a127:=Tryz.isAgg293
 z127:=Tryz.sizeOf293
 v127:=Tryz.zeroValue293 }
theorem Tryz.Builder_Extra_169:Builder.Extra Tryz.prog Tryz.lays169_ren:={
 sizeBuilder:=by kernel_rfl
 liesBuilder:=by kernel_rfl
 t5:=Tryz.underlying5
 a5:=Tryz.isAgg5
 z5:=Tryz.sizeOf5
 v5:=Tryz.zeroValue5
 infoByte:=by kernel_rfl
 cellsByte:=by kernel_rfl
 sizeByte:=by kernel_rfl
 neB5:=by decide }
def Tryz.laysM171_ren:Go.Shelf.Ren:=⟨λ| 171=>188 | 243=>227 | 246=>250 | 283=>260 | 284=>261 | 285=>262 | 286=>263 | 129=>268 | 317=>267 | 318=>269 | 319=>270 | 320=>271 | 337=>276 | 338=>277 | n=>n,λ| 3=>3 | 9=>9 | 2=>2 | 4=>4 | 171=>317 | 0=>0 | 53=>239 | 37=>258 | 5=>5 | 173=>320 | 212=>328 | 51=>236 | 20=>20 | 213=>329 | 46=>211 | 232=>334 | 233=>335 | n=>n,λ| 17=>1 | 18=>2 | 19=>3 | n=>n⟩
theorem Tryz.laysM171:Go.Proofs.LaysM.n171 Tryz.prog Tryz.laysM171_ren:={
 mixed:=by kernel_rfl
 f129:=Tryz.func268.trans (congrArg some (by kernel_rfl))
 f171:=Tryz.func188.trans (congrArg some (by kernel_rfl))
 f243:=Tryz.func227.trans (congrArg some (by kernel_rfl))
 f246:=Tryz.func250.trans (congrArg some (by kernel_rfl))
 f283:=Tryz.func260.trans (congrArg some (by kernel_rfl))
 f284:=Tryz.func261.trans (congrArg some (by kernel_rfl))
 f285:=Tryz.func262.trans (congrArg some (by kernel_rfl))
 f286:=Tryz.func263.trans (congrArg some (by kernel_rfl))
 f317:=Tryz.func267.trans (congrArg some (by kernel_rfl))
 f318:=Tryz.func269.trans (congrArg some (by kernel_rfl))
 f319:=Tryz.func270.trans (congrArg some (by kernel_rfl))
 f320:=Tryz.func271.trans (congrArg some (by kernel_rfl))
 f337:=Tryz.func276.trans (congrArg some (by kernel_rfl))
 f338:=Tryz.func277.trans (congrArg some (by kernel_rfl))
 t0:=Tryz.underlying0
 a0:=Tryz.isAgg0
 z0:=Tryz.sizeOf0
 v0:=Tryz.zeroValue0
 t2:=Tryz.underlying2
 a2:=Tryz.isAgg2
 z2:=Tryz.sizeOf2
 v2:=Tryz.zeroValue2
 t3:=Tryz.underlying3
 a3:=Tryz.isAgg3
 z3:=Tryz.sizeOf3
 v3:=Tryz.zeroValue3
 t4:=Tryz.underlying4
 a4:=Tryz.isAgg4
 z4:=Tryz.sizeOf4
 v4:=Tryz.zeroValue4
 t5:=Tryz.underlying5
 a5:=Tryz.isAgg5
 z5:=Tryz.sizeOf5
 v5:=Tryz.zeroValue5
 t9:=Tryz.underlying9
 a9:=Tryz.isAgg9
 z9:=Tryz.sizeOf9
 v9:=Tryz.zeroValue9
 t20:=Tryz.underlying20
 a20:=Tryz.isAgg20
 z20:=Tryz.sizeOf20
 v20:=Tryz.zeroValue20
 t37:=Tryz.underlying258
 a37:=Tryz.isAgg258
 z37:=Tryz.sizeOf258
 v37:=Tryz.zeroValue258
 t46:=Tryz.underlying211
 a46:=Tryz.isAgg211
 z46:=Tryz.sizeOf211
 v46:=Tryz.zeroValue211
 t51:=Tryz.underlying236
 a51:=Tryz.isAgg236
 z51:=Tryz.sizeOf236
 v51:=Tryz.zeroValue236
 t53:=Tryz.underlying239
 a53:=Tryz.isAgg239
 z53:=Tryz.sizeOf239
 v53:=Tryz.zeroValue239
 t171:=Tryz.underlying317
 a171:=Tryz.isAgg317
 z171:=Tryz.sizeOf317
 v171:=Tryz.zeroValue317
 t173:=Tryz.underlying320
 a173:=Tryz.isAgg320
 z173:=Tryz.sizeOf320
 v173:=Tryz.zeroValue320
 t212:=Tryz.underlying328
 a212:=Tryz.isAgg328
 z212:=Tryz.sizeOf328
 v212:=Tryz.zeroValue328
 t213:=Tryz.underlying329
 a213:=Tryz.isAgg329
 z213:=Tryz.sizeOf329
 t232:=Tryz.underlying334
 a232:=Tryz.isAgg334
 z232:=Tryz.sizeOf334
 v232:=Tryz.zeroValue334
 t233:=Tryz.underlying335
 a233:=Tryz.isAgg335
 z233:=Tryz.sizeOf335
 v233:=Tryz.zeroValue335
 g17:=by kernel_rfl
 g18:=by kernel_rfl
 g19:=by kernel_rfl
 i0:=by kernel_rfl
 i2:=by kernel_rfl
 i3:=by kernel_rfl
 i4:=by kernel_rfl
 i5:=by kernel_rfl
 i9:=by kernel_rfl
 i20:=by kernel_rfl
 i37:=by kernel_rfl
 i46:=by kernel_rfl
 i51:=by kernel_rfl
 i53:=by kernel_rfl
 i171:=by kernel_rfl
 i173:=by kernel_rfl
 i212:=by kernel_rfl
 i232:=by kernel_rfl
 i233:=by kernel_rfl
 m17:=by kernel_rfl
 m18:=by kernel_rfl
 m19:=by kernel_rfl }
def Tryz.lays166_ren:Go.Shelf.Ren:=⟨λ| 166=>187 | 240=>226 | 276=>249 | n=>n,λ| 0=>0 | 3=>3 | 4=>4 | 9=>9 | 20=>20 | 37=>258 | 70=>257 | 72=>260 | 75=>262 | 164=>308 | 5=>5 | 80=>265 | n=>n,λ| n=>n⟩
theorem Tryz.lays166:Go.Proofs.Lays.n166 Tryz.prog Tryz.lays166_ren:={
 mixed:=by kernel_rfl
 f166:=Tryz.func187.trans (congrArg some (by kernel_rfl))
 f240:=Tryz.func226.trans (congrArg some (by kernel_rfl))
 f276:=Tryz.func249.trans (congrArg some (by kernel_rfl))
 t0:=Tryz.underlying0
 a0:=Tryz.isAgg0
 z0:=Tryz.sizeOf0
 v0:=Tryz.zeroValue0
 t3:=Tryz.underlying3
 a3:=Tryz.isAgg3
 z3:=Tryz.sizeOf3
 v3:=Tryz.zeroValue3
 t4:=Tryz.underlying4
 a4:=Tryz.isAgg4
 z4:=Tryz.sizeOf4
 v4:=Tryz.zeroValue4
 t9:=Tryz.underlying9
 a9:=Tryz.isAgg9
 z9:=Tryz.sizeOf9
 v9:=Tryz.zeroValue9
 t20:=Tryz.underlying20
 a20:=Tryz.isAgg20
 z20:=Tryz.sizeOf20
 v20:=Tryz.zeroValue20
 t37:=Tryz.underlying258
 a37:=Tryz.isAgg258
 z37:=Tryz.sizeOf258
 v37:=Tryz.zeroValue258
 t70:=Tryz.underlying257
 a70:=Tryz.isAgg257
 z70:=Tryz.sizeOf257
 v70:=Tryz.zeroValue257
 t72:=Tryz.underlying260
 a72:=Tryz.isAgg260
 z72:=Tryz.sizeOf260
 v72:=Tryz.zeroValue260
 t75:=Tryz.underlying262
 a75:=Tryz.isAgg262
 z75:=Tryz.sizeOf262
 v75:=Tryz.zeroValue262
 t164:=Tryz.underlying308
 a164:=Tryz.isAgg308
 z164:=Tryz.sizeOf308
 v164:=Tryz.zeroValue308 }
theorem Tryz.Builder_Extra_166:Builder.Extra Tryz.prog Tryz.lays166_ren:={
 sizeBuilder:=by kernel_rfl
 liesBuilder:=by kernel_rfl
 t5:=Tryz.underlying5
 a5:=Tryz.isAgg5
 z5:=Tryz.sizeOf5
 v5:=Tryz.zeroValue5
 infoByte:=by kernel_rfl
 cellsByte:=by kernel_rfl
 sizeByte:=by kernel_rfl
 neB5:=by decide }
open Go.RowKit in
theorem ad6 (b:Bool) (w:World):Calls Tryz.prog 190 #[.bool b] w λe w'=>e = .returned (.string ⟨(Lib.formatBool b).toArray⟩)∧w'=w:=Any.strconv_FormatBool Tryz.lays121 b w
open Go.RowKit Go.Sort Go.Lib in
theorem sh_Itoa (n:Int) (h0 : -9223372036854775808≤n) (h1:n≤9223372036854775807) (w:World) (htab:Lib.TabIs Tryz.prog w "internal/strconv.uint64pow10" .u64 Lib.pow10Tab) :
  Calls Tryz.prog 188 #[.int .i64 n] w λe w'=>e = .returned (.string ⟨(Lib.itoa n).toArray⟩)∧∃ k os,w'=grow (w.drewN k) os:=Any.strconv_Itoa Tryz.laysM171 n h0 h1 w htab
open Go.RowKit in
theorem bp0 (B b:Nat) (l:List UInt8) (w:World) (h:Lib.IsBuilderF 260 5 B b (Lib.byteCells l) w) (hBw:B≤w.heap.size) :
  Calls Tryz.prog 189 #[.pointer (some ⟨b,0,none⟩)] w λe w'=>e = .returned (.string ⟨l.toArray⟩)∧(Lib.IsBuilderF 260 5 B b (Lib.byteCells l) w'∧Below B w w'∧Lib.OthersKept 5 (some b) w w'):=Any.Builder_String_any_k Tryz.lays169 Tryz.Builder_Extra_169 B b l w h hBw
open Go.RowKit in
theorem zj_ (B b:Nat) (bs:List Value) (s:ByteArray) (w:World) (h:Lib.IsBuilderF 260 5 B b bs w) (hlen:bs.length+s.size≤140737488355328) (hBw:B≤w.heap.size) :
  Calls Tryz.prog 187 #[.pointer (some ⟨b,0,none⟩),.string s] w λe w'=>e = .returned (.tuple #[.int .i64 s.size,.nilIface])∧(Lib.BuilderAtF 260 5 B b (.pointer (some ⟨b,0,none⟩)) (bs++Lib.strCells s) w'∧Below B w w'∧Lib.OthersKept 5 (some b) w w'):=Any.Builder_WriteString_k Tryz.lays166 Tryz.Builder_Extra_166 B b bs s w h hlen hBw
def Tryz.lays212_ren:Go.Shelf.Ren:=⟨λ| 212=>127 | 263=>162 | 264=>163 | n=>n,λ| 46=>211 | 51=>236 | 146=>237 | 53=>239 | 148=>240 | n=>n,λ| n=>n⟩
theorem Tryz.lays212:Go.Proofs.Lays.n212 Tryz.prog Tryz.lays212_ren:={
 mixed:=by kernel_rfl
 f212:=Tryz.func127.trans (congrArg some (by kernel_rfl))
 f263:=Tryz.func162.trans (congrArg some (by kernel_rfl))
 f264:=Tryz.func163.trans (congrArg some (by kernel_rfl))
 t46:=Tryz.underlying211
 a46:=Tryz.isAgg211
 z46:=Tryz.sizeOf211
 v46:=Tryz.zeroValue211
 t51:=Tryz.underlying236
 a51:=Tryz.isAgg236
 z51:=Tryz.sizeOf236
 v51:=Tryz.zeroValue236
 t53:=Tryz.underlying239
 a53:=Tryz.isAgg239
 z53:=Tryz.sizeOf239
 v53:=Tryz.zeroValue239
 t146:=Tryz.underlying237
 a146:=Tryz.isAgg237
 z146:=Tryz.sizeOf237
 v146:=Tryz.zeroValue237
 t148:=Tryz.underlying240
 a148:=Tryz.isAgg240
 z148:=Tryz.sizeOf240
 v148:=Tryz.zeroValue240 }
theorem sh_Mul (x y:Nat) (hx:x<18446744073709551616) (hy:y<18446744073709551616) (w:World) :
  Calls Tryz.prog 127 #[.int .u64 x,.int .u64 y] w λe w'=>e = .returned (.tuple #[.int .u64 ((x * y / 18446744073709551616:Nat):Int),.int .u64 ((x * y % 18446744073709551616:Nat):Int)])∧w'=w:=Any.bits_Mul Tryz.lays212 x y hx hy w
end
end Go.Proofs
namespace Go.Proofs.YtgeehfnbhbibeaaGreatDoor.Rx
open Go Pad Rex Go.Proofs Go.RowKit Go.Proofs.Tryz Sum
section
set_option maxRecDepth 100000
set_option maxHeartbeats 400000
def ef_ (a0:Bool):Option ((List UInt8)×Unit):=cond a0 (some ([116,114,117,101],())) (some ([102,97,108,115,101],()))
theorem ok_190:cf8 prog 190 [.bool] [.str] (λx=>ef_ x.1):=by
 intro w S Fr hv vs x r hG hI ha hF
 match vs,ha with
 | [v],⟨hv1,_⟩ =>
  obtain rfl:v = .bool x.1:=ep_ (a:=ofD .bool x.1) (by rw[bt3];exact hv1) (by cases x.1<;>rfl)
  refine (ad6 x.1 w).mono λe w' he => ?_
  obtain⟨rfl,rfl⟩:=he
  refine⟨S,[],PH.Le.refl _,hI,rfl,?_⟩
  have e1:r.1=Lib.formatBool x.1:=by
   obtain⟨b,u⟩:=x
   cases b with
   | true=>obtain rfl:=a6_ hF;rfl
   | false=>obtain rfl:=a6_ hF;rfl
  have:=bi5 (hv:=λ_=>undef) (S:=S) r.1
  rw[← e1]
  exact this
noncomputable def c_190:Con prog:=cnv 190 [.bool] [.str] (λx=>ef_ x.1) ok_190
theorem sx_ {w w':World} {S:PH} {O:List HP} {B:Nat} (h:Inv w S O) (hB:B=w.heap.size) (hb:Below B w w'):Inv w' S O:=by
 subst hB
 exact h.world hb.os hb.output λb o e=>(hb.block b (i2_.1 e).1).trans e
theorem cq8 {T e:TypeId} {B b:Nat} {bs:List Value} {w w':World} (hk:∀ (k:Nat) (o:Obj),w.heap[k]?=some o→w'.heap[k]?=some o) (h:Lib.IsBuilderF T e B b bs w):Lib.IsBuilderF T e B b bs w':=by
 have key:∀ {p:Value},Lib.BuilderAtF T e B b p bs w→Lib.BuilderAtF T e B b p bs w':=by
  rintro p ⟨h1,v,h2,⟨h3,h4⟩,h5⟩
  refine⟨h1,v,hk _ _ h2,⟨h3,?_⟩,h5⟩
  rcases h4 with h4 | ⟨g,cap,cur,fz,g1,g2,g3,g4⟩
  ·exact .inl h4
  ·exact .inr ⟨g,cap,cur,fz,g1,g2,hk _ _ g3,g4⟩
 exact h.elim (λh=>.inl (key h)) λh=>.inr (key h)
theorem ap7 {w:World} {n:Nat} {os:Array Obj}:∀ (k:Nat) (o:Obj),w.heap[k]?=some o→(Go.Sort.grow (w.drewN n) os).heap[k]?=some o:=by
 intro k o h
 show (w.heap++os)[k]?=some o
 rw[Array.getElem?_append_left (i2_.1 h).1]
 exact h
theorem tab_is {w:World} {S:PH} {O:List HP} (hG:GlS S) (hI:Inv w S O):Lib.TabIs prog w "internal/strconv.uint64pow10" .u64 Lib.pow10Tab:=by
 obtain⟨T,fz,h⟩:=hG.2 1 pow10V rfl
 have h2:=Own.in_ hI.own _ _ h
 unfold Lib.TabIs World.var?
 rw[laysM171.m17]
 show (match w.heap[1]? with
  | some (.cells cs _ _)=>some cs
  | _=>none)=_
 rw[h2]
 simp[pow10V,Lib.pow10Tab]
def cg4 (n:Int):List UInt8:=Lib.itoa n++[32]
def ao4 (l:List Int):List UInt8:=l.flatMap cg4
def hy_ (ls:List (List Int)):List UInt8:=ls.flatMap ao4
def inI (n:Int):Bool:=decide (-9223372036854775808≤n)&&decide (n≤9223372036854775807)
def fx_ (a0:List (List Int)):Option ((List UInt8)×Unit):=cond (a0.all (λl=>l.all inI)&&Nat.ble (hy_ a0).length 2147483648) (some (hy_ a0,())) none
def NInv (v:Value) (n:Nat) (w0:World) (b:Nat) (acc:List UInt8) (f:Pad.Fr) (w:World):Prop :=
 Below w0.heap.size w0 w∧Lib.IsBuilderF 260 5 w0.heap.size b (Lib.byteCells acc) w∧f 3 = .pointer (some ⟨b,0,none⟩)∧f 8=v∧f 9 = .int .i64 n∧f.ds=[]
theorem bz5:∀ (k i:Nat),forS (λ(_:Nat) (_:Unit)=>some ()) k i ()=some ()
 | 0,_=>rfl
 | k+1,i=>bz5 k (i+1)
theorem sh45:Shape prog 55 false 1:=zv_ (by kernel_rfl)
theorem sh3':Shape prog 3 false 1:=zv_ (by kernel_rfl)
theorem cb_187:eh_ prog 187:=⟨_,func187,rfl,by kernel_rfl⟩
theorem cb_188:eh_ prog 188:=⟨_,func188,rfl,by kernel_rfl⟩
theorem cb_189:eh_ prog 189:=⟨_,func189,rfl,by kernel_rfl⟩
theorem bb5 {P:Program} {n k d:Nat} {ro:Option Nat} {f:Pad.Fr} {w:World} {K:Pad.Fr→World→Prop} {ty:TypeId} {pos:String} {af:Array Edge} {gd:Option (Nat×Bool)} {vs:List Value} {g:Operand} {args:Array Operand} {ct:Array TypeId} {R:Ending→World→Prop}
  (hd:Nat.blt d n=true) (hk:eh_ P k) (hg:ev f g = .func (.func k) #[] #[]) (hargs:(args.map (ev f)) ++ #[]=vs.toArray) (hc:Calls P k vs.toArray w R) (kont:∀ e w',R e w'→∃ v,e = .returned v∧K (upd f d v) w') :
  OP P n ro ⟨some d,.call ⟨.value g,args,ct⟩,ty,pos,af,gd⟩ f w K :=
 mz_ (sh_ hk hg hargs) hc λe w' he=>by
  obtain⟨v,h1,h2⟩:=kont e w' he
  exact⟨v,h1,hd,h2⟩
theorem str_op {P:Program} [Tb P] {f:Pad.Fr} {w:World} {d:Nat} {x y:Operand} {ty T2:TypeId} {pos:String} {af:Array Edge} {gd:Option (Nat×Bool)} {a b c:Str} (hx:Pad.ev f x = .string ⟨a.toArray⟩) (hy:Pad.ev f y = .string ⟨b.toArray⟩) (h:cat? a b=some c) :
  (execOp (Pad.ev f) ⟨some d,.binOp .add 9 x y T2,ty,pos,af,gd⟩).run P w = .ok (.value (.string ⟨c.toArray⟩)) w:=by
 have h1:=bp7 (P:=P) (T:=9) (w:=w) h
 have h2:=gr_ (P:=P) (T:=9) (op:=.add) (w:=w) (X:=x) (Y:=y) (v:=.string ⟨a.toArray⟩) (u:=.string ⟨b.toArray⟩) trivial
 simp[execOp,Sem.run_bind,hx,hy,h1,h2,Result.andThen]
theorem bt8 {w:World} {S:PH} {Fr:List HP} {v:Value} {ls:List (List Int)} (hG:GlS S) (hI:Inv w S Fr) (hr:RVt (.list (.list .int)) S v ls) (hin:(ls.all λl=>l.all inI)=true) (hlen:(hy_ ls).length≤2147483648) :
  Calls prog 142 [v].toArray w λe w'=>e = .returned (.string ⟨(hy_ ls).toArray⟩)∧Inv w' S Fr:=by
 letI:Enc (List Int):=(Ty.list .int).enc
 letI:Enc Int:=Ty.int.enc
 obtain⟨a0,cap0,hv2,_,hmax,_⟩:=@iw_ (List Int) (Ty.list .int).enc S v ls hr
 have hk0:ls.length≤9223372036854775807:=by
  unfold maxLen at hmax
  omega
 refine ru_ (n:=27) func142 rfl rfl rfl ?_
 refine bi_ (ba_ (wa_ (v:=.string ⟨#[]⟩) rfl rfl (dq_ ?_)))
 have hz:=zeroValue260
 refine bi_ (ba_ (wo_ (cy_ (v:=.pointer (some ⟨w.heap.size,0,none⟩)) (w':=w.alloc (.cells #[.pointer none,.slice none 0 0] 260)) rfl (by simp only[execOp,Instr.alloc,Sem.run_bind,hz w,Result.andThen_ok];rfl) (dq_ ?_))))
 have hI1:Inv (w.alloc (.cells #[.pointer none,.slice none 0 0] 260)) S Fr:=hI.world rfl rfl λb o e=>(Below.heap_alloc w _ b (i2_.1 e).1).trans e
 have hB1:Below w.heap.size w (w.alloc (.cells #[.pointer none,.slice none 0 0] 260)):=⟨rfl,rfl,rfl,by simp,λk hk=>Below.heap_alloc w _ k hk⟩
 have hD1:Lib.IsBuilderF 260 5 w.heap.size w.heap.size (Lib.byteCells []) (w.alloc (.cells #[.pointer none,.slice none 0 0] 260)):=.inl ⟨c3_ _,.slice none 0 0,Array.getElem?_push_size,⟨rfl,.inl ⟨rfl,rfl⟩⟩,by simp[Value.ownBlock]⟩
 refine bi_ (bi_ (ba_ (wm_ (v:=v) rfl rfl (wo_ (bb6 rfl underlying33 hv2 (wm_ (v:=.int .i64 0) rfl rfl (dq_ ?_)))))))
 refine as9 (λf w'=>NInv v ls.length w w.heap.size (hy_ ls) f w') ?_ ?_
 ·refine ex_ (bm3 (σ:=Unit) (k:=ls.length) (I:=λi _ f w'=>NInv v ls.length w w.heap.size (hy_ (ls.take i)) f w'∧f 10 = .int .i64 (i:Int)) (bz5 _ _) ⟨⟨hB1,hD1,rfl,rfl,rfl,rfl⟩,rfl⟩ ?_ ?_)
  ·rintro i _ f w1 o hi ⟨⟨b1,b2,b3,b4,b5,b6⟩,b7⟩ _
   have I1:=sx_ hI rfl b1
   refine bi_ (ba_ (wo_ (aa4 rfl b7 b5 (dq_ (bi_ (mw_ rfl (len_t hi) (lv_ (bi_ (ex_ ?_)))))))))
   obtain⟨l,hl⟩:∃ l,ls[i]?=some l:=⟨_,a7_ hi⟩
   have hat:at? ls (i:Int)=some l:=by rw[ay4];exact hl
   refine bi_ (ba_ (wo_ (@pa_ _ _ _ _ _ _ _ _ _ _ _ _ _ _ _ (List Int) (Ty.list .int).enc S ls 55 (i:Int) _ rfl underlying33 sh45 b4 hr b7 hat ?_)))
   have hp:cr4 (.list .int) S (cr_ v i 1) l:=rh_ (t:=.list .int) (x:=l) hr hat
   refine wo_ (bs9 (α:=List Int) (S:=S) (e:=l) rfl sh45 rfl (hp.at_ I1) λu hu => ?_)
   refine wa_ (v:=u) rfl rfl (dq_ ?_)
   obtain⟨a1,cap1,hu2,_,hmax1,_⟩:=@iw_ Int Ty.int.enc S u l hu
   have hk1:l.length≤9223372036854775807:=by
    unfold maxLen at hmax1
    omega
   refine bi_ (ba_ (wm_ (v:=u) rfl rfl (wo_ (bb6 rfl underlying55 hu2 (wm_ (v:=.int .i64 0) rfl rfl (dq_ ?_))))))
   have htk:hy_ (ls.take (i+1))=hy_ (ls.take i)++ao4 l:=by
    rw[d6_,hl]
    simp[hy_]
   have hle:(hy_ (ls.take (i+1))).length≤2147483648:=by
    have:hy_ ls=hy_ (ls.take (i+1))++hy_ (ls.drop (i+1)):=by
     unfold hy_
     rw[← q4_,g1_]
    rw[this,a9_] at hlen
    omega
   have hinl:∀ n ∈ l,inI n=true:=λn hn=>f3_.1 (f3_.1 hin l (b2_ hl)) n hn
   refine as9 (λf w'=>NInv v ls.length w w.heap.size (hy_ (ls.take (i+1))) f w'∧f 10 = .int .i64 (i:Int)) ?_ ?_
   ·refine ex_ (bm3 (σ:=Unit) (k:=l.length) (I:=λj _ f w'=>NInv v ls.length w w.heap.size (hy_ (ls.take i)++ao4 (l.take j)) f w'∧f 10 = .int .i64 (i:Int)∧f 14=u∧f 15 = .int .i64 l.length∧f 16 = .int .i64 (j:Int)) (bz5 _ _)
     ⟨⟨b1,by rw[show ao4 (l.take 0)=[] from rfl,e7_];exact b2,b3,b4,b5,b6⟩,b7,rfl,rfl,rfl⟩ ?_ ?_)
    ·rintro j _ f w1 o hj ⟨⟨b1,b2,b3,b4,b5,b6⟩,b7,b8,b9,b10⟩ _
     have I1:=sx_ hI rfl b1
     refine bi_ (ba_ (wo_ (aa4 rfl b10 b9 (dq_ (bi_ (mw_ rfl (len_t hj) (lv_ (bi_ (ex_ ?_)))))))))
     obtain⟨n,hn⟩:∃ n,l[j]?=some n:=⟨_,a7_ hj⟩
     have hatn:at? l (j:Int)=some n:=by rw[ay4];exact hn
     refine bi_ (ba_ (wo_ (@pa_ _ _ _ _ _ _ _ _ _ _ _ _ _ _ _ Int Ty.int.enc S l 3 (j:Int) _ rfl underlying55 sh3' b8 hu b10 hatn ?_)))
     have hpn:cr4 .int S (cr_ u j 1) n:=rh_ (t:=.int) (x:=n) hu hatn
     refine wo_ (aw3 rfl sh3' rfl (hpn.at_ I1) ?_)
     refine wa_ (v:=.int .i64 n) rfl rfl (dq_ ?_)
     refine ba_ (wm_ (v:=.int .i64 n) rfl rfl ?_)
     have hni:=hinl n (b2_ hn)
     unfold inI at hni
     rw[a1_] at hni
     have htj:ao4 (l.take (j+1))=ao4 (l.take j)++cg4 n:=by
      rw[d6_,hn]
      simp[ao4]
     have hlej:(hy_ (ls.take i)++(ao4 (l.take j)++cg4 n)).length≤2147483648:=by
      have:ao4 l=ao4 (l.take (j+1))++ao4 (l.drop (j+1)):=by
       unfold ao4
       rw[← q4_,g1_]
      rw[htk,this,htj,a9_,a9_] at hle
      rw[a9_]
      omega
     refine wo_ (bb5 (vs:=[.int .i64 n]) rfl cb_188 rfl (args1 rfl) (sh_Itoa n (f8_ hni.1) (f8_ hni.2) w1 (tab_is hG I1)) λe w2 he => ?_)
     obtain⟨rfl,k,os,rfl⟩:=he
     refine⟨_,rfl,?_⟩
     have b1':Below w.heap.size w (Go.Sort.grow (w1.drewN k) os):=b1.trans ⟨rfl,rfl,rfl,by simp[Go.Sort.grow,World.drewN],λk hk=>by
      have h1:k<w1.heap.size:=f5_ hk b1.size
      exact (ap7 k _ (d1_ h1)).trans (d1_ h1).symm⟩
     have b2':=cq8 (ap7 (n:=k) (os:=os)) b2
     have hcat:cat? (Lib.itoa n) [32]=some (cg4 n):=by
      unfold cat?
      have:Nat.ble ((Lib.itoa n).length+([32]:Str).length) 2147483648=true:=by
       refine h5_ ?_
       have h1:(cg4 n).length=(Lib.itoa n).length+1:=by simp[cg4]
       rw[a9_,a9_,h1] at hlej
       show (Lib.itoa n).length+1≤_
       omega
      rw[this]
      rfl
     refine wo_ (cy_ (v:=.string ⟨(cg4 n).toArray⟩) (w':=Go.Sort.grow (w1.drewN k) os) rfl (str_op rfl rfl hcat) ?_)
     refine wo_ (bb5 (vs:=[.pointer (some ⟨w.heap.size,0,none⟩),.string ⟨(cg4 n).toArray⟩]) rfl cb_187 rfl (args2 b3 rfl) (zj_ w.heap.size w.heap.size (Lib.byteCells (hy_ (ls.take i)++ao4 (l.take j))) ⟨(cg4 n).toArray⟩ _ b2' ?_ b1'.size) λe w2 he => ?_)
     ·rw[Lib.byteCells_length]
      show (hy_ (ls.take i)++ao4 (l.take j)).length+(cg4 n).toArray.size≤_
      rw[List.size_toArray,a9_]
      rw[a9_,a9_] at hlej
      omega
     obtain⟨rfl,c1,c2,c3⟩:=he
     refine⟨_,rfl,dq_ ?_⟩
     have c1':Lib.IsBuilderF 260 5 w.heap.size w.heap.size (Lib.byteCells (hy_ (ls.take i)++ao4 (l.take (j+1)))) w2:=by
      rw[htj,← b3_,Lib.byteCells_append]
      exact .inr c1
     exact ba_ (wo_ (bt0 rfl b10 rfl (wm_ rfl rfl (dq_ ⟨⟨b1'.trans c2,c1',b3,b4,b5,b6⟩,b7,b8,b9,bd7 hj hk1⟩))))
    ·rintro f w1 ⟨⟨b1,b2,b3,b4,b5,b6⟩,b7,b8,b9,b10⟩
     rw[e1_,← htk] at b2
     exact bi_ (ba_ (wo_ (aa4 rfl b10 b9 (dq_ (bi_ (ji_ rfl (len_f _) (sd_ ⟨⟨b1,b2,b3,b4,b5,b6⟩,b7⟩)))))))
   ·rintro f w1 ⟨⟨b1,b2,b3,b4,b5,b6⟩,b7⟩
    refine ba_ (wo_ (bt0 rfl b7 rfl (wm_ rfl rfl (dq_ ⟨⟨b1,b2,b3,b4,b5,b6⟩,bd7 hi hk0⟩))))
  ·rintro f w1 ⟨⟨b1,b2,b3,b4,b5,b6⟩,b7⟩
   rw[e1_] at b2
   exact bi_ (ba_ (wo_ (aa4 rfl b7 b5 (dq_ (bi_ (ji_ rfl (len_f _) (sd_ ⟨b1,b2,b3,b4,b5,b6⟩)))))))
 ·rintro f w1 ⟨b1,b2,b3,b4,b5,b6⟩
  have I1:=sx_ hI rfl b1
  refine bi_ (ba_ (wo_ (bb5 (vs:=[.pointer (some ⟨w.heap.size,0,none⟩)]) rfl cb_189 rfl (args1 b3) (bp0 w.heap.size w.heap.size (hy_ ls) w1 b2 b1.size) λe w2 he => ?_)))
  obtain⟨rfl,c1,c2,c3⟩:=he
  refine⟨_,rfl,wa_ (v:=.string ⟨(hy_ ls).toArray⟩) rfl rfl (dq_ (wv_ ⟨b6,_,res1 rfl rfl,rfl,sx_ hI rfl (b1.trans c2)⟩))⟩
theorem ok_142:cf8 prog 142 [.list (.list .int)] [.str] (λx=>fx_ x.1):=by
 intro w S Fr hv vs x r hG hI ha hF
 match vs,ha with
 | [v],⟨hv1,_⟩ =>
  obtain⟨ls,u⟩:=x
  have hF:cond (ls.all (λl=>l.all inI)&&Nat.ble (hy_ ls).length 2147483648) (some (hy_ ls,())) none=some r:=hF
  obtain⟨hc,hF⟩:=bo_ hF
  simp only[a1_] at hc
  obtain⟨hin,hlen⟩:=hc
  obtain rfl:=a6_ hF
  have hr:RVt (.list (.list .int)) S v ls:=rl_ (hv:=hv) hv1
  refine (bt8 hG hI hr hin (b6_ hlen)).mono λe w' he => ?_
  obtain⟨rfl,hI'⟩:=he
  exact⟨S,[],PH.Le.refl _,hI',rfl,bi5 (hv:=λ_=>undef) (S:=S) (hy_ ls)⟩
noncomputable def c_142:Con prog:=cnv 142 [.list (.list .int)] [.str] (λx=>fx_ x.1) ok_142
end
end Go.Proofs.YtgeehfnbhbibeaaGreatDoor.Rx
namespace Go.Proofs.YtgeehfnbhbibeaaGreatDoor.Pad
open Go
section
abbrev sn:Value:=.slice none 0 0
theorem AllP.v {l:List Nat} {sps:List Sp} {f:Fr} {vals:Nat→Value} {S':PH} (h:AllP l (λj=>∀ t,sps[j]?=some t→(∀ d,t.dst=some d→f d=vals j)∧t.fact (t.deps.map vals) S')) (i:Nat) {a d:Nat} {t:Sp} {x:Value}
  (e:(l[i]?,sps[a]?,t.dst,t.fact (t.deps.map vals) S')=(some a,some t,some d,vals a=x)):f d=x :=
 h.u i (i3_ e).1 (i3_ (i3_ e).2).1 (i3_ (i3_ e).2).2
theorem fo {A:Value→Prop} {B C:Value→PH→Prop} {S:PH} {v:Value} (c:C v S) (a:A v:=by exact rfl) (b:B v S:=by exact rfl):∃ v S',A v∧S.Le S'∧B v S'∧C v S':=⟨v,S,a,lr,b,c⟩
section
variable {P:Program} {n:Nat} {ro:Option Nat} {ops:Array Oper} {sps:List Sp} {tks:List Tok} {f0:Fr} {S:PH} {i:Nat} {s:Sp}
theorem ob_ {o:Oper} (ho:(ops[i]?,o.guard)=(some o,none)) (h:∀ {vals:Nat→Value} {f:Fr} {w:World} {S':PH} {X:List HP},S.Le S' →
  AllP s.anc (λj=>∀ t,sps[j]?=some t→(∀ d,t.dst=some d→f d=vals j)∧t.fact (t.deps.map vals) S') →
  (∀ d,(∀ (j:Nat) (t:Sp),sps[j]?=some t→t.dst=some d→i ∈ t.anc∨i=j)→f d=f0 d) →
  Inv w S' (s.cons.map (lq_ tks vals)++(s.rd.map (lq_ tks vals)++X)) →
  OP P n ro o f w λf' w'=>∃ v S'',f'=wy_ f s.dst v∧S'.Le S''∧s.fact (s.deps.map (upv vals i v)) S'' ∧
   Inv w' S'' (s.prod.map (lq_ tks (upv vals i v))++(s.rd.map (lq_ tks vals)++X))):Ob P n ro ops sps tks f0 S i s :=
 λ_ _ _ _ _ a b c d=>pl_ ho (h a b c d)
end
section
variable {P:Program} {n:Nat} {ro:Option Nat} {f:Fr} {w:World} {K:Fr→World→Prop} {d k:Nat} {ty:TypeId} {pos:String} {af:Array Edge} {gd:Option (Nat×Bool)} {x y:Operand} {v:Value} {T:TypeId} {S:PH}
end
end
end Go.Proofs.YtgeehfnbhbibeaaGreatDoor.Pad
namespace Go.Proofs.YtgeehfnbhbibeaaGreatDoor.Rx
open Go Pad Rex Go.Proofs Go.Proofs.Tryz Sum
section
set_option maxRecDepth 100000
set_option maxHeartbeats 400000
def ivs (l:List Int):List Value:=l.map λn=>.int .i64 n
def as4 (m n:Nat) (a:Int):List Int:=List.replicate n a++List.replicate (m - n) 0
theorem bb7 {P:Program} {n d:Nat} {ro:Option Nat} {f:Pad.Fr} {w:World} {K:Pad.Fr→World→Prop} {ty T E B:TypeId} {pos:String} {af:Array Edge} {gd:Option (Nat×Bool)} {x y:Operand} {S:PH} {O:List HP} {g o dl dc sl sc:Nat} {ad:Addr} {cs:Array Value} {ys:List Value}
  (hd:Nat.blt d n=true) (hT:P.underlying T=some (.slice E)) (hs:(P.info? E).map (·.size)=some 1) (hx:Pad.ev f x = .slice (some ⟨g,o,none⟩) dl dc) (hy:Pad.ev f y = .slice (some ad) sl sc) (hI:Inv w S (lu_ g B cs::O))
  (hn:ys.length=Nat.min sl dl) (hsrc:∀ j v,ys[j]?=some v→w.cell? (ad.add j)=some v) (hfit:o+ys.length≤cs.size) (h1:∀ v ∈ ys,v.oneCell'=true)
  (k:∀ w',Inv w' S (lu_ g B (cs.toList.take o++ys++cs.toList.drop (o+ys.length)).toArray::O)→K (upd f d (.int .i64 (ys.length:Nat))) w') :
  OP P n ro ⟨some d,.call ⟨.builtin .copy,#[x,y],#[T,T]⟩,ty,pos,af,gd⟩ f w K:=by
 have h:=run_copy_row (P:=P) w T T ty E g o dl dc ad sl sc cs B ys hT hs hI.blk hn hsrc hfit h1
 exact cy_ hd (by simp[execOp,resolve,invoke,builtin,hx,hy,h,Result.andThen];rfl) (k _ hI.setRow)
theorem cl6 {P:Program} {n d:Nat} {ro:Option Nat} {f:Pad.Fr} {w:World} {K:Pad.Fr→World→Prop} {ty T E:TypeId} {pos:String} {af:Array Edge} {gd:Option (Nat×Bool)} {x y:Operand} {dl dc sl sc:Nat} {ap ad:Option Addr}
  (hd:Nat.blt d n=true) (hT:P.underlying T=some (.slice E)) (hs:(P.info? E).map (·.size)=some 1) (hx:Pad.ev f x = .slice ap dl dc) (hy:Pad.ev f y = .slice ad sl sc)
  (hn:Nat.min sl dl=0) (k:K (upd f d (.int .i64 0)) w) :
  OP P n ro ⟨some d,.call ⟨.builtin .copy,#[x,y],#[T,T]⟩,ty,pos,af,gd⟩ f w K:=by
 have h:=run_copy_none (P:=P) w T T ty E ap ad dl dc sl sc hT hs hn
 exact cy_ hd (by simp[execOp,resolve,invoke,builtin,hx,hy,h,Result.andThen];rfl) k
theorem op_make {n d:Nat} {ro:Option Nat} {f:Pad.Fr} {w:World} {K:Pad.Fr→World→Prop} {ty:TypeId} {pos:String} {af:Array Edge} {gd:Option (Nat×Bool)} {x y:Operand} {S:PH} {O:List HP} {m:Nat}
  (hd:Nat.blt d n=true) (hx:Pad.ev f x = .int .i64 m) (hy:Pad.ev f y = .int .i64 m) (hm:m≤2147483648) (hI:Inv w S O)
  (k:∀ g w',Inv w' S (lu_ g 3 (ivs (List.replicate m 0)).toArray::O)→K (upd f d (.slice (some ⟨g,0,none⟩) m m)) w') :
  OP prog n ro ⟨some d,.makeSlice 55 x y,ty,pos,af,gd⟩ f w K:=by
 obtain⟨bytes,zv,⟨ei,hE⟩,hb,hr⟩:=ka_ (show rf_ prog 3 .int=some (0:Int) by kernel_rfl)
 have hzv:zv = .int .i64 0:=nb_ (hr S)
 have hbb:(ei.bytes:Int) * (m:Int)≤281474976710656:=by
  have h1:(ei.bytes:Int)≤65536:=by rw[hE.hb];omega
  have h2:(ei.bytes:Int) * (m:Int)≤65536 * 2147483648:=Int.mul_le_mul h1 (by omega) (by omega) (by omega)
  omega
 have h:=run_make (P:=prog) w 55 3 ei zv underlying55 hE.hi hE.hz .i64 .i64 m m (by omega) (m5_ _) hbb (by omega)
 have hsz:ei.size=1:=hE.hs
 have hc:madeCells zv.cells ((m:Int).toNat * ei.size)=(ivs (List.replicate m 0)).toArray:=by
  have h2:=ma_ zv.cells m
  have h3:zv.cells.size=1:=by rw[hzv];rfl
  rw[h3] at h2
  rw[hsz,c1_]
  apply Array.toList_inj.1
  rw[h2,hzv]
  simp[Value.cells,ivs]
 rw[hc] at h
 exact cy_ hd (by rw[c1_] at h;simp[execOp,Sem.run_bind,hx,hy,h,Result.andThen]) (k _ _ (hI.alloc 3 _))
theorem cb_127:eh_ prog 127:=⟨_,func127,rfl,by kernel_rfl⟩
theorem ch2 {m:Nat} (h:m≤2147483648):wu64 (m:Int)=(m:Int):=by
 unfold wu64 IntKind.wrap
 simp[IntKind.signed,IntKind.bits]
 omega
theorem in3:(prog.info? 3).map (·.size)=some 1:=by kernel_rfl
theorem bx9 {m n q:Nat} {a:Int} (h:n+q≤m):(ivs (as4 m n a)).take n++ivs (List.replicate q a)++(ivs (as4 m n a)).drop (n+q)=ivs (as4 m (n+q) a):=by
 unfold ivs as4
 rw[← List.map_take,← List.map_drop,← i6_,← i6_]
 congr 1
 have h1:(List.replicate n a++List.replicate (m - n) (0:Int)).take n=List.replicate n a:=by
  rw[List.take_append_of_le_length (by simp),g6_ (by simp)]
 have h2:(List.replicate n a++List.replicate (m - n) (0:Int)).drop (n+q)=List.replicate (m - (n+q)) 0:=by
  rw[List.drop_append,List.drop_of_length_le (by simp)]
  simp
  omega
 rw[h1,h2,List.replicate_append_replicate]
theorem ivs_len (l:List Int):(ivs l).length=l.length:=by simp[ivs]
theorem cj2 {m n:Nat} {a:Int} (h:n≤m):(as4 m n a).length=m:=by simp[as4];omega
theorem rowR_at {m n j:Nat} {a:Int} (h:j<n):(ivs (as4 m n a))[j]?=some (.int .i64 a):=by
 unfold ivs as4
 rw[d5_,b1_ (by simpa using h),j4_,if_pos h]
 rfl
theorem ivs_one {l:List Int}:∀ v ∈ ivs l,v.oneCell'=true:=by
 intro v hv
 obtain⟨n,_,rfl⟩:=d2_.1 hv
 rfl
theorem sl_l {f:Pad.Fr} {w:World} {d m n g:Nat} {x y:Operand} {ty:TypeId} {pos:String} {af:Array Edge} {gd:Option (Nat×Bool)} (hx:Pad.ev f x = .slice (some ⟨g,0,none⟩) m m) (hy:Pad.ev f y = .int .i64 n) (h:n<m) :
  (execOp (Pad.ev f) ⟨some d,.slice 55 x (some y) none none,ty,pos,af,gd⟩).run prog w = .ok (.value (.slice (some ⟨g,n,none⟩) (m - n) (m - n))) w:=by
 have:=ct5 (P:=prog) (w:=w) (T:=55) (E:=3) (a:=some ⟨g,0,none⟩) (len:=m) (cap:=m) (lo:=(n:Int)) underlying55 sh3' (by omega) (by omega)
 have hne:¬ m=n:=by omega
 have e:(⟨g,0,none⟩:Addr).add (n * 1)=⟨g,n,none⟩:=by rw[q2_,fj_,b0_]
 simp only[sliced,hne,h6_,g3_,c1_,e] at this
 simp[execOp,hx,hy,this,Result.andThen]
theorem sl_h {f:Pad.Fr} {w:World} {d m n g:Nat} {x y:Operand} {ty:TypeId} {pos:String} {af:Array Edge} {gd:Option (Nat×Bool)} (hx:Pad.ev f x = .slice (some ⟨g,0,none⟩) m m) (hy:Pad.ev f y = .int .i64 n) (h:n<m) :
  (execOp (Pad.ev f) ⟨some d,.slice 55 x none (some y) none,ty,pos,af,gd⟩).run prog w = .ok (.value (.slice (some ⟨g,0,none⟩) n m)) w:=by
 have:=ct6 (P:=prog) (w:=w) (T:=55) (E:=3) (a:=some ⟨g,0,none⟩) (len:=m) (cap:=m) (hi:=(n:Int)) underlying55 sh3' (by omega) (by omega)
 have hne:¬ m=0:=by omega
 simp[sliced,hne,Addr.add] at this
 simp[execOp,hx,hy,this,Result.andThen]
theorem op_uI {n d:Nat} {ro:Option Nat} {f:Pad.Fr} {w:World} {K:Pad.Fr→World→Prop} {ty:TypeId} {pos:String} {af:Array Edge} {gd:Option (Nat×Bool)} {x:Operand} {m:Nat} (hd:Nat.blt d n=true) (hx:Pad.ev f x = .int .u64 (m:Int)) (hm:m≤2147483648)
  (k:K (upd f d (.int .i64 (m:Int))) w):OP prog n ro ⟨some d,.convert 211 3 x,ty,pos,af,gd⟩ f w K:=by
 have h64:IntKind.i64.wrap (m:Int)=m:=by rw[IntKind.wrap_i64];omega
 exact cy_ hd (by simp[execOp,hx,convert,run_underlying underlying211,run_underlying underlying3,Conv.intToInt,h64]) k
theorem ba5 {S:PH}:∀ (l:List Int),@RepL Int Ty.int.enc S (ivs l) l
 | []=>rfl
 | a::l=>⟨[.int .i64 a],ivs l,rfl,rfl,ba5 l⟩
def RI (m g:Nat) (a:Int) (S:PH) (Fr:List HP) (k:Nat) (f:Pad.Fr) (w:World):Prop :=
 k≤m∧(0<m→0<k)∧∃ S',S.Le S'∧Inv w S' (lu_ g 3 (ivs (as4 m k a)).toArray::Fr)∧f 7 = .slice (some ⟨g,0,none⟩) m m∧f 8 = .int .i64 (k:Int)∧f.ds=[]
theorem cj6 {w:World} {S:PH} {Fr:List HP} {v:Value} {m:Nat} {a:Int} (hI:Inv w S Fr) (hr:RVt (.list .int) S v [a]) (hm:m≤2147483648) :
  Calls prog 98 [v,.int .i64 (m:Int)].toArray w λe w'=>∃ u S',e = .returned u∧S.Le S'∧Inv w' S' (@Row Int Ty.int.enc 3 u (List.replicate m a)::Fr):=by
 obtain⟨a0,cap0,hv2,_,hmax,hnil,hrow⟩:=@iw_ Int Ty.int.enc S v [a] hr
 obtain⟨ad,rfl⟩:∃ ad,a0=some ad:=by
  cases a0 with
  | none=>have:=(hnil rfl).1;simp at this
  | some ad=>exact⟨ad,rfl⟩
 refine ru_ (n:=48) func98 rfl rfl rfl ?_
 refine bi_ (ba_ (wa_ (v:=sn) rfl rfl (dq_ ?_)))
 refine bi_ (bi_ (ba_ (wm_ (v:=.int .i64 m) rfl rfl (wo_ (aa4 (a:=(m:Int)) (b:=0) rfl rfl rfl (dq_ ?_))))))
 refine ji_ rfl (c2_ (by omega)) (lv_ ?_)
 refine bi_ (ba_ (wm_ (v:=v) rfl rfl (wo_ (bb6 rfl underlying55 hv2 ?_))))
 refine wo_ (ct8 (a:=1) rfl rfl underlying3 underlying211 (wm_ (v:=.int .i64 m) rfl rfl (wo_ (ct8 (a:=(m:Int)) rfl rfl underlying3 underlying211 ?_))))
 rw[ch2 hm,show wu64 1=((1:Nat):Int) from rfl]
 refine wo_ (bb5 (vs:=[.int .u64 ((1:Nat):Int),.int .u64 (m:Int)]) rfl cb_127 rfl (args2 rfl rfl) (sh_Mul 1 m (by omega) (by omega) w) λe w2 he => ?_)
 obtain⟨rfl,rfl⟩:=he
 rw[show (1 * m / 18446744073709551616:Nat)=0 by omega,show (1 * m % 18446744073709551616:Nat)=m by omega]
 refine⟨_,rfl,?_⟩
 refine wm_ (v:=.tuple #[.int .u64 ((0:Nat):Int),.int .u64 (m:Int)]) rfl rfl (wo_ (aa5 (v:=.int .u64 ((0:Nat):Int)) rfl rfl rfl (wo_ (aa5 (v:=.int .u64 (m:Int)) rfl rfl rfl (wa_ (v:=.int .u64 ((0:Nat):Int)) rfl rfl (wa_ (v:=.int .u64 (m:Int)) rfl rfl (dq_ ?_)))))))
 refine bi_ (bi_ (ba_ (wm_ (v:=.int .u64 ((0:Nat):Int)) rfl rfl (wo_ (ct9 (a:=((0:Nat):Int)) (b:=0) rfl rfl rfl (wm_ (v:=.bool false) rfl rfl (wk_ rfl rfl rfl (ns_ (v:=.int .u64 (m:Int)) rfl rfl (wk_ rfl rfl rfl (ct9 (a:=(m:Int)) (b:=9223372036854775807) rfl rfl rfl ?_))))))))))
 have hdf:decide ((9223372036854775807:Int)<(m:Int))=false:=c2_ (by omega)
 rw[hdf]
 refine wo_ (bs8 (b:=.bool false) rfl rfl rfl rfl (dq_ (ji_ rfl rfl (lv_ ?_))))
 refine bi_ (ba_ (wm_ (v:=.int .u64 (m:Int)) rfl rfl (wo_ (op_uI (m:=m) rfl rfl hm ?_))))
 refine wo_ (op_make (m:=m) rfl rfl rfl hm hI λg w3 I3=>wa_ (v:=.slice (some ⟨g,0,none⟩) m m) rfl rfl (dq_ ?_))
 have hcell:w3.cell? ad=some (.int .i64 a):=by
  obtain⟨es,h1,h2⟩:=hrow ad rfl 0 a rfl
  have h1:es=[.int .i64 a]:=h1
  have h3:=PH.cell_in I3.in_ (h2 0 (.int .i64 a) (by rw[h1];rfl))
  simpa [Addr.add] using h3
 have hl3:(ivs (List.replicate m (0:Int))).length=m:=by simp[ivs]
 refine bi_ (as9 (λf w'=>∃ k,RI m g a S Fr k f w') ?_ ?_)
 ·refine ba_ (wm_ (v:=.slice (some ⟨g,0,none⟩) m m) rfl rfl (wm_ (v:=v) rfl rfl ?_))
  by_cases h0:m=0
  ·subst h0
   refine wo_ (cl6 (dl:=0) (dc:=0) (sl:=1) (sc:=cap0) rfl underlying55 in3 rfl hv2 rfl (wa_ (v:=.int .i64 0) rfl rfl (dq_ ?_)))
   exact⟨0,c3_ _,λh=>h,S,lr,I3,rfl,rfl,rfl⟩
  ·refine wo_ (bb7 (g:=g) (o:=0) (dl:=m) (dc:=m) (sl:=1) (sc:=cap0) (ad:=ad) (ys:=[.int .i64 a]) rfl underlying55 in3 rfl hv2 I3 ?_ ?_ ?_ ?_ λw4 I4=>wa_ (v:=.int .i64 1) rfl rfl (dq_ ?_))
   ·show 1=Nat.min 1 m
    exact (Nat.min_eq_left (by omega)).symm
   ·intro j u hj
    cases j with
    | zero =>
     obtain rfl:=a6_ hj
     simpa [Addr.add] using hcell
    | succ j=>simp at hj
   ·simp[hl3]
    omega
   ·intro u hu
    simp at hu
    subst hu
    rfl
   ·refine⟨1,by omega,λ_=>by omega,S,lr,?_,rfl,rfl,rfl⟩
    have:=bx9 (m:=m) (n:=0) (q:=1) (a:=a) (by omega)
    have e0:as4 m 0 a=List.replicate m 0:=by simp[as4]
    rw[e0] at this
    rw[← this]
    exact I4
 ·rintro f w4 ⟨k0,hk0⟩
  refine bi_ (ex_ (sc_ (I:=λk f w'=>RI m g a S Fr k f w') (λk=>m - k) k0 hk0 ?_))
  rintro k f w5 ⟨r1,r2,S5,le5,r3,r4,r5,r6⟩
  refine bi_ (bi_ (ba_ (wm_ rfl r5 (wm_ rfl r4 (wo_ (bb6 rfl underlying55 rfl (wo_ (aa4 rfl rfl rfl (dq_ ?_)))))))))
  by_cases hkm:k<m
  ·refine mw_ rfl (len_t hkm) (lv_ ?_)
   refine ex_ (wp_draw (sps:=[spV 38 [] 0 (.int .i64 k),spV 39 [] 1 (.slice (some ⟨g,0,none⟩) m m),spV 40 [] 2 (.int .i64 k),spV 41 [1,2] 3 (.slice (some ⟨g,k,none⟩) (m - k) (m - k)),spV 42 [] 4 (.slice (some ⟨g,0,none⟩) m m),spV 43 [] 5 (.int .i64 k),
    spV 44 [4,5] 6 (.slice (some ⟨g,0,none⟩) k m),⟨some 45,[1,2,3,4,5,6],[7],λvs _=>fr0 vs 0 = .int .i64 (Nat.min k (m - k):Nat),[],[0],[1],λ_ h=>h⟩,spV 46 [0,1,2,3,4,5,6,7] 8 (.int .i64 ((k+Nat.min k (m - k):Nat):Int)),spV 8 (lrg 9) 9 (.int .i64 ((k+Nat.min k (m - k):Nat):Int))])
    (tks:=[⟨none,some 7,[],λ_=>lu_ g 3 (ivs (as4 m k a)).toArray⟩,⟨some 7,none,[],λ_=>lu_ g 3 (ivs (as4 m (k+Nat.min k (m - k)) a)).toArray⟩]) (O:=Fr) rfl (by kernel_rfl) r3
    ⟨ob_ rfl λl A K I=>ns_ rfl ((K 8 (yc_ rfl)).trans r5) (fo I),ob_ rfl λl A K I=>ns_ rfl ((K 7 (yc_ rfl)).trans r4) (fo I),ob_ rfl λl A K I=>ns_ rfl ((K 8 (yc_ rfl)).trans r5) (fo I),
     ob_ rfl λl A K I=>cy_ rfl (sl_l (A.v 0 rfl) (A.v 1 rfl) hkm) (fo I),ob_ rfl λl A K I=>ns_ rfl ((K 7 (yc_ rfl)).trans r4) (fo I),ob_ rfl λl A K I=>ns_ rfl ((K 8 (yc_ rfl)).trans r5) (fo I),
     ob_ rfl λl A K I=>cy_ rfl (sl_h (A.v 0 rfl) (A.v 1 rfl) hkm) (fo I),?_,?_,ob_ rfl λl A K I=>pb_ rfl (A.v 8 rfl) (fo I),trivial⟩ ?_)
   ·intro vs f w_ U X le A K I
    have hq:Nat.min k (m - k)≤k∧k+Nat.min k (m - k)≤m:=⟨Nat.min_le_left _ _,by have:Nat.min k (m - k)≤m - k:=m1_ _ _;omega⟩
    refine pl_ rfl (bb7 (g:=g) (o:=k) (dl:=m - k) (dc:=m - k) (sl:=k) (sc:=m) (ad:=⟨g,0,none⟩) (ys:=ivs (List.replicate (Nat.min k (m - k)) a)) rfl underlying55 in3 (A.v 2 rfl) (A.v 5 rfl) I (by simp[ivs]) ?_ ?_ ivs_one λw6 I6 => ?_)
    ·intro j u hj
     have hj2:j<Nat.min k (m - k):=by
      have:=(a4_.1 hj).1
      simpa [ivs] using this
     have e:u = .int .i64 a:=by
      unfold ivs at hj
      rw[d5_,j4_,if_pos hj2] at hj
      exact (a6_ hj).symm
     rw[fj_,b0_,I.cell,e]
     have:=rowR_at (m:=m) (n:=k) (j:=j) (a:=a) (by omega)
     simpa using this
    ·have:(ivs (as4 m k a)).toArray.size=m:=by simp[ivs_len,cj2 r1]
     rw[this]
     simpa [ivs] using hq.2
    ·have el:(ivs (List.replicate (Nat.min k (m - k)) a)).length=Nat.min k (m - k):=by simp[ivs]
     have e:=bx9 (m:=m) (n:=k) (q:=Nat.min k (m - k)) (a:=a) hq.2
     rw[el] at I6
     refine⟨_,U,rfl,lr,by rw[el];rfl,?_⟩
     show Inv w6 U (lu_ g 3 (ivs (as4 m (k+Nat.min k (m - k)) a)).toArray::_)
     rw[← e]
     exact I6
   ·intro vs f w_ U X le A K I
    have hq:k+Nat.min k (m - k)≤m:=by
     have:Nat.min k (m - k)≤m - k:=m1_ _ _
     omega
    have e:w64 ((k:Int)+(Nat.min k (m - k):Nat))=((k+Nat.min k (m - k):Nat):Int):=by
     rw[lw_ (by omega) (by omega)]
     rfl
    refine pl_ rfl (bt0 rfl (A.v 0 rfl) (A.v 7 rfl) ?_)
    rw[e]
    exact fo I
   ·intro vs f6 w6 S6 ds6 le6 hF hK hI6
    have hq:0<Nat.min k (m - k)∧k+Nat.min k (m - k)≤m:=by
     have h1:Nat.min k (m - k)≤m - k:=m1_ _ _
     refine⟨Nat.lt_min.2 ⟨r2 (by omega),by omega⟩,by omega⟩
    have e8:f6 8 = .int .i64 ((k+Nat.min k (m - k):Nat):Int):=hF.v 9 rfl
    have e7:f6 7 = .slice (some ⟨g,0,none⟩) m m:=(hK 7 (cn8 rfl)).trans r4
    exact⟨k+Nat.min k (m - k),by omega,hq.2,λ_=>by omega,S6,le5.trans le6,hI6,e7,e8,ds6.trans r6⟩
  ·refine ji_ rfl (c2_ (by omega)) (sd_ ?_)
   obtain rfl:k=m:=by omega
   refine bi_ (ba_ (wm_ rfl r4 (wa_ (v:=.slice (some ⟨g,0,none⟩) k k) rfl rfl (dq_ (wv_ ⟨r6,.slice (some ⟨g,0,none⟩) k k,res1 rfl rfl,_,S5,rfl,le5,?_⟩)))))
   refine Inv.shut (A:=@Row Int Ty.int.enc 3 _ (List.replicate k a)) r3 (.inr ⟨g,k,[],ivs (List.replicate k a),[],by simp,by simp[as4],ba5 _,by simp,by simp only[maxLen];omega,by simp⟩)
noncomputable def fp_ (a0:List Int) (a1:Int):Option (List Int):=match a0 with
 | [a]=>mk? a1 a
 | _=>none
noncomputable def rp_98:Rpt prog:=⟨98,[.list .int,.int],.int,3,λx=>fp_ x.1 x.2.1,λ{w S Fr hv vs x r} hG hI ha hF=>by
 obtain⟨l,c,u⟩:=x
 match vs,ha with
 | [v1,v2],⟨h1,h2,_⟩ =>
  have hF:fp_ l c=some r:=hF
  match l,hF,h1 with
  | [a],hF,h1 =>
   obtain⟨c0,c1,rfl⟩:=ag7 (show mk? c a=some r from hF)
   obtain⟨m,rfl⟩:=Int.eq_ofNat_of_zero_le c0
   obtain rfl:v2 = .int .i64 (m:Int):=nb_ (S:=S) (rl_ (hv:=hv) (t:=.int) h2)
   have hr:RVt (.list .int) S v1 [a]:=rl_ (hv:=hv) h1
   rw[c1_]
   refine (cj6 hI hr (by omega)).mono λe w' he => ?_
   obtain⟨u,S',h3,h4,h5⟩:=he
   exact⟨u,S',h3,h4,h5⟩⟩
end
section
set_option maxRecDepth 100000
set_option maxHeartbeats 0
theorem cz_140:rf_ prog 3 .int=some (show Int from 0):=by kernel_rfl
theorem ce_140:Rex.elemOf prog 55=some 3:=by kernel_rfl
noncomputable def yx_:Cpy prog:=⟨140,.int,3,λhc hI h=>bf8 func140 rfl rfl rfl ce_140 cz_140 rfl hc hI h⟩
theorem cz_141:rf_ prog 4 .bool=some (show Bool from false):=by kernel_rfl
theorem ce_141:Rex.elemOf prog 92=some 4:=by kernel_rfl
noncomputable def cb5:Cpy prog:=⟨141,.bool,4,λhc hI h=>bf8 func141 rfl rfl rfl ce_141 cz_141 rfl hc hI h⟩
end
section
set_option maxRecDepth 100000
set_option maxHeartbeats 0
noncomputable def oa_ (a0:ad_):Option (Bool×Unit) :=
 (((cond (decide (12<(a0.1.length:Int)))
 (some (true,()))
 (cond (decide (15<(a0.2.1.length:Int)))
 (some (true,()))
 (cond (decide (14<(a0.2.2.1.length:Int)))
 (some (true,()))
 (cond (decide (20<(a0.2.2.2.1.length:Int)))
 (some (true,()))
 (cond (decide (30<(a0.2.2.2.2.1.length:Int)))
 (some (true,()))
 (cond (decide (15<(a0.2.2.2.2.2.1.length:Int)))
 (some (true,()))
 (some ((decide (20<(a0.2.2.2.2.2.2.2.length:Int))),()))))))))).bind λv0 =>
 (cond v0.1
 (some (true,()))
 ((af_ (ρ:=(Unit⊕(Bool×Unit))) (λ(v1:(Int×Unit)) =>
 (cond (decide (v1.1<(a0.1.length:Int)))
 ((at? a0.1 v1.1).bind λv2 =>
 (cond (decide (100<(v2.length:Int)))
 (some (inr (inr (true,()))))
 (some (inl ((w64 (v1.1+1)),())))))
 (some (inr (inl ()))))) (0,())).bind λv3 =>
 (ca_ v3 (λv4=>((af_ (ρ:=(Unit⊕(Bool×Unit))) (λ(v6:(Int×Unit)) =>
 (cond (decide (v6.1<(a0.2.1.length:Int)))
 ((at? a0.2.1 v6.1).bind λv7 =>
 (cond (decide (100<(v7.1.length:Int)))
 (some (inr (inr (true,()))))
 (some (inl ((w64 (v6.1+1)),())))))
 (some (inr (inl ()))))) (0,())).bind λv8 =>
 (ca_ v8 (λv9=>((af_ (ρ:=(Unit⊕(Bool×Unit))) (λ(v11:(Int×Unit)) =>
 (cond (decide (v11.1<(a0.2.2.1.length:Int)))
 ((((at? a0.2.2.1 v11.1).bind λv12 =>
 (cond (decide (100<(v12.1.length:Int)))
 (some (true,()))
 ((at? a0.2.2.1 v11.1).bind λv13 =>
 (some ((decide (20<(v13.2.2.length:Int))),())))))).bind λv14 =>
 (cond v14.1
 (some (inr (inr (true,()))))
 (some (inl ((w64 (v11.1+1)),())))))
 (some (inr (inl ()))))) (0,())).bind λv15 =>
 (ca_ v15 (λv16=>((af_ (ρ:=(Unit⊕(Bool×Unit))) (λ(v18:(Int×Unit)) =>
 (cond (decide (v18.1<(a0.2.2.2.1.length:Int)))
 ((at? a0.2.2.2.1 v18.1).bind λv19 =>
 (cond (decide (20<(v19.2.2.length:Int)))
 (some (inr (inr (true,()))))
 (some (inl ((w64 (v18.1+1)),())))))
 (some (inr (inl ()))))) (0,())).bind λv20 =>
 (ca_ v20 (λv21=>((af_ (ρ:=(Unit⊕(Bool×Unit))) (λ(v23:(Int×Unit)) =>
 (cond (decide (v23.1<(a0.2.2.2.2.1.length:Int)))
 ((at? a0.2.2.2.2.1 v23.1).bind λv24 =>
 (((cond (decide (100<(v24.1.length:Int)))
 (some (true,()))
 (cond (decide (20<(v24.2.2.2.2.1.length:Int)))
 (some (true,()))
 (cond (decide (20<(v24.2.2.2.1.length:Int)))
 (some (true,()))
 (cond (decide (20<(v24.2.2.2.2.2.1.length:Int)))
 (some (true,()))
 (cond (decide (20<(v24.2.2.2.2.2.2.1.length:Int)))
 (some (true,()))
 (some ((decide (20<(v24.2.2.2.2.2.2.2.length:Int))),())))))))).bind λv25 =>
 (cond v25.1
 (some (inr (inr (true,()))))
 (some (inl ((w64 (v23.1+1)),()))))))
 (some (inr (inl ()))))) (0,())).bind λv26 =>
 (ca_ v26 (λv27=>((af_ (ρ:=(Unit⊕(Bool×Unit))) (λ(v29:(Int×Unit)) =>
 (cond (decide (v29.1<(a0.2.2.2.2.2.1.length:Int)))
 ((at? a0.2.2.2.2.2.1 v29.1).bind λv30 =>
 (cond (decide (20<(v30.1.length:Int)))
 (some (inr (inr (true,()))))
 (some (inl ((w64 (v29.1+1)),())))))
 (some (inr (inl ()))))) (0,())).bind λv31 =>
 (ca_ v31 (λv32=>(some (false,())))
 (λv33=>(some v33)))))
 (λv28=>(some v28)))))
 (λv22=>(some v22)))))
 (λv17=>(some v17)))))
 (λv10=>(some v10)))))
 (λv5=>(some v5))))))
theorem x_51:au_ (P:=prog) (cxC [] []) (.p .z (.p (.j0 [.v 49 .bool] .z .z) (.p (.p .z (.ls [.v 3 .int] [] [] 0 .z)) (.p (.p .z (.ls [.v 4 .int] [] [] 2 .z)) (.p (.p .z (.ls [.v 5 .int] [] [] 4 (.p .z (.p (.j0 [.v 103 .bool] .z .z) .z)))) (.p (.p .z (.ls [.v 6 .int] [] [] 6 .z)) (.p (.p .z (.ls [.v 7 .int] [] [] 8 (.p .z (.p (.p .z (.j0 [.v 164 .bool] .z .z)) .z)))) (.p (.p .z (.ls [.v 9 .int] [] [] 10 .z)) .z)))))))) 51 [ao_] [.bool]=λx=>oa_ x.1:=by kernel_rfl
noncomputable def c_51:Con prog:=av_ _ _ 51 [ao_] [.bool] _ x_51
noncomputable def bt_ (a0:Int) (a1:Int) (a2:Int):Option (Bool×Unit) :=
 (cond (decide (a1≤a0))
 (some ((decide (a0≤a2)),()))
 (some (false,())))
theorem x_84:au_ (P:=prog) (cxC [] []) .z 84 [.int,.int,.int] [.bool]=λx=>bt_ x.1 x.2.1 x.2.2.1:=by kernel_rfl
noncomputable def c_84:Con prog:=av_ _ _ 84 [.int,.int,.int] [.bool] _ x_84
noncomputable def ai9  : Option ((List (List UInt8))×Unit) :=
 (some ([[97,116],[115,116,97,116,101,115],[115,116,97,114,116],[103,111,110,101],[105,102],[108,111,99,107],[119,105,116,104],[115,101,116,115],[115,112,101,110,100,115],[98,114,105,110,103,115]],()))
theorem x_156:au_ (P:=prog) (cxC [] []) .z 156 [] [(.list .str)]=λx=>ai9:=by kernel_rfl
noncomputable def c_156:Con prog:=av_ _ _ 156 [] [(.list .str)] _ x_156
noncomputable def gd_ (a0:(List (List UInt8))) (a1:Int):Option (Bool×Unit) :=
 ((af_ (ρ:=(Unit⊕(Bool×Unit))) (λ(v0:(Int×Unit)) =>
 (cond (decide (v0.1<a1))
 ((at? a0 v0.1).bind λv1 =>
 ((at? a0 a1).bind λv2 =>
 (cond (v1==v2)
 (some (inr (inr (true,()))))
 (some (inl ((w64 (v0.1+1)),()))))))
 (some (inr (inl ()))))) (0,())).bind λv3 =>
 (ca_ v3 (λv4=>(some (false,())))
 (λv5=>(some v5))))
theorem x_82:au_ (P:=prog) (cxC [] []) (.p .z (.p (.p .z (.ls [.v 5 .int] [] [] 0 (.p .z (.p (.p (.q [] .z .z) .z) .z)))) .z)) 82 [(.list .str),.int] [.bool]=λx=>gd_ x.1 x.2.1:=by kernel_rfl
noncomputable def c_82:Con prog:=av_ _ _ 82 [(.list .str),.int] [.bool] _ x_82
noncomputable def ni_ (a0:(List Int)) (a1:Int):Option (Bool×Unit) :=
 ((af_ (ρ:=(Unit⊕(Bool×Unit))) (λ(v0:(Int×Unit)) =>
 (cond (decide (v0.1<(a0.length:Int)))
 ((at? a0 v0.1).bind λv1 =>
 (cond (v1==a1)
 (some (inr (inr (true,()))))
 (some (inl ((w64 (v0.1+1)),())))))
 (some (inr (inl ()))))) (0,())).bind λv2 =>
 (ca_ v2 (λv3=>(some (false,())))
 (λv4=>(some v4))))
theorem x_117:au_ (P:=prog) (cxC [] []) (.p .z (.p (.p .z (.ls [.v 5 .int] [] [] 0 .z)) .z)) 117 [(.list .int),.int] [.bool]=λx=>ni_ x.1 x.2.1:=by kernel_rfl
noncomputable def c_117:Con prog:=av_ _ _ 117 [(.list .int),.int] [.bool] _ x_117
noncomputable def bm_ (a0:Int) (a1:Int) (a2:Int):Option (Bool×Unit) :=
 (cond (decide (a1≤a0))
 (some ((decide (a0≤a2)),()))
 (some (false,())))
theorem x_87:au_ (P:=prog) (cxC [] []) .z 87 [.int,.int,.int] [.bool]=λx=>bm_ x.1 x.2.1 x.2.2.1:=by kernel_rfl
noncomputable def c_87:Con prog:=av_ _ _ 87 [.int,.int,.int] [.bool] _ x_87
noncomputable def jm_ (a0:Int) (a1:Int) (a2:Int):Option (Bool×Unit) :=
 (cond (decide (a1≤a0))
 (some ((decide (a0≤a2)),()))
 (some (false,())))
theorem x_57:au_ (P:=prog) (cxC [] []) .z 57 [.int,.int,.int] [.bool]=λx=>jm_ x.1 x.2.1 x.2.2.1:=by kernel_rfl
noncomputable def c_57:Con prog:=av_ _ _ 57 [.int,.int,.int] [.bool] _ x_57
noncomputable def me_ (a0:al_):Option (Bool×Unit) :=
 (cond (a0.1==0)
 (cond (a0.2.1==0)
 (cond (a0.2.2.1==0)
 (cond (a0.2.2.2.1==0)
 (cond (a0.2.2.2.2.1==0)
 (cond ((a0.2.2.2.2.2.1.length:Int)==0)
 (some ((!a0.2.2.2.2.2.2),()))
 (some (false,())))
 (some (false,())))
 (some (false,())))
 (some (false,())))
 (some (false,())))
 (some (false,())))
theorem x_89:au_ (P:=prog) (cxC [] []) .z 89 [aq_] [.bool]=λx=>me_ x.1:=by kernel_rfl
noncomputable def c_89:Con prog:=av_ _ _ 89 [aq_] [.bool] _ x_89
noncomputable def hc_ (a0:(List Int)) (a1:(List Int)):Option (Bool×Unit) :=
 (cond ((a0.length:Int) != (a1.length:Int))
 (some (false,()))
 ((af_ (ρ:=(Unit⊕(Bool×Unit))) (λ(v0:(Int×Unit)) =>
 (cond (decide (v0.1<(a0.length:Int)))
 ((at? a0 v0.1).bind λv1 =>
 ((at? a1 v0.1).bind λv2 =>
 (cond (v1 != v2)
 (some (inr (inr (false,()))))
 (some (inl ((w64 (v0.1+1)),()))))))
 (some (inr (inl ()))))) (0,())).bind λv3 =>
 (ca_ v3 (λv4=>(some (true,())))
 (λv5=>(some v5)))))
theorem x_202:au_ (P:=prog) (cxC [] []) (.p .z (.p .z (.p (.p .z (.ls [.v 5 .int] [] [] 0 (.p .z (.p (.p (.q [] .z .z) .z) .z)))) .z))) 202 [(.list .int),(.list .int)] [.bool]=λx=>hc_ x.1 x.2.1:=by kernel_rfl
noncomputable def c_202:Con prog:=av_ _ _ 202 [(.list .int),(.list .int)] [.bool] _ x_202
noncomputable def eu_ (a0:(List Int)) (a1:Int):Option (Int×Unit) :=
 ((af_ (ρ:=(Int×Unit)) (λ(v0:(Int×(Int×Unit))) =>
 (cond (decide (v0.2.1<(a0.length:Int)))
 ((((at? a0 v0.2.1).bind λv1 =>
 (cond (v1==a1)
 (some ((w64 (v0.1+1)),()))
 (some (v0.1,()))))).bind λv2 =>
 (some (inl (v2.1,((w64 (v0.2.1+1)),())))))
 (some (inr (v0.1,()))))) (0,(0,()))).bind λv3 =>
 (some (v3.1,())))
theorem x_119:au_ (P:=prog) (cxC [] []) (.p .z (.p .z (.p (.p .z (.lp [.v 5 .int,.v 6 .int] [.v 5 .int] [] 0 (.p .z (.j0 [.v 5 .int] .z .z)))) .z))) 119 [(.list .int),.int] [.int]=λx=>eu_ x.1 x.2.1:=by kernel_rfl
noncomputable def c_119:Con prog:=av_ _ _ 119 [(.list .int),.int] [.int] _ x_119
noncomputable def bp_ (a0:aj_) (a1:(List bn_)):Option (Bool×Unit) :=
 ((af_ (ρ:=(Unit⊕(Bool×Unit))) (λ(v0:(Int×Unit)) =>
 (cond (decide (v0.1<(a1.length:Int)))
 ((at? a1 v0.1).bind λv1 =>
 ((at? a0.1 v1.1).bind λv2 =>
 ((at? a1 v0.1).bind λv3 =>
 ((at? a1 v0.1).bind λv4 =>
 (cond ((v2==v3.2.1)==v4.2.2)
 (some (inr (inr (false,()))))
 (some (inl ((w64 (v0.1+1)),()))))))))
 (some (inr (inl ()))))) (0,())).bind λv5 =>
 (ca_ v5 (λv6=>(some (true,())))
 (λv7=>(some v7))))
theorem x_68:au_ (P:=prog) (cxC [] []) (.p .z (.p (.p .z (.ls [.v 5 .int] [] [] 0 (.p .z (.p (.p (.q [] .z .z) .z) .z)))) .z)) 68 [ap_,(.list co_)] [.bool]=λx=>bp_ x.1 x.2.1:=by kernel_rfl
noncomputable def c_68:Con prog:=av_ _ _ 68 [ap_,(.list co_)] [.bool] _ x_68
noncomputable def ge_ (a0:aj_):Option (aj_×Unit) :=
 ((push? (α:=Int) [] a0.1).bind λv0 =>
 ((push? (α:=Int) [] a0.2.1).bind λv1 =>
 ((push? (α:=Int) [] a0.2.2).bind λv2 =>
 (some ((v0,(v1,v2)),())))))
theorem x_125:au_ (P:=prog) (cxC [] []) .z 125 [ap_] [ap_]=λx=>ge_ x.1:=by kernel_rfl
noncomputable def c_125:Con prog:=av_ _ _ 125 [ap_] [ap_] _ x_125
def an_94:An:=.z
noncomputable def cs_94 (f:List (Con prog)):List (Con prog):=f++[]
noncomputable def cl_94:List (Cpy prog):=[]
noncomputable def cx_94 (f:List (Con prog)):Cx prog:=cxC (cs_94 f) cl_94
noncomputable def g_94 (ci_:Int→Option ((List UInt8)×Unit)) (a0:Int):Option ((List UInt8)×Unit) :=
 ((sub? [48,49,50,51,52,53,54,55,56,57] (Int.tmod a0 10) (w64 ((Int.tmod a0 10)+1))).bind λv0 =>
 (cond (decide (a0<10))
 (some (v0,()))
 ((ci_ (w64 (Int.tdiv a0 10))).bind λv1 =>
 ((cat? v1.1 v0).bind λv2 =>
 (some (v2,()))))))
theorem xr_94:(λ(F:Int→Option ((List UInt8)×Unit)) (h:cf8 prog 94 [.int] [.str] (λx=>F x.1))=>au_ (cx_94 [cnv 94 [.int] [.str] _ h]) an_94 94 [.int] [.str])=λF h x=>g_94 F x.1:=by kernel_rfl
noncomputable def dv_:Nat→Int→Option ((List UInt8)×Unit)
 | 0=>λ_=>none
 | n+1=>g_94 (dv_ n)
theorem ok_94:∀ n,cf8 prog 94 [.int] [.str] (λx=>dv_ n x.1)
 | 0=>λ_ _ _ h=>(by cases h)
 | n+1=>λhG hI ha h=>(av_ _ _ 94 [.int] [.str] _ (congrFun (congrFun xr_94 (dv_ n)) (ok_94 n))).ok hG hI ha h
noncomputable def ci_ (a0:Int):Option ((List UInt8)×Unit):=dv_ 20 a0
noncomputable def c_94:Con prog:=cnv 94 [.int] [.str] (λx=>ci_ x.1) (ok_94 20)
noncomputable def hs_ (a0:aj_) (a1:Int):Option (Int×Unit) :=
 ((af_ (ρ:=(Int×Unit)) (λ(v0:(Int×(Int×Unit))) =>
 (cond (decide (v0.2.1<(a0.2.1.length:Int)))
 ((((at? a0.2.1 v0.2.1).bind λv1 =>
 (cond (v1==(w64 ((-2) - a1)))
 (some ((w64 (v0.1+1)),()))
 (some (v0.1,()))))).bind λv2 =>
 (some (inl (v2.1,((w64 (v0.2.1+1)),())))))
 (some (inr (v0.1,()))))) (0,(0,()))).bind λv3 =>
 (some (v3.1,())))
theorem x_159:au_ (P:=prog) (cxC [] []) (.p .z (.p .z (.p (.p .z (.lp [.v 5 .int,.v 6 .int] [.v 5 .int] [] 0 (.p .z (.j0 [.v 5 .int] .z .z)))) .z))) 159 [ap_,.int] [.int]=λx=>hs_ x.1 x.2.1:=by kernel_rfl
noncomputable def c_159:Con prog:=av_ _ _ 159 [ap_,.int] [.int] _ x_159
noncomputable def kh_ (a0:ac_) (a1:(List Int)):Option ((List al_)×Unit) :=
 ((af_ (ρ:=((List al_)×Unit)) (λ(v0:((List al_)×(Int×Unit))) =>
 (cond (decide (v0.2.1<(a1.length:Int)))
 ((at? a1 v0.2.1).bind λv1 =>
 ((at? a0.2.2.2.1 v1).bind λv2 =>
 ((push? (α:=al_) v0.1 [v2.2.2.2.2]).bind λv3 =>
 (some (inl (v3,((w64 (v0.2.1+1)),())))))))
 (some (inr (v0.1,()))))) ([],(0,()))).bind λv4 =>
 (some (v4.1,())))
theorem x_204:au_ (P:=prog) (cxC [] []) (.p .z (.p .z (.p (.p .z (.lp [.r 5 aq_ 80,.v 6 .int] [.r 5 aq_ 80] [] 0 .z)) .z))) 204 [an_,(.list .int)] [(.list aq_)]=λx=>kh_ x.1 x.2.1:=by kernel_rfl
noncomputable def c_204:Con prog:=av_ _ _ 204 [an_,(.list .int)] [(.list aq_)] _ x_204
noncomputable def id_ (a0:ac_) (a1:aa_) (a2:Int):Option ((List Int)×Unit) :=
 ((af_ (ρ:=((List Int)×Unit)) (λ(v0:((List Int)×(Int×Unit))) =>
 (cond (decide (v0.2.1<(a0.2.2.2.1.length:Int)))
 ((((((at? a1.2 v0.2.1).bind λv1 =>
 (cond v1
 ((at? a0.2.2.2.1 v0.2.1).bind λv2 =>
 (some ((v2.2.2.1==a2),())))
 (some (false,()))))).bind λv3 =>
 (cond v3.1
 ((push? (α:=Int) v0.1 [v0.2.1]).bind λv4 =>
 (some (v4,())))
 (some (v0.1,()))))).bind λv5 =>
 (some (inl (v5.1,((w64 (v0.2.1+1)),())))))
 (some (inr (v0.1,()))))) ([],(0,()))).bind λv6 =>
 (some (v6.1,())))
theorem x_161:au_ (P:=prog) (cxC [] []) (.p .z (.p .z (.p (.p .z (.lp [.r 7 .int 3,.v 8 .int] [.r 7 .int 3] [] 0 (.p .z (.j0 [.r 7 .int 3] (.j0 [.v 30 .bool] .z .z) .z)))) .z))) 161 [an_,ak_,.int] [(.list .int)]=λx=>id_ x.1 x.2.1 x.2.2.1:=by kernel_rfl
noncomputable def c_161:Con prog:=av_ _ _ 161 [an_,ak_,.int] [(.list .int)] _ x_161
noncomputable def db_ (a0:(List Int)) (a1:(List Int)):Option (Bool×Unit) :=
 (cond ((a0.length:Int) != (a1.length:Int))
 (some (false,()))
 ((af_ (ρ:=(Unit⊕(Bool×Unit))) (λ(v0:(Int×Unit)) =>
 (cond (decide (v0.1<(a0.length:Int)))
 ((at? a0 v0.1).bind λv1 =>
 ((at? a1 v0.1).bind λv2 =>
 (cond (v1 != v2)
 (some (inr (inr (false,()))))
 (some (inl ((w64 (v0.1+1)),()))))))
 (some (inr (inl ()))))) (0,())).bind λv3 =>
 (ca_ v3 (λv4=>(some (true,())))
 (λv5=>(some v5)))))
theorem x_22:au_ (P:=prog) (cxC [] []) (.p .z (.p .z (.p (.p .z (.ls [.v 5 .int] [] [] 0 (.p .z (.p (.p (.q [] .z .z) .z) .z)))) .z))) 22 [(.list .int),(.list .int)] [.bool]=λx=>db_ x.1 x.2.1:=by kernel_rfl
noncomputable def c_22:Con prog:=av_ _ _ 22 [(.list .int),(.list .int)] [.bool] _ x_22
noncomputable def ii_  : Option (aw_×(List Int)×Unit) :=
 ((af_ (ρ:=(((List (List ae_))×Unit)×Unit)) (λ(v0:(Int×(((List (List ae_))×Unit)×Unit))) =>
 (cond (decide (v0.1<(([[1,2],[0,3],[0],[4,1],[]]:List (List Int)).length:Int)))
 ((af_ (ρ:=((List ae_)×Unit)) (λ(v1:((List ae_)×(Int×Unit))) =>
 ((at? ([[1,2],[0,3],[0],[4,1],[]]:List (List Int)) v0.1).bind λv2 =>
 ((at? ([[1,2],[0,3],[0],[4,1],[]]:List (List Int)) v0.1).bind λv3 =>
 (cond (decide (v1.2.1<(v3.length:Int)))
 ((at? ([[1,2],[0,3],[0],[4,1],[]]:List (List Int)) v0.1).bind λv4 =>
 ((at? ([[1,2],[0,3],[0],[4,1],[]]:List (List Int)) v0.1).bind λv5 =>
 ((at? v5 v1.2.1).bind λv6 =>
 ((push? (α:=ae_) v1.1 [((0,(0,0)),v6)]).bind λv7 =>
 (some (inl (v7,((w64 (v1.2.1+1)),()))))))))
 (some (inr (v1.1,()))))))) ([],(0,()))).bind λv8 =>
 ((push? (α:=(List ae_)) v0.2.1.1 ([v8.1]:List (List ae_))).bind λv9 =>
 (some (inl ((w64 (v0.1+1)),((v9,()),()))))))
 (some (inr ((v0.2.1.1,()),()))))) (0,(([],()),()))).bind λv10 =>
 (some (((List.replicate (([[1,2],[0,3],[0],[4,1],[]]:List (List Int)).length:Int).toNat (([],([],[])),[])),v10.1.1),([3,2,4,1,0],()))))
theorem x_45:au_ (P:=prog) (cxC [] []) (.p .z (.p .z (.p .z (.p (.p .z (.lp [.v 4 .int] [] [.b (.s 3) [.keep,.row (.list bq_) 59]] 0 (.p .z (.p (.p .z (.p (.p .z (.lp [.r 5 bq_ 63,.v 6 .int] [.r 5 bq_ 63] [] 2 .z)) .z)) .z)))) .z)))) 45 [] [bk_,(.list .int)]=λx=>ii_:=by kernel_rfl
noncomputable def c_45:Con prog:=av_ _ _ 45 [] [bk_,(.list .int)] _ x_45
noncomputable def bz_ (a0:Int) (a1:Int) (a2:Int):Option (Bool×Unit) :=
 (cond (decide (a1≤a0))
 (some ((decide (a0≤a2)),()))
 (some (false,())))
theorem x_111:au_ (P:=prog) (cxC [] []) .z 111 [.int,.int,.int] [.bool]=λx=>bz_ x.1 x.2.1 x.2.2.1:=by kernel_rfl
noncomputable def c_111:Con prog:=av_ _ _ 111 [.int,.int,.int] [.bool] _ x_111
noncomputable def dz_ (a0:bd_) (a1:Int):Option (Int×Unit) :=
 ((at? a0.1 a1).bind λv0 =>
 ((af_ (ρ:=(Int×Unit)) (λ(v1:(Int×(Int×Unit))) =>
 (cond (decide (v1.2.1<(v0.length:Int)))
 ((((at? v0 v1.2.1).bind λv2 =>
 ((at? a0.2 v2.2).bind λv3 =>
 (cond (v3 != (-1))
 (some ((cm7 v1.1 v3),()))
 (some (v1.1,())))))).bind λv4 =>
 (some (inl (v4.1,((w64 (v1.2.1+1)),())))))
 (some (inr (v1.1,()))))) (1099511627776,(0,()))).bind λv5 =>
 (cond (v5.1==1099511627776)
 (some ((-1),()))
 (some (v5.1,())))))
theorem x_150:au_ (P:=prog) (cxC [] []) (.p .z (.p .z (.p (.p .z (.lp [.v 5 .int,.v 15 .int] [.v 5 .int] [] 0 (.p .z (.p .z (.j0 [.v 5 .int] .z .z))))) .z))) 150 [ck_,.int] [.int]=λx=>dz_ x.1 x.2.1:=by kernel_rfl
noncomputable def c_150:Con prog:=av_ _ _ 150 [ck_,.int] [.int] _ x_150
noncomputable def er_ (a0:(List ab_)) (a1:ab_):Option (Int×Unit) :=
 ((af_ (ρ:=(Unit⊕(Int×Unit))) (λ(v0:(Int×Unit)) =>
 (cond (decide (v0.1<(a0.length:Int)))
 ((at? a0 v0.1).bind λv1 =>
 (cond ((a1.1==v1.1)&&(a1.2==v1.2))
 (some (inr (inr (v0.1,()))))
 (some (inl ((w64 (v0.1+1)),())))))
 (some (inr (inl ()))))) (0,())).bind λv2 =>
 (ca_ v2 (λv3=>(some ((-1),())))
 (λv4=>(some v4))))
theorem x_253:au_ (P:=prog) (cxC [] []) (.p .z (.p (.p .z (.ls [.v 8 .int] [] [] 0 (.p .z (.p .z (.p (.p .z (.p (.q [] .z .z) .z)) .z))))) .z)) 253 [(.list ag_),ag_] [.int]=λx=>er_ x.1 x.2.1:=by kernel_rfl
noncomputable def c_253:Con prog:=av_ _ _ 253 [(.list ag_),ag_] [.int] _ x_253
noncomputable def es_ (a0:bd_):Option (Int×Unit) :=
 ((af_ (ρ:=(Int×Unit)) (λ(v0:(Int×(Int×Unit))) =>
 (cond (decide (v0.2.1<(a0.1.length:Int)))
 ((at? a0.1 v0.2.1).bind λv1 =>
 (some (inl ((maxI v0.1 (v1.length:Int)),((w64 (v0.2.1+1)),())))))
 (some (inr (v0.1,()))))) (1,(0,()))).bind λv2 =>
 (some (v2.1,())))
theorem x_114:au_ (P:=prog) (cxC [] []) (.p .z (.p .z (.p (.p .z (.lp [.v 3 .int,.v 9 .int] [.v 3 .int] [] 0 .z)) .z))) 114 [ck_] [.int]=λx=>es_ x.1:=by kernel_rfl
noncomputable def c_114:Con prog:=av_ _ _ 114 [ck_] [.int] _ x_114
noncomputable def gz_ (a0:Int) (a1:Int):Option (Int×Unit) :=
 ((af_ (ρ:=(Int×Unit)) (λ(v0:(Int×(Int×Unit))) =>
 (cond (decide (0<v0.2.1))
 ((md v0.1 v0.2.1).bind λv1 =>
 (some (inl (v0.2.1,(v1,())))))
 (some (inr (v0.1,()))))) (a0,(a1,()))).bind λv2 =>
 (some (v2.1,())))
theorem x_80:au_ (P:=prog) (cxC [] []) (.p .z (.p (.lp [.v 0 .int,.v 1 .int] [.v 0 .int] [] 0 (.p .z (.q [] .z .z))) .z)) 80 [.int,.int] [.int]=λx=>gz_ x.1 x.2.1:=by kernel_rfl
noncomputable def c_80:Con prog:=av_ _ _ 80 [.int,.int] [.int] _ x_80
noncomputable def bc_ (a0:Int) (a1:Int) (a2:Int):Option (Bool×Unit) :=
 (cond (decide (a1≤a0))
 (some ((decide (a0≤a2)),()))
 (some (false,())))
theorem x_165:au_ (P:=prog) (cxC [] []) .z 165 [.int,.int,.int] [.bool]=λx=>bc_ x.1 x.2.1 x.2.2.1:=by kernel_rfl
noncomputable def cc8:Con prog:=av_ _ _ 165 [.int,.int,.int] [.bool] _ x_165
noncomputable def dy_ (a0:(List (List UInt8))) (a1:(List UInt8)):Option (Int×Unit) :=
 ((af_ (ρ:=(Unit⊕(Int×Unit))) (λ(v0:(Int×Unit)) =>
 (cond (decide (v0.1<(a0.length:Int)))
 ((at? a0 v0.1).bind λv1 =>
 (cond (a1==v1)
 (some (inr (inr (v0.1,()))))
 (some (inl ((w64 (v0.1+1)),())))))
 (some (inr (inl ()))))) (0,())).bind λv2 =>
 (ca_ v2 (λv3=>(some ((-1),())))
 (λv4=>(some v4))))
theorem x_255:au_ (P:=prog) (cxC [] []) (.p .z (.p (.p .z (.ls [.v 8 .int] [] [] 0 .z)) .z)) 255 [(.list .str),.str] [.int]=λx=>dy_ x.1 x.2.1:=by kernel_rfl
noncomputable def c_255:Con prog:=av_ _ _ 255 [(.list .str),.str] [.int] _ x_255
noncomputable def vr_ (a0:(List UInt8)):Option ((List UInt8)×Unit) :=
 (some (a0,()))
theorem x_170:au_ (P:=prog) (cxC [] []) .z 170 [.str] [.str]=λx=>vr_ x.1:=by kernel_rfl
noncomputable def c_170:Con prog:=av_ _ _ 170 [.str] [.str] _ x_170
noncomputable def vq_ (a0:jb_):Option ((List UInt8)×Unit) :=
 (some (a0.1,()))
theorem x_172:au_ (P:=prog) (cxC [] []) .z 172 [rg_] [.str]=λx=>vq_ x.1:=by kernel_rfl
noncomputable def c_172:Con prog:=av_ _ _ 172 [rg_] [.str] _ x_172
noncomputable def yo_ (a0:uv_):Option ((List UInt8)×Unit) :=
 (some (a0.1,()))
theorem x_174:au_ (P:=prog) (cxC [] []) .z 174 [tr_] [.str]=λx=>yo_ x.1:=by kernel_rfl
noncomputable def c_174:Con prog:=av_ _ _ 174 [tr_] [.str] _ x_174
noncomputable def zq_ (a0:ed_):Option ((List UInt8)×Unit) :=
 (some (a0.1,()))
theorem x_212:au_ (P:=prog) (cxC [] []) .z 212 [os_] [.str]=λx=>zq_ x.1:=by kernel_rfl
noncomputable def c_212:Con prog:=av_ _ _ 212 [os_] [.str] _ x_212
noncomputable def hr_ (a0:ad_) (a1:(List Int)):Option (Bool×Unit) :=
 ((af_ (ρ:=(Unit⊕(Bool×Unit))) (λ(v0:(Int×(Int×Unit))) =>
 (cond (decide (v0.2.1<(a1.length:Int)))
 ((at? a1 v0.2.1).bind λv1 =>
 (((cond (decide (v1≤v0.1))
 (some (true,()))
 (some ((decide ((a0.2.2.1.length:Int)≤v1)),())))).bind λv2 =>
 (cond v2.1
 (some (inr (inr (false,()))))
 (some (inl (v1,((w64 (v0.2.1+1)),())))))))
 (some (inr (inl ()))))) ((-1),(0,()))).bind λv3 =>
 (ca_ v3 (λv4=>(some (true,())))
 (λv5=>(some v5))))
theorem x_213:au_ (P:=prog) (cxC [] []) (.p .z (.p .z (.p (.p .z (.ls [.v 5 .int,.v 10 .int] [] [] 0 (.p .z (.p .z (.p (.p .z (.p (.j0 [.v 23 .bool] .z .z) .z)) .z))))) .z))) 213 [ao_,(.list .int)] [.bool]=λx=>hr_ x.1 x.2.1:=by kernel_rfl
noncomputable def c_213:Con prog:=av_ _ _ 213 [ao_,(.list .int)] [.bool] _ x_213
noncomputable def fc_ (a0:(List Int)) (a1:Int):Option (Int×Unit) :=
 ((af_ (ρ:=(Unit⊕(Int×Unit))) (λ(v0:(Int×Unit)) =>
 (cond (decide (v0.1<(a0.length:Int)))
 ((at? a0 v0.1).bind λv1 =>
 (cond (a1==v1)
 (some (inr (inr (v0.1,()))))
 (some (inl ((w64 (v0.1+1)),())))))
 (some (inr (inl ()))))) (0,())).bind λv2 =>
 (ca_ v2 (λv3=>(some ((-1),())))
 (λv4=>(some v4))))
theorem x_186:au_ (P:=prog) (cxC [] []) (.p .z (.p (.p .z (.ls [.v 8 .int] [] [] 0 .z)) .z)) 186 [(.list .int),.int] [.int]=λx=>fc_ x.1 x.2.1:=by kernel_rfl
noncomputable def c_186:Con prog:=av_ _ _ 186 [(.list .int),.int] [.int] _ x_186
noncomputable def cb_ (a0:Int) (a1:Int) (a2:Int):Option (Bool×Unit) :=
 (cond (decide (a1≤a0))
 (some ((decide (a0≤a2)),()))
 (some (false,())))
theorem x_177:au_ (P:=prog) (cxC [] []) .z 177 [.int,.int,.int] [.bool]=λx=>cb_ x.1 x.2.1 x.2.2.1:=by kernel_rfl
noncomputable def cq3:Con prog:=av_ _ _ 177 [.int,.int,.int] [.bool] _ x_177
noncomputable def cf_ (a0:Int) (a1:Int) (a2:Int):Option (Bool×Unit) :=
 (cond (decide (a1≤a0))
 (some ((decide (a0≤a2)),()))
 (some (false,())))
theorem x_136:au_ (P:=prog) (cxC [] []) .z 136 [.int,.int,.int] [.bool]=λx=>cf_ x.1 x.2.1 x.2.2.1:=by kernel_rfl
noncomputable def cc9:Con prog:=av_ _ _ 136 [.int,.int,.int] [.bool] _ x_136
noncomputable def nz_ (a0:(List UInt8)):Option (Bool×Unit) :=
 (((cond (a0==[])
 (some ((a0==[]),()))
 (cond (a0==[97,116])
 (some ((a0==[97,116]),()))
 (cond (a0==[115,116,97,116,101,115])
 (some ((a0==[115,116,97,116,101,115]),()))
 (cond (a0==[115,116,97,114,116])
 (some ((a0==[115,116,97,114,116]),()))
 (cond (a0==[103,111,110,101])
 (some ((a0==[103,111,110,101]),()))
 (cond (a0==[105,102])
 (some ((a0==[105,102]),()))
 (cond (a0==[108,111,99,107])
 (some ((a0==[108,111,99,107]),()))
 (cond (a0==[119,105,116,104])
 (some ((a0==[119,105,116,104]),()))
 (cond (a0==[115,101,116,115])
 (some ((a0==[115,101,116,115]),()))
 (cond (a0==[115,112,101,110,100,115])
 (some ((a0==[115,112,101,110,100,115]),()))
 (some ((a0==[98,114,105,110,103,115]),()))))))))))))).bind λv0 =>
 (cond v0.1
 (some (false,()))
 ((af_ (ρ:=(Unit⊕(Bool×Unit))) (λ(v1:(Int×Unit)) =>
 (cond (decide (v1.1<(a0.length:Int)))
 ((((at? a0 v1.1).bind λv2 =>
 (cond (decide (((UInt8.toNat v2):Int)<97))
 (some (true,()))
 ((at? a0 v1.1).bind λv3 =>
 (some ((decide (122<((UInt8.toNat v3):Int))),())))))).bind λv4 =>
 (cond v4.1
 (some (inr (inr (false,()))))
 (some (inl ((w64 (v1.1+1)),())))))
 (some (inr (inl ()))))) (0,())).bind λv5 =>
 (ca_ v5 (λv6=>(some (true,())))
 (λv7=>(some v7))))))
theorem x_181:au_ (P:=prog) (cxC [] []) (.p .z (.p (.p .z (.j0 [.v 5 .bool] .z .z)) (.p (.p .z (.ls [.v 19 .int] [] [] 1 (.p .z (.p .z (.p (.p .z (.j0 [.v 31 .bool] .z .z)) .z))))) .z))) 181 [.str] [.bool]=λx=>nz_ x.1:=by kernel_rfl
noncomputable def c_181:Con prog:=av_ _ _ 181 [.str] [.bool] _ x_181
noncomputable def li_ (a0:al_):Option (Bool×Unit) :=
 (cond (a0.1==0)
 (cond (a0.2.1==0)
 (cond (a0.2.2.1==0)
 (cond (a0.2.2.2.1==0)
 (cond (a0.2.2.2.2.1==0)
 (cond ((a0.2.2.2.2.2.1.length:Int)==0)
 (some ((!a0.2.2.2.2.2.2),()))
 (some (false,())))
 (some (false,())))
 (some (false,())))
 (some (false,())))
 (some (false,())))
 (some (false,())))
theorem x_182:au_ (P:=prog) (cxC [] []) .z 182 [aq_] [.bool]=λx=>li_ x.1:=by kernel_rfl
noncomputable def c_182:Con prog:=av_ _ _ 182 [aq_] [.bool] _ x_182
noncomputable def jg_ (a0:(List Int)) (a1:(List Int)):Option (Int×Int×Unit) :=
 ((af_ (ρ:=(Int×((List Int)×((List Int)×Unit)))) (λ(v0:(Int×(Int×((List Int)×((List Int)×Unit))))) =>
 (cond (decide (v0.2.1<(a0.length:Int)))
 ((at? a0 v0.2.1).bind λv1 =>
 ((((at? a1 v0.2.1).bind λv2 =>
 (cond (v1==v2)
 (some ((w64 (v0.1+1)),()))
 (some (v0.1,()))))).bind λv3 =>
 (cond (decide (v1<(10:Int)))
 ((at? v0.2.2.1 v1).bind λv4 =>
 ((at? v0.2.2.1 v1).bind λv5 =>
 (cond (decide (v1<(10:Int)))
 ((at? v0.2.2.1 v1).bind λv6 =>
 ((at? v0.2.2.1 v1).bind λv7 =>
 ((at? a1 v0.2.1).bind λv8 =>
 (cond (decide (v8<(10:Int)))
 ((at? v0.2.2.2.1 v8).bind λv9 =>
 ((at? v0.2.2.2.1 v8).bind λv10 =>
 (cond (decide (v8<(10:Int)))
 ((at? v0.2.2.2.1 v8).bind λv11 =>
 ((at? v0.2.2.2.1 v8).bind λv12 =>
 (some (inl (v3.1,((w64 (v0.2.1+1)),((v0.2.2.1.set v1.toNat (w64 (v5+1))),((v0.2.2.2.1.set v8.toNat (w64 (v10+1))),()))))))))
 none)))
 none))))
 none)))
 none)))
 (some (inr (v0.1,(v0.2.2.1,(v0.2.2.2.1,()))))))) (0,(0,([0,0,0,0,0,0,0,0,0,0],([0,0,0,0,0,0,0,0,0,0],()))))).bind λv13 =>
 ((af_ (ρ:=(Int×Unit)) (λ(v14:(Int×(Int×Unit))) =>
 (cond (decide (v14.2.1<10))
 (cond (decide (v14.2.1<(10:Int)))
 ((at? v13.2.1 v14.2.1).bind λv15 =>
 ((at? v13.2.1 v14.2.1).bind λv16 =>
 (cond (decide (v14.2.1<(10:Int)))
 ((at? v13.2.2.1 v14.2.1).bind λv17 =>
 ((at? v13.2.2.1 v14.2.1).bind λv18 =>
 (some (inl ((w64 (v14.1+(cm7 v16 v18))),((w64 (v14.2.1+1)),()))))))
 none)))
 none)
 (some (inr (v14.1,()))))) (0,(0,()))).bind λv19 =>
 (some (v13.1,((w64 (v19.1 - v13.1)),())))))
theorem x_259:au_ (P:=prog) (cxC [] []) (.p .z (.p .z (.p (.p .z (.lp [.v 4 .int,.v 13 .int] [.v 4 .int] [.o (.s 6) .int,.o (.s 7) .int] 0 (.p .z (.p .z (.p (.p .z (.j0 [.v 4 .int] .z .z)) .z))))) (.p (.p .z (.lp [.v 5 .int,.v 40 .int] [.v 5 .int] [] 2 .z)) .z)))) 259 [(.list .int),(.list .int)] [.int,.int]=λx=>jg_ x.1 x.2.1:=by kernel_rfl
noncomputable def c_259:Con prog:=av_ _ _ 259 [(.list .int),(.list .int)] [.int,.int] _ x_259
noncomputable def az_ (a0:hx_) (a1:(List bn_)):Option (Bool×Unit) :=
 ((((af_ (ρ:=(Unit⊕(Bool×Unit))) (λ(v0:(Int×Unit)) =>
 (cond (decide (v0.1<(a1.length:Int)))
 ((at? a1 v0.1).bind λv1 =>
 ((at? a0.2.1 v1.1).bind λv2 =>
 (cond ((v2==v1.2.1)==v1.2.2)
 (some (inr (inr ((decide (0≤v0.1)),()))))
 (some (inl ((w64 (v0.1+1)),()))))))
 (some (inr (inl ()))))) (0,())).bind λv3 =>
 (ca_ v3 (λv4=>(some ((decide (0≤(-1))),())))
 (λv5=>(some v5))))).bind λv6 =>
 (some ((!v6.1),())))
theorem x_130:au_ (P:=prog) (cxI (λk=>cond (Nat.beq k 166) (.p .z (.j0 [.v 4 .bool] .z .z)) (cond (Nat.beq k 167) (.p .z (.p (.q [] .z .z) .z)) (cond (Nat.beq k 205) (.p .z (.p (.p .z (.ls [.v 8 .int] [] [] 0 .z)) .z)) (.z)))) (λk=>false) (cxC [] []) 4) .z 130 [(.ref fl_),(.list co_)] [.bool]=λx=>az_ x.1 x.2.1:=by kernel_rfl
noncomputable def cd0:Con prog:=av_ _ _ 130 [(.ref fl_),(.list co_)] [.bool] _ x_130
noncomputable def mh_ (a0:aa_):Option ((List UInt8)×Unit) :=
 ((af_ (ρ:=((List UInt8)×Unit)) (λ(v0:((List UInt8)×(Int×Unit))) =>
 (cond (decide (v0.2.1<(a0.2.length:Int)))
 ((at? a0.2 v0.2.1).bind λv1 =>
 ((ef_ v1).bind λv2 =>
 ((cat? v2.1 [32]).bind λv3 =>
 ((cat? v0.1 v3).bind λv4 =>
 (some (inl (v4,((w64 (v0.2.1+1)),()))))))))
 (some (inr (v0.1,()))))) ([],(0,()))).bind λv5 =>
 (some (v5.1,())))
theorem x_143:au_ (P:=prog) (cxC [c_190] []) (.p .z (.p .z (.p (.p .z (.lp [.v 3 .str,.v 9 .int] [.v 3 .str] [] 0 .z)) .z))) 143 [ak_] [.str]=λx=>mh_ x.1:=by kernel_rfl
noncomputable def c_143:Con prog:=av_ _ _ 143 [ak_] [.str] _ x_143
noncomputable def dk_ (a0:hx_) (a1:Int):Option (Int×Unit) :=
 ((af_ (ρ:=(Int×Unit)) (λ(v0:(Int×(Int×Unit))) =>
 (cond (decide (v0.2.1<(a0.2.2.1.length:Int)))
 ((((at? a0.2.2.1 v0.2.1).bind λv1 =>
 (cond (v1==(w64 ((-2) - a1)))
 (some ((w64 (v0.1+1)),()))
 (some (v0.1,()))))).bind λv2 =>
 (some (inl (v2.1,((w64 (v0.2.1+1)),())))))
 (some (inr (v0.1,()))))) (0,(0,()))).bind λv3 =>
 (some (v3.1,())))
theorem x_196:au_ (P:=prog) (cxC [] []) (.p .z (.p (.p .z (.lp [.v 4 .int,.v 13 .int] [.v 4 .int] [] 0 (.p .z (.p .z (.j0 [.v 4 .int] .z .z))))) .z)) 196 [(.ref fl_),.int] [.int]=λx=>dk_ x.1 x.2.1:=by kernel_rfl
noncomputable def c_196:Con prog:=av_ _ _ 196 [(.ref fl_),.int] [.int] _ x_196
noncomputable def aj0 (a0:ae_):Option (Bool×Unit) :=
 (some (true,()))
theorem x_64:au_ (P:=prog) (cxC [] []) .z 64 [bq_] [.bool]=λx=>aj0 x.1:=by kernel_rfl
noncomputable def c_64:Con prog:=av_ _ _ 64 [bq_] [.bool] _ x_64
noncomputable def md_ (a0:ae_) (a1:Int):Option (Bool×Unit) :=
 (cond (a0.1.2.1==4)
 (some ((a0.1.2.2==a1),()))
 (some (false,())))
theorem x_44:au_ (P:=prog) (cxC [] []) .z 44 [bq_,.int] [.bool]=λx=>md_ x.1 x.2.1:=by kernel_rfl
noncomputable def c_44:Con prog:=av_ _ _ 44 [bq_,.int] [.bool] _ x_44
end
section
set_option maxRecDepth 100000
set_option maxHeartbeats 0
noncomputable def lk_ (a0:ac_):Option (Bool×Unit) :=
 ((((oa_ a0.1).bind λv0 =>
 (cond v0.1
 (some (true,()))
 (cond (decide (10<(a0.2.1.length:Int)))
 (some (true,()))
 (cond (decide (10<(a0.2.2.1.length:Int)))
 (some (true,()))
 (some ((decide (20<(a0.2.2.2.1.length:Int))),()))))))).bind λv1 =>
 (cond v1.1
 (some (true,()))
 ((af_ (ρ:=(Unit⊕(Bool×Unit))) (λ(v2:(Int×Unit)) =>
 (cond (decide (v2.1<(a0.2.1.length:Int)))
 ((((at? a0.2.1 v2.1).bind λv3 =>
 (cond (decide (3<v3.1))
 ((at? a0.2.1 v2.1).bind λv4 =>
 (some ((decide (5<v4.2)),())))
 (some (false,()))))).bind λv5 =>
 (cond v5.1
 (some (inr (inr (true,()))))
 (some (inl ((w64 (v2.1+1)),())))))
 (some (inr (inl ()))))) (0,())).bind λv6 =>
 (ca_ v6 (λv7=>((af_ (ρ:=(Unit⊕(Bool×Unit))) (λ(v9:(Int×Unit)) =>
 (cond (decide (v9.1<(a0.2.2.1.length:Int)))
 ((at? a0.2.2.1 v9.1).bind λv10 =>
 (cond (decide (10<(v10.length:Int)))
 (some (inr (inr (true,()))))
 (some (inl ((w64 (v9.1+1)),())))))
 (some (inr (inl ()))))) (0,())).bind λv11 =>
 (ca_ v11 (λv12=>((af_ (ρ:=(Unit⊕(Bool×Unit))) (λ(v14:(Int×Unit)) =>
 (cond (decide (v14.1<(a0.2.2.2.1.length:Int)))
 ((at? a0.2.2.2.1 v14.1).bind λv15 =>
 (((cond (decide (100<(v15.1.length:Int)))
 (some (true,()))
 (cond (decide (20<(v15.2.2.2.1.length:Int)))
 (some (true,()))
 (some ((decide (10<(v15.2.2.2.2.2.2.2.2.2.1.length:Int))),()))))).bind λv16 =>
 (cond v16.1
 (some (inr (inr (true,()))))
 (some (inl ((w64 (v14.1+1)),()))))))
 (some (inr (inl ()))))) (0,())).bind λv17 =>
 (ca_ v17 (λv18=>(some (false,())))
 (λv19=>(some v19)))))
 (λv13=>(some v13)))))
 (λv8=>(some v8))))))
theorem x_23:au_ (P:=prog) (cxC [c_51] []) (.p .z (.p (.j0 [.v 27 .bool] .z .z) (.p (.p .z (.ls [.v 3 .int] [] [] 0 (.p .z (.p (.j0 [.v 50 .bool] .z .z) .z)))) (.p (.p .z (.ls [.v 4 .int] [] [] 2 .z)) (.p (.p .z (.ls [.v 5 .int] [] [] 4 (.p .z (.p (.p .z (.j0 [.v 93 .bool] .z .z)) .z)))) .z))))) 23 [an_] [.bool]=λx=>lk_ x.1:=by kernel_rfl
noncomputable def c_23:Con prog:=av_ _ _ 23 [an_] [.bool] _ x_23
noncomputable def hh_ (a0:ad_) (a1:Int) (a2:Int):Option (Bool×Unit) :=
 ((bt_ a1 0 (w64 ((a0.2.1.length:Int) - 1))).bind λv0 =>
 (cond v0.1
 ((at? a0.2.1 a1).bind λv1 =>
 ((bt_ a2 0 (w64 (v1.2.2.1 - 1))).bind λv2 =>
 (some (v2.1,()))))
 (some (false,()))))
theorem x_86:au_ (P:=prog) (cxC [c_84] []) .z 86 [ao_,.int,.int] [.bool]=λx=>hh_ x.1 x.2.1 x.2.2.1:=by kernel_rfl
noncomputable def c_86:Con prog:=av_ _ _ 86 [ao_,.int,.int] [.bool] _ x_86
noncomputable def ig_ (a0:(List UInt8)):Option (Bool×Unit) :=
 ((af_ (ρ:=(Unit⊕(Bool×Unit))) (λ(v0:(Int×Unit)) =>
 (cond (decide (v0.1<(a0.length:Int)))
 ((((at? a0 v0.1).bind λv1 =>
 (cond (decide (((UInt8.toNat v1):Int)<97))
 (some (true,()))
 ((at? a0 v0.1).bind λv2 =>
 (some ((decide (122<((UInt8.toNat v2):Int))),())))))).bind λv3 =>
 (cond v3.1
 (some (inr (inr (false,()))))
 (some (inl ((w64 (v0.1+1)),())))))
 (some (inr (inl ()))))) (0,())).bind λv4 =>
 (ca_ v4 (λv5=>((af_ (ρ:=(Unit⊕(Bool×Unit))) (λ(v7:(Int×Unit)) =>
 (cond (decide (v7.1<(([[97,116],[115,116,97,116,101,115],[115,116,97,114,116],[103,111,110,101],[105,102],[108,111,99,107],[119,105,116,104],[115,101,116,115],[115,112,101,110,100,115],[98,114,105,110,103,115]]).length:Int)))
 ((at? [[97,116],[115,116,97,116,101,115],[115,116,97,114,116],[103,111,110,101],[105,102],[108,111,99,107],[119,105,116,104],[115,101,116,115],[115,112,101,110,100,115],[98,114,105,110,103,115]] v7.1).bind λv8 =>
 (cond (v8==a0)
 (some (inr (inr (false,()))))
 (some (inl ((w64 (v7.1+1)),())))))
 (some (inr (inl ()))))) (0,())).bind λv9 =>
 (ca_ v9 (λv10=>(some ((!(a0==[])),())))
 (λv11=>(some v11)))))
 (λv6=>(some v6))))
theorem x_115:au_ (P:=prog) (cxC [c_156] []) (.p .z (.p (.p .z (.ls [.v 3 .int] [] [] 0 (.p .z (.p (.j0 [.v 21 .bool] .z .z) .z)))) (.p .z (.p (.p .z (.ls [.v 5 .int] [] [] 2 .z)) .z)))) 115 [.str] [.bool]=λx=>ig_ x.1:=by kernel_rfl
noncomputable def c_115:Con prog:=av_ _ _ 115 [.str] [.bool] _ x_115
noncomputable def cw_ (a0:ad_) (a1:Int):Option (Bool×Unit) :=
 ((bt_ a1 0 (w64 ((a0.1.length:Int) - 1))).bind λv0 =>
 (some (v0.1,())))
theorem x_83:au_ (P:=prog) (cxC [c_84] []) .z 83 [ao_,.int] [.bool]=λx=>cw_ x.1 x.2.1:=by kernel_rfl
noncomputable def c_83:Con prog:=av_ _ _ 83 [ao_,.int] [.bool] _ x_83
noncomputable def dm_ (a0:ad_) (a1:(List Int)):Option (Bool×Unit) :=
 ((af_ (ρ:=(Unit⊕(Bool×Unit))) (λ(v0:(Int×Unit)) =>
 (cond (decide (v0.1<(a1.length:Int)))
 ((((at? a1 v0.1).bind λv1 =>
 ((bt_ v1 0 (w64 ((a0.2.2.1.length:Int) - 1))).bind λv2 =>
 (cond (!v2.1)
 (some (true,()))
 (cond (decide (0<v0.1))
 ((at? a1 v0.1).bind λv3 =>
 ((at? a1 (w64 (v0.1 - 1))).bind λv4 =>
 (some ((decide (v3≤v4)),()))))
 (some (false,()))))))).bind λv5 =>
 (cond v5.1
 (some (inr (inr (false,()))))
 (some (inl ((w64 (v0.1+1)),())))))
 (some (inr (inl ()))))) (0,())).bind λv6 =>
 (ca_ v6 (λv7=>(some (true,())))
 (λv8=>(some v8))))
theorem x_116:au_ (P:=prog) (cxC [c_84] []) (.p .z (.p (.p .z (.ls [.v 5 .int] [] [] 0 (.p .z (.p (.j0 [.v 37 .bool] (.q [] .z .z) .z) .z)))) .z)) 116 [ao_,(.list .int)] [.bool]=λx=>dm_ x.1 x.2.1:=by kernel_rfl
noncomputable def c_116:Con prog:=av_ _ _ 116 [ao_,(.list .int)] [.bool] _ x_116
noncomputable def ev_ (a0:ab_):Option (Int×Unit) :=
 ((((bm_ a0.1 1 4).bind λv0 =>
 (cond (!v0.1)
 (some (true,()))
 ((bm_ a0.2 2 10).bind λv1 =>
 (some ((!v1.1),())))))).bind λv2 =>
 (cond v2.1
 (some (10,()))
 (some (0,()))))
theorem x_53:au_ (P:=prog) (cxC [c_87] []) (.p .z (.p (.j0 [.v 12 .bool] .z .z) .z)) 53 [ag_] [.int]=λx=>ev_ x.1:=by kernel_rfl
noncomputable def c_53:Con prog:=av_ _ _ 53 [ag_] [.int] _ x_53
noncomputable def gv_ (a0:ab_) (a1:(List Int)):Option (Bool×Unit) :=
 (cond ((a1.length:Int) != a0.1)
 (some (false,()))
 ((af_ (ρ:=(Unit⊕(Bool×Unit))) (λ(v0:(Int×Unit)) =>
 (cond (decide (v0.1<(a1.length:Int)))
 ((at? a1 v0.1).bind λv1 =>
 ((bm_ v1 0 (w64 (a0.2 - 1))).bind λv2 =>
 (cond (!v2.1)
 (some (inr (inr (false,()))))
 (some (inl ((w64 (v0.1+1)),()))))))
 (some (inr (inl ()))))) (0,())).bind λv3 =>
 (ca_ v3 (λv4=>(some (true,())))
 (λv5=>(some v5)))))
theorem x_88:au_ (P:=prog) (cxC [c_87] []) (.p .z (.p .z (.p (.p .z (.ls [.v 5 .int] [] [] 0 (.p .z (.p (.p (.q [] .z .z) .z) .z)))) .z))) 88 [ag_,(.list .int)] [.bool]=λx=>gv_ x.1 x.2.1:=by kernel_rfl
noncomputable def c_88:Con prog:=av_ _ _ 88 [ag_,(.list .int)] [.bool] _ x_88
noncomputable def js_ (a0:al_) (a1:al_):Option (Bool×Unit) :=
 (cond (a0.1==a1.1)
 (cond (a0.2.1==a1.2.1)
 (cond (a0.2.2.1==a1.2.2.1)
 (cond (a0.2.2.2.1==a1.2.2.2.1)
 (cond (a0.2.2.2.2.1==a1.2.2.2.2.1)
 (cond (a0.2.2.2.2.2.2==a1.2.2.2.2.2.2)
 ((hc_ a0.2.2.2.2.2.1 a1.2.2.2.2.2.1).bind λv0 =>
 (some (v0.1,())))
 (some (false,())))
 (some (false,())))
 (some (false,())))
 (some (false,())))
 (some (false,())))
 (some (false,())))
theorem x_157:au_ (P:=prog) (cxC [c_202] []) .z 157 [aq_,aq_] [.bool]=λx=>js_ x.1 x.2.1:=by kernel_rfl
noncomputable def c_157:Con prog:=av_ _ _ 157 [aq_,aq_] [.bool] _ x_157
noncomputable def jf_ (a0:(List Int)) (a1:(List Int)):Option (Int×Int×Unit) :=
 ((af_ (ρ:=(Int×Unit)) (λ(v0:(Int×(Int×Unit))) =>
 (cond (decide (v0.2.1<(a0.length:Int)))
 ((((at? a0 v0.2.1).bind λv1 =>
 ((at? a1 v0.2.1).bind λv2 =>
 (cond (v1==v2)
 (some ((w64 (v0.1+1)),()))
 (some (v0.1,())))))).bind λv3 =>
 (some (inl (v3.1,((w64 (v0.2.1+1)),())))))
 (some (inr (v0.1,()))))) (0,(0,()))).bind λv4 =>
 ((af_ (ρ:=(Int×Unit)) (λ(v5:(Int×(Int×Unit))) =>
 (cond (decide (v5.2.1<10))
 ((eu_ a0 v5.2.1).bind λv6 =>
 ((eu_ a1 v5.2.1).bind λv7 =>
 (some (inl ((w64 (v5.1+(cm7 v6.1 v7.1))),((w64 (v5.2.1+1)),()))))))
 (some (inr (v5.1,()))))) (0,(0,()))).bind λv8 =>
 (some (v4.1,((w64 (v8.1 - v4.1)),())))))
theorem x_120:au_ (P:=prog) (cxC [c_119] []) (.p .z (.p .z (.p (.p .z (.lp [.v 6 .int,.v 8 .int] [.v 6 .int] [] 0 (.p .z (.j0 [.v 6 .int] (.p (.q [] .z .z) .z) .z)))) (.p (.p .z (.lp [.v 7 .int,.v 9 .int] [.v 7 .int] [] 2 .z)) .z)))) 120 [(.list .int),(.list .int)] [.int,.int]=λx=>jf_ x.1 x.2.1:=by kernel_rfl
noncomputable def c_120:Con prog:=av_ _ _ 120 [(.list .int),(.list .int)] [.int,.int] _ x_120
noncomputable def gt_ (a0:ad_) (a1:aj_):Option (aj_×Bool×Unit) :=
 ((push? (α:=Int) [] a1.1).bind λv0 =>
 ((push? (α:=Int) [] a1.2.1).bind λv1 =>
 ((push? (α:=Int) [] a1.2.2).bind λv2 =>
 ((af_ (ρ:=(((List Int)×(((List Int)×((List Int)×((List Int)×Unit)))×Unit))⊕(aj_×(Bool×Unit)))) (λ(v3:(Int×((List Int)×(((List Int)×((List Int)×((List Int)×Unit)))×Unit)))) =>
 (cond (decide (v3.1≤100))
 ((af_ (ρ:=(Int×Unit)) (λ(v4:(Int×(Int×Unit))) =>
 (((cond (decide (v4.2.1<(a0.2.2.2.2.2.1.length:Int)))
 (some ((decide (v4.1<0)),()))
 (some (false,())))).bind λv5 =>
 (cond v5.1
 ((((at? a0.2.2.2.2.2.1 v4.2.1).bind λv6 =>
 ((((bp_ (v3.2.1,(v1,v2)) v6.1).bind λv7 =>
 (cond v7.1
 ((at? v3.2.1 v6.2.1).bind λv8 =>
 ((at? v3.2.1 v6.2.1).bind λv9 =>
 (some ((v9 != v6.2.2),()))))
 (some (false,()))))).bind λv10 =>
 (cond v10.1
 (some (v4.2.1,()))
 (some (v4.1,())))))).bind λv11 =>
 (some (inl (v11.1,((w64 (v4.2.1+1)),())))))
 (some (inr (v4.1,())))))) ((-1),(0,()))).bind λv12 =>
 (cond (decide (v12.1<0))
 (some (inr (inr ((v3.2.1,(v1,v2)),(true,())))))
 ((at? a0.2.2.2.2.2.1 v12.1).bind λv13 =>
 ((at? a0.2.2.2.2.2.1 v12.1).bind λv14 =>
 ((at? v3.2.1 v13.2.1).bind λv15 =>
 ((at? v3.2.1 v13.2.1).bind λv16 =>
 (some (inl ((w64 (v3.1+1)),((v3.2.1.set v13.2.1.toNat v14.2.2),((v3.2.2.1.1,(v3.2.2.1.2.1,(v3.2.2.1.2.2.1,()))),())))))))))))
 (some (inr (inl (v3.2.1,((v3.2.2.1.1,(v3.2.2.1.2.1,(v3.2.2.1.2.2.1,()))),()))))))) (0,(v0,(([],([],([],()))),())))).bind λv17 =>
 (ca_ v17 (λv18=>(some (([],([],[])),(false,()))))
 (λv19=>(some v19)))))))
theorem x_126:au_ (P:=prog) (cxI (λk=>.z) (λk=>Nat.beq k 68||false) (cxC [c_68] []) 2) (.p .z (.p .z (.p (.p .z (.ls [.v 7 .int] [] [.o (.c (.s 6) 0) .int,.b (.s 4) [.row .int 3,.row .int 3,.row .int 3]] 0 (.p .z (.p (.p .z (.p (.p .z (.lp [.v 8 .int,.v 9 .int] [.v 8 .int] [] 2 (.p (.j0 [.v 25 .bool] .z .z) (.j0 [.v 8 .int] (.p .z (.j0 [.v 49 .bool] .z .z)) .z)))) .z)) .z)))) .z))) 126 [ao_,ap_] [ap_,.bool]=λx=>gt_ x.1 x.2.1:=by kernel_rfl
noncomputable def c_126:Con prog:=av_ _ _ 126 [ao_,ap_] [ap_,.bool] _ x_126
noncomputable def jl_ (a0:ac_) (a1:aa_):Option (aa_×Unit) :=
 ((ge_ a1.1).bind λv0 =>
 ((push? (α:=Bool) [] a1.2).bind λv1 =>
 ((af_ (ρ:=((List Bool)×Unit)) (λ(v2:(Int×((List Bool)×Unit))) =>
 (cond (decide (v2.1<(a0.2.2.2.1.length:Int)))
 ((at? a0.2.2.2.1 v2.1).bind λv3 =>
 ((af_ (ρ:=((List Bool)×Unit)) (λ(v4:(Int×((List Bool)×Unit))) =>
 (cond (decide (v4.1<(v0.1.2.2.length:Int)))
 ((((((at? v0.1.2.2 v4.1).bind λv5 =>
 (cond (v5==v3.2.1)
 ((bp_ v0.1 v3.2.2.2.1).bind λv6 =>
 (some (v6.1,())))
 (some (false,()))))).bind λv7 =>
 (cond v7.1
 ((at? v4.2.1 v2.1).bind λv8 =>
 ((at? v4.2.1 v2.1).bind λv9 =>
 (some ((v4.2.1.set v2.1.toNat true),()))))
 (some (v4.2.1,()))))).bind λv10 =>
 (some (inl ((w64 (v4.1+1)),(v10.1,())))))
 (some (inr (v4.2.1,()))))) (0,(v2.2.1,()))).bind λv11 =>
 (some (inl ((w64 (v2.1+1)),(v11.1,()))))))
 (some (inr (v2.2.1,()))))) (0,(v1,()))).bind λv12 =>
 (some ((v0.1,v12.1),())))))
theorem x_93:au_ (P:=prog) (cxI (λk=>.z) (λk=>Nat.beq k 68||Nat.beq k 125||false) (cxC [c_68,c_125] []) 2) (.p .z (.p .z (.p (.p .z (.lp [.v 6 .int] [] [.o (.c (.s 5) 3) .bool] 0 (.p .z (.p (.p .z (.p .z (.lp [.v 8 .int] [] [.o (.c (.s 5) 3) .bool] 2 (.p .z (.j0 [.o (.c (.s 5) 3) .bool] (.j0 [.v 46 .bool] .z .z) .z))))) .z)))) .z))) 93 [an_,ak_] [ak_]=λx=>jl_ x.1 x.2.1:=by kernel_rfl
noncomputable def c_93:Con prog:=av_ _ _ 93 [an_,ak_] [ak_] _ x_93
noncomputable def ja_ (a0:aa_):Option ((List UInt8)×Unit) :=
 ((af_ (ρ:=((List UInt8)×Unit)) (λ(v0:((List UInt8)×(Int×Unit))) =>
 (cond (decide (v0.2.1<(a0.1.1.length:Int)))
 ((at? a0.1.1 v0.2.1).bind λv1 =>
 ((ci_ v1).bind λv2 =>
 ((cat? v0.1 v2.1).bind λv3 =>
 ((cat? v3 [32]).bind λv4 =>
 (some (inl (v4,((w64 (v0.2.1+1)),()))))))))
 (some (inr (v0.1,()))))) ([],(0,()))).bind λv5 =>
 ((af_ (ρ:=((List UInt8)×Unit)) (λ(v6:((List UInt8)×(Int×Unit))) =>
 (cond (decide (v6.2.1<(a0.1.2.1.length:Int)))
 ((at? a0.1.2.1 v6.2.1).bind λv7 =>
 ((ci_ (w64 (v7+10))).bind λv8 =>
 ((cat? v6.1 v8.1).bind λv9 =>
 ((cat? v9 [32]).bind λv10 =>
 (some (inl (v10,((w64 (v6.2.1+1)),()))))))))
 (some (inr (v6.1,()))))) (v5.1,(0,()))).bind λv11 =>
 ((af_ (ρ:=((List UInt8)×Unit)) (λ(v12:((List UInt8)×(Int×Unit))) =>
 (cond (decide (v12.2.1<(a0.1.2.2.length:Int)))
 ((at? a0.1.2.2 v12.2.1).bind λv13 =>
 ((ci_ v13).bind λv14 =>
 ((cat? v12.1 v14.1).bind λv15 =>
 ((cat? v15 [32]).bind λv16 =>
 (some (inl (v16,((w64 (v12.2.1+1)),()))))))))
 (some (inr (v12.1,()))))) (v11.1,(0,()))).bind λv17 =>
 ((af_ (ρ:=((List UInt8)×Unit)) (λ(v18:((List UInt8)×(Int×Unit))) =>
 (cond (decide (v18.2.1<(a0.2.length:Int)))
 ((((at? a0.2 v18.2.1).bind λv19 =>
 (cond v19
 ((ci_ v18.2.1).bind λv20 =>
 ((cat? v18.1 v20.1).bind λv21 =>
 ((cat? v21 [32]).bind λv22 =>
 (some (v22,())))))
 (some (v18.1,()))))).bind λv23 =>
 (some (inl (v23.1,((w64 (v18.2.1+1)),())))))
 (some (inr (v18.1,()))))) (v17.1,(0,()))).bind λv24 =>
 (some (v24.1,()))))))
theorem x_59:au_ (P:=prog) (cxC [c_94] []) (.p .z (.p .z (.p (.p .z (.lp [.v 3 .str,.v 4 .int] [.v 3 .str] [] 0 .z)) (.p (.p .z (.lp [.v 3 .str,.v 5 .int] [.v 3 .str] [] 2 .z)) (.p (.p .z (.lp [.v 3 .str,.v 6 .int] [.v 3 .str] [] 4 .z)) (.p (.p .z (.lp [.v 3 .str,.v 7 .int] [.v 3 .str] [] 6 (.p .z (.j0 [.v 3 .str] .z .z)))) .z)))))) 59 [ak_] [.str]=λx=>ja_ x.1:=by kernel_rfl
noncomputable def c_59:Con prog:=av_ _ _ 59 [ak_] [.str] _ x_59
noncomputable def kk_ (a0:ad_) (a1:aj_) (a2:ah_):Option (Bool×Unit) :=
 ((bt_ a2.1 0 (w64 (a0.2.2.2.2.2.2.1 - 1))).bind λv0 =>
 (cond (!v0.1)
 (some (false,()))
 ((at? a1.2.2 a2.1).bind λv1 =>
 (cond (a2.2.1==1)
 ((bt_ a2.2.2 0 (w64 ((a0.2.2.2.1.length:Int) - 1))).bind λv2 =>
 (cond v2.1
 ((at? a0.2.2.2.1 a2.2.2).bind λv3 =>
 (cond (v3.1==v1)
 ((at? a0.2.2.2.1 a2.2.2).bind λv4 =>
 ((bp_ a1 v4.2.2).bind λv5 =>
 (some (v5.1,()))))
 ((at? a0.2.2.2.1 a2.2.2).bind λv6 =>
 (cond (v6.2.1==v1)
 ((at? a0.2.2.2.1 a2.2.2).bind λv7 =>
 ((bp_ a1 v7.2.2).bind λv8 =>
 (some (v8.1,()))))
 (some (false,()))))))
 (some (false,()))))
 (cond (a2.2.1==2)
 ((bt_ a2.2.2 0 (w64 ((a0.2.2.1.length:Int) - 1))).bind λv9 =>
 (cond v9.1
 ((at? a1.2.1 a2.2.2).bind λv10 =>
 (cond (v10==v1)
 ((at? a0.2.2.1 a2.2.2).bind λv11 =>
 ((bp_ a1 v11.2.2).bind λv12 =>
 (cond v12.1
 ((hs_ a1 a2.1).bind λv13 =>
 (some ((decide (v13.1<3)),())))
 (some (false,())))))
 (some (false,()))))
 (some (false,()))))
 (cond (a2.2.1==3)
 ((bt_ a2.2.2 0 (w64 ((a0.2.2.1.length:Int) - 1))).bind λv14 =>
 (cond v14.1
 ((at? a1.2.1 a2.2.2).bind λv15 =>
 (some ((v15==(w64 ((-2) - a2.1))),())))
 (some (false,()))))
 (cond (a2.2.1==4)
 ((bt_ a2.2.2 0 (w64 ((a0.2.2.2.2.1.length:Int) - 1))).bind λv16 =>
 (cond (!v16.1)
 (some (false,()))
 ((at? a0.2.2.2.2.1 a2.2.2).bind λv17 =>
 ((af_ (ρ:=(Unit⊕(Bool×Unit))) (λ(v18:(Int×Unit)) =>
 (cond (decide (v18.1<(v17.2.2.2.1.length:Int)))
 ((at? v17.2.2.2.1 v18.1).bind λv19 =>
 ((at? a1.2.1 v19).bind λv20 =>
 (cond (v20 != (w64 ((-2) - a2.1)))
 (some (inr (inr (false,()))))
 (some (inl ((w64 (v18.1+1)),()))))))
 (some (inr (inl ()))))) (0,())).bind λv21 =>
 (ca_ v21 (λv22=>((af_ (ρ:=(Unit⊕(Bool×Unit))) (λ(v24:(Int×Unit)) =>
 (cond (decide (v24.1<(v17.2.2.2.2.2.2.2.length:Int)))
 ((at? v17.2.2.2.2.2.2.2 v24.1).bind λv25 =>
 ((at? a1.2.1 v25).bind λv26 =>
 (cond (v26 != (-1))
 (some (inr (inr (false,()))))
 (some (inl ((w64 (v24.1+1)),()))))))
 (some (inr (inl ()))))) (0,())).bind λv27 =>
 (ca_ v27 (λv28=>(cond (v17.2.1==v1)
 ((bp_ a1 v17.2.2.2.2.1).bind λv30 =>
 (cond v30.1
 ((hs_ a1 a2.1).bind λv31 =>
 (some ((decide ((w64 ((w64 (v31.1 - (v17.2.2.2.2.2.2.1.length:Int)))+(v17.2.2.2.2.2.2.2.length:Int)))≤3)),())))
 (some (false,()))))
 (some (false,()))))
 (λv29=>(some v29)))))
 (λv23=>(some v23)))))))
 (some (false,())))))))))
theorem x_123:au_ (P:=prog) (cxC [c_68,c_84,c_159] []) (.p .z (.p .z (.p (.q [] .z .z) (.p (.p .z (.p .z (.p (.p (.q [] .z .z) .z) (.p .z (.p (.p (.q [] .z .z) .z) (.p .z (.p .z (.p .z (.p (.p .z (.p .z (.p (.p .z (.ls [.v 10 .int] [] [] 1 .z)) (.p (.p .z (.ls [.v 11 .int] [] [] 3 .z)) .z)))) .z))))))))) .z)))) 123 [ao_,ap_,ar_] [.bool]=λx=>kk_ x.1 x.2.1 x.2.2.1:=by kernel_rfl
noncomputable def c_123:Con prog:=av_ _ _ 123 [ao_,ap_,ar_] [.bool] _ x_123
noncomputable def gy_ (a0:aw_) (a1:(List Int)):Option (bd_×Int×Unit) :=
 ((((bz_ (a0.1.length:Int) 1 300).bind λv0 =>
 (cond (!v0.1)
 (some (true,()))
 (cond ((a0.2.length:Int) != (a0.1.length:Int))
 (some (true,()))
 (some (((a1.length:Int) != (a0.1.length:Int)),())))))).bind λv1 =>
 (cond v1.1
 (some ((a0.2,a1),(60,())))
 ((af_ (ρ:=((((List (List ae_))×((List Int)×Unit))×Unit)⊕(bd_×(Int×Unit)))) (λ(v2:(Int×(((List (List ae_))×((List Int)×Unit))×Unit))) =>
 (cond (decide (v2.1<(a0.2.length:Int)))
 ((at? a0.2 v2.1).bind λv3 =>
 (((cond (decide (100<(v3.length:Int)))
 (some (true,()))
 ((((af_ (ρ:=(Unit⊕(Bool×Unit))) (λ(v4:(Int×Unit)) =>
 (cond (decide (v4.1<(v3.length:Int)))
 ((at? v3 v4.1).bind λv5 =>
 ((bz_ v5.2 0 (w64 ((a0.1.length:Int) - 1))).bind λv6 =>
 (cond (!v6.1)
 (some (inr (inr ((decide (0≤v4.1)),()))))
 (some (inl ((w64 (v4.1+1)),()))))))
 (some (inr (inl ()))))) (0,())).bind λv7 =>
 (ca_ v7 (λv8=>(some ((decide (0≤(-1))),())))
 (λv9=>(some v9))))).bind λv10 =>
 (some (v10.1,()))))).bind λv11 =>
 (cond v11.1
 (some (inr (inr ((a0.2,a1),(60,())))))
 (some (inl ((w64 (v2.1+1)),((v2.2.1.1,(v2.2.1.2.1,())),())))))))
 (some (inr (inl ((v2.2.1.1,(v2.2.1.2.1,())),())))))) (0,(([],([],())),()))).bind λv12 =>
 (ca_ v12 (λv13=>((af_ (ρ:=((((List (List ae_))×((List Int)×Unit))×Unit)⊕(bd_×(Int×Unit)))) (λ(v15:(Int×(((List (List ae_))×((List Int)×Unit))×Unit))) =>
 (cond (decide (v15.1<(a1.length:Int)))
 ((at? a1 v15.1).bind λv16 =>
 ((dz_ (a0.2,a1) v15.1).bind λv17 =>
 (((cond (v17.1 != (-1))
 (some ((w64 (v17.1+1)),()))
 (some (v17.1,())))).bind λv18 =>
 (((cond (v16 != 0)
 (some ((v16 != v18.1),()))
 (some (false,())))).bind λv19 =>
 (cond v19.1
 (some (inr (inr ((a0.2,a1),(60,())))))
 (some (inl ((w64 (v15.1+1)),((v15.2.1.1,(v15.2.1.2.1,())),())))))))))
 (some (inr (inl ((v15.2.1.1,(v15.2.1.2.1,())),())))))) (0,((v13.1.1,(v13.1.2.1,())),()))).bind λv20 =>
 (ca_ v20 (λv21=>(some ((a0.2,a1),(0,()))))
 (λv22=>(some v22)))))
 (λv14=>(some v14))))))
theorem x_110:au_ (P:=prog) (cxI (λk=>cond (Nat.beq k 41) (.p .z (.j0 [.v 4 .bool] .z .z)) (cond (Nat.beq k 76) (.p .z (.p (.p .z (.ls [.v 8 .int] [] [] 0 .z)) .z)) (.z))) (λk=>Nat.beq k 111||Nat.beq k 150||false) (cxC [c_111,c_150] []) 4) (.p .z (.p .z (.p .z (.p (.j0 [.v 35 .bool] .z .z) (.p (.p .z (.ls [.v 40 .int] [] [.b (.s 4) [.val (.list (.list bq_)),.val (.list .int)]] 0 (.p .z (.p .z (.p (.p .z (.j0 [.v 51 .bool] .z .z)) .z))))) (.p (.p .z (.ls [.v 56 .int] [] [.b (.s 4) [.val (.list (.list bq_)),.val (.list .int)]] 2 (.p .z (.p .z (.p (.p .z (.p .z (.j0 [.v 12 .int] .z (.j0 [.v 74 .bool] .z .z)))) .z))))) .z)))))) 110 [bk_,(.list .int)] [ck_,.int]=λx=>gy_ x.1 x.2.1:=by kernel_rfl
noncomputable def c_110:Con prog:=av_ _ _ 110 [bk_,(.list .int)] [ck_,.int] _ x_110
noncomputable def ch_ (a0:(List ab_)) (a1:ab_):Option (Bool×Unit) :=
 ((er_ a0 a1).bind λv0 =>
 (some ((decide (0≤v0.1)),())))
theorem x_232:au_ (P:=prog) (cxC [c_253] []) .z 232 [(.list ag_),ag_] [.bool]=λx=>ch_ x.1 x.2.1:=by kernel_rfl
noncomputable def c_232:Con prog:=av_ _ _ 232 [(.list ag_),ag_] [.bool] _ x_232
noncomputable def fr_ (a0:ad_) (a1:Int) (a2:Int):Option (Bool×Unit) :=
 ((bc_ a1 0 (w64 ((a0.2.1.length:Int) - 1))).bind λv0 =>
 (cond v0.1
 ((at? a0.2.1 a1).bind λv1 =>
 ((bc_ a2 0 (w64 (v1.2.2.1 - 1))).bind λv2 =>
 (some (v2.1,()))))
 (some (false,()))))
theorem x_164:au_ (P:=prog) (cxC [cc8] []) .z 164 [ao_,.int,.int] [.bool]=λx=>fr_ x.1 x.2.1 x.2.2.1:=by kernel_rfl
noncomputable def cq4:Con prog:=av_ _ _ 164 [ao_,.int,.int] [.bool] _ x_164
noncomputable def cz_ (a0:(List (List UInt8))) (a1:(List UInt8)):Option (Bool×Unit) :=
 ((dy_ a0 a1).bind λv0 =>
 (some ((decide (0≤v0.1)),())))
theorem x_235:au_ (P:=prog) (cxC [c_255] []) .z 235 [(.list .str),.str] [.bool]=λx=>cz_ x.1 x.2.1:=by kernel_rfl
noncomputable def c_235:Con prog:=av_ _ _ 235 [(.list .str),.str] [.bool] _ x_235
noncomputable def bl_ (a0:(List Int)) (a1:Int):Option (Bool×Unit) :=
 ((fc_ a0 a1).bind λv0 =>
 (some ((decide (0≤v0.1)),())))
theorem x_139:au_ (P:=prog) (cxC [c_186] []) .z 139 [(.list .int),.int] [.bool]=λx=>bl_ x.1 x.2.1:=by kernel_rfl
noncomputable def cq5:Con prog:=av_ _ _ 139 [(.list .int),.int] [.bool] _ x_139
noncomputable def ew_ (a0:ab_):Option (Int×Unit) :=
 ((((cb_ a0.1 1 4).bind λv0 =>
 (cond (!v0.1)
 (some (true,()))
 ((cb_ a0.2 2 10).bind λv1 =>
 (some ((!v1.1),())))))).bind λv2 =>
 (cond v2.1
 (some (10,()))
 (some (0,()))))
theorem x_132:au_ (P:=prog) (cxC [cq3] []) (.p .z (.p (.j0 [.v 12 .bool] .z .z) .z)) 132 [ag_] [.int]=λx=>ew_ x.1:=by kernel_rfl
noncomputable def cq6:Con prog:=av_ _ _ 132 [ag_] [.int] _ x_132
noncomputable def cq_ (a0:ab_) (a1:Int):Option (Bool×Unit) :=
 ((cb_ a1 0 (w64 (a0.2 - 1))).bind λv0 =>
 (some (v0.1,())))
theorem x_246:au_ (P:=prog) (cxC [cq3] []) .z 246 [ag_,.int] [.bool]=λx=>cq_ x.1 x.2.1:=by kernel_rfl
noncomputable def c_246:Con prog:=av_ _ _ 246 [ag_,.int] [.bool] _ x_246
noncomputable def bv_ (a0:ab_) (a1:Int):Option (Bool×Unit) :=
 ((cb_ a1 0 (w64 (a0.1 - 1))).bind λv0 =>
 (some (v0.1,())))
theorem x_258:au_ (P:=prog) (cxC [cq3] []) .z 258 [ag_,.int] [.bool]=λx=>bv_ x.1 x.2.1:=by kernel_rfl
noncomputable def c_258:Con prog:=av_ _ _ 258 [ag_,.int] [.bool] _ x_258
noncomputable def oc_ (a0:al_) (a1:(List Int)):Option (Bool×Unit) :=
 (cond (a0.1==1)
 ((at? a1 a0.2.1).bind λv0 =>
 (some ((v0==a0.2.2.2.1),())))
 (cond (a0.1==2)
 ((sub? a1 a0.2.1 (w64 (a0.2.2.1+1))).bind λv1 =>
 ((af_ (ρ:=(Int×Unit)) (λ(v2:(Int×(Int×Unit))) =>
 (cond (decide (v2.2.1<(v1.length:Int)))
 ((at? v1 v2.2.1).bind λv3 =>
 (some (inl ((w64 (v2.1+v3)),((w64 (v2.2.1+1)),())))))
 (some (inr (v2.1,()))))) (0,(0,()))).bind λv4 =>
 (some ((v4.1==a0.2.2.2.1),()))))
 (cond (a0.1==3)
 ((at? a1 a0.2.1).bind λv5 =>
 ((at? a1 a0.2.2.1).bind λv6 =>
 (some ((decide (v5<v6)),()))))
 (cond (a0.1==4)
 ((at? a1 a0.2.1).bind λv7 =>
 ((at? a1 a0.2.2.1).bind λv8 =>
 (some ((v7==v8),()))))
 (cond (a0.1==5)
 ((af_ (ρ:=(Int×Unit)) (λ(v9:(Int×(Int×Unit))) =>
 (cond (decide (v9.2.1<(a1.length:Int)))
 ((((at? a1 v9.2.1).bind λv10 =>
 (cond (v10==a0.2.2.2.1)
 (some ((w64 (v9.1+1)),()))
 (some (v9.1,()))))).bind λv11 =>
 (some (inl (v11.1,((w64 (v9.2.1+1)),())))))
 (some (inr (v9.1,()))))) (0,(0,()))).bind λv12 =>
 (some ((v12.1==a0.2.2.2.2.1),())))
 (cond (a0.1==6)
 ((jg_ a1 a0.2.2.2.2.2.1).bind λv13 =>
 (cond (v13.1==a0.2.2.2.1)
 (some ((v13.2.1==a0.2.2.2.2.1),()))
 (some (false,()))))
 ((at? a1 a0.2.1).bind λv14 =>
 ((md v14 a0.2.2.2.1).bind λv15 =>
 (some ((v15==a0.2.2.2.2.1),()))))))))))
theorem x_248:au_ (P:=prog) (cxC [c_259] []) (.p .z (.p (.p .z (.p .z (.p (.p (.q [] .z .z) .z) (.p .z (.p (.p .z (.p (.p .z (.lp [.v 5 .int,.v 35 .int] [.v 5 .int] [] 1 .z)) .z)) (.p .z (.p (.p (.q [] .z .z) .z) (.p .z (.p (.p (.q [] .z .z) .z) (.p .z (.p (.p .z (.p (.p .z (.lp [.v 8 .int,.v 77 .int] [.v 8 .int] [] 3 (.p .z (.p .z (.j0 [.v 8 .int] .z .z))))) .z)) .z))))))))))) (.p (.q [] .z .z) .z))) 248 [aq_,(.list .int)] [.bool]=λx=>oc_ x.1 x.2.1:=by kernel_rfl
noncomputable def c_248:Con prog:=av_ _ _ 248 [aq_,(.list .int)] [.bool] _ x_248
noncomputable def mi_ (a0:ad_) (a1:(List bn_)):Option (Bool×Unit) :=
 (cond (decide ((a1.length:Int)≤8))
 ((((af_ (ρ:=(Unit⊕(Bool×Unit))) (λ(v0:(Int×Unit)) =>
 (cond (decide (v0.1<(a1.length:Int)))
 ((at? a1 v0.1).bind λv1 =>
 ((((cf_ v1.1 0 (w64 ((a0.2.1.length:Int) - 1))).bind λv2 =>
 (cond (!v2.1)
 (some (true,()))
 ((at? a0.2.1 v1.1).bind λv3 =>
 ((cf_ v1.2.1 0 (w64 (v3.2.2.1 - 1))).bind λv4 =>
 (some ((!v4.1),()))))))).bind λv5 =>
 (cond v5.1
 (some (inr (inr ((decide (0≤v0.1)),()))))
 (some (inl ((w64 (v0.1+1)),()))))))
 (some (inr (inl ()))))) (0,())).bind λv6 =>
 (ca_ v6 (λv7=>(some ((decide (0≤(-1))),())))
 (λv8=>(some v8))))).bind λv9 =>
 (some ((!v9.1),())))
 (some (false,())))
theorem x_135:au_ (P:=prog) (cxI (λk=>cond (Nat.beq k 166) (.p .z (.j0 [.v 4 .bool] .z .z)) (cond (Nat.beq k 184) (.p .z (.j0 [.v 3 .bool] (.q [] .z .z) .z)) (cond (Nat.beq k 205) (.p .z (.p (.p .z (.ls [.v 8 .int] [] [] 0 .z)) .z)) (.z)))) (λk=>Nat.beq k 136||false) (cxC [cc9] []) 4) .z 135 [ao_,(.list co_)] [.bool]=λx=>mi_ x.1 x.2.1:=by kernel_rfl
noncomputable def c_135:Con prog:=av_ _ _ 135 [ao_,(.list co_)] [.bool] _ x_135
noncomputable def lh_ (a0:aa_):Option ((List UInt8)×Unit) :=
 ((fx_ [a0.1.1,a0.1.2.1,a0.1.2.2]).bind λv0 =>
 ((mh_ a0).bind λv1 =>
 ((cat? v0.1 v1.1).bind λv2 =>
 (some (v2,())))))
theorem x_104:au_ (P:=prog) (cxC [c_142,c_143] []) .z 104 [ak_] [.str]=λx=>lh_ x.1:=by kernel_rfl
noncomputable def c_104:Con prog:=av_ _ _ 104 [ak_] [.str] _ x_104
noncomputable def da_ (a0:hx_) (a1:ah_):Option (Bool×Unit) :=
 ((bc_ a1.1 0 (w64 ((a0.2.2.2.length:Int) - 1))).bind λv0 =>
 (cond (!v0.1)
 (some (false,()))
 ((at? a0.2.2.2 a1.1).bind λv1 =>
 (cond (a1.2.1==1)
 ((bc_ a1.2.2 0 (w64 ((a0.1.2.2.2.1.length:Int) - 1))).bind λv2 =>
 (cond (!v2.1)
 (some (false,()))
 ((at? a0.1.2.2.2.1 a1.2.2).bind λv3 =>
 (cond (v3.1==v1)
 ((az_ a0 v3.2.2).bind λv4 =>
 (some (v4.1,())))
 (cond (v3.2.1==v1)
 ((az_ a0 v3.2.2).bind λv5 =>
 (some (v5.1,())))
 (some (false,())))))))
 (cond (a1.2.1==2)
 ((bc_ a1.2.2 0 (w64 ((a0.2.2.1.length:Int) - 1))).bind λv6 =>
 (cond v6.1
 ((at? a0.2.2.1 a1.2.2).bind λv7 =>
 (cond (v7==v1)
 ((at? a0.1.2.2.1 a1.2.2).bind λv8 =>
 ((az_ a0 v8.2.2).bind λv9 =>
 (cond v9.1
 ((dk_ a0 a1.1).bind λv10 =>
 (some ((decide (v10.1<3)),())))
 (some (false,())))))
 (some (false,()))))
 (some (false,()))))
 (cond (a1.2.1==3)
 ((bc_ a1.2.2 0 (w64 ((a0.2.2.1.length:Int) - 1))).bind λv11 =>
 (cond v11.1
 ((at? a0.2.2.1 a1.2.2).bind λv12 =>
 (some ((v12==(w64 ((-2) - a1.1))),())))
 (some (false,()))))
 (cond (a1.2.1==4)
 ((bc_ a1.2.2 0 (w64 ((a0.1.2.2.2.2.1.length:Int) - 1))).bind λv13 =>
 (cond (!v13.1)
 (some (false,()))
 ((at? a0.1.2.2.2.2.1 a1.2.2).bind λv14 =>
 (cond (v14.2.1==v1)
 ((((af_ (ρ:=(Unit⊕(Bool×Unit))) (λ(v15:(Int×Unit)) =>
 (cond (decide (v15.1<(v14.2.2.2.1.length:Int)))
 ((at? v14.2.2.2.1 v15.1).bind λv16 =>
 ((at? a0.2.2.1 v16).bind λv17 =>
 (cond (!(v17==(w64 ((-2) - a1.1))))
 (some (inr (inr ((decide (0≤v15.1)),()))))
 (some (inl ((w64 (v15.1+1)),()))))))
 (some (inr (inl ()))))) (0,())).bind λv18 =>
 (ca_ v18 (λv19=>(some ((decide (0≤(-1))),())))
 (λv20=>(some v20))))).bind λv21 =>
 (cond (!v21.1)
 ((az_ a0 v14.2.2.2.2.1).bind λv22 =>
 (cond v22.1
 ((((af_ (ρ:=(Unit⊕(Bool×Unit))) (λ(v23:(Int×Unit)) =>
 (cond (decide (v23.1<(v14.2.2.2.2.2.2.2.length:Int)))
 ((at? v14.2.2.2.2.2.2.2 v23.1).bind λv24 =>
 ((at? a0.2.2.1 v24).bind λv25 =>
 (cond (!(v25==(-1)))
 (some (inr (inr ((decide (0≤v23.1)),()))))
 (some (inl ((w64 (v23.1+1)),()))))))
 (some (inr (inl ()))))) (0,())).bind λv26 =>
 (ca_ v26 (λv27=>(some ((decide (0≤(-1))),())))
 (λv28=>(some v28))))).bind λv29 =>
 (cond (!v29.1)
 ((dk_ a0 a1.1).bind λv30 =>
 (some ((decide ((w64 ((w64 (v30.1 - (v14.2.2.2.2.2.2.1.length:Int)))+(v14.2.2.2.2.2.2.2.length:Int)))≤3)),())))
 (some (false,()))))
 (some (false,()))))
 (some (false,()))))
 (some (false,()))))))
 (some (false,())))))))))
theorem x_146:au_ (P:=prog) (cxI (λk=>cond (Nat.beq k 73) (.p .z (.j0 [.v 4 .bool] .z .z)) (cond (Nat.beq k 109) (.p .z (.p (.p .z (.ls [.v 8 .int] [] [] 0 .z)) .z)) (cond (Nat.beq k 193) (.p .z (.p (.q [] .z .z) .z)) (.z)))) (λk=>Nat.beq k 130||Nat.beq k 165||Nat.beq k 196||false) (cxC [cd0,cc8,c_196] []) 7) (.p .z (.p (.p (.q [] .z .z) .z) (.p (.q [] .z .z) (.p .z (.p .z (.p .z (.p (.p .z (.p .z (.p (.p (.p (.q [] .z .z) .z) .z) (.p .z (.p (.p (.q [] .z .z) .z) (.p .z (.p (.p (.q [] .z .z) .z) (.p .z (.p (.p (.p (.q [] .z .z) .z) .z) .z))))))))) .z))))))) 146 [(.ref fl_),ar_] [.bool]=λx=>da_ x.1 x.2.1:=by kernel_rfl
noncomputable def c_146:Con prog:=av_ _ _ 146 [(.ref fl_),ar_] [.bool] _ x_146
noncomputable def ha_ (a0:ac_) (a1:aa_):Option (Bool×Unit) :=
 ((bp_ a1.1 a0.1.2.2.2.2.2.2.2).bind λv0 =>
 (some (v0.1,())))
theorem x_36:au_ (P:=prog) (cxC [c_68] []) .z 36 [an_,ak_] [.bool]=λx=>ha_ x.1 x.2.1:=by kernel_rfl
noncomputable def c_36:Con prog:=av_ _ _ 36 [an_,ak_] [.bool] _ x_36
end
section
set_option maxRecDepth 100000
set_option maxHeartbeats 0
noncomputable def cx_ (a0:ad_) (a1:(List bn_)):Option (Bool×Unit) :=
 ((af_ (ρ:=(Unit⊕(Bool×Unit))) (λ(v0:(Int×Unit)) =>
 (cond (decide (v0.1<(a1.length:Int)))
 ((at? a1 v0.1).bind λv1 =>
 ((at? a1 v0.1).bind λv2 =>
 ((hh_ a0 v1.1 v2.2.1).bind λv3 =>
 (cond (!v3.1)
 (some (inr (inr (false,()))))
 (some (inl ((w64 (v0.1+1)),())))))))
 (some (inr (inl ()))))) (0,())).bind λv4 =>
 (ca_ v4 (λv5=>(some ((decide ((a1.length:Int)≤8)),())))
 (λv6=>(some v6))))
theorem x_56:au_ (P:=prog) (cxC [c_86] []) (.p .z (.p (.p .z (.ls [.v 5 .int] [] [] 0 (.p .z (.p (.p (.q [] .z .z) .z) .z)))) .z)) 56 [ao_,(.list co_)] [.bool]=λx=>cx_ x.1 x.2.1:=by kernel_rfl
noncomputable def c_56:Con prog:=av_ _ _ 56 [ao_,(.list co_)] [.bool] _ x_56
noncomputable def ec_ (a0:(List UInt8)):Option (Bool×Unit) :=
 (cond (decide ((a0.length:Int)≤12))
 ((ig_ a0).bind λv0 =>
 (some (v0.1,())))
 (some (false,())))
theorem x_81:au_ (P:=prog) (cxC [c_115] []) .z 81 [.str] [.bool]=λx=>ec_ x.1:=by kernel_rfl
noncomputable def c_81:Con prog:=av_ _ _ 81 [.str] [.bool] _ x_81
noncomputable def gg_ (a0:ab_) (a1:(List Int)):Option (Int×Unit) :=
 ((ev_ a0).bind λv0 =>
 (cond (v0.1 != 0)
 (some (v0.1,()))
 ((gv_ a0 a1).bind λv1 =>
 (cond (!v1.1)
 (some (12,()))
 (some (0,()))))))
theorem x_54:au_ (P:=prog) (cxC [c_53,c_88] []) .z 54 [ag_,(.list .int)] [.int]=λx=>gg_ x.1 x.2.1:=by kernel_rfl
noncomputable def c_54:Con prog:=av_ _ _ 54 [ag_,(.list .int)] [.int] _ x_54
noncomputable def gw_ (a0:ab_) (a1:al_):Option (Bool×Unit) :=
 ((bm_ a1.2.1 0 (w64 (a0.1 - 1))).bind λv0 =>
 ((bm_ a1.2.2.1 0 (w64 (a0.1 - 1))).bind λv1 =>
 (((cond (a1.1==1)
 (((cond v0.1
 ((bm_ a1.2.2.2.1 0 (w64 (a0.2 - 1))).bind λv2 =>
 (some (v2.1,())))
 (some (false,())))).bind λv3 =>
 (some (v3.1,((a1.2.1,(0,(a1.2.2.2.1,(0,([],()))))),()))))
 (cond (a1.1==2)
 (((cond v0.1
 (cond v1.1
 (cond (decide (a1.2.1≤a1.2.2.1))
 ((bm_ a1.2.2.2.1 0 100).bind λv4 =>
 (some (v4.1,())))
 (some (false,())))
 (some (false,())))
 (some (false,())))).bind λv5 =>
 (some (v5.1,((a1.2.1,(a1.2.2.1,(a1.2.2.2.1,(0,([],()))))),()))))
 (((cond (a1.1==3)
 (some ((a1.1==3),()))
 (some ((a1.1==4),())))).bind λv6 =>
 (cond v6.1
 (((cond v0.1
 (cond v1.1
 (some ((a1.2.1 != a1.2.2.1),()))
 (some (false,())))
 (some (false,())))).bind λv7 =>
 (some (v7.1,((a1.2.1,(a1.2.2.1,(0,(0,([],()))))),()))))
 (cond (a1.1==5)
 ((((bm_ a1.2.2.2.1 0 (w64 (a0.2 - 1))).bind λv8 =>
 (cond v8.1
 ((bm_ a1.2.2.2.2.1 0 a0.1).bind λv9 =>
 (some (v9.1,())))
 (some (false,()))))).bind λv10 =>
 (some (v10.1,((0,(0,(a1.2.2.2.1,(a1.2.2.2.2.1,([],()))))),()))))
 (cond (a1.1==6)
 ((((gv_ a0 a1.2.2.2.2.2.1).bind λv11 =>
 (cond v11.1
 ((bm_ a1.2.2.2.1 0 a0.1).bind λv12 =>
 (cond v12.1
 ((bm_ a1.2.2.2.2.1 0 a0.1).bind λv13 =>
 (some (v13.1,())))
 (some (false,()))))
 (some (false,()))))).bind λv14 =>
 (some (v14.1,((0,(0,(a1.2.2.2.1,(a1.2.2.2.2.1,(a1.2.2.2.2.2.1,()))))),()))))
 (cond (a1.1==7)
 (((cond v0.1
 ((bm_ a1.2.2.2.1 2 10).bind λv15 =>
 (cond v15.1
 ((bm_ a1.2.2.2.2.1 0 (w64 (a1.2.2.2.1 - 1))).bind λv16 =>
 (some (v16.1,())))
 (some (false,()))))
 (some (false,())))).bind λv17 =>
 (some (v17.1,((a1.2.1,(0,(a1.2.2.2.1,(a1.2.2.2.2.1,([],()))))),()))))
 (some (false,((0,(0,(0,(0,([],()))))),()))))))))))).bind λv18 =>
 (cond v18.1
 ((js_ a1 (a1.1,(v18.2.1.1,(v18.2.1.2.1,(v18.2.1.2.2.1,(v18.2.1.2.2.2.1,(v18.2.1.2.2.2.2.1,a1.2.2.2.2.2.2))))))).bind λv19 =>
 (some (v19.1,())))
 (some (false,()))))))
theorem x_118:au_ (P:=prog) (cxC [c_87,c_88,c_157] []) (.p .z (.p (.q [] .z .z) (.p .z (.p .z (.j0 [.v 8 .bool,.b (.s 7) [.keep,.val .int,.val .int,.val .int,.val .int,.val (.list .int),.keep]] (.p .z (.p .z (.p (.j0 [.v 8 .bool] .z .z) (.p .z (.p (.j0 [.v 8 .bool] .z .z) (.j0 [.v 72 .bool] .z (.p (.j0 [.v 8 .bool] .z .z) (.p .z (.p (.j0 [.v 8 .bool] .z .z) (.p .z (.p (.j0 [.v 8 .bool] .z .z) (.p .z (.p (.j0 [.v 8 .bool] .z .z) .z))))))))))))) .z))))) 118 [ag_,aq_] [.bool]=λx=>gw_ x.1 x.2.1:=by kernel_rfl
noncomputable def c_118:Con prog:=av_ _ _ 118 [ag_,aq_] [.bool] _ x_118
noncomputable def fw_ (a0:al_) (a1:(List Int)):Option (Bool×Unit) :=
 (((cond (a0.1==1)
 ((at? a1 a0.2.1).bind λv0 =>
 (some ((v0==a0.2.2.2.1),())))
 (cond (a0.1==2)
 ((af_ (ρ:=(Int×Unit)) (λ(v1:(Int×(Int×Unit))) =>
 (cond (decide (v1.2.1≤a0.2.2.1))
 ((at? a1 v1.2.1).bind λv2 =>
 (some (inl ((w64 (v1.1+v2)),((w64 (v1.2.1+1)),())))))
 (some (inr (v1.1,()))))) (0,(a0.2.1,()))).bind λv3 =>
 (some ((v3.1==a0.2.2.2.1),())))
 (cond (a0.1==3)
 ((at? a1 a0.2.1).bind λv4 =>
 ((at? a1 a0.2.2.1).bind λv5 =>
 (some ((decide (v4<v5)),()))))
 (cond (a0.1==4)
 ((at? a1 a0.2.1).bind λv6 =>
 ((at? a1 a0.2.2.1).bind λv7 =>
 (some ((v6==v7),()))))
 (cond (a0.1==5)
 ((eu_ a1 a0.2.2.2.1).bind λv8 =>
 (some ((v8.1==a0.2.2.2.2.1),())))
 (cond (a0.1==6)
 ((jf_ a1 a0.2.2.2.2.2.1).bind λv9 =>
 (cond (v9.1==a0.2.2.2.1)
 (some ((v9.2.1==a0.2.2.2.2.1),()))
 (some (false,()))))
 (cond (a0.1==7)
 ((at? a1 a0.2.1).bind λv10 =>
 ((md v10 a0.2.2.2.1).bind λv11 =>
 (some ((v11==a0.2.2.2.2.1),()))))
 (some (false,())))))))))).bind λv12 =>
 (some ((v12.1 != a0.2.2.2.2.2.2),())))
theorem x_91:au_ (P:=prog) (cxC [c_119,c_120] []) (.p .z (.p .z (.j0 [.v 5 .bool] (.p .z (.p .z (.p (.q [] .z .z) (.p .z (.p (.p .z (.p (.p .z (.lp [.v 6 .int,.v 7 .int] [.v 6 .int] [] 1 .z)) .z)) (.p .z (.p (.q [] .z .z) (.p .z (.p (.q [] .z .z) (.p .z (.p (.q [] .z .z) (.p .z (.p .z (.p .z (.p (.q [] .z .z) .z))))))))))))))) .z))) 91 [aq_,(.list .int)] [.bool]=λx=>fw_ x.1 x.2.1:=by kernel_rfl
noncomputable def c_91:Con prog:=av_ _ _ 91 [aq_,(.list .int)] [.bool] _ x_91
noncomputable def fd_ (a0:ad_) (a1:aj_):Option ((List ah_)×Unit) :=
 ((af_ (ρ:=((List ah_)×Unit)) (λ(v0:((List ah_)×(Int×Unit))) =>
 (cond (decide (v0.2.1<a0.2.2.2.2.2.2.1))
 ((af_ (ρ:=((List ah_)×Unit)) (λ(v1:((List ah_)×(Int×Unit))) =>
 (cond (decide (v1.2.1≤4))
 ((af_ (ρ:=((List ah_)×Unit)) (λ(v2:((List ah_)×(Int×Unit))) =>
 (cond (decide (v2.2.1<24))
 ((((kk_ a0 a1 (v0.2.1,(v1.2.1,v2.2.1))).bind λv3 =>
 (cond v3.1
 ((push? (α:=ah_) v2.1 [(v0.2.1,(v1.2.1,v2.2.1))]).bind λv4 =>
 (some (v4,())))
 (some (v2.1,()))))).bind λv5 =>
 (some (inl (v5.1,((w64 (v2.2.1+1)),())))))
 (some (inr (v2.1,()))))) (v1.1,(0,()))).bind λv6 =>
 (some (inl (v6.1,((w64 (v1.2.1+1)),())))))
 (some (inr (v1.1,()))))) (v0.1,(1,()))).bind λv7 =>
 (some (inl (v7.1,((w64 (v0.2.1+1)),())))))
 (some (inr (v0.1,()))))) ([],(0,()))).bind λv8 =>
 (some (v8.1,())))
theorem x_95:au_ (P:=prog) (cxC [c_123] []) (.p .z (.p .z (.p (.p .z (.lp [.r 5 ar_ 61,.v 6 .int] [.r 5 ar_ 61] [] 0 (.p .z (.p (.p .z (.lp [.r 5 ar_ 61,.v 7 .int] [.r 5 ar_ 61] [] 2 (.p .z (.p (.p .z (.lp [.r 5 ar_ 61,.v 8 .int] [.r 5 ar_ 61] [] 4 (.p .z (.j0 [.r 5 ar_ 61] .z .z)))) .z)))) .z)))) .z))) 95 [ao_,ap_] [(.list ar_)]=λx=>fd_ x.1 x.2.1:=by kernel_rfl
noncomputable def c_95:Con prog:=av_ _ _ 95 [ao_,ap_] [(.list ar_)] _ x_95
noncomputable def gu_ (a0:ad_) (a1:aj_) (a2:ah_):Option (aj_×Bool×Unit) :=
 ((push? (α:=Int) [] a1.1).bind λv0 =>
 ((push? (α:=Int) [] a1.2.1).bind λv1 =>
 ((push? (α:=Int) [] a1.2.2).bind λv2 =>
 ((at? a1.2.2 a2.1).bind λv3 =>
 (((cond (a2.2.1==1)
 ((at? a0.2.2.2.1 a2.2.2).bind λv4 =>
 ((at? a0.2.2.2.1 a2.2.2).bind λv5 =>
 ((at? v2 a2.1).bind λv6 =>
 ((at? v2 a2.1).bind λv7 =>
 (some (v0,(v1,((v2.set a2.1.toNat (w64 ((w64 (v4.1+v5.2.1)) - v3))),()))))))))
 (cond (a2.2.1==2)
 ((at? v1 a2.2.2).bind λv8 =>
 ((at? v1 a2.2.2).bind λv9 =>
 (some (v0,((v1.set a2.2.2.toNat (w64 ((-2) - a2.1))),(v2,()))))))
 (cond (a2.2.1==3)
 ((at? v1 a2.2.2).bind λv10 =>
 ((at? v1 a2.2.2).bind λv11 =>
 (some (v0,((v1.set a2.2.2.toNat v3),(v2,()))))))
 (cond (a2.2.1==4)
 ((at? a0.2.2.2.2.1 a2.2.2).bind λv12 =>
 ((af_ (ρ:=((List Int)×Unit)) (λ(v13:(Int×((List Int)×Unit))) =>
 (cond (decide (v13.1<(v12.2.2.2.2.2.2.1.length:Int)))
 ((at? v12.2.2.2.2.2.2.1 v13.1).bind λv14 =>
 ((at? v13.2.1 v14).bind λv15 =>
 ((at? v13.2.1 v14).bind λv16 =>
 (some (inl ((w64 (v13.1+1)),((v13.2.1.set v14.toNat (-1)),())))))))
 (some (inr (v13.2.1,()))))) (0,(v1,()))).bind λv17 =>
 ((af_ (ρ:=((List Int)×Unit)) (λ(v18:(Int×((List Int)×Unit))) =>
 (cond (decide (v18.1<(v12.2.2.2.2.2.2.2.length:Int)))
 ((at? v12.2.2.2.2.2.2.2 v18.1).bind λv19 =>
 ((at? v18.2.1 v19).bind λv20 =>
 ((at? v18.2.1 v19).bind λv21 =>
 (some (inl ((w64 (v18.1+1)),((v18.2.1.set v19.toNat (w64 ((-2) - a2.1))),())))))))
 (some (inr (v18.2.1,()))))) (0,(v17.1,()))).bind λv22 =>
 ((af_ (ρ:=((List Int)×Unit)) (λ(v23:(Int×((List Int)×Unit))) =>
 (cond (decide (v23.1<(v12.2.2.2.2.2.1.length:Int)))
 ((at? v12.2.2.2.2.2.1 v23.1).bind λv24 =>
 ((at? v12.2.2.2.2.2.1 v23.1).bind λv25 =>
 ((at? v23.2.1 v24.1).bind λv26 =>
 ((at? v23.2.1 v24.1).bind λv27 =>
 (some (inl ((w64 (v23.1+1)),((v23.2.1.set v24.1.toNat v25.2),()))))))))
 (some (inr (v23.2.1,()))))) (0,(v0,()))).bind λv28 =>
 (some (v28.1,(v22.1,(v2,()))))))))
 (some (v0,(v1,(v2,()))))))))).bind λv29 =>
 ((gt_ a0 (v29.1,(v29.2.1,v29.2.2.1))).bind λv30 =>
 (some (v30.1,(v30.2.1,())))))))))
theorem x_97:au_ (P:=prog) (cxI (λk=>.z) (λk=>Nat.beq k 126||false) (cxC [c_126] []) 2) (.p .z (.p .z (.p (.q [] .z .z) (.j0 [.o (.c (.s 8) 0) .int,.o (.c (.s 8) 1) .int,.o (.c (.s 8) 2) .int] (.p .z (.p .z (.p .z (.p .z (.p .z (.p .z (.p .z (.p .z (.p (.p .z (.p (.p .z (.lp [.v 12 .int] [] [.o (.c (.s 8) 1) .int] 1 .z)) (.p (.p .z (.lp [.v 13 .int] [] [.o (.c (.s 8) 1) .int] 3 .z)) (.p .z (.lp [.v 14 .int] [] [.o (.c (.s 8) 0) .int] 5 .z))))) .z))))))))) .z)))) 97 [ao_,ap_,ar_] [ap_,.bool]=λx=>gu_ x.1 x.2.1 x.2.2.1:=by kernel_rfl
noncomputable def c_97:Con prog:=av_ _ _ 97 [ao_,ap_,ar_] [ap_,.bool] _ x_97
noncomputable def ea_ (a0:aw_) (a1:(List Int)) (a2:ab_) (a3:Int):Option (bd_×Int×Unit) :=
 ((gy_ a0 a1).bind λv0 =>
 (cond (v0.2.1 != 0)
 (some (v0.1,(v0.2.1,())))
 ((((bz_ a2.1 0 200).bind λv1 =>
 (cond (!v1.1)
 (some (true,()))
 ((bz_ a2.2 0 99).bind λv2 =>
 (cond (!v2.1)
 (some (true,()))
 ((bz_ a3 0 2000).bind λv3 =>
 (some ((!v3.1),())))))))).bind λv4 =>
 (cond v4.1
 (some (v0.1,(1,())))
 (some (v0.1,(0,())))))))
theorem x_77:au_ (P:=prog) (cxC [c_110,c_111] []) (.p .z (.p .z (.p .z (.p (.j0 [.v 36 .bool] .z .z) .z)))) 77 [bk_,(.list .int),ag_,.int] [ck_,.int]=λx=>ea_ x.1 x.2.1 x.2.2.1 x.2.2.2.1:=by kernel_rfl
noncomputable def c_77:Con prog:=av_ _ _ 77 [bk_,(.list .int),ag_,.int] [ck_,.int] _ x_77
noncomputable def dc_ (a0:bd_) (a1:ab_) (a2:Int):Option ((List Int)×Bool×Unit) :=
 ((af_ (ρ:=((List Int)×((Int×((List ab_)×Unit))×Unit))) (λ(v0:((List Int)×((Int×((List ab_)×Unit))×Unit))) =>
 ((((at? a0.2 v0.2.1.1).bind λv1 =>
 (cond (v1 != 0)
 ((at? a0.1 v0.2.1.1).bind λv2 =>
 (cond (decide (0<(v2.length:Int)))
 (some ((decide ((v0.1.length:Int)<a2)),()))
 (some (false,()))))
 (some (false,()))))).bind λv3 =>
 (cond v3.1
 ((((((at? a0.1 v0.2.1.1).bind λv4 =>
 ((af_ (ρ:=(Unit⊕(Int×Unit))) (λ(v5:(Int×Unit)) =>
 (cond (decide (v5.1<(v4.length:Int)))
 ((md a1.2 (v4.length:Int)).bind λv6 =>
 ((md (w64 (v6+v5.1)) (v4.length:Int)).bind λv7 =>
 ((ch_ v0.2.1.2.1 (v0.2.1.1,v7)).bind λv8 =>
 (cond (!v8.1)
 (some (inr (inr (v7,()))))
 (some (inl ((w64 (v5.1+1)),())))))))
 (some (inr (inl ()))))) (0,())).bind λv9 =>
 (ca_ v9 (λv10=>(some ((-1),())))
 (λv11=>(some v11)))))).bind λv12 =>
 (cond (decide (0≤v12.1))
 (some (v12.1,()))
 ((af_ (ρ:=((List ah_)×Unit)) (λ(v13:((List Int)×((List ah_)×Unit))) =>
 (cond (decide (0<(v13.1.length:Int)))
 ((at? v13.1 0).bind λv14 =>
 ((at? v13.1 0).bind λv15 =>
 ((at? a0.1 v15).bind λv16 =>
 ((af_ (ρ:=((List Int)×((List ah_)×Unit))) (λ(v17:((List Int)×(Int×((List ah_)×Unit)))) =>
 (cond (decide (v17.2.1<(v16.length:Int)))
 ((((at? v16 v17.2.1).bind λv18 =>
 ((ch_ v0.2.1.2.1 (v15,v17.2.1)).bind λv19 =>
 (cond (!v19.1)
 (some (v17.1,(v17.2.2.1,())))
 (((cond (v15==v0.2.1.1)
 (some ((v17.2.1,()),()))
 (some (((de_ (0,0) v17.2.2.1 v15).2,()),())))).bind λv20 =>
 (((cond (!(ag8 v17.2.2.1 v18.2))
 ((push? (α:=Int) v17.1 [v18.2]).bind λv21 =>
 (some (v21,())))
 (some (v17.1,())))).bind λv22 =>
 (((cond (!(ag8 v17.2.2.1 v18.2))
 (some (true,()))
 (cond ((de_ (0,0) v17.2.2.1 v18.2).1==(w64 ((de_ (0,0) v17.2.2.1 v15).1+1)))
 (some ((decide (v20.1.1<(de_ (0,0) v17.2.2.1 v18.2).2)),()))
 (some (false,()))))).bind λv23 =>
 (cond v23.1
 (some (v22.1,((iq_ v17.2.2.1 v18.2 ((w64 ((de_ (0,0) v17.2.2.1 v15).1+1)),v20.1.1)),())))
 (some (v22.1,(v17.2.2.1,()))))))))))).bind λv24 =>
 (some (inl (v24.1,((w64 (v17.2.1+1)),(v24.2.1,()))))))
 (some (inr (v17.1,(v17.2.2.1,())))))) (v13.1,(0,(v13.2.1,())))).bind λv25 =>
 ((sub? v25.1 1 (v25.1.length:Int)).bind λv26 =>
 (some (inl (v26,(v25.2.1,())))))))))
 (some (inr (v13.2.1,()))))) ([v0.2.1.1],((iq_ [] v0.2.1.1 (0,(-1))),()))).bind λv27 =>
 ((af_ (ρ:=(Int×Unit)) (λ(v28:(Int×(Int×(Int×Unit)))) =>
 (cond (decide (v28.2.2.1<(a0.1.length:Int)))
 (((((cond (ag8 v27.1 v28.2.2.1)
 ((at? a0.1 v28.2.2.1).bind λv29 =>
 ((af_ (ρ:=(Unit⊕(Bool×Unit))) (λ(v30:(Int×Unit)) =>
 (cond (decide (v30.1<(v29.length:Int)))
 ((md a1.2 (v29.length:Int)).bind λv31 =>
 ((md (w64 (v31+v30.1)) (v29.length:Int)).bind λv32 =>
 ((ch_ v0.2.1.2.1 (v28.2.2.1,v32)).bind λv33 =>
 (cond (!v33.1)
 (((cond (decide (0≤v32))
 (cond (decide (v28.1<0))
 (some (true,()))
 (some ((decide ((de_ (0,0) v27.1 v28.2.2.1).1<v28.1)),())))
 (some (false,())))).bind λv34 =>
 (some (inr (inr v34))))
 (some (inl ((w64 (v30.1+1)),())))))))
 (some (inr (inl ()))))) (0,())).bind λv35 =>
 (ca_ v35 (λv36=>(some (false,())))
 (λv37=>(some v37)))))
 (some (false,())))).bind λv38 =>
 (cond v38.1
 (some ((de_ (0,0) v27.1 v28.2.2.1).1,((de_ (0,0) v27.1 v28.2.2.1).2,())))
 (some (v28.1,(v28.2.1,())))))).bind λv39 =>
 (some (inl (v39.1,(v39.2.1,((w64 (v28.2.2.1+1)),()))))))
 (some (inr (v28.2.1,()))))) ((-1),((-1),(0,())))).bind λv40 =>
 (cond (decide (0≤v40.1))
 (some (v40.1,()))
 none)))))).bind λv41 =>
 ((push? (α:=Int) v0.1 [v41.1]).bind λv42 =>
 ((((((af_ (ρ:=(Unit⊕(Int×Unit))) (λ(v43:(Int×Unit)) =>
 (cond (decide (v43.1<(v0.2.1.2.1.length:Int)))
 ((at? v0.2.1.2.1 v43.1).bind λv44 =>
 ((at? v0.2.1.2.1 v43.1).bind λv45 =>
 (cond ((v45.1==v0.2.1.1)&&(v45.2==v41.1))
 (some (inr (inr (v43.1,()))))
 (some (inl ((w64 (v43.1+1)),()))))))
 (some (inr (inl ()))))) (0,())).bind λv46 =>
 (ca_ v46 (λv47=>(some ((-1),())))
 (λv48=>(some v48))))).bind λv49 =>
 (cond (v49.1==(-1))
 (some ((v0.2.1.2.1,()),()))
 ((af_ (ρ:=(Int×((List ab_)×Unit))) (λ(v50:(Int×(Int×((List ab_)×Unit)))) =>
 (cond (decide (v50.2.1<(v50.2.2.1.length:Int)))
 ((((at? v50.2.2.1 v50.2.1).bind λv51 =>
 ((at? v50.2.2.1 v50.2.1).bind λv52 =>
 (cond (!((v52.1==v0.2.1.1)&&(v52.2==v41.1)))
 ((at? v50.2.2.1 v50.1).bind λv53 =>
 ((at? v50.2.2.1 v50.1).bind λv54 =>
 (some ((w64 (v50.1+1)),((v50.2.2.1.set v50.1.toNat v52),())))))
 (some (v50.1,(v50.2.2.1,()))))))).bind λv55 =>
 (some (inl (v55.1,((w64 (v50.2.1+1)),(v55.2.1,()))))))
 (some (inr (v50.1,(v50.2.2.1,())))))) (v49.1,((w64 (v49.1+1)),(v0.2.1.2.1,())))).bind λv56 =>
 ((sub? v56.2.1 v56.1 (v56.2.1.length:Int)).bind λv57 =>
 ((sub? ((List.take v56.1.toNat v56.2.1)++(List.replicate (v56.2.1.length - v56.1.toNat) (0,0))) 0 v56.1).bind λv58 =>
 (some ((v58,()),())))))))).bind λv59 =>
 ((push? (α:=ab_) v59.1.1 [(v0.2.1.1,v41.1)]).bind λv60 =>
 (((cond (decide (a1.1<(v60.length:Int)))
 ((sub? v60 1 (v60.length:Int)).bind λv61 =>
 (some ((v61,()),())))
 (some ((v60,()),())))).bind λv62 =>
 ((at? a0.1 v0.2.1.1).bind λv63 =>
 ((at? v63 v41.1).bind λv64 =>
 (some (inl (v42,((v64.2,(v62.1.1,())),())))))))))))
 (some (inr (v0.1,((v0.2.1.1,(v0.2.1.2.1,())),()))))))) ([],((0,([],())),()))).bind λv65 =>
 ((at? a0.2 v65.2.1.1).bind λv66 =>
 (some (v65.1,((v66==0),())))))
theorem x_78:au_ (P:=prog) (cxI (λk=>cond (Nat.beq k 112) (.p .z (.p (.j0 [.v 3 .int] .z .z) .z)) (cond (Nat.beq k 113) (.p .z (.j0 [.b (.s 0) [.keep,.keep,.keep,.keep,.keep,.row ag_ 228]] .z (.p .z (.j0 [.b (.s 0) [.keep,.keep,.keep,.keep,.keep,.row ag_ 228]] .z .z)))) (cond (Nat.beq k 151) (.p .z (.p .z (.p (.p .z (.ls [.v 18 .int] [] [] 0 .z)) .z))) (cond (Nat.beq k 152) (.p .z (.p .z (.p (.p .z (.lp [.r 4 .int 3] [] [.m (.s 3) .int ag_] 0 (.p .z (.p (.p .z (.p .z (.lp [.r 4 .int 3,.v 45 .int] [.r 4 .int 3] [.m (.s 3) .int ag_] 2 (.p .z (.p .z (.j0 [.r 4 .int 3,.m (.s 3) .int ag_] (.p .z (.p .z (.p .z (.j0 [.b (.s 8) [.keep,.val .int]] .z (.p .z (.j0 [.r 4 .int 3] .z (.j0 [.v 102 .bool] .z .z))))))) .z)))))) .z)))) (.p .z (.p (.p .z (.lp [.v 11 .int,.v 12 .int,.v 114 .int] [.v 12 .int] [] 4 (.p .z (.p .z (.j0 [.v 11 .int,.v 12 .int] (.p .z (.p .z (.j0 [.v 139 .bool] .z .z))) .z))))) .z))))) (cond (Nat.beq k 153) (.p .z (.j0 [.v 2 .int] .z .z)) (cond (Nat.beq k 154) (.p .z (.j0 [.v 5 .int] .z (.p .z (.p (.p .z (.lp [.v 5 .int,.v 6 .int] [.v 5 .int] [.o (.s 0) ag_] 0 (.p .z (.j0 [.v 5 .int,.o (.s 0) ag_] .z .z)))) .z)))) (cond (Nat.beq k 200) (.p .z (.p (.p .z (.ls [.v 8 .int] [] [] 0 .z)) .z)) (.z)))))))) (λk=>Nat.beq k 232||false) (cxC [c_232] []) 11) (.p .z (.p .z (.p (.lp [.r 6 .int 3] [.r 6 .int 3] [.b (.s 8) [.keep,.keep,.keep,.keep,.val .int,.row ag_ 228]] 0 (.p (.j0 [.v 40 .bool] .z .z) (.j0 [.v 9 .int] .z .z))) .z))) 78 [ck_,ag_,.int] [(.list .int),.bool]=λx=>dc_ x.1 x.2.1 x.2.2.1:=by kernel_rfl
noncomputable def c_78:Con prog:=av_ _ _ 78 [ck_,ag_,.int] [(.list .int),.bool] _ x_78
noncomputable def fq_ (a0:(List UInt8)):Option (Bool×Unit) :=
 ((af_ (ρ:=(Unit⊕(Bool×Unit))) (λ(v0:(Int×Unit)) =>
 (cond (decide (v0.1<(a0.length:Int)))
 ((((at? a0 v0.1).bind λv1 =>
 (cond (decide (((UInt8.toNat v1):Int)<97))
 (some (true,()))
 ((at? a0 v0.1).bind λv2 =>
 (some ((decide (122<((UInt8.toNat v2):Int))),())))))).bind λv3 =>
 (cond v3.1
 (some (inr (inr (false,()))))
 (some (inl ((w64 (v0.1+1)),())))))
 (some (inr (inl ()))))) (0,())).bind λv4 =>
 (ca_ v4 (λv5=>(cond (!(a0==[]))
 ((cz_ [[97,116],[115,116,97,116,101,115],[115,116,97,114,116],[103,111,110,101],[105,102],[108,111,99,107],[119,105,116,104],[115,101,116,115],[115,112,101,110,100,115],[98,114,105,110,103,115]] a0).bind λv7 =>
 (some ((!v7.1),())))
 (some (false,()))))
 (λv6=>(some v6))))
theorem x_206:au_ (P:=prog) (cxC [c_235] []) (.p .z (.p (.p .z (.ls [.v 6 .int] [] [] 0 (.p .z (.p .z (.p (.p .z (.j0 [.v 18 .bool] .z .z)) .z))))) .z)) 206 [.str] [.bool]=λx=>fq_ x.1:=by kernel_rfl
noncomputable def c_206:Con prog:=av_ _ _ 206 [.str] [.bool] _ x_206
noncomputable def eb_ (a0:ad_) (a1:(List bn_)):Option (Bool×Unit) :=
 (cond (decide ((a1.length:Int)≤8))
 ((((af_ (ρ:=(Unit⊕(Bool×Unit))) (λ(v0:(Int×Unit)) =>
 (cond (decide (v0.1<(a1.length:Int)))
 ((at? a1 v0.1).bind λv1 =>
 ((fr_ a0 v1.1 v1.2.1).bind λv2 =>
 (cond (!v2.1)
 (some (inr (inr ((decide (0≤v0.1)),()))))
 (some (inl ((w64 (v0.1+1)),()))))))
 (some (inr (inl ()))))) (0,())).bind λv3 =>
 (ca_ v3 (λv4=>(some ((decide (0≤(-1))),())))
 (λv5=>(some v5))))).bind λv6 =>
 (some ((!v6.1),())))
 (some (false,())))
theorem x_175:au_ (P:=prog) (cxI (λk=>cond (Nat.beq k 166) (.p .z (.j0 [.v 4 .bool] .z .z)) (cond (Nat.beq k 205) (.p .z (.p (.p .z (.ls [.v 8 .int] [] [] 0 .z)) .z)) (.z))) (λk=>Nat.beq k 164||false) (cxC [cq4] []) 4) .z 175 [ao_,(.list co_)] [.bool]=λx=>eb_ x.1 x.2.1:=by kernel_rfl
noncomputable def c_175:Con prog:=av_ _ _ 175 [ao_,(.list co_)] [.bool] _ x_175
noncomputable def dn_ (a0:ab_) (a1:(List Int)):Option (Bool×Unit) :=
 (cond ((a1.length:Int)==a0.1)
 ((((af_ (ρ:=(Unit⊕(Bool×Unit))) (λ(v0:(Int×Unit)) =>
 (cond (decide (v0.1<(a1.length:Int)))
 ((at? a1 v0.1).bind λv1 =>
 ((cq_ a0 v1).bind λv2 =>
 (cond (!v2.1)
 (some (inr (inr ((decide (0≤v0.1)),()))))
 (some (inl ((w64 (v0.1+1)),()))))))
 (some (inr (inl ()))))) (0,())).bind λv3 =>
 (ca_ v3 (λv4=>(some ((decide (0≤(-1))),())))
 (λv5=>(some v5))))).bind λv6 =>
 (some ((!v6.1),())))
 (some (false,())))
theorem x_220:au_ (P:=prog) (cxI (λk=>cond (Nat.beq k 73) (.p .z (.j0 [.v 4 .bool] .z .z)) (cond (Nat.beq k 109) (.p .z (.p (.p .z (.ls [.v 8 .int] [] [] 0 .z)) .z)) (.z))) (λk=>Nat.beq k 246||false) (cxC [c_246] []) 4) .z 220 [ag_,(.list .int)] [.bool]=λx=>dn_ x.1 x.2.1:=by kernel_rfl
noncomputable def c_220:Con prog:=av_ _ _ 220 [ag_,(.list .int)] [.bool] _ x_220
noncomputable def gj_ (a0:al_) (a1:(List Int)):Option (Bool×Unit) :=
 ((oc_ a0 a1).bind λv0 =>
 (some ((v0.1 != a0.2.2.2.2.2.2),())))
theorem x_223:au_ (P:=prog) (cxC [c_248] []) (.p .z (.p (.q [] .z .z) .z)) 223 [aq_,(.list .int)] [.bool]=λx=>gj_ x.1 x.2.1:=by kernel_rfl
noncomputable def c_223:Con prog:=av_ _ _ 223 [aq_,(.list .int)] [.bool] _ x_223
noncomputable def dl_ (a0:ac_) (a1:aw_) (a2:Int):Option ((List Int)×Unit) :=
 ((mk? (α:=Int) (a1.1.length:Int) 0).bind λv0 =>
 ((af_ (ρ:=((List Int)×Unit)) (λ(v1:(Int×((List Int)×Unit))) =>
 (cond (decide (v1.1<(v1.2.1.length:Int)))
 ((((at? v1.2.1 v1.1).bind λv2 =>
 ((at? v1.2.1 v1.1).bind λv3 =>
 ((at? a1.1 v1.1).bind λv4 =>
 ((ha_ a0 v4).bind λv5 =>
 (cond v5.1
 ((at? (v1.2.1.set v1.1.toNat (-1)) v1.1).bind λv6 =>
 ((at? (v1.2.1.set v1.1.toNat (-1)) v1.1).bind λv7 =>
 (some (((v1.2.1.set v1.1.toNat (-1)).set v1.1.toNat 0),()))))
 (some ((v1.2.1.set v1.1.toNat (-1)),())))))))).bind λv8 =>
 (some (inl ((w64 (v1.1+1)),(v8.1,())))))
 (some (inr (v1.2.1,()))))) (0,(v0,()))).bind λv9 =>
 ((af_ (ρ:=((List Int)×Unit)) (λ(v10:(Int×(Bool×((List Int)×Unit)))) =>
 (cond v10.2.1
 ((af_ (ρ:=(Bool×((List Int)×Unit))) (λ(v11:(Bool×(Int×((List Int)×Unit)))) =>
 (cond (decide (v11.2.1<(v11.2.2.1.length:Int)))
 ((af_ (ρ:=(Bool×((List Int)×Unit))) (λ(v12:(Bool×(Int×((List Int)×Unit)))) =>
 ((((at? a1.2 v11.2.1).bind λv13 =>
 (cond (decide (v12.2.1<(v13.length:Int)))
 ((at? v12.2.2.1 v11.2.1).bind λv14 =>
 ((at? v12.2.2.1 v11.2.1).bind λv15 =>
 (some ((decide (v15<0)),()))))
 (some (false,()))))).bind λv16 =>
 (cond v16.1
 ((((at? a1.2 v11.2.1).bind λv17 =>
 ((at? v17 v12.2.1).bind λv18 =>
 ((((at? v12.2.2.1 v18.2).bind λv19 =>
 ((at? v12.2.2.1 v18.2).bind λv20 =>
 (cond (v20==(w64 (v10.1 - 1)))
 ((md_ v18 a2).bind λv21 =>
 (some ((!v21.1),())))
 (some (false,())))))).bind λv22 =>
 (cond v22.1
 ((at? v12.2.2.1 v11.2.1).bind λv23 =>
 ((at? v12.2.2.1 v11.2.1).bind λv24 =>
 (some (true,((v12.2.2.1.set v11.2.1.toNat v10.1),())))))
 (some (v12.1,(v12.2.2.1,())))))))).bind λv25 =>
 (some (inl (v25.1,((w64 (v12.2.1+1)),(v25.2.1,()))))))
 (some (inr (v12.1,(v12.2.2.1,()))))))) (v11.1,(0,(v11.2.2.1,())))).bind λv26 =>
 (some (inl (v26.1,((w64 (v11.2.1+1)),(v26.2.1,()))))))
 (some (inr (v11.1,(v11.2.2.1,())))))) (false,(0,(v10.2.2.1,())))).bind λv27 =>
 (some (inl ((w64 (v10.1+1)),(v27.1,(v27.2.1,()))))))
 (some (inr (v10.2.2.1,()))))) (1,(true,(v9.1,())))).bind λv28 =>
 (some (v28.1,())))))
theorem x_32:au_ (P:=prog) (cxC [c_36,c_44] []) (.p .z (.p .z (.p (.p .z (.lp [.v 8 .int] [] [.o (.s 7) .int] 0 (.p .z (.j0 [.o (.s 7) .int] (.p .z (.p (.q [] .z .z) .z)) .z)))) (.p (.p .z (.lp [.v 9 .int,.v 10 .bool] [] [.o (.s 7) .int] 2 (.p .z (.p (.p .z (.p .z (.lp [.v 10 .bool,.v 11 .int] [.v 10 .bool] [.o (.s 7) .int] 4 (.p .z (.p (.p .z (.lp [.v 10 .bool,.v 12 .int] [.v 10 .bool] [.o (.s 7) .int] 6 (.p (.j0 [.v 60 .bool] .z .z) (.j0 [.v 10 .bool,.o (.s 7) .int] (.p .z (.j0 [.v 84 .bool] .z .z)) .z)))) .z))))) .z)))) .z)))) 32 [an_,bk_,.int] [(.list .int)]=λx=>dl_ x.1 x.2.1 x.2.2.1:=by kernel_rfl
noncomputable def c_32:Con prog:=av_ _ _ 32 [an_,bk_,.int] [(.list .int)] _ x_32
end
section
set_option maxRecDepth 100000
set_option maxHeartbeats 0
noncomputable def nx_ (a0:ad_) (a1:Int):Option (Bool×Unit) :=
 ((at? a0.2.2.2.2.1 a1).bind λv0 =>
 ((af_ (ρ:=(Unit⊕(Bool×Unit))) (λ(v1:(Int×Unit)) =>
 (cond (decide (v1.1<a1))
 ((at? a0.2.2.2.2.1 v1.1).bind λv2 =>
 (cond (v2.1==v0.1)
 (some (inr (inr (false,()))))
 (some (inl ((w64 (v1.1+1)),())))))
 (some (inr (inl ()))))) (0,())).bind λv3 =>
 (ca_ v3 (λv4=>((((ec_ v0.1).bind λv6 =>
 (cond (!v6.1)
 (some (true,()))
 ((cw_ a0 v0.2.1).bind λv7 =>
 (cond (!v7.1)
 (some (true,()))
 ((bt_ v0.2.2.1 (-1) 7).bind λv8 =>
 (cond (!v8.1)
 (some (true,()))
 ((dm_ a0 v0.2.2.2.1).bind λv9 =>
 (cond (!v9.1)
 (some (true,()))
 ((dm_ a0 v0.2.2.2.2.2.2.1).bind λv10 =>
 (cond (!v10.1)
 (some (true,()))
 ((dm_ a0 v0.2.2.2.2.2.2.2).bind λv11 =>
 (cond (!v11.1)
 (some (true,()))
 (some ((decide (6<(v0.2.2.2.2.2.1.length:Int))),()))))))))))))))).bind λv12 =>
 (cond v12.1
 (some (false,()))
 ((af_ (ρ:=(Unit⊕(Bool×Unit))) (λ(v13:(Int×Unit)) =>
 (cond (decide (v13.1<(v0.2.2.2.2.2.2.1.length:Int)))
 ((at? v0.2.2.2.2.2.2.1 v13.1).bind λv14 =>
 ((ni_ v0.2.2.2.1 v14).bind λv15 =>
 (cond (!v15.1)
 (some (inr (inr (false,()))))
 (some (inl ((w64 (v13.1+1)),()))))))
 (some (inr (inl ()))))) (0,())).bind λv16 =>
 (ca_ v16 (λv17=>((af_ (ρ:=(Unit⊕(Bool×Unit))) (λ(v19:(Int×Unit)) =>
 (cond (decide (v19.1<(v0.2.2.2.2.2.2.2.length:Int)))
 ((at? v0.2.2.2.2.2.2.2 v19.1).bind λv20 =>
 ((ni_ v0.2.2.2.1 v20).bind λv21 =>
 (cond v21.1
 (some (inr (inr (false,()))))
 (some (inl ((w64 (v19.1+1)),()))))))
 (some (inr (inl ()))))) (0,())).bind λv22 =>
 (ca_ v22 (λv23=>((af_ (ρ:=(Unit⊕(Bool×Unit))) (λ(v25:(Int×Unit)) =>
 (cond (decide (v25.1<(v0.2.2.2.2.2.1.length:Int)))
 ((at? v0.2.2.2.2.2.1 v25.1).bind λv26 =>
 ((at? v0.2.2.2.2.2.1 v25.1).bind λv27 =>
 ((hh_ a0 v26.1 v27.2).bind λv28 =>
 (cond (!v28.1)
 (some (inr (inr (false,()))))
 ((af_ (ρ:=(Unit⊕((Int×Unit)⊕(Unit⊕(Bool×Unit))))) (λ(v29:(Int×Unit)) =>
 (cond (decide (v29.1<v25.1))
 ((at? v0.2.2.2.2.2.1 v29.1).bind λv30 =>
 ((at? v0.2.2.2.2.2.1 v25.1).bind λv31 =>
 (cond (v30.1==v31.1)
 (some (inr (inr (inr (inr (false,()))))))
 (some (inl ((w64 (v29.1+1)),()))))))
 (some (inr (inl ()))))) (0,())).bind λv32 =>
 (ca_ v32 (λv33=>(some (inl ((w64 (v25.1+1)),()))))
 (λv34=>(some v34))))))))
 (some (inr (inl ()))))) (0,())).bind λv35 =>
 (ca_ v35 (λv36=>(some (true,())))
 (λv37=>(some v37)))))
 (λv24=>(some v24)))))
 (λv18=>(some v18)))))))
 (λv5=>(some v5)))))
theorem x_85:au_ (P:=prog) (cxC [c_81,c_83,c_84,c_86,c_116,c_117] []) (.p .z (.p .z (.p (.p .z (.ls [.v 6 .int] [] [] 0 .z)) (.p (.j0 [.v 73 .bool] .z .z) (.p (.p .z (.ls [.v 7 .int] [] [] 2 .z)) (.p (.p .z (.ls [.v 8 .int] [] [] 4 .z)) (.p (.p .z (.ls [.v 9 .int] [] [] 6 (.p .z (.p (.p .z (.p .z (.ls [.v 10 .int] [] [] 8 .z))) .z)))) .z))))))) 85 [ao_,.int] [.bool]=λx=>nx_ x.1 x.2.1:=by kernel_rfl
noncomputable def c_85:Con prog:=av_ _ _ 85 [ao_,.int] [.bool] _ x_85
noncomputable def gh_ (a0:ab_) (a1:al_):Option (Int×Unit) :=
 ((ev_ a0).bind λv0 =>
 (cond (v0.1 != 0)
 (some (v0.1,()))
 ((gw_ a0 a1).bind λv1 =>
 (cond (!v1.1)
 (some (11,()))
 (some (0,()))))))
theorem x_90:au_ (P:=prog) (cxC [c_53,c_118] []) .z 90 [ag_,aq_] [.int]=λx=>gh_ x.1 x.2.1:=by kernel_rfl
noncomputable def c_90:Con prog:=av_ _ _ 90 [ag_,aq_] [.int] _ x_90
noncomputable def ff_ (a0:ab_) (a1:(List al_)):Option (Int×Unit) :=
 ((ev_ a0).bind λv0 =>
 (cond (v0.1 != 0)
 (some (v0.1,()))
 (cond (decide (20<(a1.length:Int)))
 (some (2,()))
 ((af_ (ρ:=(Unit⊕(Int×Unit))) (λ(v1:(Int×Unit)) =>
 (cond (decide (v1.1<(a1.length:Int)))
 ((at? a1 v1.1).bind λv2 =>
 ((gw_ a0 v2).bind λv3 =>
 (cond (!v3.1)
 (some (inr (inr (11,()))))
 (some (inl ((w64 (v1.1+1)),()))))))
 (some (inr (inl ()))))) (0,())).bind λv4 =>
 (ca_ v4 (λv5=>(some (0,())))
 (λv6=>(some v6)))))))
theorem x_233:au_ (P:=prog) (cxC [c_53,c_118] []) (.p .z (.p .z (.p .z (.p (.p .z (.ls [.v 6 .int] [] [] 0 (.p .z (.p (.p (.q [] .z .z) .z) .z)))) .z)))) 233 [ag_,(.list aq_)] [.int]=λx=>ff_ x.1 x.2.1:=by kernel_rfl
noncomputable def c_233:Con prog:=av_ _ _ 233 [ag_,(.list aq_)] [.int] _ x_233
noncomputable def km_ (a0:(List al_)) (a1:(List Int)):Option (Int×Unit) :=
 ((af_ (ρ:=(Unit⊕(Int×Unit))) (λ(v0:(Int×Unit)) =>
 (cond (decide (v0.1<(a0.length:Int)))
 ((at? a0 v0.1).bind λv1 =>
 ((fw_ v1 a1).bind λv2 =>
 (cond (!v2.1)
 (some (inr (inr (v0.1,()))))
 (some (inl ((w64 (v0.1+1)),()))))))
 (some (inr (inl ()))))) (0,())).bind λv3 =>
 (ca_ v3 (λv4=>(some ((-1),())))
 (λv5=>(some v5))))
theorem x_254:au_ (P:=prog) (cxC [c_91] []) (.p .z (.p (.p .z (.ls [.v 5 .int] [] [] 0 .z)) .z)) 254 [(.list aq_),(.list .int)] [.int]=λx=>km_ x.1 x.2.1:=by kernel_rfl
noncomputable def c_254:Con prog:=av_ _ _ 254 [(.list aq_),(.list .int)] [.int] _ x_254
noncomputable def mg_ (a0:ac_) (a1:aa_) (a2:ah_):Option (aa_×Unit) :=
 ((gu_ a0.1 a1.1 a2).bind λv0 =>
 ((jl_ a0 (v0.1,a1.2)).bind λv1 =>
 (some (v1.1,()))))
theorem x_61:au_ (P:=prog) (cxC [c_93,c_97] []) .z 61 [an_,ak_,ar_] [ak_]=λx=>mg_ x.1 x.2.1 x.2.2.1:=by kernel_rfl
noncomputable def c_61:Con prog:=av_ _ _ 61 [an_,ak_,ar_] [ak_] _ x_61
noncomputable def ic_ (a0:aw_) (a1:(List Int)) (a2:ab_) (a3:Int):Option ((List Int)×Bool×Int×Unit) :=
 ((ea_ a0 a1 a2 a3).bind λv0 =>
 (cond (v0.2.1 != 0)
 (some ([],(false,(v0.2.1,()))))
 ((dc_ v0.1 a2 a3).bind λv1 =>
 (some (v1.1,(v1.2.1,(0,())))))))
theorem x_46:au_ (P:=prog) (cxC [c_77,c_78] []) .z 46 [bk_,(.list .int),ag_,.int] [(.list .int),.bool,.int]=λx=>ic_ x.1 x.2.1 x.2.2.1 x.2.2.2.1:=by kernel_rfl
noncomputable def c_46:Con prog:=av_ _ _ 46 [bk_,(.list .int),ag_,.int] [(.list .int),.bool,.int] _ x_46
noncomputable def et_ (a0:bd_) (a1:Int) (a2:Int):Option ((List Int)×Bool×Unit) :=
 ((es_ a0).bind λv0 =>
 ((af_ (ρ:=(((List Int)×Unit)⊕((List Int)×(Bool×Unit)))) (λ(v1:((List Int)×(Int×Unit))) =>
 (cond (decide (v1.2.1<v0.1))
 ((dc_ a0 (a1,v1.2.1) a2).bind λv2 =>
 (cond (!v2.2.1)
 (some (inr (inr ([],(false,())))))
 ((push? (α:=Int) v1.1 [(v2.1.length:Int)]).bind λv3 =>
 (some (inl (v3,((w64 (v1.2.1+1)),())))))))
 (some (inr (inl (v1.1,())))))) ([],(0,()))).bind λv4 =>
 (ca_ v4 (λv5=>(some (v5.1,(true,()))))
 (λv6=>(some v6)))))
theorem x_79:au_ (P:=prog) (cxC [c_78,c_114] []) (.p .z (.p (.p .z (.ls [.r 6 .int 3,.v 13 .int] [.r 6 .int 3] [] 0 .z)) .z)) 79 [ck_,.int,.int] [(.list .int),.bool]=λx=>et_ x.1 x.2.1 x.2.2.1:=by kernel_rfl
noncomputable def c_79:Con prog:=av_ _ _ 79 [ck_,.int,.int] [(.list .int),.bool] _ x_79
noncomputable def qs_ (a0:ad_) (a1:Int) (a2:ed_):Option (Bool×Unit) :=
 ((((sub? a0.2.2.2.2.1 0 a1).bind λv0 =>
 ((((fq_ a2.1).bind λv1 =>
 (cond v1.1
 (cond (decide ((a2.1.length:Int)≤12))
 ((((af_ (ρ:=(Unit⊕(Int×Unit))) (λ(v2:(Int×Unit)) =>
 (cond (decide (v2.1<(v0.length:Int)))
 ((at? v0 v2.1).bind λv3 =>
 (cond (v3.1==a2.1)
 (some (inr (inr (v2.1,()))))
 (some (inl ((w64 (v2.1+1)),())))))
 (some (inr (inl ()))))) (0,())).bind λv4 =>
 (ca_ v4 (λv5=>(some ((-1),())))
 (λv6=>(some v6))))).bind λv7 =>
 (some ((decide (v7.1<0)),())))
 (some (false,())))
 (some (false,()))))).bind λv8 =>
 (cond (!v8.1)
 (some (true,()))
 ((bc_ a2.2.1 0 (w64 ((a0.1.length:Int) - 1))).bind λv9 =>
 (cond (!v9.1)
 (some (true,()))
 ((bc_ a2.2.2.1 (-1) 7).bind λv10 =>
 (some ((!v10.1),()))))))))).bind λv11 =>
 (cond v11.1
 (some (false,()))
 ((((hr_ a0 a2.2.2.2.1).bind λv12 =>
 (cond (!v12.1)
 (some (true,()))
 ((hr_ a0 a2.2.2.2.2.2.2.1).bind λv13 =>
 (cond (!v13.1)
 (some (true,()))
 ((hr_ a0 a2.2.2.2.2.2.2.2).bind λv14 =>
 (cond (!v14.1)
 (some (true,()))
 (some ((decide (6<(a2.2.2.2.2.2.1.length:Int))),()))))))))).bind λv15 =>
 (cond v15.1
 (some (false,()))
 ((((((af_ (ρ:=(Unit⊕(Bool×Unit))) (λ(v16:(Int×Unit)) =>
 (cond (decide (v16.1<(a2.2.2.2.2.2.2.1.length:Int)))
 ((at? a2.2.2.2.2.2.2.1 v16.1).bind λv17 =>
 ((bl_ a2.2.2.2.1 v17).bind λv18 =>
 (cond (!v18.1)
 (some (inr (inr ((decide (0≤v16.1)),()))))
 (some (inl ((w64 (v16.1+1)),()))))))
 (some (inr (inl ()))))) (0,())).bind λv19 =>
 (ca_ v19 (λv20=>(some ((decide (0≤(-1))),())))
 (λv21=>(some v21))))).bind λv22 =>
 (cond v22.1
 (some (true,()))
 ((((af_ (ρ:=(Unit⊕(Bool×Unit))) (λ(v23:(Int×Unit)) =>
 (cond (decide (v23.1<(a2.2.2.2.2.2.2.2.length:Int)))
 ((at? a2.2.2.2.2.2.2.2 v23.1).bind λv24 =>
 ((bl_ a2.2.2.2.1 v24).bind λv25 =>
 (cond v25.1
 (some (inr (inr ((decide (0≤v23.1)),()))))
 (some (inl ((w64 (v23.1+1)),()))))))
 (some (inr (inl ()))))) (0,())).bind λv26 =>
 (ca_ v26 (λv27=>(some ((decide (0≤(-1))),())))
 (λv28=>(some v28))))).bind λv29 =>
 (some (v29.1,())))))).bind λv30 =>
 (cond v30.1
 (some (false,()))
 ((af_ (ρ:=(Unit⊕(Bool×Unit))) (λ(v31:(Int×Unit)) =>
 (cond (decide (v31.1<(a2.2.2.2.2.2.1.length:Int)))
 ((at? a2.2.2.2.2.2.1 v31.1).bind λv32 =>
 ((sub? a2.2.2.2.2.2.1 0 v31.1).bind λv33 =>
 ((((af_ (ρ:=(Unit⊕(Bool×Unit))) (λ(v34:(Int×Unit)) =>
 (cond (decide (v34.1<(v33.length:Int)))
 ((at? v33 v34.1).bind λv35 =>
 (cond (v35.1==v32.1)
 (some (inr (inr ((decide (0≤v34.1)),()))))
 (some (inl ((w64 (v34.1+1)),())))))
 (some (inr (inl ()))))) (0,())).bind λv36 =>
 (ca_ v36 (λv37=>(some ((decide (0≤(-1))),())))
 (λv38=>(some v38))))).bind λv39 =>
 ((((fr_ a0 v32.1 v32.2).bind λv40 =>
 (cond (!v40.1)
 (some (true,()))
 (some (v39.1,()))))).bind λv41 =>
 (cond v41.1
 (some (inr (inr (false,()))))
 (some (inl ((w64 (v31.1+1)),()))))))))
 (some (inr (inl ()))))) (0,())).bind λv42 =>
 (ca_ v42 (λv43=>(some (true,())))
 (λv44=>(some v44))))))))))
theorem x_176:au_ (P:=prog) (cxI (λk=>cond (Nat.beq k 73) (.p .z (.j0 [.v 4 .bool] .z .z)) (cond (Nat.beq k 109) (.p .z (.p (.p .z (.ls [.v 8 .int] [] [] 0 .z)) .z)) (cond (Nat.beq k 211) (.p .z (.j0 [.v 6 .bool] .z .z)) (cond (Nat.beq k 216) (.p .z (.j0 [.v 4 .bool] .z .z)) (cond (Nat.beq k 242) (.p .z (.j0 [.v 6 .int] .z .z)) (cond (Nat.beq k 243) (.p .z (.p (.p .z (.ls [.v 8 .int] [] [] 0 .z)) .z)) (cond (Nat.beq k 256) (.p .z (.p (.p .z (.ls [.v 8 .int] [] [] 0 .z)) .z)) (cond (Nat.beq k 257) (.p .z (.p (.q [] .z .z) .z)) (.z))))))))) (λk=>Nat.beq k 139||Nat.beq k 164||Nat.beq k 165||Nat.beq k 206||Nat.beq k 212||Nat.beq k 213||false) (cxC [cq5,cq4,cc8,c_206,c_212,c_213] []) 12) (.p .z (.p (.j0 [.v 35 .bool] (.q [] .z .z) .z) (.p (.j0 [.v 60 .bool] .z .z) (.p .z (.p .z (.p (.j0 [.v 72 .bool] .z .z) (.p (.p .z (.ls [.v 76 .int] [] [] 0 (.p .z (.p .z (.p (.p .z (.p .z (.j0 [.v 96 .bool] .z .z))) .z))))) .z))))))) 176 [ao_,.int,os_] [.bool]=λx=>qs_ x.1 x.2.1 x.2.2.1:=by kernel_rfl
noncomputable def c_176:Con prog:=av_ _ _ 176 [ao_,.int,os_] [.bool] _ x_176
noncomputable def ij_ (a0:ab_) (a1:(List (List Int))):Option (Int×Unit) :=
 ((ew_ a0).bind λv0 =>
 (cond (v0.1 != 0)
 (some (v0.1,()))
 ((((af_ (ρ:=(Unit⊕(Bool×Unit))) (λ(v1:(Int×Unit)) =>
 (cond (decide (v1.1<(a1.length:Int)))
 ((at? a1 v1.1).bind λv2 =>
 ((dn_ a0 v2).bind λv3 =>
 (cond (!v3.1)
 (some (inr (inr ((decide (0≤v1.1)),()))))
 (some (inl ((w64 (v1.1+1)),()))))))
 (some (inr (inl ()))))) (0,())).bind λv4 =>
 (ca_ v4 (λv5=>(some ((decide (0≤(-1))),())))
 (λv6=>(some v6))))).bind λv7 =>
 (cond v7.1
 (some (12,()))
 (some (0,()))))))
theorem x_178:au_ (P:=prog) (cxI (λk=>cond (Nat.beq k 218) (.p .z (.j0 [.v 4 .bool] .z .z)) (cond (Nat.beq k 244) (.p .z (.p (.p .z (.ls [.v 8 .int] [] [] 0 .z)) .z)) (.z))) (λk=>Nat.beq k 132||Nat.beq k 220||false) (cxC [cq6,c_220] []) 4) .z 178 [ag_,(.list (.list .int))] [.int]=λx=>ij_ x.1 x.2.1:=by kernel_rfl
noncomputable def c_178:Con prog:=av_ _ _ 178 [ag_,(.list (.list .int))] [.int] _ x_178
noncomputable def dp_ (a0:ab_) (a1:al_):Option (Bool×Unit) :=
 (((cond (a1.1==1)
 ((bv_ a0 a1.2.1).bind λv0 =>
 (cond v0.1
 ((cq_ a0 a1.2.2.2.1).bind λv1 =>
 (some (v1.1,((a1.2.1,(0,(a1.2.2.2.1,(0,([],()))))),()))))
 (some (false,((a1.2.1,(0,(a1.2.2.2.1,(0,([],()))))),())))))
 (cond (a1.1==2)
 ((bv_ a0 a1.2.1).bind λv2 =>
 (cond v2.1
 ((bv_ a0 a1.2.2.1).bind λv3 =>
 (cond v3.1
 (cond (decide (a1.2.1≤a1.2.2.1))
 ((cb_ a1.2.2.2.1 0 100).bind λv4 =>
 (some (v4.1,((a1.2.1,(a1.2.2.1,(a1.2.2.2.1,(0,([],()))))),()))))
 (some (false,((a1.2.1,(a1.2.2.1,(a1.2.2.2.1,(0,([],()))))),()))))
 (some (false,((a1.2.1,(a1.2.2.1,(a1.2.2.2.1,(0,([],()))))),())))))
 (some (false,((a1.2.1,(a1.2.2.1,(a1.2.2.2.1,(0,([],()))))),())))))
 (((cond (a1.1==3)
 (some ((a1.1==3),()))
 (some ((a1.1==4),())))).bind λv5 =>
 (cond v5.1
 ((bv_ a0 a1.2.1).bind λv6 =>
 (cond v6.1
 ((bv_ a0 a1.2.2.1).bind λv7 =>
 (cond v7.1
 (some ((a1.2.1 != a1.2.2.1),((a1.2.1,(a1.2.2.1,(0,(0,([],()))))),())))
 (some (false,((a1.2.1,(a1.2.2.1,(0,(0,([],()))))),())))))
 (some (false,((a1.2.1,(a1.2.2.1,(0,(0,([],()))))),())))))
 (cond (a1.1==5)
 ((cq_ a0 a1.2.2.2.1).bind λv8 =>
 (cond v8.1
 ((cb_ a1.2.2.2.2.1 0 a0.1).bind λv9 =>
 (some (v9.1,((0,(0,(a1.2.2.2.1,(a1.2.2.2.2.1,([],()))))),()))))
 (some (false,((0,(0,(a1.2.2.2.1,(a1.2.2.2.2.1,([],()))))),())))))
 (cond (a1.1==6)
 ((cb_ a1.2.2.2.1 0 a0.1).bind λv10 =>
 (cond v10.1
 ((cb_ a1.2.2.2.2.1 0 a0.1).bind λv11 =>
 (cond v11.1
 ((dn_ a0 a1.2.2.2.2.2.1).bind λv12 =>
 (some (v12.1,((0,(0,(a1.2.2.2.1,(a1.2.2.2.2.1,(a1.2.2.2.2.2.1,()))))),()))))
 (some (false,((0,(0,(a1.2.2.2.1,(a1.2.2.2.2.1,(a1.2.2.2.2.2.1,()))))),())))))
 (some (false,((0,(0,(a1.2.2.2.1,(a1.2.2.2.2.1,(a1.2.2.2.2.2.1,()))))),())))))
 (cond (a1.1==7)
 ((bv_ a0 a1.2.1).bind λv13 =>
 (cond v13.1
 ((cb_ a1.2.2.2.1 2 10).bind λv14 =>
 (cond v14.1
 ((cb_ a1.2.2.2.2.1 0 (w64 (a1.2.2.2.1 - 1))).bind λv15 =>
 (some (v15.1,((a1.2.1,(0,(a1.2.2.2.1,(a1.2.2.2.2.1,([],()))))),()))))
 (some (false,((a1.2.1,(0,(a1.2.2.2.1,(a1.2.2.2.2.1,([],()))))),())))))
 (some (false,((a1.2.1,(0,(a1.2.2.2.1,(a1.2.2.2.2.1,([],()))))),())))))
 (some (false,((0,(0,(0,(0,([],()))))),()))))))))))).bind λv16 =>
 (cond v16.1
 (cond (a1.2.1==v16.2.1.1)
 (cond (a1.2.2.1==v16.2.1.2.1)
 (cond (a1.2.2.2.1==v16.2.1.2.2.1)
 (cond (a1.2.2.2.2.1==v16.2.1.2.2.2.1)
 (some (((a1.2.2.2.2.2.1.length:Int)==(v16.2.1.2.2.2.2.1.length:Int)),()))
 (some (false,())))
 (some (false,())))
 (some (false,())))
 (some (false,())))
 (some (false,()))))
theorem x_247:au_ (P:=prog) (cxC [cq3,c_220,c_246,c_258] []) (.p .z (.p .z (.p .z (.j0 [.v 6 .bool,.b (.s 5) [.keep,.val .int,.val .int,.val .int,.val .int,.val (.list .int),.keep]] (.p .z (.p .z (.p .z (.p .z (.p .z (.j0 [.v 65 .bool] .z .z)))))) .z)))) 247 [ag_,aq_] [.bool]=λx=>dp_ x.1 x.2.1:=by kernel_rfl
noncomputable def c_247:Con prog:=av_ _ _ 247 [ag_,aq_] [.bool] _ x_247
noncomputable def gk_ (a0:(List al_)) (a1:(List Int)):Option (Int×Unit) :=
 ((af_ (ρ:=(Unit⊕(Int×Unit))) (λ(v0:(Int×Unit)) =>
 (cond (decide (v0.1<(a0.length:Int)))
 ((at? a0 v0.1).bind λv1 =>
 ((gj_ v1 a1).bind λv2 =>
 (cond (!v2.1)
 (some (inr (inr (v0.1,()))))
 (some (inl ((w64 (v0.1+1)),()))))))
 (some (inr (inl ()))))) (0,())).bind λv3 =>
 (ca_ v3 (λv4=>(some ((-1),())))
 (λv5=>(some v5))))
theorem x_275:au_ (P:=prog) (cxI (λk=>cond (Nat.beq k 272) (.p .z (.p (.p .z (.ls [.v 8 .int] [] [] 0 .z)) .z)) (.z)) (λk=>Nat.beq k 223||false) (cxC [c_223] []) 3) .z 275 [(.list aq_),(.list .int)] [.int]=λx=>gk_ x.1 x.2.1:=by kernel_rfl
noncomputable def c_275:Con prog:=av_ _ _ 275 [(.list aq_),(.list .int)] [.int] _ x_275
end
end Go.Proofs.YtgeehfnbhbibeaaGreatDoor.Rx
namespace Go.Proofs.YtgeehfnbhbibeaaGreatDoor.Rx
open Go Pad Rex Sum
section
def wi (a b c:Int):Bool:=decide (b≤a)&&decide (a≤c)
theorem cl_ {a b c:Int}:wi a b c=true↔b≤a∧a≤c:=by simp[wi]
theorem bh7 (a b c:Int):(cond (decide (b≤a)) (some ((decide (a≤c)),())) (some (false,())))=some (wi a b c,()):=by
 unfold wi
 cases decide (b≤a)<;>rfl
theorem ee_ (a b c:Int):bc_ a b c=some (wi a b c,()):=bh7 a b c
theorem la_ (a b c:Int):cf_ a b c=some (wi a b c,()):=bh7 a b c
theorem ga_ (a b c:Int):bt_ a b c=some (wi a b c,()):=bh7 a b c
theorem zz_ (a b c:Int):jm_ a b c=some (wi a b c,()):=bh7 a b c
theorem beqc {α:Type} [BEq α] [LawfulBEq α] (x y:α):(y==x)=(x==y):=by
 rw[j8_,g5_,g5_]
 exact eq_comm
theorem hw_ {α:Type} [BEq α] [LawfulBEq α] (l:List α) (x:α):l.any (x == ·)=l.contains x:=by
 induction l with
 | nil=>rfl
 | cons y l ih=>simp[List.contains_cons,ih]
theorem cf5 {l:List Int} {x:Int} (hl:Sm l.length):∃ i:Int,fc_ l x=some (i,())∧decide (0≤i)=l.contains x:=by
  unfold fc_
  have h1:=pi_ l (λi y=>cond (x==y) (some (inr ((i:Int),()):Unit⊕(Int×Unit))) none) (λi=>((i:Int),())) (r0:=inl ())
    (body:=λ(v0:(Int×Unit)) =>
     (cond (decide (v0.1<(l.length:Int)))
     ((at? l v0.1).bind λv1 =>
     (cond (x==v1)
     (some (inr (inr (v0.1,()))))
     (some (inl ((w64 (v0.1+1)),())))))
     (some (inr (inl ())))))
    (λi y hy=>by
      have hi:=am_ hy
      simp only[dlt hi,a5_,ai_ hy,a0_,bb_ (show Sm i by omega)]
      cases x==y<;>rfl)
    (by simp only[dnl,a2_])
  rcases ae1 (q:=λy=>x==y) (f:=λi=>(inr ((i:Int),()):Unit⊕(Int×Unit))) l 0 with ⟨h2,h3⟩ | ⟨i,h2,h3⟩
  · refine⟨-1,e5_ (congrArg (λo=>Option.bind o _) h1) ?_,by rw[← hw_,h3];rfl⟩
    rw[h2];rfl
  · refine⟨i,e5_ (congrArg (λo=>Option.bind o _) h1) ?_,by rw[← hw_,h3];exact b9_ (by omega)⟩
    rw[h2];rfl
theorem px_ {l:List Int} {x:Int} (hl:Sm l.length):bl_ l x=some (l.contains x,()):=by
 obtain⟨i,h1,h2⟩:=cf5 (x:=x) hl
 unfold bl_
 rw[h1,a0_,h2]
theorem as1 {l:List (List UInt8)} {x:List UInt8} (hl:Sm l.length):∃ i:Int,dy_ l x=some (i,())∧decide (0≤i)=l.contains x:=by
 unfold dy_
 rcases ae1 (q:=λy=>x==y) (f:=λi=>(inr ((i:Int),()):Unit⊕(Int×Unit))) l 0 with ⟨h2,h3⟩ | ⟨i,h2,h3⟩
 ·refine⟨-1,bw_ l (λi y=>cond (x==y) (some (inr ((i:Int),()):Unit⊕(Int×Unit))) none) (λi=>((i:Int),())) (r0:=inl ()) (λi y hy => ?_) ?_ ?_,by rw[← hw_,h3];rfl⟩
  ·have hi:=am_ hy
   simp only[dlt hi,a5_,ai_ hy,a0_,bb_ (show Sm i by omega)]
   cases x==y<;>rfl
  ·simp only[dnl,a2_]
  ·rw[h2];rfl
 ·refine⟨i,bw_ l (λi y=>cond (x==y) (some (inr ((i:Int),()):Unit⊕(Int×Unit))) none) (λi=>((i:Int),())) (r0:=inl ()) (λi y hy => ?_) ?_ ?_,by rw[← hw_,h3];exact b9_ (by omega)⟩
  ·have hi:=am_ hy
   simp only[dlt hi,a5_,ai_ hy,a0_,bb_ (show Sm i by omega)]
   cases x==y<;>rfl
  ·simp only[dnl,a2_]
  ·rw[h2];rfl
theorem ze_ {l:List (List UInt8)} {x:List UInt8} (hl:Sm l.length):cz_ l x=some (l.contains x,()):=by
 obtain⟨i,h1,h2⟩:=as1 (x:=x) hl
 unfold cz_
 rw[h1,a0_,h2]
theorem ba8 {l:List Int} {x:Int} (hl:Sm l.length):ni_ l x=some (l.contains x,()):=by
 unfold ni_
 refine bw_ l (λi y=>cond (x==y) (some (inr (true,()):Unit⊕(Bool×Unit))) none) (λi=>((i:Int),())) (r0:=inl ()) (λi y hy => ?_) ?_ ?_
 ·have hi:=am_ hy
  simp only[dlt hi,a5_,ai_ hy,a0_,bb_ (show Sm i by omega)]
  rw[beqc x y]
  cases x==y<;>rfl
 ·simp only[dnl,a2_]
 ·rw[hz_ (q:=λy=>x==y),hw_]
  cases l.contains x<;>rfl
def zo_ (c:UInt8):Bool:=decide (97≤(c.toNat:Int))&&decide ((c.toNat:Int)≤122)
def okW (t:List UInt8):Bool:=t.all zo_&&(!(t==[])&&!(reserved.contains t))
def okN (t:List UInt8):Bool:=decide ((t.length:Int)≤12)&&okW t
theorem cn2 (c:UInt8):(cond (decide (((UInt8.toNat c):Int)<97)) (some (true,())) (some ((decide (122<((UInt8.toNat c):Int))),())))=some (!(zo_ c),()):=by
 unfold zo_
 by_cases h1:((UInt8.toNat c):Int)<97
 ·rw[b9_ h1,c2_ (by omega:¬ (97:Int)≤(c.toNat:Int))];rfl
 ·rw[c2_ h1,b9_ (by omega:(97:Int)≤(c.toNat:Int))]
  by_cases h2:122<((UInt8.toNat c):Int)
  ·rw[b9_ h2,c2_ (by omega:¬ ((UInt8.toNat c):Int)≤122)];rfl
  ·rw[c2_ h2,b9_ (by omega:((UInt8.toNat c):Int)≤122)];rfl
theorem pj_ {t:List UInt8} (hl:Sm t.length):af_ (ρ:=(Unit⊕(Bool×Unit))) (λ(v0:(Int×Unit)) =>
 (cond (decide (v0.1<(t.length:Int)))
 ((((at? t v0.1).bind λv1 =>
 (cond (decide (((UInt8.toNat v1):Int)<97))
 (some (true,()))
 ((at? t v0.1).bind λv2 =>
 (some ((decide (122<((UInt8.toNat v2):Int))),())))))).bind λv3 =>
 (cond v3.1
 (some (inr (inr (false,()))))
 (some (inl ((w64 (v0.1+1)),())))))
 (some (inr (inl ()))))) (0,())=some (cond (t.all zo_) (inl ()) (inr (false,()))):=by
  refine e5_ (pi_ t (λi c=>cond (zo_ c) none (some (inr (false,()):Unit⊕(Bool×Unit)))) (λi=>((i:Int),())) (r0:=inl ()) (λi y hy => ?_) ?_) ?_
  · have hi:=am_ hy
    simp only[dlt hi,a5_,ai_ hy,a0_,bb_ (show Sm i by omega),cn2]
    cases zo_ y<;>rfl
  · simp only[dnl,a2_]
  · rw[kc_]
    cases t.all zo_<;>rfl
theorem bq1 {t:List UInt8} (hl:Sm t.length):fq_ t=some (okW t,()):=by
 unfold fq_
 refine e5_ (congrArg (λo=>Option.bind o _) (pj_ hl)) ?_
 unfold okW
 rw[a0_]
 cases t.all zo_ with
 | false=>rfl
 | true =>
  simp only[a5_,c0_]
  cases t==[] with
  | true=>rfl
  | false =>
   simp only[g9_,a5_,c0_]
   rw[ze_ (by decide),a0_]
   rfl
theorem ae5 {t:List UInt8} (hl:Sm t.length):ig_ t=some (okW t,()):=by
 unfold ig_
 refine e5_ (congrArg (λo=>Option.bind o _) (pj_ hl)) ?_
 unfold okW
 rw[a0_]
 cases t.all zo_ with
 | false=>rfl
 | true =>
  simp only[a5_,c0_]
  refine bw_ reserved (λi y=>cond (t==y) (some (inr (false,()):Unit⊕(Bool×Unit))) none) (λi=>((i:Int),())) (r0:=inl ()) (λi y hy => ?_) ?_ ?_
  ·have hi:=am_ hy
   have h10:i<10:=hi
   have hy':=hy
   unfold reserved at hy'
   refine e5_ (congrArg (λc=>cond c _ _) (dlt hi)) ?_
   simp only[a5_,ai_ hy',a0_,bb_ (show Sm i by omega)]
   rw[beqc t y]
   cases t==y<;>rfl
  ·rfl
  ·rw[hz_ (q:=λy=>t==y),hw_]
   cases reserved.contains t with
   | true=>simp
   | false=>simp
theorem bs0 {t:List UInt8} (hl:Sm t.length):nz_ t=some (okW t,()):=by
  unfold nz_
  have h0:(((cond (t==[]) (some ((t==[]),())) (cond (t==[97,116]) (some ((t==[97,116]),())) (cond (t==[115,116,97,116,101,115]) (some ((t==[115,116,97,116,101,115]),())) (cond (t==[115,116,97,114,116]) (some ((t==[115,116,97,114,116]),()))
     (cond (t==[103,111,110,101]) (some ((t==[103,111,110,101]),())) (cond (t==[105,102]) (some ((t==[105,102]),())) (cond (t==[108,111,99,107]) (some ((t==[108,111,99,107]),())) (cond (t==[119,105,116,104]) (some ((t==[119,105,116,104]),()))
     (cond (t==[115,101,116,115]) (some ((t==[115,101,116,115]),())) (cond (t==[115,112,101,110,100,115]) (some ((t==[115,112,101,110,100,115]),())) (some ((t==[98,114,105,110,103,115]),()))))))))))))):Option (Bool×Unit))=some ((t==[]||reserved.contains t),()):=by
    unfold reserved
    simp only[List.contains_cons,List.contains_nil,i0_]
    cases t==[] with
    | true=>rfl
    | false =>
    cases t==[97,116] with
    | true=>rfl
    | false =>
    cases t==[115,116,97,116,101,115] with
    | true=>rfl
    | false =>
    cases t==[115,116,97,114,116] with
    | true=>rfl
    | false =>
    cases t==[103,111,110,101] with
    | true=>rfl
    | false =>
    cases t==[105,102] with
    | true=>rfl
    | false =>
    cases t==[108,111,99,107] with
    | true=>rfl
    | false =>
    cases t==[119,105,116,104] with
    | true=>rfl
    | false =>
    cases t==[115,101,116,115] with
    | true=>rfl
    | false =>
    cases t==[115,112,101,110,100,115] with
    | true=>rfl
    | false=>rfl
  refine e5_ (congrArg (λo=>Option.bind o _) h0) ?_
  rw[a0_]
  unfold okW
  cases hz:(t==[]||reserved.contains t) with
  | true =>
    have:(!(t==[])&&!(reserved.contains t))=false:=by
      rw[← Bool.not_or,hz];rfl
    rw[this,f7_]
    rfl
  | false =>
    have:(!(t==[])&&!(reserved.contains t))=true:=by
      rw[← Bool.not_or,hz];rfl
    rw[this,h1_]
    simp only[a2_]
    refine e5_ (congrArg (λo=>Option.bind o _) (pj_ hl)) ?_
    rw[a0_]
    cases t.all zo_<;>rfl
theorem ky_ {t:List UInt8} (hl:Sm t.length):ec_ t=some (okN t,()):=by
 unfold ec_ okN
 rw[ae5 hl]
 cases decide ((t.length:Int)≤12)<;>rfl
end
section
def ou_ (things:List jb_) (th n:Int):Bool:=wi th 0 (w64 ((things.length:Int) - 1))&&match at? things th with
 | some t=>wi n 0 (w64 (t.2.2.1 - 1))
 | none=>false
theorem ak5 {α:Type} {l:List α} {i:Int} (hl:Sm l.length) (h:wi i 0 (w64 ((l.length:Int) - 1))=true):∃ x,at? l i=some x:=by
 rw[hd_ (by omega) (by omega)] at h
 obtain⟨h1,h2⟩:=cl_.1 h
 obtain⟨x,hx⟩:=bf_ (l:=l) (i:=i.toNat) (by omega)
 exact⟨x,by rw[show i=((i.toNat:Nat):Int) by omega];exact ai_ hx⟩
theorem qj_ {r:ad_} (hl:Sm r.2.1.length) (th n:Int):fr_ r th n=some (ou_ r.2.1 th n,()):=by
 unfold fr_ ou_
 rw[ee_,a0_]
 cases h:wi th 0 (w64 ((r.2.1.length:Int) - 1)) with
 | false=>rfl
 | true =>
  obtain⟨x,hx⟩:=ak5 hl h
  simp only[a5_,hx,a0_,ee_,c0_]
theorem si_ {r:ad_} (hl:Sm r.2.1.length) (th n:Int):hh_ r th n=some (ou_ r.2.1 th n,()):=by
 unfold hh_ ou_
 rw[ga_,a0_]
 cases h:wi th 0 (w64 ((r.2.1.length:Int) - 1)) with
 | false=>rfl
 | true =>
  obtain⟨x,hx⟩:=ak5 hl h
  simp only[a5_,hx,a0_,ga_,c0_]
def cOk (things:List jb_) (c:List bn_):Bool:=decide ((c.length:Int)≤8)&&c.all λl=>ou_ things l.1 l.2.1
theorem uu_ {α:Type} (l:List α) (q:α→Bool):(!(l.any λx=>!(q x)))=l.all q:=by
 induction l with
 | nil=>rfl
 | cons x l ih =>
  rw[p7_,List.all_cons,← ih]
  cases q x<;>rfl
theorem ks_ {r:ad_} (hl:Sm r.2.1.length) (c:List bn_):eb_ r c=some (cOk r.2.1 c,()):=by
 unfold eb_ cOk
 cases h8:decide ((c.length:Int)≤8) with
 | false=>rfl
 | true =>
  have h8:=f8_ h8
  simp only[a5_,c0_]
  refine e5_ (congrArg (λo=>Option.bind o _) (pt_ (show Sm c.length by omega) (λl=>!(ou_ r.2.1 l.1 l.2.1)) (λi y hy => ?_) ?_)) ?_
  ·simp only[dlt (am_ hy),a5_,ai_ hy,a0_,qj_ hl]
   cases ou_ r.2.1 y.1 y.2.1<;>rfl
  ·simp only[dnl,a2_]
  ·rw[a0_]
   exact congrArg (λb=>some (b,())) (uu_ c _)
theorem hp_ {r:ad_} (hl:Sm r.2.1.length) {c:List bn_} (hc:Sm c.length):cx_ r c=some (cOk r.2.1 c,()):=by
 unfold cx_ cOk
 refine bw_ c (λi l=>cond (ou_ r.2.1 l.1 l.2.1) none (some (inr (false,()):Unit⊕(Bool×Unit)))) (λi=>((i:Int),())) (r0:=inl ()) (λi y hy => ?_) ?_ ?_
 ·have hi:=am_ hy
  simp only[dlt hi,a5_,ai_ hy,a0_,bb_ (show Sm i by omega),si_ hl]
  cases ou_ r.2.1 y.1 y.2.1<;>rfl
 ·simp only[dnl,a2_]
 ·rw[kc_ (q:=λl:bn_=>ou_ r.2.1 l.1 l.2.1)]
  cases c.all λl=>ou_ r.2.1 l.1 l.2.1 with
  | true=>rw[h1_];rfl
  | false=>rw[f7_];rfl
theorem bj8 {r:ad_} (hl:Sm r.2.1.length) (c:List bn_):mi_ r c=some (cOk r.2.1 c,()):=by
 unfold mi_ cOk
 cases h8:decide ((c.length:Int)≤8) with
 | false=>rfl
 | true =>
  have h8:=f8_ h8
  simp only[a5_,c0_]
  refine e5_ (congrArg (λo=>Option.bind o _) (pt_ (show Sm c.length by omega) (λl=>!(ou_ r.2.1 l.1 l.2.1)) (λi y hy => ?_) ?_)) ?_
  ·simp only[dlt (am_ hy),a5_,ai_ hy,a0_,la_,ou_]
   cases h:wi y.1 0 (w64 ((r.2.1.length:Int) - 1)) with
   | false=>rfl
   | true =>
    obtain⟨x,hx⟩:=ak5 hl h
    simp only[e2_,a2_,hx,a0_,c0_]
    cases wi y.2.1 0 (w64 (x.2.2.1 - 1))<;>rfl
  ·simp only[dnl,a2_]
  ·rw[a0_]
   exact congrArg (λb=>some (b,())) (uu_ c _)
end
section
def prv (l:List Int) (i:Nat):Int:=match i with
 | 0=>-1
 | j+1=>(l[j]?).getD 0
def cw3 (np:Nat) (l:List Int) (i:Nat) (x:Int):Bool:=decide (x≤prv l i)||decide ((np:Int)≤x)
def badQ (np:Nat) (l:List Int) (i:Nat) (x:Int):Bool:=!(wi x 0 ((np:Int) - 1))||(decide (0<i)&&decide (x≤prv l i))
def ls_ (np:Nat) (l:List Int):Bool:=(hf_ (λi x=>cond (cw3 np l i x) (some ()) none) 0 l).isNone
theorem xd_ {α ρ:Type} {q:Nat→α→Bool} {r:ρ}:∀ (l:List α) (i:Nat),hf_ (λi x=>cond (q i x) (some r) none) i l=cond (hf_ (λi x=>cond (q i x) (some ()) none) i l).isNone none (some r)
 | [],_=>rfl
 | x::l,i=>by
  unfold hf_
  cases q i x with
  | true=>rfl
  | false=>exact xd_ l (i+1)
theorem ae0 {α:Type} {q:Nat→α→Bool} (l:List α):(hf_ (λi x=>cond (q i x) (some ()) none) 0 l).isNone=true↔∀ i x,l[i]?=some x→q i x=false:=by
 rw[Option.isNone_iff_eq_none,kv_]
 constructor
 ·intro h i x hx
  have:=h i x hx
  rw[b0_] at this
  cases hq:q i x with
  | false=>rfl
  | true=>rw[hq] at this;cases this
 ·intro h i x hx
  rw[b0_,h i x hx]
  rfl
theorem cw6 (np:Nat) (l:List Int):(hf_ (λi x=>cond (badQ np l i x) (some ()) none) 0 l).isNone=ls_ np l:=by
 rw[j8_]
 unfold ls_
 rw[ae0,ae0]
 constructor
 ·intro h i x hx
  have h0:=h i x hx
  unfold badQ at h0
  rw[b8_] at h0
  obtain⟨h1,h2⟩:=h0
  have h1:wi x 0 ((np:Int) - 1)=true:=by simpa using h1
  obtain⟨h3,h4⟩:=cl_.1 h1
  unfold cw3
  rw[b8_]
  refine⟨?_,c2_ (by omega)⟩
  cases i with
  | zero=>exact c2_ (by show ¬ x≤-1;omega)
  | succ j =>
   have:decide (0<j+1)=true:=b9_ (by omega)
   rw[this,c0_] at h2
   exact h2
 ·intro h
  have pos:∀ (i:Nat) (x:Int),l[i]?=some x→0≤x∧x<np:=by
   intro i
   induction i with
   | zero =>
    intro x hx
    have h0:=h 0 x hx
    unfold cw3 at h0
    rw[b8_] at h0
    have h1:=d7_ h0.1
    have h2:=d7_ h0.2
    have h1:¬ x≤-1:=h1
    omega
   | succ j ih =>
    intro x hx
    have h0:=h (j+1) x hx
    unfold cw3 at h0
    rw[b8_] at h0
    have h1:=d7_ h0.1
    have h2:=d7_ h0.2
    obtain⟨y,hy⟩:=bf_ (l:=l) (i:=j) (by have:=am_ hx;omega)
    have h3:=ih y hy
    have h1:¬ x≤(l[j]?).getD 0:=h1
    rw[hy] at h1
    have h1:¬ x≤y:=h1
    omega
  intro i x hx
  have h0:=h i x hx
  unfold cw3 at h0
  rw[b8_] at h0
  have hp:=pos i x hx
  unfold badQ
  have:wi x 0 ((np:Int) - 1)=true:=cl_.2 ⟨hp.1,by omega⟩
  rw[this,h0.1,f7_]
  rfl
theorem tu_ {r:ad_} {l:List Int} (hl:Sm l.length):hr_ r l=some (ls_ r.2.2.1.length l,()):=by
 unfold hr_
 refine bw_ l (λi x=>cond (cw3 r.2.2.1.length l i x) (some (inr (false,()):Unit⊕(Bool×Unit))) none) (λi=>(prv l i,((i:Int),()))) (r0:=inl ()) (λi y hy => ?_) ?_ ?_
 ·have hi:=am_ hy
  simp only[dlt hi,a5_,ai_ hy,a0_,bb_ (show Sm i by omega),cw3]
  have hn:prv l (i+1)=y:=by show (l[i]?).getD 0=y;rw[hy];rfl
  cases decide (y≤prv l i) with
  | true=>rfl
  | false =>
   simp only[a2_,k3_,a0_,hn]
   cases decide ((r.2.2.1.length:Int)≤y)<;>rfl
 ·simp only[dnl,a2_]
 ·rw[xd_]
  unfold ls_
  cases (hf_ (λi x=>cond (cw3 r.2.2.1.length l i x) (some ()) none) 0 l).isNone<;>rfl
theorem kx_ {r:ad_} (hp:Sm r.2.2.1.length) {l:List Int} (hl:Sm l.length):dm_ r l=some (ls_ r.2.2.1.length l,()):=by
 unfold dm_
 refine bw_ l (λi x=>cond (badQ r.2.2.1.length l i x) (some (inr (false,()):Unit⊕(Bool×Unit))) none) (λi=>((i:Int),())) (r0:=inl ()) (λi y hy => ?_) ?_ ?_
 ·have hi:=am_ hy
  rw[show w64 ((r.2.2.1.length:Int) - 1)=(r.2.2.1.length:Int) - 1 from hd_ (by omega) (by omega)]
  simp only[dlt hi,a5_,ai_ hy,a0_,bb_ (show Sm i by omega),ga_,badQ]
  cases wi y 0 ((r.2.2.1.length:Int) - 1) with
  | false=>rfl
  | true =>
   simp only[e2_,a2_,k3_]
   cases i with
   | zero=>rfl
   | succ j =>
    obtain⟨z,hz⟩:=bf_ (l:=l) (i:=j) (by omega)
    have e:w64 (((j+1:Nat):Int) - 1)=(j:Int):=by rw[hd_ (by omega) (by omega)];omega
    have hn:prv l (j+1)=z:=by show (l[j]?).getD 0=z;rw[hz];rfl
    rw[show decide (0<((j+1:Nat):Int))=true from b9_ (by omega),e,ai_ hz,hn,show decide (0<j+1)=true from b9_ (by omega)]
    simp only[a5_,a0_,c0_]
    cases decide (y≤z)<;>rfl
 ·simp only[dnl,a2_]
 ·rw[xd_,cw6]
  cases ls_ r.2.2.1.length l<;>rfl
end
end Go.Proofs.YtgeehfnbhbibeaaGreatDoor.Rx
namespace Go.Proofs.YtgeehfnbhbibeaaGreatDoor.Rx
open Go Pad Rex Go.Proofs Go.Proofs.Tryz Sum
section
set_option maxRecDepth 100000
set_option maxHeartbeats 0
noncomputable def gf_ (a0:ad_):Option (Int×Unit) :=
 (((cond (decide (8<(a0.1.length:Int)))
 (some (true,()))
 (cond (decide (12<(a0.2.1.length:Int)))
 (some (true,()))
 (cond (decide (10<(a0.2.2.1.length:Int)))
 (some (true,()))
 (cond (decide (16<(a0.2.2.2.1.length:Int)))
 (some (true,()))
 (cond (decide (24<(a0.2.2.2.2.1.length:Int)))
 (some (true,()))
 (some ((decide (12<(a0.2.2.2.2.2.1.length:Int))),())))))))).bind λv0 =>
 (cond v0.1
 (some (2,()))
 (cond ((a0.1.length:Int)==0)
 (some (22,()))
 ((af_ (ρ:=(Unit⊕(Int×Unit))) (λ(v1:(Int×Unit)) =>
 (cond (decide (v1.1<(a0.1.length:Int)))
 ((((at? a0.1 v1.1).bind λv2 =>
 ((ec_ v2).bind λv3 =>
 (cond (!v3.1)
 (some (true,()))
 ((gd_ a0.1 v1.1).bind λv4 =>
 (some (v4.1,()))))))).bind λv5 =>
 (cond v5.1
 (some (inr (inr (22,()))))
 (some (inl ((w64 (v1.1+1)),())))))
 (some (inr (inl ()))))) (0,())).bind λv6 =>
 (ca_ v6 (λv7=>((af_ (ρ:=(Unit⊕(Int×Unit))) (λ(v9:((List (List UInt8))×(Int×Unit))) =>
 (cond (decide (v9.2.1<(a0.2.1.length:Int)))
 ((at? a0.2.1 v9.2.1).bind λv10 =>
 ((push? (α:=(List UInt8)) v9.1 [v10.1]).bind λv11 =>
 ((((ec_ v10.1).bind λv12 =>
 (cond (!v12.1)
 (some (true,()))
 ((gd_ v11 v9.2.1).bind λv13 =>
 (cond v13.1
 (some (true,()))
 ((cw_ a0 v10.2.1).bind λv14 =>
 (cond (!v14.1)
 (some (true,()))
 ((bt_ v10.2.2.1 2 6).bind λv15 =>
 (cond (!v15.1)
 (some (true,()))
 ((bt_ v10.2.2.2 0 (w64 (v10.2.2.1 - 1))).bind λv16 =>
 (some ((!v16.1),())))))))))))).bind λv17 =>
 (cond v17.1
 (some (inr (inr (21,()))))
 (some (inl (v11,((w64 (v9.2.1+1)),()))))))))
 (some (inr (inl ()))))) ([],(0,()))).bind λv18 =>
 (ca_ v18 (λv19=>((af_ (ρ:=(Unit⊕(Int×Unit))) (λ(v21:((List (List UInt8))×(Int×Unit))) =>
 (cond (decide (v21.2.1<(a0.2.2.1.length:Int)))
 ((at? a0.2.2.1 v21.2.1).bind λv22 =>
 ((push? (α:=(List UInt8)) v21.1 [v22.1]).bind λv23 =>
 ((((ec_ v22.1).bind λv24 =>
 (cond (!v24.1)
 (some (true,()))
 ((gd_ v23 v21.2.1).bind λv25 =>
 (cond v25.1
 (some (true,()))
 (cond (v22.2.1 != (-1))
 ((cw_ a0 v22.2.1).bind λv26 =>
 (some ((!v26.1),())))
 (some (false,())))))))).bind λv27 =>
 (cond v27.1
 (some (inr (inr (24,()))))
 ((cx_ a0 v22.2.2).bind λv28 =>
 (cond (!v28.1)
 (some (inr (inr (25,()))))
 (some (inl (v23,((w64 (v21.2.1+1)),()))))))))))
 (some (inr (inl ()))))) ([],(0,()))).bind λv29 =>
 (ca_ v29 (λv30=>((af_ (ρ:=(Unit⊕(Int×Unit))) (λ(v32:(Int×Unit)) =>
 (cond (decide (v32.1<(a0.2.2.2.1.length:Int)))
 ((at? a0.2.2.2.1 v32.1).bind λv33 =>
 ((((cw_ a0 v33.1).bind λv34 =>
 (cond (!v34.1)
 (some (true,()))
 ((cw_ a0 v33.2.1).bind λv35 =>
 (cond (!v35.1)
 (some (true,()))
 (some ((v33.1==v33.2.1),()))))))).bind λv36 =>
 (cond v36.1
 (some (inr (inr (23,()))))
 ((cx_ a0 v33.2.2).bind λv37 =>
 (cond (!v37.1)
 (some (inr (inr (25,()))))
 (some (inl ((w64 (v32.1+1)),()))))))))
 (some (inr (inl ()))))) (0,())).bind λv38 =>
 (ca_ v38 (λv39=>((af_ (ρ:=(Unit⊕(Int×Unit))) (λ(v41:(Int×Unit)) =>
 (cond (decide (v41.1<(a0.2.2.2.2.1.length:Int)))
 ((nx_ a0 v41.1).bind λv42 =>
 (cond (!v42.1)
 (some (inr (inr (26,()))))
 ((at? a0.2.2.2.2.1 v41.1).bind λv43 =>
 ((cx_ a0 v43.2.2.2.2.1).bind λv44 =>
 (cond (!v44.1)
 (some (inr (inr (25,()))))
 (some (inl ((w64 (v41.1+1)),()))))))))
 (some (inr (inl ()))))) (0,())).bind λv45 =>
 (ca_ v45 (λv46=>((af_ (ρ:=(Unit⊕(Int×Unit))) (λ(v48:(Int×Unit)) =>
 (cond (decide (v48.1<(a0.2.2.2.2.2.1.length:Int)))
 ((at? a0.2.2.2.2.2.1 v48.1).bind λv49 =>
 ((at? a0.2.2.2.2.2.1 v48.1).bind λv50 =>
 ((hh_ a0 v49.2.1 v50.2.2).bind λv51 =>
 (cond (!v51.1)
 (some (inr (inr (27,()))))
 ((at? a0.2.2.2.2.2.1 v48.1).bind λv52 =>
 ((cx_ a0 v52.1).bind λv53 =>
 (cond (!v53.1)
 (some (inr (inr (25,()))))
 (some (inl ((w64 (v48.1+1)),()))))))))))
 (some (inr (inl ()))))) (0,())).bind λv54 =>
 (ca_ v54 (λv55=>((bt_ a0.2.2.2.2.2.2.1 1 4).bind λv57 =>
 (cond (!v57.1)
 (some (1,()))
 ((cx_ a0 a0.2.2.2.2.2.2.2).bind λv58 =>
 (cond (!v58.1)
 (some (25,()))
 (some (0,())))))))
 (λv56=>(some v56)))))
 (λv47=>(some v47)))))
 (λv40=>(some v40)))))
 (λv31=>(some v31)))))
 (λv20=>(some v20)))))
 (λv8=>(some v8)))))))
theorem x_52:au_ (P:=prog) (cxC [c_56,c_81,c_82,c_83,c_84,c_85,c_86] []) (.p .z (.p (.j0 [.v 46 .bool] .z .z) (.p .z (.p (.p .z (.ls [.v 3 .int] [] [] 0 (.p .z (.p (.j0 [.v 70 .bool] .z .z) .z)))) (.p .z (.p (.p .z (.ls [.r 4 .str 9,.v 5 .int] [] [] 2 (.p .z (.p (.p .z (.p .z (.j0 [.v 118 .bool] .z .z))) .z)))) (.p .z (.p (.p .z (.ls [.r 4 .str 9,.v 7 .int] [] [] 4 (.p .z (.p (.p .z (.p .z (.p (.j0 [.v 156 .bool] .z .z) .z))) .z)))) (.p (.p .z (.ls [.v 9 .int] [] [] 6 (.p .z (.p (.p .z (.p (.j0 [.v 192 .bool] .z .z) .z)) .z)))) (.p (.p .z (.ls [.v 11 .int] [] [] 8 (.p .z (.p (.p .z (.p (.q [] .z .z) .z)) .z)))) (.p (.p .z (.ls [.v 12 .int] [] [] 10 (.p .z (.p (.p (.p (.q [] .z .z) .z) (.p (.q [] .z .z) .z)) .z)))) .z))))))))))) 52 [ao_] [.int]=λx=>gf_ x.1:=by kernel_rfl
noncomputable def c_52:Con prog:=av_ _ _ 52 [ao_] [.int] _ x_52
noncomputable def kg_ (a0:ac_) (a1:Int):Option (Bool×Unit) :=
 ((at? a0.2.2.2.1 a1).bind λv0 =>
 ((af_ (ρ:=(Unit⊕(Bool×Unit))) (λ(v1:(Int×Unit)) =>
 (cond (decide (v1.1<a1))
 ((at? a0.2.2.2.1 v1.1).bind λv2 =>
 (cond (v2.1==v0.1)
 (some (inr (inr (false,()))))
 (some (inl ((w64 (v1.1+1)),())))))
 (some (inr (inl ()))))) (0,())).bind λv3 =>
 (ca_ v3 (λv4=>((((ec_ v0.1).bind λv6 =>
 (cond (!v6.1)
 (some (true,()))
 ((jm_ v0.2.1 0 (w64 ((a0.1.1.length:Int) - 1))).bind λv7 =>
 (cond (!v7.1)
 (some (true,()))
 ((jm_ v0.2.2.1 (-1) (w64 ((a0.2.1.length:Int) - 1))).bind λv8 =>
 (some ((!v8.1),())))))))).bind λv9 =>
 (cond v9.1
 (some (false,()))
 (cond (v0.2.2.1==(-1))
 ((me_ v0.2.2.2.2).bind λv10 =>
 (some (v10.1,())))
 ((at? a0.2.1 v0.2.2.1).bind λv11 =>
 ((gh_ v11 v0.2.2.2.2).bind λv12 =>
 (cond (v12.1==0)
 ((at? a0.2.2.1 v0.2.2.1).bind λv13 =>
 ((fw_ v0.2.2.2.2 v13).bind λv14 =>
 (some (v14.1,()))))
 (some (false,())))))))))
 (λv5=>(some v5)))))
theorem x_55:au_ (P:=prog) (cxC [c_57,c_81,c_89,c_90,c_91] []) (.p .z (.p .z (.p (.p .z (.ls [.v 6 .int] [] [] 0 .z)) (.p (.j0 [.v 50 .bool] .z .z) .z)))) 55 [an_,.int] [.bool]=λx=>kg_ x.1 x.2.1:=by kernel_rfl
noncomputable def c_55:Con prog:=av_ _ _ 55 [an_,.int] [.bool] _ x_55
noncomputable def ny_ (a0:ab_) (a1:(List al_)):Option ((List (List Int))×Unit) :=
 ((af_ (ρ:=(Int×Unit)) (λ(v0:(Int×(Int×Unit))) =>
 (cond (decide (v0.2.1<a0.1))
 (some (inl ((w64 (v0.1 * a0.2)),((w64 (v0.2.1+1)),()))))
 (some (inr (v0.1,()))))) (1,(0,()))).bind λv1 =>
 ((af_ (ρ:=((List (List Int))×Unit)) (λ(v2:((List (List Int))×(Int×Unit))) =>
 (cond (decide (v2.2.1<v1.1))
 ((((mk? (α:=Int) a0.1 0).bind λv3 =>
 ((af_ (ρ:=((List Int)×Unit)) (λ(v4:(Int×(Int×((List Int)×Unit)))) =>
 (cond (decide (0≤v4.2.1))
 ((md v4.1 a0.2).bind λv5 =>
 ((at? v4.2.2.1 v4.2.1).bind λv6 =>
 ((at? v4.2.2.1 v4.2.1).bind λv7 =>
 ((dv v4.1 a0.2).bind λv8 =>
 (some (inl (v8,((w64 (v4.2.1 - 1)),((v4.2.2.1.set v4.2.1.toNat v5),())))))))))
 (some (inr (v4.2.2.1,()))))) (v2.2.1,((w64 (a0.1 - 1)),(v3,())))).bind λv9 =>
 ((km_ a1 v9.1).bind λv10 =>
 (cond (decide (v10.1<0))
 ((push? (α:=(List Int)) v2.1 [v9.1]).bind λv11 =>
 (some (v11,())))
 (some (v2.1,()))))))).bind λv12 =>
 (some (inl (v12.1,((w64 (v2.2.1+1)),())))))
 (some (inr (v2.1,()))))) ([],(0,()))).bind λv13 =>
 (some (v13.1,()))))
theorem x_234:au_ (P:=prog) (cxC [c_254] []) (.p .z (.p .z (.p (.p .z (.lp [.v 5 .int,.v 6 .int] [.v 5 .int] [] 0 .z)) (.p .z (.p (.p .z (.lp [.r 7 (.list .int) 55,.v 8 .int] [.r 7 (.list .int) 55] [] 2 (.p .z (.j0 [.r 7 (.list .int) 55] (.p .z (.p .z (.p (.p .z (.lp [.v 10 .int,.v 11 .int] [] [.o (.s 9) .int] 4 .z)) .z))) .z)))) .z))))) 234 [ag_,(.list aq_)] [(.list (.list .int))]=λx=>ny_ x.1 x.2.1:=by kernel_rfl
noncomputable def c_234:Con prog:=av_ _ _ 234 [ag_,(.list aq_)] [(.list (.list .int))] _ x_234
noncomputable def kf_ (a0:aw_) (a1:(List Int)) (a2:Int) (a3:Int):Option (Int×Int×Int×Unit) :=
 ((ea_ a0 a1 (a2,0) a3).bind λv0 =>
 (cond (v0.2.1 != 0)
 (some (0,(0,(v0.2.1,()))))
 ((et_ v0.1 a2 a3).bind λv1 =>
 (cond (!v1.2.1)
 (some (0,(0,(3,()))))
 ((af_ (ρ:=(Int×Unit)) (λ(v2:(Int×(Int×Unit))) =>
 (cond (decide (v2.2.1<(v1.1.length:Int)))
 ((at? v1.1 v2.2.1).bind λv3 =>
 (some (inl ((w64 (v2.1+v3)),((w64 (v2.2.1+1)),())))))
 (some (inr (v2.1,()))))) (0,(0,()))).bind λv4 =>
 ((gz_ v4.1 (v1.1.length:Int)).bind λv5 =>
 ((dv v4.1 v5.1).bind λv6 =>
 ((dv (v1.1.length:Int) v5.1).bind λv7 =>
 (some (v6,(v7,(0,()))))))))))))
theorem x_47:au_ (P:=prog) (cxC [c_77,c_79,c_80] []) (.p .z (.p .z (.p .z (.p .z (.p .z (.p (.p .z (.lp [.v 8 .int,.v 40 .int] [.v 8 .int] [] 0 .z)) (.p .z (.p (.q [] .z .z) .z)))))))) 47 [bk_,(.list .int),.int,.int] [.int,.int,.int]=λx=>kf_ x.1 x.2.1 x.2.2.1 x.2.2.2.1:=by kernel_rfl
noncomputable def c_47:Con prog:=av_ _ _ 47 [bk_,(.list .int),.int,.int] [.int,.int,.int] _ x_47
noncomputable def fv_ (a0:ad_):Option (Int×Unit) :=
 (((cond (decide (8<(a0.1.length:Int)))
 (some (true,()))
 (cond (decide (12<(a0.2.1.length:Int)))
 (some (true,()))
 (cond (decide (10<(a0.2.2.1.length:Int)))
 (some (true,()))
 (cond (decide (16<(a0.2.2.2.1.length:Int)))
 (some (true,()))
 (cond (decide (24<(a0.2.2.2.2.1.length:Int)))
 (some (true,()))
 (some ((decide (12<(a0.2.2.2.2.2.1.length:Int))),())))))))).bind λv0 =>
 (cond v0.1
 (some (2,()))
 ((af_ (ρ:=(Unit⊕(Int×Unit))) (λ(v1:(Int×Unit)) =>
 (cond (decide (v1.1<(a0.1.length:Int)))
 ((at? a0.1 v1.1).bind λv2 =>
 ((sub? a0.1 0 v1.1).bind λv3 =>
 ((((fq_ v2).bind λv4 =>
 (cond v4.1
 (cond (decide ((v2.length:Int)≤12))
 ((((af_ (ρ:=(Unit⊕(Int×Unit))) (λ(v5:(Int×Unit)) =>
 (cond (decide (v5.1<(v3.length:Int)))
 ((at? v3 v5.1).bind λv6 =>
 (cond (v6==v2)
 (some (inr (inr (v5.1,()))))
 (some (inl ((w64 (v5.1+1)),())))))
 (some (inr (inl ()))))) (0,())).bind λv7 =>
 (ca_ v7 (λv8=>(some ((-1),())))
 (λv9=>(some v9))))).bind λv10 =>
 (some ((decide (v10.1<0)),())))
 (some (false,())))
 (some (false,()))))).bind λv11 =>
 (cond (!v11.1)
 (some (inr (inr (22,()))))
 (some (inl ((w64 (v1.1+1)),())))))))
 (some (inr (inl ()))))) (0,())).bind λv12 =>
 (ca_ v12 (λv13=>(cond ((a0.1.length:Int)==0)
 (some (22,()))
 ((af_ (ρ:=(Unit⊕(Int×Unit))) (λ(v15:(Int×Unit)) =>
 (cond (decide (v15.1<(a0.2.1.length:Int)))
 ((at? a0.2.1 v15.1).bind λv16 =>
 ((((sub? a0.2.1 0 v15.1).bind λv17 =>
 ((((fq_ v16.1).bind λv18 =>
 (cond v18.1
 (cond (decide ((v16.1.length:Int)≤12))
 ((((af_ (ρ:=(Unit⊕(Int×Unit))) (λ(v19:(Int×Unit)) =>
 (cond (decide (v19.1<(v17.length:Int)))
 ((at? v17 v19.1).bind λv20 =>
 (cond (v20.1==v16.1)
 (some (inr (inr (v19.1,()))))
 (some (inl ((w64 (v19.1+1)),())))))
 (some (inr (inl ()))))) (0,())).bind λv21 =>
 (ca_ v21 (λv22=>(some ((-1),())))
 (λv23=>(some v23))))).bind λv24 =>
 (some ((decide (v24.1<0)),())))
 (some (false,())))
 (some (false,()))))).bind λv25 =>
 (cond (!v25.1)
 (some (true,()))
 ((bc_ v16.2.1 0 (w64 ((a0.1.length:Int) - 1))).bind λv26 =>
 (cond (!v26.1)
 (some (true,()))
 ((bc_ v16.2.2.1 2 6).bind λv27 =>
 (cond (!v27.1)
 (some (true,()))
 ((bc_ v16.2.2.2 0 (w64 (v16.2.2.1 - 1))).bind λv28 =>
 (some ((!v28.1),()))))))))))).bind λv29 =>
 (cond v29.1
 (some (inr (inr (21,()))))
 (some (inl ((w64 (v15.1+1)),()))))))
 (some (inr (inl ()))))) (0,())).bind λv30 =>
 (ca_ v30 (λv31=>((af_ (ρ:=(Unit⊕(Int×Unit))) (λ(v33:(Int×Unit)) =>
 (cond (decide (v33.1<(a0.2.2.1.length:Int)))
 ((at? a0.2.2.1 v33.1).bind λv34 =>
 ((((sub? a0.2.2.1 0 v33.1).bind λv35 =>
 ((((fq_ v34.1).bind λv36 =>
 (cond v36.1
 (cond (decide ((v34.1.length:Int)≤12))
 ((((af_ (ρ:=(Unit⊕(Int×Unit))) (λ(v37:(Int×Unit)) =>
 (cond (decide (v37.1<(v35.length:Int)))
 ((at? v35 v37.1).bind λv38 =>
 (cond (v38.1==v34.1)
 (some (inr (inr (v37.1,()))))
 (some (inl ((w64 (v37.1+1)),())))))
 (some (inr (inl ()))))) (0,())).bind λv39 =>
 (ca_ v39 (λv40=>(some ((-1),())))
 (λv41=>(some v41))))).bind λv42 =>
 (some ((decide (v42.1<0)),())))
 (some (false,())))
 (some (false,()))))).bind λv43 =>
 (cond (!v43.1)
 (some (true,()))
 ((bc_ v34.2.1 0 (w64 ((a0.1.length:Int) - 1))).bind λv44 =>
 (cond (!v44.1)
 (some ((v34.2.1 != (-1)),()))
 (some (false,())))))))).bind λv45 =>
 (cond v45.1
 (some (inr (inr (24,()))))
 ((eb_ a0 v34.2.2).bind λv46 =>
 (cond (!v46.1)
 (some (inr (inr (25,()))))
 (some (inl ((w64 (v33.1+1)),()))))))))
 (some (inr (inl ()))))) (0,())).bind λv47 =>
 (ca_ v47 (λv48=>((af_ (ρ:=(Unit⊕(Int×Unit))) (λ(v50:(Int×Unit)) =>
 (cond (decide (v50.1<(a0.2.2.2.1.length:Int)))
 ((at? a0.2.2.2.1 v50.1).bind λv51 =>
 ((((bc_ v51.1 0 (w64 ((a0.1.length:Int) - 1))).bind λv52 =>
 (cond (!v52.1)
 (some (true,()))
 ((bc_ v51.2.1 0 (w64 ((a0.1.length:Int) - 1))).bind λv53 =>
 (cond (!v53.1)
 (some (true,()))
 (some ((v51.1==v51.2.1),()))))))).bind λv54 =>
 (cond v54.1
 (some (inr (inr (23,()))))
 ((eb_ a0 v51.2.2).bind λv55 =>
 (cond (!v55.1)
 (some (inr (inr (25,()))))
 (some (inl ((w64 (v50.1+1)),()))))))))
 (some (inr (inl ()))))) (0,())).bind λv56 =>
 (ca_ v56 (λv57=>((af_ (ρ:=(Unit⊕(Int×Unit))) (λ(v59:(Int×Unit)) =>
 (cond (decide (v59.1<(a0.2.2.2.2.1.length:Int)))
 ((at? a0.2.2.2.2.1 v59.1).bind λv60 =>
 ((qs_ a0 v59.1 v60).bind λv61 =>
 (cond (!v61.1)
 (some (inr (inr (26,()))))
 ((eb_ a0 v60.2.2.2.2.1).bind λv62 =>
 (cond (!v62.1)
 (some (inr (inr (25,()))))
 (some (inl ((w64 (v59.1+1)),()))))))))
 (some (inr (inl ()))))) (0,())).bind λv63 =>
 (ca_ v63 (λv64=>((af_ (ρ:=(Unit⊕(Int×Unit))) (λ(v66:(Int×Unit)) =>
 (cond (decide (v66.1<(a0.2.2.2.2.2.1.length:Int)))
 ((at? a0.2.2.2.2.2.1 v66.1).bind λv67 =>
 ((fr_ a0 v67.2.1 v67.2.2).bind λv68 =>
 (cond (!v68.1)
 (some (inr (inr (27,()))))
 ((eb_ a0 v67.1).bind λv69 =>
 (cond (!v69.1)
 (some (inr (inr (25,()))))
 (some (inl ((w64 (v66.1+1)),()))))))))
 (some (inr (inl ()))))) (0,())).bind λv70 =>
 (ca_ v70 (λv71=>((bc_ a0.2.2.2.2.2.2.1 1 4).bind λv73 =>
 (cond (!v73.1)
 (some (1,()))
 ((eb_ a0 a0.2.2.2.2.2.2.2).bind λv74 =>
 (cond (!v74.1)
 (some (25,()))
 (some (0,())))))))
 (λv72=>(some v72)))))
 (λv65=>(some v65)))))
 (λv58=>(some v58)))))
 (λv49=>(some v49)))))
 (λv32=>(some v32))))))
 (λv14=>(some v14))))))
theorem x_131:au_ (P:=prog) (cxI (λk=>cond (Nat.beq k 169) (.p .z (.j0 [.v 6 .bool] .z .z)) (cond (Nat.beq k 171) (.p .z (.j0 [.v 6 .bool] .z .z)) (cond (Nat.beq k 173) (.p .z (.j0 [.v 6 .bool] .z .z)) (cond (Nat.beq k 207) (.p .z (.j0 [.v 6 .int] .z .z)) (cond (Nat.beq k 208) (.p .z (.j0 [.v 6 .int] .z .z)) (cond (Nat.beq k 209) (.p .z (.j0 [.v 6 .int] .z .z)) (cond (Nat.beq k 236) (.p .z (.p (.p .z (.ls [.v 8 .int] [] [] 0 .z)) .z)) (cond (Nat.beq k 237) (.p .z (.p (.q [] .z .z) .z)) (cond (Nat.beq k 238) (.p .z (.p (.p .z (.ls [.v 8 .int] [] [] 0 .z)) .z)) (cond (Nat.beq k 239) (.p .z (.p (.q [] .z .z) .z)) (cond (Nat.beq k 240) (.p .z (.p (.p .z (.ls [.v 8 .int] [] [] 0 .z)) .z)) (cond (Nat.beq k 241) (.p .z (.p (.q [] .z .z) .z)) (.z))))))))))))) (λk=>Nat.beq k 164||Nat.beq k 165||Nat.beq k 170||Nat.beq k 172||Nat.beq k 174||Nat.beq k 175||Nat.beq k 176||Nat.beq k 206||false) (cxC [cq4,cc8,c_170,c_172,c_174,c_175,c_176,c_206] []) 12) (.p .z (.p (.j0 [.v 49 .bool] .z .z) (.p .z (.p (.p .z (.ls [.v 54 .int] [] [] 0 .z)) (.p .z (.p (.p .z (.ls [.v 74 .int] [] [] 2 (.p .z (.p .z (.p (.p .z (.j0 [.v 108 .bool] .z .z)) .z))))) (.p (.p .z (.ls [.v 113 .int] [] [] 4 (.p .z (.p .z (.p (.p .z (.p (.j0 [.v 137 .bool] .z .z) .z)) .z))))) (.p (.p .z (.ls [.v 147 .int] [] [] 6 (.p .z (.p .z (.p (.p .z (.p (.j0 [.v 169 .bool] .z .z) .z)) .z))))) (.p (.p .z (.ls [.v 179 .int] [] [] 8 .z)) (.p (.p .z (.ls [.v 198 .int] [] [] 10 .z)) .z)))))))))) 131 [ao_] [.int]=λx=>fv_ x.1:=by kernel_rfl
noncomputable def c_131:Con prog:=av_ _ _ 131 [ao_] [.int] _ x_131
noncomputable def el_ (a0:ab_) (a1:(List Int)):Option (Int×Unit) :=
 ((ij_ a0 [a1]).bind λv0 =>
 (some (v0.1,())))
theorem x_133:au_ (P:=prog) (cxC [c_178] []) .z 133 [ag_,(.list .int)] [.int]=λx=>el_ x.1 x.2.1:=by kernel_rfl
noncomputable def c_133:Con prog:=av_ _ _ 133 [ag_,(.list .int)] [.int] _ x_133
noncomputable def gl_ (a0:ab_) (a1:al_):Option (Int×Unit) :=
 ((ew_ a0).bind λv0 =>
 (cond (v0.1 != 0)
 (some (v0.1,()))
 ((dp_ a0 a1).bind λv1 =>
 (cond (!v1.1)
 (some (11,()))
 (some (0,()))))))
theorem x_222:au_ (P:=prog) (cxC [cq6,c_247] []) .z 222 [ag_,aq_] [.int]=λx=>gl_ x.1 x.2.1:=by kernel_rfl
noncomputable def c_222:Con prog:=av_ _ _ 222 [ag_,aq_] [.int] _ x_222
noncomputable def fh_ (a0:ab_) (a1:(List al_)):Option (Int×Unit) :=
 ((ew_ a0).bind λv0 =>
 (cond (v0.1 != 0)
 (some (v0.1,()))
 (cond (decide (20<(a1.length:Int)))
 (some (2,()))
 ((((af_ (ρ:=(Unit⊕(Bool×Unit))) (λ(v1:(Int×Unit)) =>
 (cond (decide (v1.1<(a1.length:Int)))
 ((at? a1 v1.1).bind λv2 =>
 ((dp_ a0 v2).bind λv3 =>
 (cond (!v3.1)
 (some (inr (inr ((decide (0≤v1.1)),()))))
 (some (inl ((w64 (v1.1+1)),()))))))
 (some (inr (inl ()))))) (0,())).bind λv4 =>
 (ca_ v4 (λv5=>(some ((decide (0≤(-1))),())))
 (λv6=>(some v6))))).bind λv7 =>
 (cond v7.1
 (some (11,()))
 (some (0,())))))))
theorem x_251:au_ (P:=prog) (cxI (λk=>cond (Nat.beq k 264) (.p .z (.j0 [.v 4 .bool] .z .z)) (cond (Nat.beq k 272) (.p .z (.p (.p .z (.ls [.v 8 .int] [] [] 0 .z)) .z)) (.z))) (λk=>Nat.beq k 132||Nat.beq k 247||false) (cxC [cq6,c_247] []) 4) .z 251 [ag_,(.list aq_)] [.int]=λx=>fh_ x.1 x.2.1:=by kernel_rfl
noncomputable def c_251:Con prog:=av_ _ _ 251 [ag_,(.list aq_)] [.int] _ x_251
noncomputable def fg_ (a0:ab_) (a1:(List al_)):Option (Int×Unit) :=
 ((mk? (α:=Int) a0.1 0).bind λv0 =>
 ((af_ (ρ:=((Unit×(Unit×((List Int)×((Int×Unit)×Unit))))⊕(Int×Unit))) (λ(v1:(Unit×(Unit×((List Int)×((Int×Unit)×Unit))))) =>
 ((gk_ a1 v1.2.2.1).bind λv2 =>
 (cond (decide (v2.1<0))
 ((af_ (ρ:=(Int×((List Int)×Unit))) (λ(v3:(Int×((List Int)×Unit))) =>
 (((cond (decide (0≤v3.1))
 ((at? v3.2.1 v3.1).bind λv4 =>
 ((at? v3.2.1 v3.1).bind λv5 =>
 (some ((v5==(w64 (a0.2 - 1))),()))))
 (some (false,())))).bind λv6 =>
 (cond v6.1
 ((at? v3.2.1 v3.1).bind λv7 =>
 ((at? v3.2.1 v3.1).bind λv8 =>
 (some (inl ((w64 (v3.1 - 1)),((v3.2.1.set v3.1.toNat 0),()))))))
 (some (inr (v3.1,(v3.2.1,()))))))) ((w64 (a0.1 - 1)),(v1.2.2.1,()))).bind λv9 =>
 (cond (decide (v9.1<0))
 (some (inr (inr ((w64 (v1.2.2.2.1.1+1)),()))))
 ((at? v9.2.1 v9.1).bind λv10 =>
 ((at? v9.2.1 v9.1).bind λv11 =>
 ((at? v9.2.1 v9.1).bind λv12 =>
 ((at? v9.2.1 v9.1).bind λv13 =>
 (some (inl ((),((),((v9.2.1.set v9.1.toNat (w64 (v11+1))),(((w64 (v1.2.2.2.1.1+1)),()),()))))))))))))
 ((af_ (ρ:=(Int×((List Int)×Unit))) (λ(v14:(Int×((List Int)×Unit))) =>
 (((cond (decide (0≤v14.1))
 ((at? v14.2.1 v14.1).bind λv15 =>
 ((at? v14.2.1 v14.1).bind λv16 =>
 (some ((v16==(w64 (a0.2 - 1))),()))))
 (some (false,())))).bind λv17 =>
 (cond v17.1
 ((at? v14.2.1 v14.1).bind λv18 =>
 ((at? v14.2.1 v14.1).bind λv19 =>
 (some (inl ((w64 (v14.1 - 1)),((v14.2.1.set v14.1.toNat 0),()))))))
 (some (inr (v14.1,(v14.2.1,()))))))) ((w64 (a0.1 - 1)),(v1.2.2.1,()))).bind λv20 =>
 (cond (decide (v20.1<0))
 (some (inr (inr (v1.2.2.2.1.1,()))))
 ((at? v20.2.1 v20.1).bind λv21 =>
 ((at? v20.2.1 v20.1).bind λv22 =>
 ((at? v20.2.1 v20.1).bind λv23 =>
 ((at? v20.2.1 v20.1).bind λv24 =>
 (some (inl ((),((),((v20.2.1.set v20.1.toNat (w64 (v22+1))),((v1.2.2.2.1.1,()),()))))))))))))))) ((),((),(v0,((0,()),()))))).bind λv25 =>
 (ca_ v25 (λv26=>(some (v26.2.2.2.1.1,())))
 (λv27=>(some v27)))))
theorem x_252:au_ (P:=prog) (cxI (λk=>cond (Nat.beq k 273) (.p .z (.p .z (.rf [2,3] .z .z))) (cond (Nat.beq k 278) (.p .z (.ls [] [] [.y (.c (.y (.s 0) 3) 0),.y (.s 0),.o (.s 3) .int,.b (.y (.c (.y (.s 0) 3) 0) 4) [.val .int]] 0 (.p .z (.p .z (.p (.lp [.v 4 .int] [.v 4 .int] [.o (.s 3) .int] 2 (.p (.j0 [.v 26 .bool] .z .z) .z)) .z))))) (.z))) (λk=>Nat.beq k 275||false) (cxC [c_275] []) 9) (.p .z (.p (.p .z (.rf [4] .z .z)) .z)) 252 [ag_,(.list aq_)] [.int]=λx=>fg_ x.1 x.2.1:=by kernel_rfl
noncomputable def c_252:Con prog:=av_ _ _ 252 [ag_,(.list aq_)] [.int] _ x_252
end
end Go.Proofs.YtgeehfnbhbibeaaGreatDoor.Rx
namespace Go.Proofs.YtgeehfnbhbibeaaGreatDoor.Rx
open Go Pad Rex Sum
section
theorem qd_ {α:Type} {l:List α} {i:Nat} (h:i≤l.length):sub? l 0 (i:Int)=some (l.take i):=by
 unfold sub?
 rw[if_pos ⟨m5_ 0,by omega,by omega⟩]
 simp
def twN {α:Type} (nm:α→List UInt8) (l:List α) (i:Nat) (t:List UInt8):Bool:=(l.take i).any λy=>nm y==t
theorem ri_ {l:List (List UInt8)} {i:Nat} {x:List UInt8} (hl:Sm l.length) (hx:l[i]?=some x):gd_ l (i:Int)=some (twN id l i x,()):=by
 have hi:=am_ hx
 have hle:(l.take i).length=i:=by rw[c7_];omega
 unfold gd_
 refine bw_ (l.take i) (λ_ y=>cond (id y==x) (some (inr (true,()):Unit⊕(Bool×Unit))) none) (λi=>((i:Int),())) (r0:=inl ()) (λk y hy => ?_) ?_ ?_
 ·have hk:=am_ hy
  have hy':l[k]?=some y:=by
   rw[i8_] at hy
   split at hy
   ·exact hy
   ·cases hy
  simp only[dlt (show k<i by omega),a5_,ai_ hy',ai_ hx,a0_,bb_ (show Sm k by omega),id]
  cases y==x<;>rfl
 ·rw[hle]
  simp only[dnl,a2_]
 ·rw[hz_ (q:=λy=>id y==x)]
  unfold twN
  cases (l.take i).any λy=>id y==x<;>rfl
theorem ix_ {r:ad_} (p:Int):cw_ r p=some (wi p 0 (w64 ((r.1.length:Int) - 1)),()):=by
 unfold cw_
 rw[ga_,a0_]
structure SmR (r:ad_):Prop where
 pl:Sm r.1.length
 th:Sm r.2.1.length
 pr:Sm r.2.2.1.length
 wy:Sm r.2.2.2.1.length
 ac:Sm r.2.2.2.2.1.length
 au:Sm r.2.2.2.2.2.1.length
 go:Sm r.2.2.2.2.2.2.2.length
 pln:∀ x ∈ r.1,Sm x.length
 thn:∀ x ∈ r.2.1,Sm x.1.length
 prn:∀ x ∈ r.2.2.1,Sm x.1.length∧Sm x.2.2.length
 wyn:∀ x ∈ r.2.2.2.1,Sm x.2.2.length
 acn:∀ x ∈ r.2.2.2.2.1,Sm x.1.length∧Sm x.2.2.2.1.length∧Sm x.2.2.2.2.1.length∧Sm x.2.2.2.2.2.1.length∧Sm x.2.2.2.2.2.2.1.length∧Sm x.2.2.2.2.2.2.2.length
 aun:∀ x ∈ r.2.2.2.2.2.1,Sm x.1.length
theorem bh_ {α:Type} {l:List α} {i:Nat} {x:α} (h:l[i]?=some x):x ∈ l:=b2_ h
def sv_ (r:ad_) (p:Int):Bool:=wi p 0 (w64 ((r.1.length:Int) - 1))
def frN {α:Type} (nm:α→List UInt8) (l:List α) (i:Nat) (t:List UInt8):Bool:=okN t&&!(twN nm l i t)
def plOk (r:ad_) (i:Nat) (x:List UInt8):Bool:=frN id r.1 i x
def bn7 (r:ad_) (i:Nat) (x:jb_):Bool:=frN (·.1) r.2.1 i x.1&&(sv_ r x.2.1&&(wi x.2.2.1 2 6&&wi x.2.2.2 0 (w64 (x.2.2.1 - 1))))
def ck6 (r:ad_) (i:Nat) (x:uv_):Bool:=frN (·.1) r.2.2.1 i x.1&&(sv_ r x.2.1||x.2.1==(-1))
def cf9 (r:ad_) (x:as0):Bool:=sv_ r x.1&&(sv_ r x.2.1&&!(x.1==x.2.1))
def tn_ (a:Bool) (e:Int) (b:Bool) (f:Int):Option Int:=cond a (cond b none (some f)) (some e)
def lm_ (a:Bool) (e:Int):Option Int:=cond a none (some e)
def left (o:Option Int):Unit⊕(Int×Unit):=match o with
 | none=>.inl ()
 | some e=>.inr (e,())
theorem bc8 (o:Option Int):(o.map λe=>(inr (e,()):Unit⊕(Int×Unit))).getD (inl ())=left o:=by cases o<;>rfl
theorem bx_ {α:Type} (l:List α) (p:Nat→α→Option Int) {body:(Int×Unit)→Option ((Int×Unit)⊕(Unit⊕(Int×Unit)))} {τ:Type} {K:(Unit⊕(Int×Unit))→Option τ} {x:Option τ}
  (h:∀ (i:Nat) y,l[i]?=some y→body ((i:Int),())=some (match p i y with | none=>.inl (((i+1:Nat):Int),()) | some e=>.inr (.inr (e,())))) (e:body ((l.length:Int),())=some (.inr (.inl ()))) (hk:K (left (hf_ p 0 l))=x) :
  (af_ body (0,())).bind K=x:=by
 refine bw_ l (λi y=>(p i y).map λe=>(inr (e,()):Unit⊕(Int×Unit))) (λi=>((i:Int),())) (r0:=inl ()) (λi y hy => ?_) e ?_
 ·rw[h i y hy]
  cases p i y<;>rfl
 ·rw[ad9,bc8]
  exact hk
theorem ac6 {α β:Type} (l:List α) (p:Nat→α→Option Int) (F:Nat→β) {body:(β×(Int×Unit))→Option ((β×(Int×Unit))⊕(Unit⊕(Int×Unit)))} {τ:Type} {K:(Unit⊕(Int×Unit))→Option τ} {x:Option τ} {b0:β} (h0:F 0=b0)
  (h:∀ (i:Nat) y,l[i]?=some y→body (F i,((i:Int),()))=some (match p i y with | none=>.inl (F (i+1),(((i+1:Nat):Int),())) | some e=>.inr (.inr (e,())))) (e:body (F l.length,((l.length:Int),()))=some (.inr (.inl ()))) (hk:K (left (hf_ p 0 l))=x) :
  (af_ body (b0,(0,()))).bind K=x:=by
 subst h0
 refine bw_ l (λi y=>(p i y).map λe=>(inr (e,()):Unit⊕(Int×Unit))) (λi=>(F i,((i:Int),()))) (r0:=inl ()) (λi y hy => ?_) e ?_
 ·rw[h i y hy]
  cases p i y<;>rfl
 ·rw[ad9,bc8]
  exact hk
theorem fa_ {o:Option Int} {K:Unit→Option (Int×Unit)} {k:Int} (h:K ()=some (k,())):ca_ (left o) K (λy=>some y)=some (o.getD k,()):=by
 cases o with
 | none=>exact h
 | some e=>rfl
end
section
def sg_ (r:ad_) (l:List ab_) (i:Nat) (x:ab_):Bool:=ou_ r.2.1 x.1 x.2&&!((l.take i).any λy=>y.1==x.1)
def vx_ (r:ad_) (i:Nat) (a:ed_):Bool :=
 frN (·.1) r.2.2.2.2.1 i a.1&&(sv_ r a.2.1&&(wi a.2.2.1 (-1) 7&&(ls_ r.2.2.1.length a.2.2.2.1&&(ls_ r.2.2.1.length a.2.2.2.2.2.2.1&&(ls_ r.2.2.1.length a.2.2.2.2.2.2.2&&(!(decide (6<(a.2.2.2.2.2.1.length:Int)))
  && ((a.2.2.2.2.2.2.1.all λp=>a.2.2.2.1.contains p)&&(!(a.2.2.2.2.2.2.2.any λp=>a.2.2.2.1.contains p)
   && (hf_ (λi x=>cond (sg_ r a.2.2.2.2.2.1 i x) none (some ())) 0 a.2.2.2.2.2.1).isNone))))))))
theorem tt_ {α ρ:Type} {q:Nat→α→Bool} {r:ρ}:∀ (l:List α) (i:Nat),hf_ (λi x=>cond (q i x) none (some r)) i l=cond (hf_ (λi x=>cond (q i x) none (some ())) i l).isNone none (some r)
 | [],_=>rfl
 | x::l,i=>by
  unfold hf_
  cases q i x with
  | false=>rfl
  | true=>exact tt_ l (i+1)
theorem wg_ {α:Type} {l:List α} (hl:Sm l.length) (nm:α→List UInt8) {t:List UInt8} (ht:Sm t.length) :
  ((fq_ t).bind λv1=>cond v1.1 (cond (decide ((t.length:Int)≤12)) ((((af_ (ρ:=Unit⊕(Int×Unit)) (λ(v:Int×Unit)=>cond (decide (v.1<(l.length:Int))) ((at? l v.1).bind λy=>cond (nm y==t) (some (inr (inr (v.1,())))) (some (inl (w64 (v.1+1),())))) (some (inr (inl ())))) (0,())).bind λv=>ca_ v (λ_=>some ((-1:Int),())) (λw=>some w))).bind λv=>some (decide (v.1<0),())) (some (false,()))) (some (false,())))
   = some (okN t&&!(l.any λy=>nm y==t),()):=by
 rw[bq1 ht,a0_]
 obtain⟨n,h1,h2,_⟩:=if_lt hl (λy=>nm y==t) (body:=λ(v:Int×Unit)=>cond (decide (v.1<(l.length:Int))) ((at? l v.1).bind λy=>cond (nm y==t) (some (inr (inr (v.1,())))) (some (inl (w64 (v.1+1),())))) (some (inr (inl ())))) (λi y hy=>by
  simp only[dlt (am_ hy),a5_,ai_ hy,a0_]
  cases nm y==t<;>rfl) (by simp only[dnl,a2_])
 rw[h1,a0_,h2]
 unfold okN
 cases okW t with
 | false=>rw[f7_,e4_];rfl
 | true=>cases decide ((t.length:Int)≤12)<;>rfl
theorem xa_ {α:Type} {l:List α} (h:Sm l.length) (i:Nat):Sm (l.take i).length:=by
 rw[c7_]
 exact c5_ (m1_ _ _) h
theorem cj4 {r:ad_} (h:SmR r) {i:Nat} {a:ed_} (ha:r.2.2.2.2.1[i]?=some a):qs_ r (i:Int) a=some (vx_ r i a,()):=by
 have hi:=am_ ha
 obtain⟨s1,s2,s3,s4,s5,s6⟩:=h.acn a (bh_ ha)
 unfold qs_
 refine e5_ (congrArg (λo=>Option.bind o _) (?_:_=some (!(frN (·.1) r.2.2.2.2.1 i a.1&&(sv_ r a.2.1&&wi a.2.2.1 (-1) 7)),()))) ?_
 ·rw[qd_ (f9_ hi),a0_]
  refine e5_ (congrArg (λo=>Option.bind o _) (wg_ (xa_ h.ac i) (·.1) s1)) ?_
  unfold frN twN sv_
  rw[a0_]
  cases okN a.1&&!((r.2.2.2.2.1.take i).any λy=>y.1==a.1) with
  | false=>rfl
  | true =>
   simp only[ee_,a0_]
   cases wi a.2.1 0 (w64 ((r.1.length:Int) - 1)) with
   | false=>rfl
   | true=>rfl
 ·rw[a0_]
  unfold vx_
  cases frN (·.1) r.2.2.2.2.1 i a.1 with
  | false=>rfl
  | true =>
  cases sv_ r a.2.1 with
  | false=>rfl
  | true =>
  cases wi a.2.2.1 (-1) 7 with
  | false=>rfl
  | true =>
   simp only[e2_,a2_,c0_,tu_ s2,tu_ s5,tu_ s6,a0_]
   cases ls_ r.2.2.1.length a.2.2.2.1 with
   | false=>rfl
   | true =>
   cases ls_ r.2.2.1.length a.2.2.2.2.2.2.1 with
   | false=>rfl
   | true =>
   cases ls_ r.2.2.1.length a.2.2.2.2.2.2.2 with
   | false=>rfl
   | true =>
   cases h6:decide (6<(a.2.2.2.2.2.1.length:Int)) with
   | true=>rfl
   | false =>
   simp only[e2_,g9_,a2_,c0_,a0_]
   refine e5_ (congrArg (λo=>Option.bind o _) (?_:_=some (!((a.2.2.2.2.2.2.1.all λp=>a.2.2.2.1.contains p)&&!(a.2.2.2.2.2.2.2.any λp=>a.2.2.2.1.contains p)),()))) ?_
   ·refine e5_ (congrArg (λo=>Option.bind o _) (pt_ s5 (λp=>!(a.2.2.2.1.contains p)) (λi y hy => ?_) ?_)) ?_
    ·simp only[dlt (am_ hy),a5_,ai_ hy,a0_,px_ s2]
     cases a.2.2.2.1.contains y<;>rfl
    ·simp only[dnl,a2_]
    rw[a0_,← uu_ a.2.2.2.2.2.2.1]
    cases a.2.2.2.2.2.2.1.any λp=>!(a.2.2.2.1.contains p) with
    | true=>rfl
    | false =>
    refine e5_ (congrArg (λo=>Option.bind o _) (pt_ s6 (λp=>a.2.2.2.1.contains p) (λi y hy => ?_) ?_)) ?_
    ·simp only[dlt (am_ hy),a5_,ai_ hy,a0_,px_ s2]
     cases a.2.2.2.1.contains y<;>rfl
    ·simp only[dnl,a2_]
    cases a.2.2.2.2.2.2.2.any λp=>a.2.2.2.1.contains p<;>rfl
   ·rw[a0_]
    cases a.2.2.2.2.2.2.1.all λp=>a.2.2.2.1.contains p with
    | false=>rfl
    | true =>
    cases a.2.2.2.2.2.2.2.any λp=>a.2.2.2.1.contains p with
    | true=>rfl
    | false =>
     simp only[e2_,g9_,a2_,c0_]
     refine bw_ a.2.2.2.2.2.1 (λi x=>cond (sg_ r a.2.2.2.2.2.1 i x) none (some (inr (false,()):Unit⊕(Bool×Unit)))) (λi=>((i:Int),())) (r0:=inl ()) (λk y hy => ?_) ?_ ?_
     ·have hk:=am_ hy
      simp only[dlt hk,a5_,ai_ hy,a0_,bb_ (show Sm k by omega),qd_ (f9_ hk)]
      refine e5_ (congrArg (λo=>Option.bind o _) (pt_ (xa_ s4 k) (λz=>z.1==y.1) (λn z hz => ?_) ?_)) ?_
      ·simp only[dlt (am_ hz),a5_,ai_ hz,a0_]
       cases z.1==y.1<;>rfl
      ·simp only[dnl,a2_]
      ·rw[a0_,qj_ h.th]
       unfold sg_
       cases ou_ r.2.1 y.1 y.2 with
       | false=>rfl
       | true =>
        cases (a.2.2.2.2.2.1.take k).any λz=>z.1==y.1<;>rfl
     ·simp only[dnl,a2_]
     ·rw[tt_]
      cases (hf_ (λi x=>cond (sg_ r a.2.2.2.2.2.1 i x) none (some ())) 0 a.2.2.2.2.2.1).isNone<;>rfl
end
section
def ah1 (r:ad_):Bool:=decide (8<(r.1.length:Int))||(decide (12<(r.2.1.length:Int))||(decide (10<(r.2.2.1.length:Int))||(decide (16<(r.2.2.2.1.length:Int))||(decide (24<(r.2.2.2.2.1.length:Int))||decide (12<(r.2.2.2.2.2.1.length:Int))))))
theorem bw1 (r:ad_):(cond (decide (8<(r.1.length:Int)))
 (some (true,()))
 (cond (decide (12<(r.2.1.length:Int)))
 (some (true,()))
 (cond (decide (10<(r.2.2.1.length:Int)))
 (some (true,()))
 (cond (decide (16<(r.2.2.2.1.length:Int)))
 (some (true,()))
 (cond (decide (24<(r.2.2.2.2.1.length:Int)))
 (some (true,()))
 (some ((decide (12<(r.2.2.2.2.2.1.length:Int))),())))))))=some (ah1 r,()):=by
  unfold ah1
  cases decide (8<(r.1.length:Int)) with
  | true=>rfl
  | false =>
  cases decide (12<(r.2.1.length:Int)) with
  | true=>rfl
  | false =>
  cases decide (10<(r.2.2.1.length:Int)) with
  | true=>rfl
  | false =>
  cases decide (16<(r.2.2.2.1.length:Int)) with
  | true=>rfl
  | false =>
  cases decide (24<(r.2.2.2.2.1.length:Int)) with
  | true=>rfl
  | false=>rfl
def dd_ (r:ad_):Int :=
 cond (ah1 r) 2 ((hf_ (λi x=>lm_ (plOk r i x) 22) 0 r.1).getD
  (cond ((r.1.length:Int)==0) 22 ((hf_ (λi x=>lm_ (bn7 r i x) 21) 0 r.2.1).getD
   ((hf_ (λi x=>tn_ (ck6 r i x) 24 (cOk r.2.1 x.2.2) 25) 0 r.2.2.1).getD
    ((hf_ (λ_ x=>tn_ (cf9 r x) 23 (cOk r.2.1 x.2.2) 25) 0 r.2.2.2.1).getD
     ((hf_ (λi x=>tn_ (vx_ r i x) 26 (cOk r.2.1 x.2.2.2.2.1) 25) 0 r.2.2.2.2.1).getD
      ((hf_ (λ_ x=>tn_ (ou_ r.2.1 x.2.1 x.2.2) 27 (cOk r.2.1 x.1) 25) 0 r.2.2.2.2.2.1).getD
       (cond (wi r.2.2.2.2.2.2.1 1 4) (cond (cOk r.2.1 r.2.2.2.2.2.2.2) 0 25) 1))))))))
theorem tv_ {r:ad_} (h:SmR r):fv_ r=some (dd_ r,()):=by
 unfold fv_
 refine e5_ (congrArg (λo=>Option.bind o _) (bw1 r)) ?_
 rw[a0_]
 unfold dd_
 cases ah1 r with
 | true=>rfl
 | false =>
 simp only[a2_]
 refine bx_ r.1 (λi x=>lm_ (plOk r i x) 22) (λi y hy => ?_) ?_ (fa_ ?_)
 ·have hi:=am_ hy
  simp only[dlt hi,a5_,ai_ hy,a0_,bb_ (show Sm i from c5_ (f9_ hi) h.pl),qd_ (f9_ hi)]
  refine e5_ (congrArg (λo=>Option.bind o _) (wg_ (xa_ h.pl i) id (h.pln y (bh_ hy)))) ?_
  unfold lm_ plOk frN twN
  rw[a0_]
  cases okN y&&!((r.1.take i).any λz=>id z==y)<;>rfl
 ·simp only[dnl,a2_]
 cases (r.1.length:Int)==0 with
 | true=>rfl
 | false =>
 simp only[a2_]
 refine bx_ r.2.1 (λi x=>lm_ (bn7 r i x) 21) (λi y hy => ?_) ?_ (fa_ ?_)
 ·have hi:=am_ hy
  simp only[dlt hi,a5_,ai_ hy,a0_,bb_ (show Sm i from c5_ (f9_ hi) h.th),qd_ (f9_ hi)]
  refine e5_ (congrArg (λo=>Option.bind o _) (e5_ (congrArg (λo=>Option.bind o _) (wg_ (xa_ h.th i) (·.1) (h.thn y (bh_ hy)))) (?_:_=some (!(bn7 r i y),())))) ?_
  ·simp only[ee_,a0_]
   unfold bn7 frN twN sv_
   cases okN y.1&&!((r.2.1.take i).any λz=>z.1==y.1) with
   | false=>rfl
   | true =>
    cases wi y.2.1 0 (w64 ((r.1.length:Int) - 1)) with
    | false=>rfl
    | true =>
     cases wi y.2.2.1 2 6 with
     | false=>rfl
     | true=>rfl
  ·rw[a0_]
   unfold lm_
   cases bn7 r i y<;>rfl
 ·simp only[dnl,a2_]
 refine bx_ r.2.2.1 (λi x=>tn_ (ck6 r i x) 24 (cOk r.2.1 x.2.2) 25) (λi y hy => ?_) ?_ (fa_ ?_)
 ·have hi:=am_ hy
  simp only[dlt hi,a5_,ai_ hy,a0_,bb_ (show Sm i from c5_ (f9_ hi) h.pr),qd_ (f9_ hi)]
  refine e5_ (congrArg (λo=>Option.bind o _) (e5_ (congrArg (λo=>Option.bind o _) (wg_ (xa_ h.pr i) (·.1) (h.prn y (bh_ hy)).1)) (?_:_=some (!(ck6 r i y),())))) ?_
  ·simp only[ee_,a0_]
   unfold ck6 frN twN sv_
   cases okN y.1&&!((r.2.2.1.take i).any λz=>z.1==y.1) with
   | false=>rfl
   | true =>
    cases wi y.2.1 0 (w64 ((r.1.length:Int) - 1)) with
    | false=>rfl
    | true=>rfl
  ·rw[a0_,ks_ h.th,a0_]
   unfold tn_
   cases ck6 r i y with
   | false=>rfl
   | true=>cases cOk r.2.1 y.2.2<;>rfl
 ·simp only[dnl,a2_]
 refine bx_ r.2.2.2.1 (λi x=>tn_ (cf9 r x) 23 (cOk r.2.1 x.2.2) 25) (λi y hy => ?_) ?_ (fa_ ?_)
 ·have hi:=am_ hy
  simp only[dlt hi,a5_,ai_ hy,a0_,bb_ (show Sm i from c5_ (f9_ hi) h.wy)]
  refine e5_ (congrArg (λo=>Option.bind o _) (?_:_=some (!(cf9 r y),()))) ?_
  ·simp only[ee_,a0_]
   unfold cf9 sv_
   cases wi y.1 0 (w64 ((r.1.length:Int) - 1)) with
   | false=>rfl
   | true =>
    cases wi y.2.1 0 (w64 ((r.1.length:Int) - 1)) with
    | false=>rfl
    | true=>simp
  ·rw[a0_,ks_ h.th,a0_]
   unfold tn_
   cases cf9 r y with
   | false=>rfl
   | true=>cases cOk r.2.1 y.2.2<;>rfl
 ·simp only[dnl,a2_]
 refine bx_ r.2.2.2.2.1 (λi x=>tn_ (vx_ r i x) 26 (cOk r.2.1 x.2.2.2.2.1) 25) (λi y hy => ?_) ?_ (fa_ ?_)
 ·have hi:=am_ hy
  simp only[dlt hi,a5_,ai_ hy,a0_,bb_ (show Sm i from c5_ (f9_ hi) h.ac),cj4 h hy,ks_ h.th]
  unfold tn_
  cases vx_ r i y with
  | false=>rfl
  | true=>cases cOk r.2.1 y.2.2.2.2.1<;>rfl
 ·simp only[dnl,a2_]
 refine bx_ r.2.2.2.2.2.1 (λi x=>tn_ (ou_ r.2.1 x.2.1 x.2.2) 27 (cOk r.2.1 x.1) 25) (λi y hy => ?_) ?_ (fa_ ?_)
 ·have hi:=am_ hy
  simp only[dlt hi,a5_,ai_ hy,a0_,bb_ (show Sm i from c5_ (f9_ hi) h.au),qj_ h.th,ks_ h.th]
  unfold tn_
  cases ou_ r.2.1 y.2.1 y.2.2 with
  | false=>rfl
  | true=>cases cOk r.2.1 y.1<;>rfl
 ·simp only[dnl,a2_]
 rw[ee_,a0_,ks_ h.th,a0_]
 cases wi r.2.2.2.2.2.2.1 1 4 with
 | false=>rfl
 | true=>cases cOk r.2.1 r.2.2.2.2.2.2.2<;>rfl
end
section
theorem vk_ {α ρ σ τ:Type} (l:List α) (k:Nat) (hk:k≤l.length) (p:Nat→α→Option ρ) (F:Nat→σ) {r0:ρ} {body:σ→Option (σ⊕ρ)} {K:ρ→Option τ} {x:Option τ}
  (h:∀ i x,i<k→l[i]?=some x→body (F i)=some (match p i x with | none=>.inl (F (i+1)) | some r=>.inr r)) (e:body (F k)=some (.inr r0)) (hx:K ((hf_ p 0 (l.take k)).getD r0)=x) :
  (af_ body (F 0)).bind K=x:=by
 have hle:(l.take k).length=k:=by rw[c7_];omega
 refine bw_ (l.take k) p F (λi x hx => ?_) (by rw[hle];exact e) hx
 rw[i8_] at hx
 split at hx
 ·exact h i x ‹_› hx
 ·cases hx
theorem bq5 {r:ad_} (h:SmR r) {i:Nat} {a:ed_} (ha:r.2.2.2.2.1[i]?=some a):nx_ r (i:Int)=some (vx_ r i a,()):=by
 have hi:=am_ ha
 have hac:=h.ac
 obtain⟨s1,s2,s3,s4,s5,s6⟩:=h.acn a (bh_ ha)
 unfold nx_
 rw[ai_ ha,a0_]
 refine vk_ r.2.2.2.2.1 i (f9_ hi) (λ_ y=>cond (y.1==a.1) (some (inr (false,()):Unit⊕(Bool×Unit))) none) (λi=>((i:Int),())) (r0:=inl ()) (λk y hk hy => ?_) ?_ ?_
 ·simp only[dlt hk,a5_,ai_ hy,a0_,bb_ (show Sm k by omega)]
  cases y.1==a.1<;>rfl
 ·simp only[dnl,a2_]
 rw[hz_ (q:=λy:ed_=>y.1==a.1)]
 unfold vx_ frN twN
 cases (r.2.2.2.2.1.take i).any λy=>y.1==a.1 with
 | true=>rw[e2_,f7_,e4_];rfl
 | false =>
 simp only[a2_,j0_,ad1,g9_,h1_]
 refine e5_ (congrArg (λo=>Option.bind o _) (?_:_=some (!(okN a.1&&(sv_ r a.2.1&&(wi a.2.2.1 (-1) 7&&(ls_ r.2.2.1.length a.2.2.2.1&&(ls_ r.2.2.1.length a.2.2.2.2.2.2.1&&(ls_ r.2.2.1.length a.2.2.2.2.2.2.2&&!(decide (6<(a.2.2.2.2.2.1.length:Int))))))))),()))) ?_
 ·simp only[ky_ s1,ix_,ga_,kx_ h.pr s2,kx_ h.pr s5,kx_ h.pr s6,a0_]
  unfold sv_
  cases okN a.1 with
  | false=>rfl
  | true =>
  cases wi a.2.1 0 (w64 ((r.1.length:Int) - 1)) with
  | false=>rfl
  | true =>
  cases wi a.2.2.1 (-1) 7 with
  | false=>rfl
  | true =>
  cases ls_ r.2.2.1.length a.2.2.2.1 with
  | false=>rfl
  | true =>
  cases ls_ r.2.2.1.length a.2.2.2.2.2.2.1 with
  | false=>rfl
  | true =>
  cases ls_ r.2.2.1.length a.2.2.2.2.2.2.2 with
  | false=>rfl
  | true=>simp
 rw[a0_]
 cases okN a.1 with
 | false=>rfl
 | true =>
 cases sv_ r a.2.1 with
 | false=>rfl
 | true =>
 cases wi a.2.2.1 (-1) 7 with
 | false=>rfl
 | true =>
 cases ls_ r.2.2.1.length a.2.2.2.1 with
 | false=>rfl
 | true =>
 cases ls_ r.2.2.1.length a.2.2.2.2.2.2.1 with
 | false=>rfl
 | true =>
 cases ls_ r.2.2.1.length a.2.2.2.2.2.2.2 with
 | false=>rfl
 | true =>
 cases decide (6<(a.2.2.2.2.2.1.length:Int)) with
 | true=>rfl
 | false =>
 simp only[c0_,e2_,g9_,a2_]
 refine bw_ a.2.2.2.2.2.2.1 (λ_ y=>cond (a.2.2.2.1.contains y) none (some (inr (false,()):Unit⊕(Bool×Unit)))) (λi=>((i:Int),())) (r0:=inl ()) (λk y hy => ?_) ?_ ?_
 ·have hk:=am_ hy
  simp only[dlt hk,a5_,ai_ hy,a0_,bb_ (show Sm k by omega),ba8 s2]
  cases a.2.2.2.1.contains y<;>rfl
 ·simp only[dnl,a2_]
 rw[kc_ (q:=λy=>a.2.2.2.1.contains y)]
 cases a.2.2.2.2.2.2.1.all λy=>a.2.2.2.1.contains y with
 | false=>rfl
 | true =>
 simp only[a5_,j0_,ad1,c0_]
 refine bw_ a.2.2.2.2.2.2.2 (λ_ y=>cond (a.2.2.2.1.contains y) (some (inr (false,()):Unit⊕(Bool×Unit))) none) (λi=>((i:Int),())) (r0:=inl ()) (λk y hy => ?_) ?_ ?_
 ·have hk:=am_ hy
  simp only[dlt hk,a5_,ai_ hy,a0_,bb_ (show Sm k by omega),ba8 s2]
  cases a.2.2.2.1.contains y<;>rfl
 ·simp only[dnl,a2_]
 rw[hz_ (q:=λy=>a.2.2.2.1.contains y)]
 cases a.2.2.2.2.2.2.2.any λy=>a.2.2.2.1.contains y with
 | true=>rfl
 | false =>
 simp only[a2_,j0_,ad1,g9_,c0_]
 refine bw_ a.2.2.2.2.2.1 (λi x=>cond (sg_ r a.2.2.2.2.2.1 i x) none (some (inr (false,()):Unit⊕(Bool×Unit)))) (λi=>((i:Int),())) (r0:=inl ()) (λk y hy => ?_) ?_ ?_
 ·have hk:=am_ hy
  simp only[dlt hk,a5_,ai_ hy,a0_,bb_ (show Sm k by omega),si_ h.th]
  unfold sg_
  cases ou_ r.2.1 y.1 y.2 with
  | false=>rfl
  | true =>
  simp only[e2_,a2_,c0_]
  refine vk_ a.2.2.2.2.2.1 k (f9_ hk) (λ_ z=>cond (z.1==y.1) (some (inr (inr (inr (false,()))):Unit⊕((Int×Unit)⊕(Unit⊕(Bool×Unit))))) none) (λi=>((i:Int),())) (r0:=inl ()) (λn z hn hz => ?_) ?_ ?_
  ·simp only[dlt hn,a5_,ai_ hz,a0_,bb_ (show Sm n by omega)]
   cases z.1==y.1<;>rfl
  ·simp only[dnl,a2_]
  rw[hz_ (q:=λz:ab_=>z.1==y.1)]
  cases (a.2.2.2.2.2.1.take k).any λz=>z.1==y.1<;>rfl
 ·simp only[dnl,a2_]
 rw[tt_]
 cases (hf_ (λi x=>cond (sg_ r a.2.2.2.2.2.1 i x) none (some ())) 0 a.2.2.2.2.2.1).isNone<;>rfl
theorem an6 {α:Type} {nm:α→List UInt8} {l:List α} (hl:Sm l.length) {i:Nat} {x:α} (hx:l[i]?=some x):push? (α:=List UInt8) ((l.take i).map nm) [nm x]=some ((l.take (i+1)).map nm):=by
 have hi:=am_ hx
 unfold push?
 rw[if_pos (by
  simp only[d3_,c7_,d9_]
  omega)]
 rw[d6_,hx,i6_]
 rfl
theorem bn5 {α:Type} {nm:α→List UInt8} {l:List α} {i:Nat} {t:List UInt8}:twN id ((l.take (i+1)).map nm) i t=twN nm l i t:=by
 unfold twN
 rw[← List.map_take,List.take_take,Nat.min_eq_left (Nat.le_succ i),List.any_map]
 rfl
theorem cu5 {α:Type} {nm:α→List UInt8} {l:List α} {i:Nat} {x:α} (hx:l[i]?=some x):((l.take (i+1)).map nm)[i]?=some (nm x):=by
 rw[d5_,i8_,if_pos (Nat.lt_succ_self i),hx]
 rfl
theorem rj_ {r:ad_} (h:SmR r):gf_ r=some (dd_ r,()):=by
 unfold gf_
 refine e5_ (congrArg (λo=>Option.bind o _) (bw1 r)) ?_
 rw[a0_]
 unfold dd_
 cases ah1 r with
 | true=>rfl
 | false =>
 simp only[a2_]
 cases he:(r.1.length:Int)==0 with
 | true =>
  have:r.1=[]:=by
   have:=g5_.1 he
   exact h4_ (by omega)
  rw[this]
  rfl
 | false =>
 simp only[a2_]
 refine bx_ r.1 (λi x=>lm_ (plOk r i x) 22) (λi y hy => ?_) ?_ (fa_ ?_)
 ·have hi:=am_ hy
  simp only[dlt hi,a5_,ai_ hy,a0_,bb_ (show Sm i from c5_ (f9_ hi) h.pl),ky_ (h.pln y (bh_ hy)),ri_ h.pl hy]
  unfold lm_ plOk frN
  cases okN y with
  | false=>rfl
  | true=>cases twN id r.1 i y<;>rfl
 ·simp only[dnl,a2_]
 refine ac6 r.2.1 (λi x=>lm_ (bn7 r i x) 21) (λi=>(r.2.1.take i).map (·.1)) rfl (λi y hy => ?_) ?_ (fa_ ?_)
 ·have hi:=am_ hy
  have hs:Sm ((r.2.1.take (i+1)).map (·.1)).length:=by
   rw[d3_,c7_]
   exact c5_ (m1_ _ _) h.th
  simp only[dlt hi,a5_,ai_ hy,a0_,bb_ (show Sm i from c5_ (f9_ hi) h.th),an6 h.th hy,ky_ (h.thn y (bh_ hy)),ri_ hs (cu5 hy),bn5,ix_,ga_]
  unfold lm_ bn7 frN sv_
  cases okN y.1 with
  | false=>rfl
  | true =>
  cases twN (·.1) r.2.1 i y.1 with
  | true=>rfl
  | false =>
  cases wi y.2.1 0 (w64 ((r.1.length:Int) - 1)) with
  | false=>rfl
  | true =>
  cases wi y.2.2.1 2 6 with
  | false=>rfl
  | true=>cases wi y.2.2.2 0 (w64 (y.2.2.1 - 1))<;>rfl
 ·simp only[dnl,a2_]
 refine ac6 r.2.2.1 (λi x=>tn_ (ck6 r i x) 24 (cOk r.2.1 x.2.2) 25) (λi=>(r.2.2.1.take i).map (·.1)) rfl (λi y hy => ?_) ?_ (fa_ ?_)
 ·have hi:=am_ hy
  obtain⟨s1,s2⟩:=h.prn y (bh_ hy)
  have hs:Sm ((r.2.2.1.take (i+1)).map (·.1)).length:=by
   rw[d3_,c7_]
   exact c5_ (m1_ _ _) h.pr
  simp only[dlt hi,a5_,ai_ hy,a0_,bb_ (show Sm i from c5_ (f9_ hi) h.pr),an6 h.pr hy,ky_ s1,ri_ hs (cu5 hy),bn5,ix_,hp_ h.th s2]
  unfold tn_ ck6 frN sv_
  cases okN y.1 with
  | false=>rfl
  | true =>
  cases twN (·.1) r.2.2.1 i y.1 with
  | true=>rfl
  | false =>
  have e:(y.2.1 != -1) = !(y.2.1==-1):=rfl
  rw[e]
  cases y.2.1==-1 with
  | true =>
   cases wi y.2.1 0 (w64 ((r.1.length:Int) - 1))<;>cases cOk r.2.1 y.2.2<;>rfl
  | false =>
   cases wi y.2.1 0 (w64 ((r.1.length:Int) - 1))<;>cases cOk r.2.1 y.2.2<;>rfl
 ·simp only[dnl,a2_]
 refine bx_ r.2.2.2.1 (λi x=>tn_ (cf9 r x) 23 (cOk r.2.1 x.2.2) 25) (λi y hy => ?_) ?_ (fa_ ?_)
 ·have hi:=am_ hy
  simp only[dlt hi,a5_,ai_ hy,a0_,bb_ (show Sm i from c5_ (f9_ hi) h.wy),ix_,hp_ h.th (h.wyn y (bh_ hy))]
  unfold tn_ cf9 sv_
  cases wi y.1 0 (w64 ((r.1.length:Int) - 1)) with
  | false=>rfl
  | true =>
  cases wi y.2.1 0 (w64 ((r.1.length:Int) - 1)) with
  | false=>rfl
  | true=>cases y.1==y.2.1<;>cases cOk r.2.1 y.2.2<;>rfl
 ·simp only[dnl,a2_]
 refine bx_ r.2.2.2.2.1 (λi x=>tn_ (vx_ r i x) 26 (cOk r.2.1 x.2.2.2.2.1) 25) (λi y hy => ?_) ?_ (fa_ ?_)
 ·have hi:=am_ hy
  simp only[dlt hi,a5_,ai_ hy,a0_,bb_ (show Sm i from c5_ (f9_ hi) h.ac),bq5 h hy,hp_ h.th (h.acn y (bh_ hy)).2.2.1]
  unfold tn_
  cases vx_ r i y with
  | false=>rfl
  | true=>cases cOk r.2.1 y.2.2.2.2.1<;>rfl
 ·simp only[dnl,a2_]
 refine bx_ r.2.2.2.2.2.1 (λi x=>tn_ (ou_ r.2.1 x.2.1 x.2.2) 27 (cOk r.2.1 x.1) 25) (λi y hy => ?_) ?_ (fa_ ?_)
 ·have hi:=am_ hy
  simp only[dlt hi,a5_,ai_ hy,a0_,bb_ (show Sm i from c5_ (f9_ hi) h.au),si_ h.th,hp_ h.th (h.aun y (bh_ hy))]
  unfold tn_
  cases ou_ r.2.1 y.2.1 y.2.2 with
  | false=>rfl
  | true=>cases cOk r.2.1 y.1<;>rfl
 ·simp only[dnl,a2_]
 rw[ga_,a0_,hp_ h.th h.go,a0_]
 cases wi r.2.2.2.2.2.2.1 1 4 with
 | false=>rfl
 | true=>cases cOk r.2.1 r.2.2.2.2.2.2.2<;>rfl
end
section
theorem ke_ {α τ:Type} (l:List α) (hl:Sm l.length) (q:α→Bool) {body:(Int×Unit)→Option ((Int×Unit)⊕(Unit⊕(Bool×Unit)))} {K:(Unit⊕(Bool×Unit))→Option τ} {x:Option τ}
  (h:∀ (i:Nat) y,l[i]?=some y→body ((i:Int),())=some (cond (q y) (.inr (.inr (true,()))) (.inl (w64 ((i:Int)+1),())))) (e:body ((l.length:Int),())=some (.inr (.inl ()))) (hx:K (cond (l.any q) (.inr (true,())) (.inl ()))=x) :
  (af_ body (0,())).bind K=x:=by
 refine bw_ l (λi y=>cond (q y) (some (inr (true,()):Unit⊕(Bool×Unit))) none) (λi=>((i:Int),())) (r0:=inl ()) (λi y hy => ?_) e ?_
 ·have hi:=am_ hy
  rw[h i y hy,bb_ (show Sm i by omega)]
  cases q y<;>rfl
 ·rw[hz_ (q:=q)]
  cases hq:l.any q<;>rw[hq] at hx<;>exact hx
theorem ip_ {α:Type} {l:List α} {q:α→Bool} (h:l.any q=false):∀ x ∈ l,q x=false:=by
 intro x hx
 cases hq:q x with
 | false=>rfl
 | true=>rw[l7_.2 ⟨x,hx,hq⟩] at h;cases h
theorem nlt {n:Nat} {k:Int} (h:decide (k<(n:Int))=false) (hk:k≤1000000000):Sm n:=by
 have:=d7_ h
 omega
def cn1 (r:ad_):Bool:=decide (12<(r.1.length:Int))||(decide (15<(r.2.1.length:Int))||(decide (14<(r.2.2.1.length:Int))||(decide (20<(r.2.2.2.1.length:Int))||(decide (30<(r.2.2.2.2.1.length:Int))||(decide (15<(r.2.2.2.2.2.1.length:Int))||decide (20<(r.2.2.2.2.2.2.2.length:Int)))))))
theorem cn0 (r:ad_):(cond (decide (12<(r.1.length:Int)))
 (some (true,()))
 (cond (decide (15<(r.2.1.length:Int)))
 (some (true,()))
 (cond (decide (14<(r.2.2.1.length:Int)))
 (some (true,()))
 (cond (decide (20<(r.2.2.2.1.length:Int)))
 (some (true,()))
 (cond (decide (30<(r.2.2.2.2.1.length:Int)))
 (some (true,()))
 (cond (decide (15<(r.2.2.2.2.2.1.length:Int)))
 (some (true,()))
 (some ((decide (20<(r.2.2.2.2.2.2.2.length:Int))),()))))))))=some (cn1 r,()):=by
  unfold cn1
  cases decide (12<(r.1.length:Int)) with
  | true=>rfl
  | false =>
  cases decide (15<(r.2.1.length:Int)) with
  | true=>rfl
  | false =>
  cases decide (14<(r.2.2.1.length:Int)) with
  | true=>rfl
  | false =>
  cases decide (20<(r.2.2.2.1.length:Int)) with
  | true=>rfl
  | false =>
  cases decide (30<(r.2.2.2.2.1.length:Int)) with
  | true=>rfl
  | false =>
  cases decide (15<(r.2.2.2.2.2.1.length:Int)) with
  | true=>rfl
  | false=>rfl
theorem bx1 (r:ad_):∃ b,oa_ r=some (b,())∧(b=false→SmR r∧r.2.1.length≤15∧r.2.2.2.2.2.2.2.length≤20∧r.2.2.2.2.1.length≤30):=by
 unfold oa_
 have e0:=cn0 r
 cases hm:cn1 r with
 | true =>
  rw[hm] at e0
  exact⟨true,e5_ (congrArg (λo=>Option.bind o _) e0) rfl,λh=>by cases h⟩
 | false =>
 rw[hm] at e0
 unfold cn1 at hm
 simp only[b8_] at hm
 obtain⟨h1,h2,h3,h4,h5,h6,h7⟩:=hm
 have l1:=nlt h1 (by decide)
 have l2:=nlt h2 (by decide)
 have l3:=nlt h3 (by decide)
 have l4:=nlt h4 (by decide)
 have l5:=nlt h5 (by decide)
 have l6:=nlt h6 (by decide)
 have l7:=nlt h7 (by decide)
 have b2:=d7_ h2
 have b5:=d7_ h5
 have b7:=d7_ h7
 let qa:ed_→Bool:=λy=>decide (100<(y.1.length:Int))||(decide (20<(y.2.2.2.2.1.length:Int))||(decide (20<(y.2.2.2.1.length:Int))||(decide (20<(y.2.2.2.2.2.1.length:Int))||(decide (20<(y.2.2.2.2.2.2.1.length:Int))||decide (20<(y.2.2.2.2.2.2.2.length:Int))))))
 let b1:=r.1.any λx=>decide (100<(x.length:Int))
 let bt:=r.2.1.any λx=>decide (100<(x.1.length:Int))
 let bp:=r.2.2.1.any λx=>decide (100<(x.1.length:Int))||decide (20<(x.2.2.length:Int))
 let bw:=r.2.2.2.1.any λx=>decide (20<(x.2.2.length:Int))
 let ba:=r.2.2.2.2.1.any qa
 let bo:=r.2.2.2.2.2.1.any λx=>decide (20<(x.1.length:Int))
 refine⟨b1||(bt||(bp||(bw||(ba||bo)))),?_,?_⟩
 ·refine e5_ (congrArg (λo=>Option.bind o _) e0) ?_
  rw[a0_]
  simp only[a2_]
  refine ke_ r.1 l1 (λx=>decide (100<(x.length:Int))) (λi y hy => ?_) ?_ ?_
  ·simp only[dlt (am_ hy),a5_,ai_ hy,a0_]
   cases decide (100<(y.length:Int))<;>rfl
  ·simp only[dnl,a2_]
  show ca_ (cond b1 _ _) _ _=_
  cases b1 with
  | true=>rfl
  | false =>
  refine ke_ r.2.1 l2 (λx=>decide (100<(x.1.length:Int))) (λi y hy => ?_) ?_ ?_
  ·simp only[dlt (am_ hy),a5_,ai_ hy,a0_]
   cases decide (100<(y.1.length:Int))<;>rfl
  ·simp only[dnl,a2_]
  show ca_ (cond bt _ _) _ _=_
  cases bt with
  | true=>rfl
  | false =>
  refine ke_ r.2.2.1 l3 (λx=>decide (100<(x.1.length:Int))||decide (20<(x.2.2.length:Int))) (λi y hy => ?_) ?_ ?_
  ·simp only[dlt (am_ hy),a5_,ai_ hy,a0_]
   cases decide (100<(y.1.length:Int)) with
   | true=>rfl
   | false=>cases decide (20<(y.2.2.length:Int))<;>rfl
  ·simp only[dnl,a2_]
  show ca_ (cond bp _ _) _ _=_
  cases bp with
  | true=>rfl
  | false =>
  refine ke_ r.2.2.2.1 l4 (λx=>decide (20<(x.2.2.length:Int))) (λi y hy => ?_) ?_ ?_
  ·simp only[dlt (am_ hy),a5_,ai_ hy,a0_]
   cases decide (20<(y.2.2.length:Int))<;>rfl
  ·simp only[dnl,a2_]
  show ca_ (cond bw _ _) _ _=_
  cases bw with
  | true=>rfl
  | false =>
  refine ke_ r.2.2.2.2.1 l5 qa (λi y hy => ?_) ?_ ?_
  ·simp only[dlt (am_ hy),a5_,ai_ hy,a0_,qa]
   cases decide (100<(y.1.length:Int)) with
   | true=>rfl
   | false =>
   cases decide (20<(y.2.2.2.2.1.length:Int)) with
   | true=>rfl
   | false =>
   cases decide (20<(y.2.2.2.1.length:Int)) with
   | true=>rfl
   | false =>
   cases decide (20<(y.2.2.2.2.2.1.length:Int)) with
   | true=>rfl
   | false =>
   cases decide (20<(y.2.2.2.2.2.2.1.length:Int)) with
   | true=>rfl
   | false=>cases decide (20<(y.2.2.2.2.2.2.2.length:Int))<;>rfl
  ·simp only[dnl,a2_]
  show ca_ (cond ba _ _) _ _=_
  cases ba with
  | true=>rfl
  | false =>
  refine ke_ r.2.2.2.2.2.1 l6 (λx=>decide (20<(x.1.length:Int))) (λi y hy => ?_) ?_ ?_
  ·simp only[dlt (am_ hy),a5_,ai_ hy,a0_]
   cases decide (20<(y.1.length:Int))<;>rfl
  ·simp only[dnl,a2_]
  show ca_ (cond bo _ _) _ _=_
  cases bo<;>rfl
 ·intro hb
  simp only[b8_] at hb
  obtain⟨g1,g2,g3,g4,g5,g6⟩:=hb
  refine⟨⟨l1,l2,l3,l4,l5,l6,l7,λx hx=>nlt (ip_ g1 x hx) (by decide),λx hx=>nlt (ip_ g2 x hx) (by decide),λx hx => ?_,λx hx=>nlt (ip_ g4 x hx) (by decide),λx hx => ?_,λx hx=>nlt (ip_ g6 x hx) (by decide)⟩,by omega,by omega,by omega⟩
  ·have:=ip_ g3 x hx
   simp only[b8_] at this
   exact⟨nlt this.1 (by decide),nlt this.2 (by decide)⟩
  ·have:=ip_ g5 x hx
   simp only[qa,b8_] at this
   obtain⟨a1,a2,a3,a4,a5,a6⟩:=this
   exact⟨nlt a1 (by decide),nlt a3 (by decide),nlt a2 (by decide),nlt a4 (by decide),nlt a5 (by decide),nlt a6 (by decide)⟩
structure SmG (g:ac_):Prop where
 room:SmR g.1
 th:g.1.2.1.length≤15
 go:g.1.2.2.2.2.2.2.2.length≤20
 ac:g.1.2.2.2.2.1.length≤30
 lk:g.2.1.length≤10
 cd:g.2.2.1.length≤10
 nt:g.2.2.2.1.length≤20
 lkn:∀ x ∈ g.2.1,¬ (3<x.1∧5<x.2)
 cdn:∀ x ∈ g.2.2.1,x.length≤10
 ntn:∀ x ∈ g.2.2.2.1,x.1.length≤100∧x.2.2.2.1.length≤20∧x.2.2.2.2.2.2.2.2.2.1.length≤10
theorem bx0 (g:ac_):∃ b,lk_ g=some (b,())∧(b=false→SmG g):=by
 unfold lk_
 obtain⟨b0,e0,h0⟩:=bx1 g.1
 rw[e0]
 simp only[a0_]
 cases b0 with
 | true=>exact⟨true,rfl,λh=>by cases h⟩
 | false =>
 obtain⟨r1,r2,r3,r4⟩:=h0 rfl
 cases h1:decide (10<(g.2.1.length:Int)) with
 | true=>exact⟨true,rfl,λh=>by cases h⟩
 | false =>
 cases h2:decide (10<(g.2.2.1.length:Int)) with
 | true=>exact⟨true,rfl,λh=>by cases h⟩
 | false =>
 cases h3:decide (20<(g.2.2.2.1.length:Int)) with
 | true=>exact⟨true,rfl,λh=>by cases h⟩
 | false =>
 have l1:=nlt h1 (by decide)
 have l2:=nlt h2 (by decide)
 have l3:=nlt h3 (by decide)
 let ql:ab_→Bool:=λy=>decide (3<y.1)&&decide (5<y.2)
 let qn:dw_→Bool:=λy=>decide (100<(y.1.length:Int))||(decide (20<(y.2.2.2.1.length:Int))||decide (10<(y.2.2.2.2.2.2.2.2.2.1.length:Int)))
 let b1:=g.2.1.any ql
 let b2:=g.2.2.1.any λx=>decide (10<(x.length:Int))
 let b3:=g.2.2.2.1.any qn
 refine⟨b1||(b2||b3),?_,?_⟩
 ·simp only[a0_,a2_]
  refine ke_ g.2.1 l1 ql (λi y hy => ?_) ?_ ?_
  ·simp only[dlt (am_ hy),a5_,ai_ hy,a0_,ql]
   cases decide (3<y.1) with
   | false=>rfl
   | true=>cases decide (5<y.2)<;>rfl
  ·simp only[dnl,a2_]
  show ca_ (cond b1 _ _) _ _=_
  cases b1 with
  | true=>rfl
  | false =>
  refine ke_ g.2.2.1 l2 (λx=>decide (10<(x.length:Int))) (λi y hy => ?_) ?_ ?_
  ·simp only[dlt (am_ hy),a5_,ai_ hy,a0_]
   cases decide (10<(y.length:Int))<;>rfl
  ·simp only[dnl,a2_]
  show ca_ (cond b2 _ _) _ _=_
  cases b2 with
  | true=>rfl
  | false =>
  refine ke_ g.2.2.2.1 l3 qn (λi y hy => ?_) ?_ ?_
  ·simp only[dlt (am_ hy),a5_,ai_ hy,a0_,qn]
   cases decide (100<(y.1.length:Int)) with
   | true=>rfl
   | false =>
   cases decide (20<(y.2.2.2.1.length:Int)) with
   | true=>rfl
   | false=>cases decide (10<(y.2.2.2.2.2.2.2.2.2.1.length:Int))<;>rfl
  ·simp only[dnl,a2_]
  show ca_ (cond b3 _ _) _ _=_
  cases b3<;>rfl
 ·intro hb
  simp only[b8_] at hb
  obtain⟨g1,g2,g3⟩:=hb
  have c1:=d7_ h1
  have c2:=d7_ h2
  have c3:=d7_ h3
  refine⟨r1,r2,r3,r4,by omega,by omega,by omega,λx hx => ?_,λx hx => ?_,λx hx => ?_⟩
  ·have:=ip_ g1 x hx
   intro hc
   simp only[ql,b9_ hc.1,b9_ hc.2] at this
   cases this
  ·have:=d7_ (ip_ g2 x hx)
   omega
  ·have:=ip_ g3 x hx
   simp only[qn,b8_] at this
   have d1:=d7_ this.1
   have d2:=d7_ this.2.1
   have d3:=d7_ this.2.2
   omega
end
end Go.Proofs.YtgeehfnbhbibeaaGreatDoor.Rx
namespace Go.Proofs.YtgeehfnbhbibeaaGreatDoor.Rx
open Go Pad Rex Go.Proofs Go.Proofs.Tryz Sum
section
set_option maxRecDepth 100000
set_option maxHeartbeats 0
noncomputable def ie_ (a0:ac_):Option (Int×Unit) :=
 ((gf_ a0.1).bind λv0 =>
 (cond (v0.1 != 0)
 (some (v0.1,()))
 (((cond (decide (8<(a0.2.1.length:Int)))
 (some (true,()))
 (some ((decide (16<(a0.2.2.2.1.length:Int))),())))).bind λv1 =>
 (cond v1.1
 (some (2,()))
 ((af_ (ρ:=(Unit⊕(Int×Unit))) (λ(v2:(Int×Unit)) =>
 (cond (decide (v2.1<(a0.2.1.length:Int)))
 ((at? a0.2.1 v2.1).bind λv3 =>
 ((ev_ v3).bind λv4 =>
 (cond (v4.1 != 0)
 (some (inr (inr (v4.1,()))))
 (some (inl ((w64 (v2.1+1)),()))))))
 (some (inr (inl ()))))) (0,())).bind λv5 =>
 (ca_ v5 (λv6=>(cond ((a0.2.2.1.length:Int) != (a0.2.1.length:Int))
 (some (12,()))
 ((af_ (ρ:=(Unit⊕(Int×Unit))) (λ(v8:(Int×Unit)) =>
 (cond (decide (v8.1<(a0.2.2.1.length:Int)))
 ((at? a0.2.1 v8.1).bind λv9 =>
 ((at? a0.2.2.1 v8.1).bind λv10 =>
 ((gg_ v9 v10).bind λv11 =>
 (cond (v11.1 != 0)
 (some (inr (inr (12,()))))
 (some (inl ((w64 (v8.1+1)),())))))))
 (some (inr (inl ()))))) (0,())).bind λv12 =>
 (ca_ v12 (λv13=>((af_ (ρ:=(Unit⊕(Int×Unit))) (λ(v15:(Int×Unit)) =>
 (cond (decide (v15.1<(a0.1.2.2.2.2.1.length:Int)))
 ((at? a0.1.2.2.2.2.1 v15.1).bind λv16 =>
 (cond (decide ((a0.2.1.length:Int)≤v16.2.2.1))
 (some (inr (inr (26,()))))
 (some (inl ((w64 (v15.1+1)),())))))
 (some (inr (inl ()))))) (0,())).bind λv17 =>
 (ca_ v17 (λv18=>((af_ (ρ:=(Unit⊕(Int×Unit))) (λ(v20:(Int×Unit)) =>
 (cond (decide (v20.1<(a0.2.2.2.1.length:Int)))
 ((kg_ a0 v20.1).bind λv21 =>
 (cond (!v21.1)
 (some (inr (inr (40,()))))
 ((at? a0.2.2.2.1 v20.1).bind λv22 =>
 ((cx_ a0.1 v22.2.2.2.1).bind λv23 =>
 (cond (!v23.1)
 (some (inr (inr (25,()))))
 (some (inl ((w64 (v20.1+1)),()))))))))
 (some (inr (inl ()))))) (0,())).bind λv24 =>
 (ca_ v24 (λv25=>((jm_ a0.2.2.2.2 1 100).bind λv27 =>
 (cond (!v27.1)
 (some (1,()))
 (some (0,())))))
 (λv26=>(some v26)))))
 (λv19=>(some v19)))))
 (λv14=>(some v14))))))
 (λv7=>(some v7))))))))
theorem x_24:au_ (P:=prog) (cxC [c_52,c_53,c_54,c_55,c_56,c_57] []) (.p .z (.p .z (.p .z (.p (.j0 [.v 24 .bool] .z .z) (.p (.p .z (.ls [.v 4 .int] [] [] 0 .z)) (.p .z (.p (.p .z (.ls [.v 6 .int] [] [] 2 (.p .z (.p (.p (.q [] .z .z) .z) .z)))) (.p (.p .z (.ls [.v 7 .int] [] [] 4 (.p .z (.p (.p (.q [] .z .z) .z) .z)))) (.p (.p .z (.ls [.v 8 .int] [] [] 6 (.p .z (.p (.p .z (.p (.q [] .z .z) .z)) .z)))) .z))))))))) 24 [an_] [.int]=λx=>ie_ x.1:=by kernel_rfl
noncomputable def c_24:Con prog:=av_ _ _ 24 [an_] [.int] _ x_24
noncomputable def fe_ (a0:ad_) (a1:aj_):Option (Int×Unit) :=
 ((gf_ a0).bind λv0 =>
 (cond (v0.1 != 0)
 (some (v0.1,()))
 (((cond ((a1.1.length:Int) != (a0.2.1.length:Int))
 (some (true,()))
 (cond ((a1.2.1.length:Int) != (a0.2.2.1.length:Int))
 (some (true,()))
 (some (((a1.2.2.length:Int) != a0.2.2.2.2.2.2.1),()))))).bind λv1 =>
 (cond v1.1
 (some (28,()))
 ((af_ (ρ:=(Unit⊕(Int×Unit))) (λ(v2:(Int×Unit)) =>
 (cond (decide (v2.1<(a1.1.length:Int)))
 ((at? a1.1 v2.1).bind λv3 =>
 ((hh_ a0 v2.1 v3).bind λv4 =>
 (cond (!v4.1)
 (some (inr (inr (28,()))))
 (some (inl ((w64 (v2.1+1)),()))))))
 (some (inr (inl ()))))) (0,())).bind λv5 =>
 (ca_ v5 (λv6=>((af_ (ρ:=(Unit⊕(Int×Unit))) (λ(v8:(Int×Unit)) =>
 (cond (decide (v8.1<(a1.2.1.length:Int)))
 ((at? a1.2.1 v8.1).bind λv9 =>
 ((((cw_ a0 v9).bind λv10 =>
 (cond (!v10.1)
 (cond (v9 != (-1))
 ((bt_ v9 (w64 ((w64 ((-2) - a0.2.2.2.2.2.2.1))+1)) (-2)).bind λv11 =>
 (some ((!v11.1),())))
 (some (false,())))
 (some (false,()))))).bind λv12 =>
 (cond v12.1
 (some (inr (inr (28,()))))
 (some (inl ((w64 (v8.1+1)),()))))))
 (some (inr (inl ()))))) (0,())).bind λv13 =>
 (ca_ v13 (λv14=>((af_ (ρ:=(Unit⊕(Int×Unit))) (λ(v16:(Int×Unit)) =>
 (cond (decide (v16.1<(a1.2.2.length:Int)))
 ((at? a1.2.2 v16.1).bind λv17 =>
 ((cw_ a0 v17).bind λv18 =>
 (cond (!v18.1)
 (some (inr (inr (28,()))))
 (some (inl ((w64 (v16.1+1)),()))))))
 (some (inr (inl ()))))) (0,())).bind λv19 =>
 (ca_ v19 (λv20=>(some (0,())))
 (λv21=>(some v21)))))
 (λv15=>(some v15)))))
 (λv7=>(some v7))))))))
theorem x_158:au_ (P:=prog) (cxC [c_52,c_83,c_84,c_86] []) (.p .z (.p .z (.p .z (.p (.j0 [.v 38 .bool] .z .z) (.p (.p .z (.ls [.v 6 .int] [] [] 0 (.p .z (.p (.p (.q [] .z .z) .z) .z)))) (.p (.p .z (.ls [.v 7 .int] [] [] 2 (.p .z (.p (.p .z (.j0 [.v 83 .bool] .z .z)) .z)))) (.p (.p .z (.ls [.v 9 .int] [] [] 4 (.p .z (.p (.p (.q [] .z .z) .z) .z)))) .z))))))) 158 [ao_,ap_] [.int]=λx=>fe_ x.1 x.2.1:=by kernel_rfl
noncomputable def c_158:Con prog:=av_ _ _ 158 [ao_,ap_] [.int] _ x_158
noncomputable def kn_ (a0:ab_) (a1:(List al_)):Option (Int×Int×Unit) :=
 ((ff_ a0 a1).bind λv0 =>
 (cond (v0.1 != 0)
 (some (0,(v0.1,())))
 ((ny_ a0 a1).bind λv1 =>
 (some ((v1.1.length:Int),(0,()))))))
theorem x_203:au_ (P:=prog) (cxC [c_233,c_234] []) .z 203 [ag_,(.list aq_)] [.int,.int]=λx=>kn_ x.1 x.2.1:=by kernel_rfl
noncomputable def c_203:Con prog:=av_ _ _ 203 [ag_,(.list aq_)] [.int,.int] _ x_203
noncomputable def gi_  : Option (Bool×Unit) :=
 ((ii_).bind λv0 =>
 ((ic_ v0.1 v0.2.1 (10,0) 100).bind λv1 =>
 ((kf_ v0.1 v0.2.1 10 100).bind λv2 =>
 (cond (v1.2.2.1==0)
 (cond (v2.2.2.1==0)
 (cond v1.2.1
 ((db_ v1.1 [0,0,1,0,0,1,0]).bind λv3 =>
 (cond v3.1
 (cond (v2.1==8)
 (some ((v2.2.1==1),()))
 (some (false,())))
 (some (false,()))))
 (some (false,())))
 (some (false,())))
 (some (false,()))))))
theorem x_19:au_ (P:=prog) (cxC [c_22,c_45,c_46,c_47] []) .z 19 [] [.bool]=λx=>gi_:=by kernel_rfl
noncomputable def c_19:Con prog:=av_ _ _ 19 [] [.bool] _ x_19
noncomputable def kp_ (a0:ab_) (a1:al_) (a2:(List Int)):Option (Bool×Int×Unit) :=
 ((gl_ a0 a1).bind λv0 =>
 (cond (v0.1 != 0)
 (some (false,(v0.1,())))
 ((el_ a0 a2).bind λv1 =>
 (cond (v1.1 != 0)
 (some (false,(v1.1,())))
 ((gj_ a1 a2).bind λv2 =>
 (some (v2.1,(0,()))))))))
theorem x_183:au_ (P:=prog) (cxC [c_133,c_222,c_223] []) .z 183 [ag_,aq_,(.list .int)] [.bool,.int]=λx=>kp_ x.1 x.2.1 x.2.2.1:=by kernel_rfl
noncomputable def c_183:Con prog:=av_ _ _ 183 [ag_,aq_,(.list .int)] [.bool,.int] _ x_183
noncomputable def jk_ (a0:ad_):Option (aj_×Int×Unit) :=
 ((fv_ a0).bind λv0 =>
 (cond (v0.1 != 0)
 (some (([],([],[])),(v0.1,())))
 ((mk? (α:=Int) a0.2.2.2.2.2.2.1 0).bind λv1 =>
 ((af_ (ρ:=(((List Int)×Unit)×Unit)) (λ(v2:(Int×(((List Int)×Unit)×Unit))) =>
 (cond (decide (v2.1<(a0.2.1.length:Int)))
 ((at? a0.2.1 v2.1).bind λv3 =>
 ((push? (α:=Int) v2.2.1.1 [v3.2.2.2]).bind λv4 =>
 (some (inl ((w64 (v2.1+1)),((v4,()),()))))))
 (some (inr ((v2.2.1.1,()),()))))) (0,(([],()),()))).bind λv5 =>
 ((af_ (ρ:=(((List Int)×Unit)×Unit)) (λ(v6:(Int×(((List Int)×Unit)×Unit))) =>
 (cond (decide (v6.1<(a0.2.2.1.length:Int)))
 ((at? a0.2.2.1 v6.1).bind λv7 =>
 ((push? (α:=Int) v6.2.1.1 [v7.2.1]).bind λv8 =>
 (some (inl ((w64 (v6.1+1)),((v8,()),()))))))
 (some (inr ((v6.2.1.1,()),()))))) (0,(([],()),()))).bind λv9 =>
 ((push? (α:=Int) [] v5.1.1).bind λv10 =>
 ((push? (α:=Int) [] v9.1.1).bind λv11 =>
 ((push? (α:=Int) [] v1).bind λv12 =>
 ((((af_ (ρ:=(((List Int)×Unit)⊕(Bool×((List Int)×Unit)))) (λ(v13:(Int×((List Int)×Unit))) =>
 (cond (decide (v13.1<101))
 ((((af_ (ρ:=(Unit⊕(Int×Unit))) (λ(v14:(Int×Unit)) =>
 (cond (decide (v14.1<(a0.2.2.2.2.2.1.length:Int)))
 ((at? a0.2.2.2.2.2.1 v14.1).bind λv15 =>
 ((((at? v13.2.1 v15.2.1).bind λv16 =>
 ((at? v13.2.1 v15.2.1).bind λv17 =>
 (cond (v17 != v15.2.2)
 ((az_ (a0,(v13.2.1,(v11,v12))) v15.1).bind λv18 =>
 (some (v18.1,())))
 (some (false,())))))).bind λv19 =>
 (cond v19.1
 (some (inr (inr (v14.1,()))))
 (some (inl ((w64 (v14.1+1)),()))))))
 (some (inr (inl ()))))) (0,())).bind λv20 =>
 (ca_ v20 (λv21=>(some ((-1),())))
 (λv22=>(some v22))))).bind λv23 =>
 (cond (decide (v23.1<0))
 (some (inr (inr ((!true),(v13.2.1,())))))
 ((at? a0.2.2.2.2.2.1 v23.1).bind λv24 =>
 ((at? a0.2.2.2.2.2.1 v23.1).bind λv25 =>
 ((at? v13.2.1 v24.2.1).bind λv26 =>
 ((at? v13.2.1 v24.2.1).bind λv27 =>
 (some (inl ((w64 (v13.1+1)),((v13.2.1.set v24.2.1.toNat v25.2.2),()))))))))))
 (some (inr (inl (v13.2.1,())))))) (0,(v10,()))).bind λv28 =>
 (ca_ v28 (λv29=>(some ((!false),(v29.1,()))))
 (λv30=>(some v30))))).bind λv31 =>
 (cond v31.1
 (some (([],([],[])),(27,())))
 (some ((v31.2.1,(v11,v12)),(0,())))))))))))))
theorem x_101:au_ (P:=prog) (cxI (λk=>cond (Nat.beq k 137) (.p .z (.p (.j0 [.v 6 .bool,.o (.c (.s 0) 8) .int] .z .z) .z)) (cond (Nat.beq k 185) (.p .z (.p (.p .z (.ls [.v 4 .int] [] [.o (.c (.s 0) 8) .int] 0 (.p .z (.p .z (.p (.j0 [.v 3 .int] .z .z) .z))))) .z)) (cond (Nat.beq k 224) (.p .z (.p (.p .z (.ls [.v 8 .int] [] [] 0 .z)) .z)) (cond (Nat.beq k 225) (.p .z (.j0 [.v 3 .bool] .z .z)) (.z))))) (λk=>Nat.beq k 130||Nat.beq k 131||Nat.beq k 140||false) (cxC [cd0,c_131] [yx_]) 6) (.p .z (.p .z (.p .z (.p (.p .z (.lp [.v 23 .int] [] [.b (.s 5) [.row .int 3,.keep,.keep]] 0 .z)) (.p (.p .z (.lp [.v 38 .int] [] [.b (.s 5) [.keep,.row .int 3,.keep]] 2 .z)) .z))))) 101 [ao_] [ap_,.int]=λx=>jk_ x.1:=by kernel_rfl
noncomputable def c_101:Con prog:=av_ _ _ 101 [ao_] [ap_,.int] _ x_101
noncomputable def ce_ (a0:ad_) (a1:aj_):Option (Int×Unit) :=
 ((fv_ a0).bind λv0 =>
 (cond (v0.1 != 0)
 (some (v0.1,()))
 (((cond ((a1.1.length:Int) != (a0.2.1.length:Int))
 (some (true,()))
 (cond ((a1.2.1.length:Int) != (a0.2.2.1.length:Int))
 (some (true,()))
 (some (((a1.2.2.length:Int) != a0.2.2.2.2.2.2.1),()))))).bind λv1 =>
 (cond v1.1
 (some (28,()))
 ((af_ (ρ:=(Unit⊕(Int×Unit))) (λ(v2:(Int×Unit)) =>
 (cond (decide (v2.1<(a1.1.length:Int)))
 ((at? a1.1 v2.1).bind λv3 =>
 ((fr_ a0 v2.1 v3).bind λv4 =>
 (cond (!v4.1)
 (some (inr (inr (28,()))))
 (some (inl ((w64 (v2.1+1)),()))))))
 (some (inr (inl ()))))) (0,())).bind λv5 =>
 (ca_ v5 (λv6=>((af_ (ρ:=(Unit⊕(Int×Unit))) (λ(v8:(Int×Unit)) =>
 (cond (decide (v8.1<(a1.2.1.length:Int)))
 ((at? a1.2.1 v8.1).bind λv9 =>
 ((bc_ v9 (w64 ((w64 ((-2) - a0.2.2.2.2.2.2.1))+1)) (w64 ((a0.1.length:Int) - 1))).bind λv10 =>
 (cond (!v10.1)
 (some (inr (inr (28,()))))
 (some (inl ((w64 (v8.1+1)),()))))))
 (some (inr (inl ()))))) (0,())).bind λv11 =>
 (ca_ v11 (λv12=>((af_ (ρ:=(Unit⊕(Int×Unit))) (λ(v14:(Int×Unit)) =>
 (cond (decide (v14.1<(a1.2.2.length:Int)))
 ((at? a1.2.2 v14.1).bind λv15 =>
 ((bc_ v15 0 (w64 ((a0.1.length:Int) - 1))).bind λv16 =>
 (cond (!v16.1)
 (some (inr (inr (28,()))))
 (some (inl ((w64 (v14.1+1)),()))))))
 (some (inr (inl ()))))) (0,())).bind λv17 =>
 (ca_ v17 (λv18=>(some (0,())))
 (λv19=>(some v19)))))
 (λv13=>(some v13)))))
 (λv7=>(some v7))))))))
theorem x_128:au_ (P:=prog) (cxC [c_131,cq4,cc8] []) (.p .z (.p .z (.p (.j0 [.v 40 .bool] .z .z) (.p (.p .z (.ls [.v 44 .int] [] [] 0 .z)) (.p (.p .z (.ls [.v 58 .int] [] [] 2 .z)) (.p (.p .z (.ls [.v 77 .int] [] [] 4 .z)) .z)))))) 128 [ao_,ap_] [.int]=λx=>ce_ x.1 x.2.1:=by kernel_rfl
noncomputable def cd1:Con prog:=av_ _ _ 128 [ao_,ap_] [.int] _ x_128
noncomputable def df_ (a0:ab_) (a1:(List al_)):Option (Int×Int×Unit) :=
 ((fh_ a0 a1).bind λv0 =>
 (cond (v0.1 != 0)
 (some (0,(v0.1,())))
 ((fg_ a0 a1).bind λv1 =>
 (some (v1.1,(0,()))))))
theorem x_231:au_ (P:=prog) (cxC [c_251,c_252] []) .z 231 [ag_,(.list aq_)] [.int,.int]=λx=>df_ x.1 x.2.1:=by kernel_rfl
noncomputable def c_231:Con prog:=av_ _ _ 231 [ag_,(.list aq_)] [.int,.int] _ x_231
end
end Go.Proofs.YtgeehfnbhbibeaaGreatDoor.Rx
namespace Go.Proofs.YtgeehfnbhbibeaaGreatDoor.Rx
open Go Pad Rex Sum
section
theorem kw_ {α ρ:Type} {p:Nat→α→Option ρ} {e:ρ} (h:∀ i x,p i x≠some e):∀ (l:List α) (i:Nat),hf_ p i l≠some e
 | [],_=>by simp[hf_]
 | x::l,i=>by
  unfold hf_
  cases hp:p i x with
  | some r =>
   intro he
   cases he
   exact h i x hp
  | none=>exact kw_ h l (i+1)
theorem gs_ {o:Option Int} {k:Int} (h:o.getD k=0) (hn:o≠some 0):o=none∧k=0:=by
 cases o with
 | none=>exact⟨rfl,h⟩
 | some e =>
  have:e=0:=h
  subst this
  exact absurd rfl hn
theorem ys_ {a:Bool} {e:Int} (h:e≠0):lm_ a e≠some 0:=by
 unfold lm_
 cases a with
 | true=>simp
 | false=>simpa using h
theorem yr_ {a b:Bool} {e f:Int} (h:e≠0) (k:f≠0):tn_ a e b f≠some 0:=by
 unfold tn_
 cases a with
 | false=>simpa using h
 | true =>
  cases b with
  | true=>simp
  | false=>simpa using k
theorem ll_ {a:Bool} {e:Int} (h:lm_ a e=none):a=true:=by cases a with
 | true=>rfl
 | false=>cases h
theorem po_ {a b:Bool} {e f:Int} (h:tn_ a e b f=none):a=true∧b=true:=by
 cases a with
 | false=>cases h
 | true=>cases b with
  | true=>exact⟨rfl,rfl⟩
  | false=>cases h
theorem dj_ {α ρ:Type} {p:Nat→α→Option ρ} {l:List α} (h:hf_ p 0 l=none) {i:Nat} {x:α} (hx:l[i]?=some x):p i x=none:=by
 have:=(kv_ l 0).1 h i x hx
 rwa [b0_] at this
structure OkR (r:ad_):Prop where
 many:ah1 r=false
 pl:∀ (i:Nat) x,r.1[i]?=some x→plOk r i x=true
 ne:r.1≠[]
 th:∀ (i:Nat) x,r.2.1[i]?=some x→bn7 r i x=true
 pr:∀ (i:Nat) x,r.2.2.1[i]?=some x→ck6 r i x=true∧cOk r.2.1 x.2.2=true
 wy:∀ (i:Nat) x,r.2.2.2.1[i]?=some x→cf9 r x=true∧cOk r.2.1 x.2.2=true
 ac:∀ (i:Nat) x,r.2.2.2.2.1[i]?=some x→vx_ r i x=true∧cOk r.2.1 x.2.2.2.2.1=true
 au:∀ (i:Nat) x,r.2.2.2.2.2.1[i]?=some x→ou_ r.2.1 x.2.1 x.2.2=true∧cOk r.2.1 x.1=true
 py:wi r.2.2.2.2.2.2.1 1 4=true
 go:cOk r.2.1 r.2.2.2.2.2.2.2=true
theorem bs_ {r:ad_} (h:dd_ r=0):OkR r:=by
 unfold dd_ at h
 cases hm:ah1 r with
 | true=>rw[hm] at h;exact absurd (show (2:Int)=0 from h) (by decide)
 | false =>
 rw[hm] at h
 have h:(hf_ (λi x=>lm_ (plOk r i x) 22) 0 r.1).getD _=0:=h
 obtain⟨h1,h⟩:=gs_ h (kw_ (λi x=>ys_ (by decide)) _ _)
 cases he:(r.1.length:Int)==0 with
 | true=>rw[he] at h;exact absurd (show (22:Int)=0 from h) (by decide)
 | false =>
 rw[he] at h
 have h:(hf_ (λi x=>lm_ (bn7 r i x) 21) 0 r.2.1).getD _=0:=h
 obtain⟨h2,h⟩:=gs_ h (kw_ (λi x=>ys_ (by decide)) _ _)
 obtain⟨h3,h⟩:=gs_ h (kw_ (λi x=>yr_ (by decide) (by decide)) _ _)
 obtain⟨h4,h⟩:=gs_ h (kw_ (λi x=>yr_ (by decide) (by decide)) _ _)
 obtain⟨h5,h⟩:=gs_ h (kw_ (λi x=>yr_ (by decide) (by decide)) _ _)
 obtain⟨h6,h⟩:=gs_ h (kw_ (λi x=>yr_ (by decide) (by decide)) _ _)
 cases h7:wi r.2.2.2.2.2.2.1 1 4 with
 | false=>rw[h7] at h;exact absurd (show (1:Int)=0 from h) (by decide)
 | true =>
 rw[h7] at h
 cases h8:cOk r.2.1 r.2.2.2.2.2.2.2 with
 | false=>rw[h8] at h;exact absurd (show (25:Int)=0 from h) (by decide)
 | true =>
 refine⟨hm,λi x hx=>ll_ (dj_ h1 hx),λe => ?_,λi x hx=>ll_ (dj_ h2 hx),λi x hx=>po_ (dj_ h3 hx),λi x hx=>po_ (dj_ h4 hx),λi x hx=>po_ (dj_ h5 hx),λi x hx=>po_ (dj_ h6 hx),h7,h8⟩
 rw[e] at he
 cases he
def inR (r:ad_) (p:Int):Bool:=wi p (w64 ((w64 ((-2) - r.2.2.2.2.2.2.1))+1)) (w64 ((r.1.length:Int) - 1))
def ah3 (r:ad_) (s:aj_):Bool:=((s.1.length:Int) != (r.2.1.length:Int))||(((s.2.1.length:Int) != (r.2.2.1.length:Int))||((s.2.2.length:Int) != r.2.2.2.2.2.2.1))
def ckS (r:ad_) (s:aj_):Int :=
 cond (ah3 r s) 28 ((hf_ (λi n=>lm_ (ou_ r.2.1 (i:Int) n) 28) 0 s.1).getD ((hf_ (λ_ p=>lm_ (inR r p) 28) 0 s.2.1).getD ((hf_ (λ_ p=>lm_ (sv_ r p) 28) 0 s.2.2).getD 0)))
def og_ (r:ad_) (s:aj_):Int:=cond (dd_ r != 0) (dd_ r) (ckS r s)
theorem bw7 (r:ad_) (s:aj_):(cond ((s.1.length:Int) != (r.2.1.length:Int))
 (some (true,()))
 (cond ((s.2.1.length:Int) != (r.2.2.1.length:Int))
 (some (true,()))
 (some (((s.2.2.length:Int) != r.2.2.2.2.2.2.1),()))))=some (ah3 r s,()):=by
  unfold ah3
  cases (s.1.length:Int) != (r.2.1.length:Int) with
  | true=>rfl
  | false =>
  cases (s.2.1.length:Int) != (r.2.2.1.length:Int) with
  | true=>rfl
  | false=>rfl
theorem bc7 {r:ad_} {s:aj_} (h:ah3 r s=false):s.1.length=r.2.1.length∧s.2.1.length=r.2.2.1.length∧(s.2.2.length:Int)=r.2.2.2.2.2.2.1:=by
 unfold ah3 at h
 simp only[b8_,bne_eq_false_iff_eq] at h
 omega
theorem fm_ {r:ad_} (h:SmR r) (s:aj_):ce_ r s=some (og_ r s,()):=by
 unfold ce_ og_
 rw[tv_ h,a0_]
 cases hr:dd_ r != 0 with
 | true=>rfl
 | false =>
 have ok:=bs_ (by simpa using hr)
 simp only[a2_]
 refine e5_ (congrArg (λo=>Option.bind o _) (bw7 r s)) ?_
 rw[a0_]
 unfold ckS
 cases hl:ah3 r s with
 | true=>rfl
 | false =>
 obtain⟨l1,l2,l3⟩:=bc7 hl
 have hp:=cl_.1 ok.py
 have m1:Sm s.1.length:=by rw[l1];exact h.th
 have m2:Sm s.2.1.length:=by rw[l2];exact h.pr
 have m3:Sm s.2.2.length:=by show s.2.2.length≤1000000000;omega
 simp only[a2_]
 refine bx_ s.1 (λi n=>lm_ (ou_ r.2.1 (i:Int) n) 28) (λi y hy => ?_) ?_ (fa_ ?_)
 ·have hi:=am_ hy
  simp only[dlt hi,a5_,ai_ hy,a0_,bb_ (show Sm i by omega),qj_ h.th]
  unfold lm_
  cases ou_ r.2.1 (i:Int) y<;>rfl
 ·simp only[dnl,a2_]
 refine bx_ s.2.1 (λ_ p=>lm_ (inR r p) 28) (λi y hy => ?_) ?_ (fa_ ?_)
 ·have hi:=am_ hy
  simp only[dlt hi,a5_,ai_ hy,a0_,bb_ (show Sm i by omega),ee_]
  unfold lm_ inR
  cases wi y (w64 ((w64 ((-2) - r.2.2.2.2.2.2.1))+1)) (w64 ((r.1.length:Int) - 1))<;>rfl
 ·simp only[dnl,a2_]
 refine bx_ s.2.2 (λ_ p=>lm_ (sv_ r p) 28) (λi y hy => ?_) ?_ (fa_ ?_)
 ·have hi:=am_ hy
  simp only[dlt hi,a5_,ai_ hy,a0_,bb_ (show Sm i by omega),ee_]
  unfold lm_ sv_
  cases wi y 0 (w64 ((r.1.length:Int) - 1))<;>rfl
 ·simp only[dnl,a2_]
 rfl
theorem cu7 {r:ad_} (h:SmR r) (hp:wi r.2.2.2.2.2.2.1 1 4=true) (p:Int):inR r p=(sv_ r p||(p==-1||wi p (w64 ((w64 ((-2) - r.2.2.2.2.2.2.1))+1)) (-2))):=by
 have hp:=cl_.1 hp
 have hpl:=h.pl
 have e1:w64 ((r.1.length:Int) - 1)=(r.1.length:Int) - 1:=hd_ (by omega) (by omega)
 have e2:w64 ((-2) - r.2.2.2.2.2.2.1)=(-2) - r.2.2.2.2.2.2.1:=hd_ (by omega) (by omega)
 have e3:w64 (((-2) - r.2.2.2.2.2.2.1)+1)=((-2) - r.2.2.2.2.2.2.1)+1:=hd_ (by omega) (by omega)
 unfold inR sv_
 rw[e1,e2,e3,j8_]
 simp only[c8_,cl_,g5_]
 omega
theorem vn_ {r:ad_} (h:SmR r) (s:aj_):fe_ r s=some (og_ r s,()):=by
 unfold fe_ og_
 rw[rj_ h,a0_]
 cases hr:dd_ r != 0 with
 | true=>rfl
 | false =>
 have ok:=bs_ (by simpa using hr)
 simp only[a2_]
 refine e5_ (congrArg (λo=>Option.bind o _) (bw7 r s)) ?_
 rw[a0_]
 unfold ckS
 cases hl:ah3 r s with
 | true=>rfl
 | false =>
 obtain⟨l1,l2,l3⟩:=bc7 hl
 have hp:=cl_.1 ok.py
 have m1:Sm s.1.length:=by rw[l1];exact h.th
 have m2:Sm s.2.1.length:=by rw[l2];exact h.pr
 have m3:Sm s.2.2.length:=by show s.2.2.length≤1000000000;omega
 simp only[a2_]
 refine bx_ s.1 (λi n=>lm_ (ou_ r.2.1 (i:Int) n) 28) (λi y hy => ?_) ?_ (fa_ ?_)
 ·have hi:=am_ hy
  simp only[dlt hi,a5_,ai_ hy,a0_,bb_ (show Sm i by omega),si_ h.th]
  unfold lm_
  cases ou_ r.2.1 (i:Int) y<;>rfl
 ·simp only[dnl,a2_]
 refine bx_ s.2.1 (λ_ p=>lm_ (inR r p) 28) (λi y hy => ?_) ?_ (fa_ ?_)
 ·have hi:=am_ hy
  simp only[dlt hi,a5_,ai_ hy,a0_,bb_ (show Sm i by omega),ix_,ga_]
  rw[cu7 h ok.py]
  unfold lm_ sv_
  have e:(y != -1) = !(y==-1):=rfl
  rw[e]
  cases wi y 0 (w64 ((r.1.length:Int) - 1)) with
  | true=>rfl
  | false =>
  cases y==-1 with
  | true=>rfl
  | false=>cases wi y (w64 ((w64 ((-2) - r.2.2.2.2.2.2.1))+1)) (-2)<;>rfl
 ·simp only[dnl,a2_]
 refine bx_ s.2.2 (λ_ p=>lm_ (sv_ r p) 28) (λi y hy => ?_) ?_ (fa_ ?_)
 ·have hi:=am_ hy
  simp only[dlt hi,a5_,ai_ hy,a0_,bb_ (show Sm i by omega),ix_]
  unfold lm_ sv_
  cases wi y 0 (w64 ((r.1.length:Int) - 1))<;>rfl
 ·simp only[dnl,a2_]
 rfl
end
section
def gi (l:List Int) (i:Int):Int:=(at? l i).getD 0
theorem ok_ {l:List Int} {i x:Int} (h:at? l i=some x):gi l i=x:=by unfold gi;rw[h];rfl
theorem tl_ {l:List Int} {i:Int} (h0:0≤i) (h1:i<l.length):at? l i=some (gi l i):=by
 obtain⟨x,hx⟩:=bf_ (l:=l) (i:=i.toNat) (by omega)
 have:at? l i=some x:=by rw[show i=((i.toNat:Nat):Int) by omega];exact ai_ hx
 rw[this,ok_ this]
def InC (n:Nat) (c:List bn_):Prop:=∀ l ∈ c,0≤l.1∧l.1<n
theorem vi_ {things:List jb_} (hl:Sm things.length) {c:List bn_} (h:cOk things c=true):InC things.length c∧c.length≤8:=by
 unfold cOk at h
 rw[a1_] at h
 refine⟨λl hm => ?_,by have:=f8_ h.1;omega⟩
 have h2:=f3_.1 h.2 l hm
 unfold ou_ at h2
 rw[a1_] at h2
 have:=cl_.1 h2.1
 rw[hd_ (by omega) (by omega)] at this
 omega
def du_ (th:List Int) (c:List bn_):Bool:=c.all λl=>!((gi th l.1==l.2.1)==l.2.2)
theorem ce6 {α:Type} (l:List α) (q:α→Bool):(!(l.any q))=l.all λx=>!(q x):=by
 induction l with
 | nil=>rfl
 | cons x l ih =>
  rw[p7_,List.all_cons,← ih]
  cases q x<;>rfl
theorem nn_ {t:hx_} {c:List bn_} (hc:Sm c.length) (hi:InC t.2.1.length c):az_ t c=some (du_ t.2.1 c,()):=by
 unfold az_ du_
 refine e5_ (congrArg (λo=>Option.bind o _) (pt_ hc (λl=>(gi t.2.1 l.1==l.2.1)==l.2.2) (λi y hy => ?_) ?_)) ?_
 ·have:=hi y (bh_ hy)
  simp only[dlt (am_ hy),a5_,ai_ hy,tl_ this.1 this.2,a0_]
  cases (gi t.2.1 y.1==y.2.1)==y.2.2<;>rfl
 ·simp only[dnl,a2_]
 ·rw[a0_]
  exact congrArg (λb=>some (b,())) (ce6 c _)
theorem kd_ {s:aj_} {c:List bn_} (hc:Sm c.length) (hi:InC s.1.length c):bp_ s c=some (du_ s.1 c,()):=by
 unfold bp_ du_
 refine bw_ c (λi l=>cond ((gi s.1 l.1==l.2.1)==l.2.2) (some (inr (false,()):Unit⊕(Bool×Unit))) none) (λi=>((i:Int),())) (r0:=inl ()) (λi y hy => ?_) ?_ ?_
 ·have:=hi y (bh_ hy)
  have hl:=am_ hy
  simp only[dlt hl,a5_,ai_ hy,tl_ this.1 this.2,a0_,bb_ (show Sm i by omega)]
  cases (gi s.1 y.1==y.2.1)==y.2.2<;>rfl
 ·simp only[dnl,a2_]
 ·rw[hz_ (q:=λl:bn_=>(gi s.1 l.1==l.2.1)==l.2.2),← ce6]
  cases c.any λl=>(gi s.1 l.1==l.2.1)==l.2.2<;>rfl
end
end Go.Proofs.YtgeehfnbhbibeaaGreatDoor.Rx
namespace Go.Proofs.YtgeehfnbhbibeaaGreatDoor.Rex
open Go Pad
section
variable [Gb]
section
variable {hv hv':Nat→Value} {S:PH} {g:Nat→Option Nat}
end
section
variable {hv:Nat→Value} {S:PH} {w:World}
end
section
variable {g gb:Nat→Option Nat} {n:List AO}
end
section
variable {hv:Nat→Value} {S:PH} {w:World}
end
section
variable {hv hv1:Nat→Value} {S:PH} {w:World} {g:Nat→Option Nat}
theorem ap4:∀ {A B C:List HP},Inv w S (A++(B++C))→Inv w S (A++C)
 | A,[],C,h=>h
 | A,b::B,C,h=>ap4 (A:=A) (B:=B) ((h.perm (c9_ (l₁:=A) (a:=b) (l₂:=B++C))).drop)
end
def EOk (P:Program) [Tb P] (fk:FuncId) (E:List AV→List AO→Option (AV×List AO)):Prop:=∀ avs objs av objs',E avs objs=some (av,objs')→eh_ P fk ∧
 ∀ {S:PH} {hv:Nat→Value} {Fm:List HP} {w:World} {vs:List Value},GlS S→Inv w S (OHs hv 0 objs++Fm)→WfO objs→Fa (RA hv S) avs vs→(∀ a ∈ avs,a.lt objs=true) →
  Calls P fk vs.toArray w λe w'=>∃ v S' hv',e = .returned v∧BLe objs objs'∧Keep objs objs'∧WfO objs'∧av.lt objs'=true∧S.Le S'∧Ag objs hv hv'∧RA hv' S' av v∧Inv w' S' (OHs hv' 0 objs'++Fm)
inductive HS where
 | v (t:Ty)
 | l (s:SV)
inductive HA where
 | c (h:HS)
 | a (t:Ty)
inductive HO where
 | row (t:Ty) (T:TypeId) (ro:Bool)
 | map (k v:Ty) (ro:Bool)
 | cells (T:TypeId) (l:List HS)
 | fn (f:FuncId) (a b:List HS)
def HS.den:HS→Type
 | .v t=>t.den
 | .l _=>Unit
def HA.den:HA→Type
 | .c h=>h.den
 | .a t=>t.den
def dnS:List HS→Type
 | []=>Unit
 | h::l=>h.den×dnS l
def HO.den:HO→Type
 | .row t _ _=>List t.den
 | .map k v _=>List (k.den×v.den)
 | .cells _ l=>dnS l
 | .fn _ a b=>dnS a×dnS b
def HO.cden:HO→Type
 | .row t _ false=>List t.den
 | .map k v false=>List (k.den×v.den)
 | _=>Unit
def dnA:List HA→Type
 | []=>Unit
 | h::l=>h.den×dnA l
def dnO:List HO→Type
 | []=>Unit
 | h::l=>h.den×dnO l
def cdO:List HO→Type
 | []=>Unit
 | h::l=>h.cden×cdO l
def eqSV:SV→SV→Bool
 | .dead,.dead=>true
 | .nils,.nils=>true
 | .nilp,.nilp=>true
 | .nilm,.nilm=>true
 | .row a,.row b=>Nat.beq a b
 | .ptr a i,.ptr b j=>cond (Nat.beq a b) (Nat.beq i j) false
 | .map a,.map b=>Nat.beq a b
 | .fn a,.fn b=>Nat.beq a b
 | .arr a,.arr b=>Nat.beq a b
 | _,_=>false
theorem eqSV_ok {a b:SV} (h:eqSV a b=true):a=b:=by
 cases a<;>cases b<;>first
  | rfl
  | cases h
  | (rw[a3_ h])
  | (obtain⟨h1,h2⟩:=bo_ (r:=()) (a:=some ()) (b:=eqSV _ _) (by rw[h];rfl);skip)
  | skip
 rename_i o i p j
 have h:cond (Nat.beq o p) (Nat.beq i j) false=true:=h
 cases hb:Nat.beq o p with
 | false=>rw[hb] at h;cases h
 | true =>
  rw[hb] at h
  rw[a3_ hb,a3_ h]
def readS:(h:HS)→SV→Option h.den
 | .v t,.val t' x=>yy_ t' t x
 | .l s,s'=>cond (eqSV s' s) (some ()) none
 | _,_=>none
def fillS:(h:HS)→h.den→SV
 | .v t,x=>.val t x
 | .l s,_=>s
theorem ba9:∀ {h:HS} {s:SV} {d:h.den},readS h s=some d→s=fillS h d
 | .v t,s,d,e=>by
  cases s with
  | val a y=>obtain⟨rfl,rfl⟩:=gm_ e;rfl
  | _=>cases e
 | .l s',s,d,e=>by
  have e:cond (eqSV s s') (some ()) none=some d:=e
  cases hb:eqSV s s' with
  | true=>exact eqSV_ok hb
  | false=>rw[hb] at e;cases e
def am6:(l:List HS)→List SV→Option (dnS l)
 | [],[]=>some ()
 | h::l,s::ss=>(readS h s).bind λx=>(am6 l ss).bind λy=>some (x,y)
 | _,_=>none
def oi_:(l:List HS)→dnS l→List SV
 | [],_=>[]
 | h::l,d=>fillS h d.1::oi_ l d.2
theorem sl_:∀ {l:List HS} {ss:List SV} {d:dnS l},am6 l ss=some d→ss=oi_ l d
 | [],[],d,e=>rfl
 | [],_::_,d,e=>by cases e
 | h::l,[],d,e=>by cases e
 | h::l,s::ss,d,e=>by
  obtain⟨x,h1,e⟩:=bnd e
  obtain⟨y,h2,e⟩:=bnd e
  cases e
  rw[ba9 h1,sl_ h2]
  rfl
def readA:(h:HA)→AV→Option h.den
 | .c h,.b (.one s)=>readS h s
 | .a t,.b (.val t' x)=>yy_ t' t x
 | _,_=>none
def fillH:(h:HA)→h.den→AV
 | .c h,x=>.b (.one (fillS h x))
 | .a t,x=>.b (.val t x)
theorem ck0:∀ {h:HA} {s:AV} {d:h.den},readA h s=some d→s=fillH h d
 | .c h,s,d,e=>by
  cases s with
  | tup l=>cases e
  | b x =>
   cases x with
   | one y=>exact congrArg (λz=>AV.b (.one z)) (ba9 (h:=h) e)
   | _=>cases e
 | .a t,s,d,e=>by
  cases s with
  | tup l=>cases e
  | b x =>
   cases x with
   | val a y=>obtain⟨rfl,rfl⟩:=gm_ e;rfl
   | _=>cases e
def bq9:(l:List HA)→List AV→Option (dnA l)
 | [],[]=>some ()
 | h::l,s::ss=>(readA h s).bind λx=>(bq9 l ss).bind λy=>some (x,y)
 | _,_=>none
def ca5:(l:List HA)→dnA l→List AV
 | [],_=>[]
 | h::l,d=>fillH h d.1::ca5 l d.2
theorem am9:∀ {l:List HA} {ss:List AV} {d:dnA l},bq9 l ss=some d→ss=ca5 l d
 | [],[],d,e=>rfl
 | [],_::_,d,e=>by cases e
 | h::l,[],d,e=>by cases e
 | h::l,s::ss,d,e=>by
  obtain⟨x,h1,e⟩:=bnd e
  obtain⟨y,h2,e⟩:=bnd e
  cases e
  rw[ck0 h1,am9 h2]
  rfl
def eqNl:List Nat→List Nat→Bool
 | [],[]=>true
 | a::l,b::m=>cond (Nat.beq a b) (eqNl l m) false
 | _,_=>false
theorem ca8:∀ {l m:List Nat},eqNl l m=true→l=m
 | [],[],_=>rfl
 | [],_::_,h=>by cases h
 | _::_,[],h=>by cases h
 | a::l,b::m,h=>by
  have h:cond (Nat.beq a b) (eqNl l m) false=true:=h
  cases hb:Nat.beq a b with
  | false=>rw[hb] at h;cases h
  | true =>
   rw[hb] at h
   rw[a3_ hb,ca8 h]
def eqBo:Bool→Bool→Bool
 | true,b=>b
 | false,b=>!b
theorem aj3 {a b:Bool} (h:eqBo a b=true):a=b:=by cases a<;>cases b<;>first | rfl | cases h
def readO:(h:HO)→AO→Option h.den
 | .row t T ro,.row t' T' l ro'=>cond (Nat.beq T' T) (cond (eqBo ro' ro) (yy_ (.list t') (.list t) l) none) none
 | .map k v ro,.map k' v' m ro'=>cond (eqBo ro' ro) (yy_ (.list (.pair k' v')) (.list (.pair k v)) m) none
 | .cells T l,.cells T' l' ro'=>cond (Nat.beq T' T) (cond (eqNl ro' (List.range l'.length)) (am6 l l') none) none
 | .fn f a b,.fn (.func f') a' b'=>cond (Nat.beq f' f) ((am6 a a').bind λx=>(am6 b b').bind λy=>some (x,y)) none
 | _,_=>none
def uh_:(h:HO)→h.den→AO
 | .row t T ro,x=>.row t T x ro
 | .map k v ro,x=>.map k v x ro
 | .cells T l,x=>.cells T (oi_ l x) (List.range (oi_ l x).length)
 | .fn f a b,x=>.fn (.func f) (oi_ a x.1) (oi_ b x.2)
theorem cnd {c:Bool} {α:Type} {a:Option α} {x:α} (h:cond c a none=some x):c=true∧a=some x:=by
 cases c with
 | true=>exact⟨rfl,h⟩
 | false=>cases h
theorem cj8:∀ {h:HO} {a:AO} {d:h.den},readO h a=some d→a=uh_ h d
 | .row t T ro,a,d,e=>by
  cases a with
  | row t' T' l ro' =>
   obtain⟨h1,e⟩:=cnd e
   obtain⟨h2,e⟩:=cnd e
   rw[a3_ h1,aj3 h2]
   obtain⟨e1,e2⟩:=gm_ e
   cases e1
   subst e2
   rfl
  | _=>cases e
 | .map k v ro,a,d,e=>by
  cases a with
  | map k' v' m ro' =>
   obtain⟨h2,e⟩:=cnd e
   rw[aj3 h2]
   obtain⟨e1,e2⟩:=gm_ e
   cases e1
   subst e2
   rfl
  | _=>cases e
 | .cells T l,a,d,e=>by
  cases a with
  | cells T' l' ro' =>
   obtain⟨h1,e⟩:=cnd e
   obtain⟨h2,e⟩:=cnd e
   rw[a3_ h1,ca8 h2,sl_ e]
   rfl
  | _=>cases e
 | .fn f x y,a,d,e=>by
  cases a with
  | fn f' a' b' =>
   cases f' with
   | func f' =>
    obtain⟨h1,e⟩:=cnd e
    obtain⟨x,h2,e⟩:=bnd e
    obtain⟨y,h3,e⟩:=bnd e
    cases e
    rw[a3_ h1,sl_ h2,sl_ h3]
    rfl
   | _=>cases e
  | _=>cases e
def bq7:(l:List HO)→List AO→Option (dnO l)
 | [],[]=>some ()
 | h::l,s::ss=>(readO h s).bind λx=>(bq7 l ss).bind λy=>some (x,y)
 | _,_=>none
def iv_:(l:List HO)→dnO l→List AO
 | [],_=>[]
 | h::l,d=>uh_ h d.1::iv_ l d.2
theorem am7:∀ {l:List HO} {ss:List AO} {d:dnO l},bq7 l ss=some d→ss=iv_ l d
 | [],[],d,e=>rfl
 | [],_::_,d,e=>by cases e
 | h::l,[],d,e=>by cases e
 | h::l,s::ss,d,e=>by
  obtain⟨x,h1,e⟩:=bnd e
  obtain⟨y,h2,e⟩:=bnd e
  cases e
  rw[cj8 h1,am7 h2]
  rfl
def readC:(h:HO)→AO→Option h.cden
 | .row t T false,.row t' T' l ro'=>cond (Nat.beq T' T) (cond (eqBo ro' false) (yy_ (.list t') (.list t) l) none) none
 | .map k v false,.map k' v' m ro'=>cond (eqBo ro' false) (yy_ (.list (.pair k' v')) (.list (.pair k v)) m) none
 | .row _ _ true,_=>some ()
 | .map _ _ true,_=>some ()
 | .cells _ _,_=>some ()
 | .fn _ _ _,_=>some ()
 | _,_=>none
def fillC:(h:HO)→h.den→h.cden→AO
 | .row t T false,_,c=>.row t T c false
 | .map k v false,_,c=>.map k v c false
 | .row t T true,d,_=>.row t T d true
 | .map k v true,d,_=>.map k v d true
 | .cells T l,d,_=>uh_ (.cells T l) d
 | .fn f a b,d,_=>uh_ (.fn f a b) d
theorem cj9:∀ {h:HO} {d:h.den} {a:AO} {c:h.cden},K1 (uh_ h d) a→readC h a=some c→a=fillC h d c
 | .row t T false,d,a,c,hk,e=>by
  cases a with
  | row t' T' l ro' =>
   obtain⟨h1,e⟩:=cnd e
   obtain⟨h2,e⟩:=cnd e
   rw[a3_ h1,aj3 h2]
   obtain⟨e1,e2⟩:=gm_ e
   cases e1
   subst e2
   rfl
  | _=>cases e
 | .map k v false,d,a,c,hk,e=>by
  cases a with
  | map k' v' m ro' =>
   obtain⟨h2,e⟩:=cnd e
   rw[aj3 h2]
   obtain⟨e1,e2⟩:=gm_ e
   cases e1
   subst e2
   rfl
  | _=>cases e
 | .row t T true,d,a,c,hk,e=>hk
 | .map k v true,d,a,c,hk,e=>hk
 | .fn f x y,d,a,c,hk,e=>hk
 | .cells T l,d,a,c,hk,e=>by
  obtain⟨m,rfl,h1,h2⟩:=(show ∃ m:List SV,a = .cells T m (List.range (oi_ l d).length)∧m.length=(oi_ l d).length∧∀ j ∈ List.range (oi_ l d).length,m[j]?=(oi_ l d)[j]? from hk)
  have:m=oi_ l d:=f1_ λj=>by
   by_cases hj:j<(oi_ l d).length
   ·exact h2 j (by simpa using hj)
   ·rw[b4_ (by omega),b4_ (by omega)]
  rw[this]
  rfl
def bq8:(l:List HO)→List AO→Option (cdO l)
 | [],_=>some ()
 | h::l,s::ss=>(readC h s).bind λx=>(bq8 l ss).bind λy=>some (x,y)
 | _::_,[]=>none
def pm_:(l:List HO)→dnO l→cdO l→List AO
 | [],_,_=>[]
 | h::l,d,c=>fillC h d.1 c.1::pm_ l d.2 c.2
theorem am8:∀ {l:List HO} {d:dnO l} {ob:List AO} {c:cdO l},Keep (iv_ l d) ob→bq8 l ob=some c→ob.take (iv_ l d).length=pm_ l d c
 | [],d,ob,c,hk,e=>rfl
 | h::l,d,[],c,hk,e=>by cases e
 | h::l,d,a::ob,c,hk,e=>by
  obtain⟨x,h1,e⟩:=bnd e
  obtain⟨y,h2,e⟩:=bnd e
  cases e
  have k0:K1 (uh_ h d.1) a:=by
   obtain⟨b,g1,g2⟩:=hk 0 _ rfl
   simp at g1
   subst g1
   exact g2
  have kt:Keep (iv_ l d.2) ob:=λo b hb=>by
   obtain⟨c,g1,g2⟩:=hk (o+1) b (by show (uh_ h d.1::iv_ l d.2)[o+1]?=_;simpa using hb)
   exact⟨c,by simpa using g1,g2⟩
  show a::ob.take (iv_ l d.2).length=fillC h d.1 x::pm_ l d.2 y
  rw[cj9 k0 h1,am8 kt h2]
theorem co9:∀ {h:HO} {d:h.den} {c:h.cden},fillC h d c≠.unborn
 | .row _ _ false,_,_=>by simp[fillC]
 | .map _ _ false,_,_=>by simp[fillC]
 | .row _ _ true,_,_=>by simp[fillC]
 | .map _ _ true,_,_=>by simp[fillC]
 | .cells _ _,_,_=>by simp[fillC,uh_]
 | .fn _ _ _,_,_=>by simp[fillC,uh_]
theorem cp0 {n:List AO}:∀ {h:HO} {d:h.den} {c:h.cden},(uh_ h d).lt n=true→(fillC h d c).lt n=true
 | .row _ _ false,_,_,_=>rfl
 | .map _ _ false,_,_,_=>rfl
 | .row _ _ true,_,_,h=>h
 | .map _ _ true,_,_,h=>h
 | .cells _ _,_,_,h=>h
 | .fn _ _ _,_,_,h=>h
theorem ui_:∀ {l:List HO} {d:dnO l} {c:cdO l} {j:Nat},(∀ a,(iv_ l d)[j]?=some a→∃ (h:HO) (x:h.den) (y:h.cden),a=uh_ h x∧(pm_ l d c)[j]?=some (fillC h x y))∧∀ b,(pm_ l d c)[j]?=some b→∃ (h:HO) (x:h.den) (y:h.cden),b=fillC h x y∧(iv_ l d)[j]?=some (uh_ h x)
 | [],d,c,j=>⟨λa h=>by simp[iv_] at h,λa h=>by simp[pm_] at h⟩
 | h::l,d,c,0=>⟨λa e=>by
   have e:uh_ h d.1=a:=by simpa [iv_] using e
   exact⟨h,d.1,c.1,e.symm,rfl⟩,λa e=>by
   have e:fillC h d.1 c.1=a:=by simpa [pm_] using e
   exact⟨h,d.1,c.1,e.symm,rfl⟩⟩
 | h::l,d,c,j+1=>by
  obtain⟨h1,h2⟩:=ui_ (l:=l) (d:=d.2) (c:=c.2) (j:=j)
  exact⟨λa e=>h1 a (by simpa [iv_] using e),λa e=>h2 a (by simpa [pm_] using e)⟩
theorem ab9 {l:List HO} {d:dnO l} {c:cdO l}:BLe (iv_ l d) (pm_ l d c):=λo ho=>by
 obtain⟨a,h1,h2⟩:=ax_.1 ho
 obtain⟨h,x,y,e1,e2⟩:=(ui_ (c:=c)).1 a h1
 exact ax_.2 ⟨_,e2,co9⟩
theorem ca4 {l:List HO} {d:dnO l} {c:cdO l} (hw:WfO (iv_ l d)):WfO (pm_ l d c):=λa ha=>by
 obtain⟨j,hj⟩:=f2_ ha
 obtain⟨h,x,y,rfl,e2⟩:=ui_.2 a hj
 exact cp0 (AO.lt_mono ab9 (hw _ (b2_ e2)))
structure Shp where
 k:FuncId
 ia:List HA
 os:List HO
 rs:List Ty
 qs:List Nat
def Shp.D (s:Shp):Type:=dnA s.ia×dnO s.os
def Shp.X (s:Shp):Type:=od_ s.rs×cdO s.os
def Er (s:Shp) (F:s.D→Option s.X) (avs:List AV) (objs:List AO):Option (AV×List AO) :=
 (bq9 s.ia avs).bind λa=>(bq7 s.os objs).bind λo=>(F (a,o)).bind λx=>some (as5 s.rs x.1,pm_ s.os o x.2)
section
variable {P:Program} [Tb P] {ρ:Type}
noncomputable def fxF (cx:Cx P) (an:An) (s:Shp) (d:s.D):Option s.X:=inlF cx an s.k (ca5 s.ia d.1) (iv_ s.os d.2) λav ob=>(outR s.rs av).bind λx=>(bq8 s.os ob).bind λc=>some (x,c)
theorem fxF_ok {cx:Cx P} {an:An} {s:Shp}:EOk P s.k (Er s (fxF cx an s)):=by
 intro avs objs av objs' h
 obtain⟨a,h1,h⟩:=bnd h
 obtain⟨o,h2,h⟩:=bnd h
 obtain⟨x,h3,h⟩:=bnd h
 cases h
 obtain⟨hc,av2,ob2,h4,h5⟩:=ah7 h3
 obtain⟨y,h6,h4⟩:=bnd h4
 obtain⟨c,h7,h4⟩:=bnd h4
 cases h4
 obtain rfl:=am9 h1
 obtain rfl:=am7 h2
 refine⟨hc,λ{S hv Fm w vs} hG hI hw ha hlt=>(h5 hG hI hw ha hlt).mono λe w' ⟨v,S',hv',he,b1,b2,b3,b4,b5,b6,b7,b8⟩ => ?_⟩
 have ht:=am8 b2 h7
 refine⟨v,S',hv',he,ab9,λj b hj => ?_,ca4 hw,af6,b5,b6,bs6 b7 h6,?_⟩
 ·obtain⟨q,g1,g2⟩:=b2 j b hj
  refine⟨q,?_,g2⟩
  rw[← ht,p2_ (a4_.1 hj).1]
  exact g1
 ·have e:OHs hv' 0 ob2=OHs hv' 0 (ob2.take (iv_ s.os o).length)++OHs hv' (0+(ob2.take (iv_ s.os o).length).length) (ob2.drop (iv_ s.os o).length):=by
   rw[← OHs.app,g1_]
  rw[e,b3_] at b8
  rw[← ht]
  exact ap4 b8
theorem EOk.of {fk:FuncId} {E E':List AV→List AO→Option (AV×List AO)} (ok:EOk P fk E') (h:∀ avs objs av objs',E avs objs=some (av,objs')→E' avs objs=some (av,objs')):EOk P fk E:=λavs objs av objs' e=>ok avs objs av objs' (h _ _ _ _ e)
theorem EOk.fuel {s:Shp} {g:(s.D→Option s.X)→s.D→Option s.X} {F:Nat→s.D→Option s.X} (h0:F 0=λ_=>Option.none) (hs:∀ n,F (n+1)=g (F n)) {cx:(F:s.D→Option s.X)→EOk P s.k (Er s F)→Cx P} {an:An}
  (step:(λ(F:s.D→Option s.X) (ok:EOk P s.k (Er s F))=>fxF (cx F ok) an s)=λF _=>g F):∀ n,EOk P s.k (Er s (F n))
 | 0=>by
  intro avs objs av objs' h
  obtain⟨a,h1,h⟩:=bnd h
  obtain⟨o,h2,h⟩:=bnd h
  rw[h0] at h
  cases h
 | n+1=>by
  have ok:=EOk.fuel h0 hs step n
  rw[hs n,← congrFun (congrFun step (F n)) ok]
  exact fxF_ok
end
end
end Go.Proofs.YtgeehfnbhbibeaaGreatDoor.Rex
namespace Go.Proofs.YtgeehfnbhbibeaaGreatDoor.Rx
open Go Pad Rex Go.Proofs Go.Proofs.Tryz Sum
section
set_option maxRecDepth 100000
set_option maxHeartbeats 0
noncomputable def je_ (a0:ad_) (a1:aj_):Option (aj_×Int×Unit) :=
 ((fe_ a0 a1).bind λv0 =>
 (cond (v0.1 != 0)
 (some (([],([],[])),(v0.1,())))
 ((gt_ a0 a1).bind λv1 =>
 (cond (!v1.2.1)
 (some (([],([],[])),(27,())))
 (some (v1.1,(0,())))))))
theorem x_121:au_ (P:=prog) (cxC [c_126,c_158] []) .z 121 [ao_,ap_] [ap_,.int]=λx=>je_ x.1 x.2.1:=by kernel_rfl
noncomputable def c_121:Con prog:=av_ _ _ 121 [ao_,ap_] [ap_,.int] _ x_121
noncomputable def jr_ (a0:ac_) (a1:Int) (a2:(List Int)):Option (Int×Unit) :=
 ((at? a0.2.1 a1).bind λv0 =>
 ((kh_ a0 a2).bind λv1 =>
 ((kn_ v0 v1.1).bind λv2 =>
 (some (v2.1,())))))
theorem x_160:au_ (P:=prog) (cxC [c_203,c_204] []) (.p .z (.p (.q [] .z .z) .z)) 160 [an_,.int,(.list .int)] [.int]=λx=>jr_ x.1 x.2.1 x.2.2.1:=by kernel_rfl
noncomputable def c_160:Con prog:=av_ _ _ 160 [an_,.int,(.list .int)] [.int] _ x_160
noncomputable def mj_ (a0:ac_) (a1:Int) (a2:dw_):Option (Bool×Unit) :=
 ((sub? a0.2.2.2.1 0 a1).bind λv0 =>
 ((((af_ (ρ:=(Unit⊕(Bool×Unit))) (λ(v1:(Int×Unit)) =>
 (cond (decide (v1.1<(v0.length:Int)))
 ((at? v0 v1.1).bind λv2 =>
 (cond (v2.1==a2.1)
 (some (inr (inr ((decide (0≤v1.1)),()))))
 (some (inl ((w64 (v1.1+1)),())))))
 (some (inr (inl ()))))) (0,())).bind λv3 =>
 (ca_ v3 (λv4=>(some ((decide (0≤(-1))),())))
 (λv5=>(some v5))))).bind λv6 =>
 ((((nz_ a2.1).bind λv7 =>
 (cond (!v7.1)
 (some (true,()))
 (cond (decide (12<(a2.1.length:Int)))
 (some (true,()))
 (cond v6.1
 (some (true,()))
 ((cf_ a2.2.1 0 (w64 ((a0.1.1.length:Int) - 1))).bind λv8 =>
 (cond (!v8.1)
 (some (true,()))
 ((cf_ a2.2.2.1 (-1) (w64 ((a0.2.1.length:Int) - 1))).bind λv9 =>
 (some ((!v9.1),())))))))))).bind λv10 =>
 (cond v10.1
 (some (false,()))
 (cond (decide (a2.2.2.1<0))
 ((li_ a2.2.2.2.2).bind λv11 =>
 (some (v11.1,())))
 ((at? a0.2.1 a2.2.2.1).bind λv12 =>
 ((at? a0.2.2.1 a2.2.2.1).bind λv13 =>
 ((kp_ v12 a2.2.2.2.2 v13).bind λv14 =>
 (cond (v14.2.1==0)
 (some (v14.1,()))
 (some (false,())))))))))))
theorem x_134:au_ (P:=prog) (cxI (λk=>cond (Nat.beq k 179) (.p .z (.j0 [.v 4 .bool] .z .z)) (cond (Nat.beq k 221) (.p .z (.p (.p .z (.ls [.v 8 .int] [] [] 0 .z)) .z)) (.z))) (λk=>Nat.beq k 136||Nat.beq k 181||Nat.beq k 182||Nat.beq k 183||false) (cxC [cc9,c_181,c_182,c_183] []) 4) (.p .z (.p .z (.p (.j0 [.v 49 .bool] .z .z) (.p .z (.p (.q [] .z .z) .z))))) 134 [an_,.int,ts_] [.bool]=λx=>mj_ x.1 x.2.1 x.2.2.1:=by kernel_rfl
noncomputable def c_134:Con prog:=av_ _ _ 134 [an_,.int,ts_] [.bool] _ x_134
noncomputable def fu_ (a0:ad_) (a1:aj_) (a2:(List bn_)):Option (Bool×Int×Unit) :=
 ((ce_ a0 a1).bind λv0 =>
 (cond (v0.1 != 0)
 (some (false,(v0.1,())))
 ((eb_ a0 a2).bind λv1 =>
 (cond (!v1.1)
 (some (false,(25,())))
 ((push? (α:=Int) [] a1.1).bind λv2 =>
 ((push? (α:=Int) [] a1.2.1).bind λv3 =>
 ((push? (α:=Int) [] a1.2.2).bind λv4 =>
 ((az_ (a0,(v2,(v3,v4))) a2).bind λv5 =>
 (some (v5.1,(0,())))))))))))
theorem x_138:au_ (P:=prog) (cxI (λk=>.z) (λk=>Nat.beq k 128||Nat.beq k 130||Nat.beq k 140||Nat.beq k 175||false) (cxC [cd1,cd0,c_175] [yx_]) 2) .z 138 [ao_,ap_,(.list co_)] [.bool,.int]=λx=>fu_ x.1 x.2.1 x.2.2.1:=by kernel_rfl
noncomputable def c_138:Con prog:=av_ _ _ 138 [ao_,ap_,(.list co_)] [.bool,.int] _ x_138
noncomputable def ft_ (a0:ad_) (a1:aj_):Option ((List ah_)×Int×Unit) :=
 ((ce_ a0 a1).bind λv0 =>
 (cond (v0.1 != 0)
 (some ([],(v0.1,())))
 ((push? (α:=Int) [] a1.1).bind λv1 =>
 ((push? (α:=Int) [] a1.2.1).bind λv2 =>
 ((push? (α:=Int) [] a1.2.2).bind λv3 =>
 ((af_ (ρ:=(Unit×(((List ah_)×Unit)×Unit))) (λ(v4:(Int×(Unit×(((List ah_)×Unit)×Unit)))) =>
 (cond (decide (v4.1<a0.2.2.2.2.2.2.1))
 ((af_ (ρ:=(Unit×(((List ah_)×Unit)×Unit))) (λ(v5:(Int×(Unit×(((List ah_)×Unit)×Unit)))) =>
 (cond (decide (v5.1<(([0,(a0.2.2.2.1.length:Int),(a0.2.2.1.length:Int),(a0.2.2.1.length:Int),(a0.2.2.2.2.1.length:Int)]).length:Int)))
 ((at? [0,(a0.2.2.2.1.length:Int),(a0.2.2.1.length:Int),(a0.2.2.1.length:Int),(a0.2.2.2.2.1.length:Int)] v5.1).bind λv6 =>
 ((at? [0,(a0.2.2.2.1.length:Int),(a0.2.2.1.length:Int),(a0.2.2.1.length:Int),(a0.2.2.2.2.1.length:Int)] v5.1).bind λv7 =>
 ((af_ (ρ:=(Unit×(((List ah_)×Unit)×Unit))) (λ(v8:(Int×(Unit×(((List ah_)×Unit)×Unit)))) =>
 (cond (decide (v8.1<v7))
 ((((da_ (a0,(v1,(v2,v3))) (v4.1,(v5.1,v8.1))).bind λv9 =>
 (cond v9.1
 ((push? (α:=ah_) v8.2.2.1.1 [(v4.1,(v5.1,v8.1))]).bind λv10 =>
 (some ((),((v10,()),()))))
 (some ((),((v8.2.2.1.1,()),())))))).bind λv11 =>
 (some (inl ((w64 (v8.1+1)),((),((v11.2.1.1,()),()))))))
 (some (inr ((),((v8.2.2.1.1,()),())))))) (0,((),((v5.2.2.1.1,()),())))).bind λv12 =>
 (some (inl ((w64 (v5.1+1)),((),((v12.2.1.1,()),()))))))))
 (some (inr ((),((v5.2.2.1.1,()),())))))) (0,((),((v4.2.2.1.1,()),())))).bind λv13 =>
 (some (inl ((w64 (v4.1+1)),((),((v13.2.1.1,()),()))))))
 (some (inr ((),((v4.2.2.1.1,()),())))))) (0,((),(([],()),())))).bind λv14 =>
 (some (v14.2.1.1,(0,())))))))))
theorem x_106:au_ (P:=prog) (cxI (λk=>cond (Nat.beq k 191) (.p .z (.lp [.v 9 .int] [] [.y (.s 0),.b (.y (.s 0) 4) [.row ar_ 61]] 0 (.p .z (.p .z (.p (.p .z (.p .z (.lp [.v 26 .int] [] [.y (.s 0),.b (.y (.s 0) 4) [.row ar_ 61]] 2 (.p .z (.p .z (.p (.p .z (.p .z (.lp [.v 32 .int] [] [.y (.s 0),.b (.y (.s 0) 4) [.row ar_ 61]] 4 (.p .z (.p .z (.j0 [.y (.s 0),.b (.y (.s 0) 4) [.row ar_ 61]] .z .z)))))) .z)))))) .z))))) (.z)) (λk=>Nat.beq k 128||Nat.beq k 140||Nat.beq k 146||false) (cxC [cd1,c_146] [yx_]) 6) (.p .z (.p .z (.p .z (.p (.p .z (.rf [4,7] .z .z)) .z)))) 106 [ao_,ap_] [(.list ar_),.int]=λx=>ft_ x.1 x.2.1:=by kernel_rfl
noncomputable def c_106:Con prog:=av_ _ _ 106 [ao_,ap_] [(.list ar_),.int] _ x_106
noncomputable def fs_ (a0:ad_) (a1:aj_) (a2:ah_):Option (aj_×Int×Unit) :=
 ((ce_ a0 a1).bind λv0 =>
 (cond (v0.1 != 0)
 (some (([],([],[])),(v0.1,())))
 ((push? (α:=Int) [] a1.1).bind λv1 =>
 ((push? (α:=Int) [] a1.2.1).bind λv2 =>
 ((push? (α:=Int) [] a1.2.2).bind λv3 =>
 ((da_ (a0,(v1,(v2,v3))) a2).bind λv4 =>
 (cond (!v4.1)
 (some (([],([],[])),(29,())))
 (((cond (a2.2.1==1)
 ((at? a0.2.2.2.1 a2.2.2).bind λv5 =>
 ((at? v3 a2.1).bind λv6 =>
 ((at? v3 a2.1).bind λv7 =>
 ((at? v3 a2.1).bind λv8 =>
 ((at? v3 a2.1).bind λv9 =>
 (some (v1,(v2,((v3.set a2.1.toNat (w64 ((w64 (v5.1+v5.2.1)) - v7))),())))))))))
 (cond (a2.2.1==2)
 ((at? v2 a2.2.2).bind λv10 =>
 ((at? v2 a2.2.2).bind λv11 =>
 (some (v1,((v2.set a2.2.2.toNat (w64 ((-2) - a2.1))),(v3,()))))))
 (cond (a2.2.1==3)
 ((at? v3 a2.1).bind λv12 =>
 ((at? v3 a2.1).bind λv13 =>
 ((at? v2 a2.2.2).bind λv14 =>
 ((at? v2 a2.2.2).bind λv15 =>
 (some (v1,((v2.set a2.2.2.toNat v13),(v3,()))))))))
 (cond (a2.2.1==4)
 ((at? a0.2.2.2.2.1 a2.2.2).bind λv16 =>
 ((af_ (ρ:=((List Int)×Unit)) (λ(v17:(Int×((List Int)×Unit))) =>
 (cond (decide (v17.1<(v16.2.2.2.2.2.2.1.length:Int)))
 ((at? v16.2.2.2.2.2.2.1 v17.1).bind λv18 =>
 ((at? v17.2.1 v18).bind λv19 =>
 ((at? v17.2.1 v18).bind λv20 =>
 (some (inl ((w64 (v17.1+1)),((v17.2.1.set v18.toNat (-1)),())))))))
 (some (inr (v17.2.1,()))))) (0,(v2,()))).bind λv21 =>
 ((af_ (ρ:=((List Int)×Unit)) (λ(v22:(Int×((List Int)×Unit))) =>
 (cond (decide (v22.1<(v16.2.2.2.2.2.2.2.length:Int)))
 ((at? v16.2.2.2.2.2.2.2 v22.1).bind λv23 =>
 ((at? v22.2.1 v23).bind λv24 =>
 ((at? v22.2.1 v23).bind λv25 =>
 (some (inl ((w64 (v22.1+1)),((v22.2.1.set v23.toNat (w64 ((-2) - a2.1))),())))))))
 (some (inr (v22.2.1,()))))) (0,(v21.1,()))).bind λv26 =>
 ((af_ (ρ:=((List Int)×Unit)) (λ(v27:(Int×((List Int)×Unit))) =>
 (cond (decide (v27.1<(v16.2.2.2.2.2.1.length:Int)))
 ((at? v16.2.2.2.2.2.1 v27.1).bind λv28 =>
 ((at? v27.2.1 v28.1).bind λv29 =>
 ((at? v27.2.1 v28.1).bind λv30 =>
 (some (inl ((w64 (v27.1+1)),((v27.2.1.set v28.1.toNat v28.2),())))))))
 (some (inr (v27.2.1,()))))) (0,(v1,()))).bind λv31 =>
 (some (v31.1,(v26.1,(v3,()))))))))
 (some (v1,(v2,(v3,()))))))))).bind λv32 =>
 ((((af_ (ρ:=(((List Int)×Unit)⊕(Bool×((List Int)×Unit)))) (λ(v33:(Int×((List Int)×Unit))) =>
 (cond (decide (v33.1<101))
 ((((af_ (ρ:=(Unit⊕(Int×Unit))) (λ(v34:(Int×Unit)) =>
 (cond (decide (v34.1<(a0.2.2.2.2.2.1.length:Int)))
 ((at? a0.2.2.2.2.2.1 v34.1).bind λv35 =>
 ((((at? v33.2.1 v35.2.1).bind λv36 =>
 ((at? v33.2.1 v35.2.1).bind λv37 =>
 (cond (v37 != v35.2.2)
 ((az_ (a0,(v33.2.1,(v32.2.1,v32.2.2.1))) v35.1).bind λv38 =>
 (some (v38.1,())))
 (some (false,())))))).bind λv39 =>
 (cond v39.1
 (some (inr (inr (v34.1,()))))
 (some (inl ((w64 (v34.1+1)),()))))))
 (some (inr (inl ()))))) (0,())).bind λv40 =>
 (ca_ v40 (λv41=>(some ((-1),())))
 (λv42=>(some v42))))).bind λv43 =>
 (cond (decide (v43.1<0))
 (some (inr (inr ((!true),(v33.2.1,())))))
 ((at? a0.2.2.2.2.2.1 v43.1).bind λv44 =>
 ((at? a0.2.2.2.2.2.1 v43.1).bind λv45 =>
 ((at? v33.2.1 v44.2.1).bind λv46 =>
 ((at? v33.2.1 v44.2.1).bind λv47 =>
 (some (inl ((w64 (v33.1+1)),((v33.2.1.set v44.2.1.toNat v45.2.2),()))))))))))
 (some (inr (inl (v33.2.1,())))))) (0,(v32.1,()))).bind λv48 =>
 (ca_ v48 (λv49=>(some ((!false),(v49.1,()))))
 (λv50=>(some v50))))).bind λv51 =>
 (cond v51.1
 (some (([],([],[])),(27,())))
 (some ((v51.2.1,(v32.2.1,v32.2.2.1)),(0,())))))))))))))
theorem x_148:au_ (P:=prog) (cxI (λk=>cond (Nat.beq k 137) (.p .z (.p (.j0 [.v 6 .bool,.o (.c (.s 0) 8) .int] .z .z) .z)) (cond (Nat.beq k 185) (.p .z (.p (.p .z (.ls [.v 4 .int] [] [.o (.c (.s 0) 8) .int] 0 (.p .z (.p .z (.p (.j0 [.v 3 .int] .z .z) .z))))) .z)) (cond (Nat.beq k 198) (.p .z (.p .z (.p .z (.p .z (.p .z (.p .z (.p .z (.p .z (.p .z (.p .z (.p (.p .z (.p (.p .z (.lp [.v 96 .int] [] [.o (.c (.s 0) 9) .int] 1 .z)) (.p (.p .z (.lp [.v 111 .int] [] [.o (.c (.s 0) 9) .int] 3 .z)) (.p .z (.lp [.v 127 .int] [] [.o (.c (.s 0) 8) .int] 5 .z))))) .z))))))))))) (cond (Nat.beq k 224) (.p .z (.p (.p .z (.ls [.v 8 .int] [] [] 0 .z)) .z)) (cond (Nat.beq k 225) (.p .z (.j0 [.v 3 .bool] .z .z)) (.z)))))) (λk=>Nat.beq k 128||Nat.beq k 130||Nat.beq k 140||Nat.beq k 146||false) (cxC [cd1,cd0,c_146] [yx_]) 7) (.p .z (.p .z (.p .z (.p .z (.j0 [.o (.c (.s 9) 8) .int,.o (.c (.s 9) 9) .int,.o (.c (.s 9) 10) .int] .z .z))))) 148 [ao_,ap_,ar_] [ap_,.int]=λx=>fs_ x.1 x.2.1 x.2.2.1:=by kernel_rfl
noncomputable def c_148:Con prog:=av_ _ _ 148 [ao_,ap_,ar_] [ap_,.int] _ x_148
noncomputable abbrev rd_:Gb:=⟨Gb.ev,λc p=>cond (Nat.beq c 1019250704&&eqS p "room.go:184") true (cond (Nat.beq c 398465025&&eqS p "room.go:183") true (cond (Nat.beq c 130027520&&eqS p "room.go:183") true (Gb.fz c p))),Gb.gd,Gb.gl,λc=>cond (Nat.beq c 1019250704) (some fl_) (cond (Nat.beq c 398465025) (some ap_) (cond (Nat.beq c 130027520) (some ao_) (none))),Gb.rw⟩
def an_99:An:=.z
def at_99:FuncId→An:=λk=>.z
noncomputable def cs_99:List (@Con rd_ prog _):=[@cvG instGb rd_ prog _ (λ_=>rfl) (λ_=>rfl) cd1,@cvG instGb rd_ prog _ (λ_=>rfl) (λ_=>rfl) cd0,@cpCon rd_ prog _ yx_]
noncomputable def cx_99:@Cx rd_ prog _:=@cxI rd_ prog _ at_99 (λk=>Nat.beq k 128||Nat.beq k 130||Nat.beq k 140||false) (@cxC rd_ prog _ cs_99 []) 2
noncomputable def lg_ (a0:ad_) (a1:aj_):Option (Bool×Int×Unit) :=
 ((ce_ a0 a1).bind λv0 =>
 (cond (v0.1 != 0)
 (some (false,(v0.1,())))
 ((((push? (α:=Int) [] a1.1).bind λv1 =>
 (some (v1,())))).bind λv2 =>
 ((((push? (α:=Int) [] a1.2.1).bind λv3 =>
 (some (v3,())))).bind λv4 =>
 ((((push? (α:=Int) [] a1.2.2).bind λv5 =>
 (some (v5,())))).bind λv6 =>
 ((az_ (a0,(v2.1,(v4.1,v6.1))) a0.2.2.2.2.2.2.2).bind λv7 =>
 (some (v7.1,(0,())))))))))
theorem x_99:@au_ rd_ prog _ cx_99 an_99 99 [ao_,ap_] [.bool,.int]=λx=>lg_ x.1 x.2.1:=by kernel_rfl
noncomputable def c_99:Con prog:=@cvG rd_ instGb prog _ (λ_=>rfl) (λ_=>rfl) <| @av_ rd_ prog _ _ _ 99 [ao_,ap_] [.bool,.int] _ x_99
end
section
set_option maxRecDepth 100000
set_option maxHeartbeats 0
noncomputable def kl_ (a0:ad_):Option (aj_×Int×Unit) :=
 ((gf_ a0).bind λv0 =>
 (cond (v0.1 != 0)
 (some (([],([],[])),(v0.1,())))
 ((mk? (α:=Int) a0.2.2.2.2.2.2.1 0).bind λv1 =>
 ((af_ (ρ:=(((List Int)×Unit)×Unit)) (λ(v2:(Int×(((List Int)×Unit)×Unit))) =>
 (cond (decide (v2.1<(a0.2.1.length:Int)))
 ((at? a0.2.1 v2.1).bind λv3 =>
 ((push? (α:=Int) v2.2.1.1 [v3.2.2.2]).bind λv4 =>
 (some (inl ((w64 (v2.1+1)),((v4,()),()))))))
 (some (inr ((v2.2.1.1,()),()))))) (0,(([],()),()))).bind λv5 =>
 ((af_ (ρ:=(((List Int)×Unit)×Unit)) (λ(v6:(Int×(((List Int)×Unit)×Unit))) =>
 (cond (decide (v6.1<(a0.2.2.1.length:Int)))
 ((at? a0.2.2.1 v6.1).bind λv7 =>
 ((push? (α:=Int) v6.2.1.1 [v7.2.1]).bind λv8 =>
 (some (inl ((w64 (v6.1+1)),((v8,()),()))))))
 (some (inr ((v6.2.1.1,()),()))))) (0,(([],()),()))).bind λv9 =>
 ((je_ a0 (v5.1.1,(v9.1.1,v1))).bind λv10 =>
 (some (v10.1,(v10.2.1,())))))))))
theorem x_92:au_ (P:=prog) (cxC [c_52,c_121] []) (.p .z (.p .z (.p .z (.p .z (.p (.p .z (.lp [.v 6 .int] [] [.b (.s 5) [.row .int 3,.keep,.keep]] 0 .z)) (.p (.p .z (.lp [.v 7 .int] [] [.b (.s 5) [.keep,.row .int 3,.keep]] 2 .z)) .z)))))) 92 [ao_] [ap_,.int]=λx=>kl_ x.1:=by kernel_rfl
noncomputable def c_92:Con prog:=av_ _ _ 92 [ao_] [ap_,.int] _ x_92
noncomputable def mf_ (a0:ac_) (a1:aa_) (a2:Int):Option (Bool×Unit) :=
 ((id_ a0 a1 a2).bind λv0 =>
 ((jr_ a0 a2 v0.1).bind λv1 =>
 (some ((decide (v1.1≤a0.2.2.2.2)),()))))
theorem x_124:au_ (P:=prog) (cxC [c_160,c_161] []) (.p .z (.p (.q [] .z .z) .z)) 124 [an_,ak_,.int] [.bool]=λx=>mf_ x.1 x.2.1 x.2.2.1:=by kernel_rfl
noncomputable def c_124:Con prog:=av_ _ _ 124 [an_,ak_,.int] [.bool] _ x_124
noncomputable def ht_ (a0:ac_):Option (Int×Unit) :=
 ((fv_ a0.1).bind λv0 =>
 (cond (v0.1 != 0)
 (some (v0.1,()))
 (((cond (decide (8<(a0.2.1.length:Int)))
 (some (true,()))
 (some ((decide (16<(a0.2.2.2.1.length:Int))),())))).bind λv1 =>
 (cond v1.1
 (some (2,()))
 ((af_ (ρ:=(Unit⊕(Int×Unit))) (λ(v2:(Int×Unit)) =>
 (cond (decide (v2.1<(a0.2.1.length:Int)))
 ((at? a0.2.1 v2.1).bind λv3 =>
 ((ew_ v3).bind λv4 =>
 (cond (v4.1 != 0)
 (some (inr (inr (v4.1,()))))
 (some (inl ((w64 (v2.1+1)),()))))))
 (some (inr (inl ()))))) (0,())).bind λv5 =>
 (ca_ v5 (λv6=>(cond ((a0.2.2.1.length:Int) != (a0.2.1.length:Int))
 (some (12,()))
 ((af_ (ρ:=(Unit⊕(Int×Unit))) (λ(v8:(Int×Unit)) =>
 (cond (decide (v8.1<(a0.2.1.length:Int)))
 ((at? a0.2.1 v8.1).bind λv9 =>
 ((at? a0.2.2.1 v8.1).bind λv10 =>
 ((el_ v9 v10).bind λv11 =>
 (cond (v11.1 != 0)
 (some (inr (inr (12,()))))
 (some (inl ((w64 (v8.1+1)),())))))))
 (some (inr (inl ()))))) (0,())).bind λv12 =>
 (ca_ v12 (λv13=>((af_ (ρ:=(Unit⊕(Int×Unit))) (λ(v15:(Int×Unit)) =>
 (cond (decide (v15.1<(a0.1.2.2.2.2.1.length:Int)))
 ((at? a0.1.2.2.2.2.1 v15.1).bind λv16 =>
 (cond (decide ((a0.2.1.length:Int)≤v16.2.2.1))
 (some (inr (inr (26,()))))
 (some (inl ((w64 (v15.1+1)),())))))
 (some (inr (inl ()))))) (0,())).bind λv17 =>
 (ca_ v17 (λv18=>((af_ (ρ:=(Unit⊕(Int×Unit))) (λ(v20:(Int×Unit)) =>
 (cond (decide (v20.1<(a0.2.2.2.1.length:Int)))
 ((at? a0.2.2.2.1 v20.1).bind λv21 =>
 ((mj_ a0 v20.1 v21).bind λv22 =>
 (cond (!v22.1)
 (some (inr (inr (40,()))))
 ((mi_ a0.1 v21.2.2.2.1).bind λv23 =>
 (cond (!v23.1)
 (some (inr (inr (25,()))))
 (some (inl ((w64 (v20.1+1)),()))))))))
 (some (inr (inl ()))))) (0,())).bind λv24 =>
 (ca_ v24 (λv25=>((cf_ a0.2.2.2.2 1 100).bind λv27 =>
 (cond (!v27.1)
 (some (1,()))
 (some (0,())))))
 (λv26=>(some v26)))))
 (λv19=>(some v19)))))
 (λv14=>(some v14))))))
 (λv7=>(some v7))))))))
theorem x_100:au_ (P:=prog) (cxC [c_131,cq6,c_133,c_134,c_135,cc9] []) (.p .z (.p .z (.p (.j0 [.v 28 .bool] .z .z) (.p (.p .z (.ls [.v 32 .int] [] [] 0 .z)) (.p .z (.p (.p .z (.ls [.v 52 .int] [] [] 2 .z)) (.p (.p .z (.ls [.v 70 .int] [] [] 4 .z)) (.p (.p .z (.ls [.v 84 .int] [] [] 6 .z)) .z)))))))) 100 [an_] [.int]=λx=>ht_ x.1:=by kernel_rfl
noncomputable def c_100:Con prog:=av_ _ _ 100 [an_] [.int] _ x_100
end
section
set_option maxRecDepth 100000
set_option maxHeartbeats 0
noncomputable def kj_ (a0:ac_):Option (aa_×Int×Unit) :=
 ((ie_ a0).bind λv0 =>
 (cond (v0.1 != 0)
 (some ((([],([],[])),[]),(v0.1,())))
 ((kl_ a0.1).bind λv1 =>
 (cond (v1.2.1 != 0)
 (some ((([],([],[])),[]),(v1.2.1,())))
 ((mk? (α:=Bool) (a0.2.2.2.1.length:Int) false).bind λv2 =>
 ((jl_ a0 (v1.1,v2)).bind λv3 =>
 (some (v3.1,(0,())))))))))
theorem x_58:au_ (P:=prog) (cxC [c_24,c_92,c_93] []) .z 58 [an_] [ak_,.int]=λx=>kj_ x.1:=by kernel_rfl
noncomputable def c_58:Con prog:=av_ _ _ 58 [an_] [ak_,.int] _ x_58
noncomputable def hb_ (a0:ac_) (a1:aa_) (a2:ah_):Option (Bool×Unit) :=
 ((gu_ a0.1 a1.1 a2).bind λv0 =>
 (cond (!v0.2.1)
 (some (false,()))
 (cond (a2.2.1 != 4)
 (some (true,()))
 ((at? a0.1.2.2.2.2.1 a2.2.2).bind λv1 =>
 (cond (decide (v1.2.2.1<0))
 (some (true,()))
 ((at? a0.1.2.2.2.2.1 a2.2.2).bind λv2 =>
 ((mf_ a0 a1 v2.2.2.1).bind λv3 =>
 (some (v3.1,())))))))))
theorem x_96:au_ (P:=prog) (cxC [c_97,c_124] []) (.p .z (.p .z (.p .z (.p (.q [] .z .z) .z)))) 96 [an_,ak_,ar_] [.bool]=λx=>hb_ x.1 x.2.1 x.2.2.1:=by kernel_rfl
noncomputable def c_96:Con prog:=av_ _ _ 96 [an_,ak_,ar_] [.bool] _ x_96
noncomputable def mk_ (a0:ac_):Option (aa_×Int×Unit) :=
 ((ht_ a0).bind λv0 =>
 (cond (v0.1 != 0)
 (some ((([],([],[])),[]),(v0.1,())))
 ((jk_ a0.1).bind λv1 =>
 (cond (v1.2.1 != 0)
 (some ((([],([],[])),[]),(v1.2.1,())))
 ((mk? (α:=Bool) (a0.2.2.2.1.length:Int) false).bind λv2 =>
 ((af_ (ρ:=((List Bool)×((List ab_)×Unit))) (λ(v3:(Int×((List Bool)×((List ab_)×Unit)))) =>
 (cond (decide (v3.1<(a0.2.2.2.1.length:Int)))
 ((((at? a0.2.2.2.1 v3.1).bind λv4 =>
 ((fu_ a0.1 v1.1 v4.2.2.2.1).bind λv5 =>
 (((cond v5.1
 ((bl_ v1.1.2.2 v4.2.1).bind λv6 =>
 (cond v6.1
 ((at? v3.2.1 v3.1).bind λv7 =>
 ((at? v3.2.1 v3.1).bind λv8 =>
 (some ((!v8),()))))
 (some (false,()))))
 (some (false,())))).bind λv9 =>
 (cond v9.1
 ((at? v3.2.1 v3.1).bind λv10 =>
 ((at? v3.2.1 v3.1).bind λv11 =>
 (some ((v3.2.1.set v3.1.toNat true),((aa7 v3.2.2.1 v4.2.2.1),())))))
 (some (v3.2.1,(v3.2.2.1,())))))))).bind λv12 =>
 (some (inl ((w64 (v3.1+1)),(v12.1,(v12.2.1,()))))))
 (some (inr (v3.2.1,(v3.2.2.1,())))))) (0,(v2,([],())))).bind λv13 =>
 ((push? (α:=Int) [] v1.1.1).bind λv14 =>
 ((push? (α:=Int) [] v1.1.2.1).bind λv15 =>
 ((push? (α:=Int) [] v1.1.2.2).bind λv16 =>
 ((push? (α:=Bool) [] v13.1).bind λv17 =>
 (some (((v14,(v15,v16)),v17),(0,())))))))))))))
theorem x_69:au_ (P:=prog) (cxI (λk=>cond (Nat.beq k 102) (.p .z (.lp [.v 12 .int] [] [.o (.c (.s 0) 15) .bool,.m (.c (.s 0) 16) .int .int] 0 (.p .z (.p .z (.j0 [.o (.c (.s 0) 15) .bool,.m (.c (.s 0) 16) .int .int] (.p .z (.p .z (.j0 [.v 55 .bool] .z .z))) .z))))) (.z)) (λk=>Nat.beq k 100||Nat.beq k 101||Nat.beq k 138||Nat.beq k 139||Nat.beq k 140||Nat.beq k 141||false) (cxC [c_100,c_101,c_138,cq5] [yx_,cb5]) 3) .z 69 [an_] [ak_,.int]=λx=>mk_ x.1:=by kernel_rfl
noncomputable def c_69:Con prog:=av_ _ _ 69 [an_] [ak_,.int] _ x_69
noncomputable def en_ (a0:ac_) (a1:aa_):Option (Int×Unit) :=
 ((ht_ a0).bind λv0 =>
 (cond (v0.1 != 0)
 (some (v0.1,()))
 ((ce_ a0.1 a1.1).bind λv1 =>
 (cond (v1.1 != 0)
 (some (v1.1,()))
 (cond ((a1.2.length:Int) != (a0.2.2.2.1.length:Int))
 (some (28,()))
 (some (0,())))))))
theorem x_144:au_ (P:=prog) (cxC [c_100,cd1] []) .z 144 [an_,ak_] [.int]=λx=>en_ x.1 x.2.1:=by kernel_rfl
noncomputable def c_144:Con prog:=av_ _ _ 144 [an_,ak_] [.int] _ x_144
end
section
set_option maxRecDepth 100000
set_option maxHeartbeats 0
noncomputable def ki_ (a0:ac_) (a1:aa_):Option ((List ah_)×Unit) :=
 ((fd_ a0.1 a1.1).bind λv0 =>
 ((af_ (ρ:=((List ah_)×Unit)) (λ(v1:((List ah_)×(Int×Unit))) =>
 (cond (decide (v1.2.1<(v0.1.length:Int)))
 ((((at? v0.1 v1.2.1).bind λv2 =>
 ((hb_ a0 a1 v2).bind λv3 =>
 (cond v3.1
 ((at? v0.1 v1.2.1).bind λv4 =>
 ((push? (α:=ah_) v1.1 [v4]).bind λv5 =>
 (some (v5,()))))
 (some (v1.1,())))))).bind λv6 =>
 (some (inl (v6.1,((w64 (v1.2.1+1)),())))))
 (some (inr (v1.1,()))))) ([],(0,()))).bind λv7 =>
 (some (v7.1,()))))
theorem x_60:au_ (P:=prog) (cxC [c_95,c_96] []) (.p .z (.p .z (.p .z (.p (.p .z (.lp [.r 5 ar_ 61,.v 7 .int] [.r 5 ar_ 61] [] 0 (.p .z (.j0 [.r 5 ar_ 61] (.p (.q [] .z .z) .z) .z)))) .z)))) 60 [an_,ak_] [(.list ar_)]=λx=>ki_ x.1 x.2.1:=by kernel_rfl
noncomputable def c_60:Con prog:=av_ _ _ 60 [an_,ak_] [(.list ar_)] _ x_60
noncomputable def qt_ (a0:ac_) (a1:aa_):Option ((List ah_)×Int×Unit) :=
 ((en_ a0 a1).bind λv0 =>
 (cond (v0.1 != 0)
 (cond (v0.1 != 0)
 (some ([],(v0.1,())))
 ((ft_ a0.1 a1.1).bind λv1 =>
 (cond (v1.2.1 != 0)
 (some ([],(v1.2.1,())))
 none)))
 ((push? (α:=Bool) [] a1.2).bind λv2 =>
 ((ft_ a0.1 a1.1).bind λv3 =>
 (cond (v3.2.1 != 0)
 (some ([],(v3.2.1,())))
 ((af_ (ρ:=((List ah_)×((List ab_)×Unit))) (λ(v4:((List ah_)×(Int×((List ab_)×Unit)))) =>
 (cond (decide (v4.2.1<(v3.1.length:Int)))
 ((((at? v3.1 v4.2.1).bind λv5 =>
 ((((push? (α:=Bool) [] v2).bind λv6 =>
 (((((cond (v5.2.1==4)
 ((cf_ v5.2.2 0 (w64 ((a0.1.2.2.2.2.1.length:Int) - 1))).bind λv7 =>
 (some (v7.1,())))
 (some (false,())))).bind λv8 =>
 (cond v8.1
 ((at? a0.1.2.2.2.2.1 v5.2.2).bind λv9 =>
 (((cond (decide (v9.2.2.1<0))
 (some (v4.2.2.1,()))
 (((cond ((de_ 0 v4.2.2.1 v9.2.2.1)==0)
 ((af_ (ρ:=((List Int)×((List al_)×Unit))) (λ(v10:((List Int)×((List al_)×(Int×Unit)))) =>
 (cond (decide (v10.2.2.1<(a0.2.2.2.1.length:Int)))
 ((((at? a0.2.2.2.1 v10.2.2.1).bind λv11 =>
 (((cond (v11.2.2.1==v9.2.2.1)
 ((at? v2 v10.2.2.1).bind λv12 =>
 ((at? v2 v10.2.2.1).bind λv13 =>
 (some (v13,()))))
 (some (false,())))).bind λv14 =>
 (cond v14.1
 ((push? (α:=Int) v10.1 [v10.2.2.1]).bind λv15 =>
 ((push? (α:=al_) v10.2.1 [v11.2.2.2.2]).bind λv16 =>
 (some (v15,(v16,())))))
 (some (v10.1,(v10.2.1,()))))))).bind λv17 =>
 (some (inl (v17.1,(v17.2.1,((w64 (v10.2.2.1+1)),()))))))
 (some (inr (v10.1,(v10.2.1,())))))) ([],([],(0,())))).bind λv18 =>
 ((at? a0.2.1 v9.2.2.1).bind λv19 =>
 ((df_ v19 v18.2.1).bind λv20 =>
 (((cond (v20.2.1==0)
 (some ((decide (v20.1≤a0.2.2.2.2)),()))
 (some (false,())))).bind λv21 =>
 (cond v21.1
 (some ((iq_ (iq_ v4.2.2.1 v9.2.2.1 2) v9.2.2.1 1),()))
 (some ((iq_ v4.2.2.1 v9.2.2.1 2),())))))))
 (some (v4.2.2.1,())))).bind λv22 =>
 (some (v22.1,()))))).bind λv23 =>
 (some (v23.1,((iq_ [] v9.2.2.1 (de_ 0 v23.1 v9.2.2.1)),())))))
 (some (v4.2.2.1,([],())))))).bind λv24 =>
 (((((cond (v5.2.1==4)
 ((cf_ v5.2.2 0 (w64 ((a0.1.2.2.2.2.1.length:Int) - 1))).bind λv25 =>
 (cond v25.1
 ((at? a0.1.2.2.2.2.1 v5.2.2).bind λv26 =>
 (cond (decide (v26.2.2.1<0))
 (some ((!true),(v24.2.1,())))
 (((cond ((de_ 0 v24.2.1 v26.2.2.1)==0)
 ((af_ (ρ:=((List Int)×((List al_)×Unit))) (λ(v27:((List Int)×((List al_)×(Int×Unit)))) =>
 (cond (decide (v27.2.2.1<(a0.2.2.2.1.length:Int)))
 ((((at? a0.2.2.2.1 v27.2.2.1).bind λv28 =>
 (((cond (v28.2.2.1==v26.2.2.1)
 ((at? v6 v27.2.2.1).bind λv29 =>
 ((at? v6 v27.2.2.1).bind λv30 =>
 (some (v30,()))))
 (some (false,())))).bind λv31 =>
 (cond v31.1
 ((push? (α:=Int) v27.1 [v27.2.2.1]).bind λv32 =>
 ((push? (α:=al_) v27.2.1 [v28.2.2.2.2]).bind λv33 =>
 (some (v32,(v33,())))))
 (some (v27.1,(v27.2.1,()))))))).bind λv34 =>
 (some (inl (v34.1,(v34.2.1,((w64 (v27.2.2.1+1)),()))))))
 (some (inr (v27.1,(v27.2.1,())))))) ([],([],(0,())))).bind λv35 =>
 ((at? a0.2.1 v26.2.2.1).bind λv36 =>
 ((df_ v36 v35.2.1).bind λv37 =>
 (((cond (v37.2.1==0)
 (some ((decide (v37.1≤a0.2.2.2.2)),()))
 (some (false,())))).bind λv38 =>
 (cond v38.1
 (some ((iq_ (iq_ v24.2.1 v26.2.2.1 2) v26.2.2.1 1),()))
 (some ((iq_ v24.2.1 v26.2.2.1 2),())))))))
 (some (v24.2.1,())))).bind λv39 =>
 (some ((!((de_ 0 v39.1 v26.2.2.1)==1)),(v39.1,()))))))
 (some (false,(v24.2.1,())))))
 (some (false,(v24.2.1,()))))).bind λv40 =>
 (cond v40.1
 (some ((!false),(v6,(v40.2.1,((a1.1.1,(a1.1.2.1,(a1.1.2.2,()))),())))))
 ((fs_ a0.1 a1.1 v5).bind λv41 =>
 (cond (v41.2.1 != 0)
 (some ((!false),(v6,(v40.2.1,((a1.1.1,(a1.1.2.1,(a1.1.2.2,()))),())))))
 ((af_ (ρ:=((List Bool)×((List ab_)×Unit))) (λ(v42:(Int×((List Bool)×((List ab_)×Unit)))) =>
 (cond (decide (v42.1<(a0.2.2.2.1.length:Int)))
 ((((at? a0.2.2.2.1 v42.1).bind λv43 =>
 ((fu_ a0.1 v41.1 v43.2.2.2.1).bind λv44 =>
 (((cond v44.1
 ((bl_ v41.1.2.2 v43.2.1).bind λv45 =>
 (cond v45.1
 ((at? v42.2.1 v42.1).bind λv46 =>
 ((at? v42.2.1 v42.1).bind λv47 =>
 (some ((!v47),()))))
 (some (false,()))))
 (some (false,())))).bind λv48 =>
 (cond v48.1
 ((at? v42.2.1 v42.1).bind λv49 =>
 ((at? v42.2.1 v42.1).bind λv50 =>
 (some ((v42.2.1.set v42.1.toNat true),((aa7 v42.2.2.1 v43.2.2.1),())))))
 (some (v42.2.1,(v42.2.2.1,())))))))).bind λv51 =>
 (some (inl ((w64 (v42.1+1)),(v51.1,(v51.2.1,()))))))
 (some (inr (v42.2.1,(v42.2.2.1,())))))) (0,(v6,(v40.2.1,())))).bind λv52 =>
 (some ((!true),(v52.1,(v52.2.1,((v41.1.1,(v41.1.2.1,(v41.1.2.2,()))),()))))))))))).bind λv53 =>
 (cond v53.1
 (some (false,(v24.1,())))
 (some (true,(v24.1,())))))))).bind λv54 =>
 (cond v54.1
 ((push? (α:=ah_) v4.1 [v5]).bind λv55 =>
 (some (v55,(v54.2.1,()))))
 (some (v4.1,(v54.2.1,()))))))).bind λv56 =>
 (some (inl (v56.1,((w64 (v4.2.1+1)),(v56.2.1,()))))))
 (some (inr (v4.1,(v4.2.2.1,())))))) ([],(0,([],())))).bind λv57 =>
 (some (v57.1,(0,())))))))))
theorem x_71:au_ (P:=prog) (cxI (λk=>cond (Nat.beq k 102) (.p .z (.lp [.v 12 .int] [] [.o (.c (.s 0) 15) .bool,.m (.c (.s 0) 16) .int .int] 0 (.p .z (.p .z (.j0 [.o (.c (.s 0) 15) .bool,.m (.c (.s 0) 16) .int .int] (.p .z (.p .z (.j0 [.v 55 .bool] .z .z))) .z))))) (cond (Nat.beq k 107) (.p .z (.p .z (.j0 [.m (.c (.s 0) 16) .int .int,.m (.s 23) .int .int] (.j0 [.v 41 .bool] .z (.p (.p .z (.j0 [.m (.c (.s 0) 16) .int .int] .z .z)) .z)) (.p (.j0 [.v 70 .bool,.o (.s 21) .bool,.m (.s 23) .int .int,.b (.s 5) [.keep,.keep,.keep,.keep,.keep,.keep,.keep,.keep,.keep,.keep,.keep,.keep,.val (.list .int),.val (.list .int),.val (.list .int),.keep,.keep]] .z .z) .z)))) (cond (Nat.beq k 108) (.p .z (.p (.j0 [.v 38 .bool,.m (.c (.s 0) 16) .int .int] .z .z) .z)) (cond (Nat.beq k 147) (.p .z (.p .z (.j0 [.m (.c (.s 0) 16) .int .int] (.p .z (.p (.p .z (.p .z (.j0 [.v 37 .bool] .z .z))) .z)) .z))) (cond (Nat.beq k 229) (.p .z (.p (.p .z (.lp [.r 6 .int 3,.r 7 aq_ 80,.v 13 .int] [.r 6 .int 3,.r 7 aq_ 80] [] 0 (.p .z (.p .z (.j0 [.r 6 .int 3,.r 7 aq_ 80] (.p .z (.j0 [.v 26 .bool] .z .z)) .z))))) .z)) (.z)))))) (λk=>Nat.beq k 106||Nat.beq k 136||Nat.beq k 138||Nat.beq k 139||Nat.beq k 141||Nat.beq k 144||Nat.beq k 148||Nat.beq k 231||false) (cxC [c_106,cc9,c_138,cq5,c_144,c_148,c_231] [cb5]) 9) (.p .z (.p .z (.p .z (.p .z (.p .z (.p (.p .z (.lp [.r 4 ar_ 61,.v 32 .int] [.r 4 ar_ 61] [.m (.c (.s 6) 16) .int .int] 0 (.p .z (.p .z (.j0 [.r 4 ar_ 61,.m (.c (.s 6) 16) .int .int] (.p .z (.j0 [.v 39 .bool,.m (.c (.s 6) 16) .int .int] .z .z)) .z))))) .z)))))) 71 [an_,ak_] [(.list ar_),.int]=λx=>qt_ x.1 x.2.1:=by kernel_rfl
noncomputable def c_71:Con prog:=av_ _ _ 71 [an_,ak_] [(.list ar_),.int] _ x_71
noncomputable def lj_ (a0:ac_) (a1:aa_) (a2:ah_):Option (aa_×Int×Unit) :=
 ((en_ a0 a1).bind λv0 =>
 (cond (v0.1 != 0)
 (cond (v0.1 != 0)
 (some ((([],([],[])),[]),(v0.1,())))
 none)
 ((push? (α:=Bool) [] a1.2).bind λv1 =>
 (((((cond (a2.2.1==4)
 ((cf_ a2.2.2 0 (w64 ((a0.1.2.2.2.2.1.length:Int) - 1))).bind λv2 =>
 (cond v2.1
 ((at? a0.1.2.2.2.2.1 a2.2.2).bind λv3 =>
 (cond (decide (v3.2.2.1<0))
 (some ((!true),([],())))
 ((((af_ (ρ:=((List Int)×((List al_)×Unit))) (λ(v4:((List Int)×((List al_)×(Int×Unit)))) =>
 (cond (decide (v4.2.2.1<(a0.2.2.2.1.length:Int)))
 ((((at? a0.2.2.2.1 v4.2.2.1).bind λv5 =>
 (((cond (v5.2.2.1==v3.2.2.1)
 ((at? v1 v4.2.2.1).bind λv6 =>
 ((at? v1 v4.2.2.1).bind λv7 =>
 (some (v7,()))))
 (some (false,())))).bind λv8 =>
 (cond v8.1
 ((push? (α:=Int) v4.1 [v4.2.2.1]).bind λv9 =>
 ((push? (α:=al_) v4.2.1 [v5.2.2.2.2]).bind λv10 =>
 (some (v9,(v10,())))))
 (some (v4.1,(v4.2.1,()))))))).bind λv11 =>
 (some (inl (v11.1,(v11.2.1,((w64 (v4.2.2.1+1)),()))))))
 (some (inr (v4.1,(v4.2.1,())))))) ([],([],(0,())))).bind λv12 =>
 ((at? a0.2.1 v3.2.2.1).bind λv13 =>
 ((df_ v13 v12.2.1).bind λv14 =>
 (((cond (v14.2.1==0)
 (some ((decide (v14.1≤a0.2.2.2.2)),()))
 (some (false,())))).bind λv15 =>
 (cond v15.1
 (some ((iq_ (iq_ [] v3.2.2.1 2) v3.2.2.1 1),()))
 (some ((iq_ [] v3.2.2.1 2),())))))))).bind λv16 =>
 (some ((!((de_ 0 v16.1 v3.2.2.1)==1)),(v16.1,()))))))
 (some (false,([],())))))
 (some (false,([],()))))).bind λv17 =>
 (cond v17.1
 (some ((!false),(v1,(v17.2.1,((a1.1.1,(a1.1.2.1,(a1.1.2.2,()))),())))))
 ((fs_ a0.1 a1.1 a2).bind λv18 =>
 (cond (v18.2.1 != 0)
 (some ((!false),(v1,(v17.2.1,((a1.1.1,(a1.1.2.1,(a1.1.2.2,()))),())))))
 ((af_ (ρ:=((List Bool)×((List ab_)×Unit))) (λ(v19:(Int×((List Bool)×((List ab_)×Unit)))) =>
 (cond (decide (v19.1<(a0.2.2.2.1.length:Int)))
 ((((at? a0.2.2.2.1 v19.1).bind λv20 =>
 ((fu_ a0.1 v18.1 v20.2.2.2.1).bind λv21 =>
 (((cond v21.1
 ((bl_ v18.1.2.2 v20.2.1).bind λv22 =>
 (cond v22.1
 ((at? v19.2.1 v19.1).bind λv23 =>
 ((at? v19.2.1 v19.1).bind λv24 =>
 (some ((!v24),()))))
 (some (false,()))))
 (some (false,())))).bind λv25 =>
 (cond v25.1
 ((at? v19.2.1 v19.1).bind λv26 =>
 ((at? v19.2.1 v19.1).bind λv27 =>
 (some ((v19.2.1.set v19.1.toNat true),((aa7 v19.2.2.1 v20.2.2.1),())))))
 (some (v19.2.1,(v19.2.2.1,())))))))).bind λv28 =>
 (some (inl ((w64 (v19.1+1)),(v28.1,(v28.2.1,()))))))
 (some (inr (v19.2.1,(v19.2.2.1,())))))) (0,(v1,(v17.2.1,())))).bind λv29 =>
 (some ((!true),(v29.1,(v29.2.1,((v18.1.1,(v18.1.2.1,(v18.1.2.2,()))),()))))))))))).bind λv30 =>
 (cond v30.1
 (some ((([],([],[])),[]),(29,())))
 ((push? (α:=Int) [] v30.2.2.2.1.1).bind λv31 =>
 ((push? (α:=Int) [] v30.2.2.2.1.2.1).bind λv32 =>
 ((push? (α:=Int) [] v30.2.2.2.1.2.2.1).bind λv33 =>
 ((push? (α:=Bool) [] v30.2.1).bind λv34 =>
 (some (((v31,(v32,v33)),v34),(0,()))))))))))))
theorem x_72:au_ (P:=prog) (cxI (λk=>cond (Nat.beq k 102) (.p .z (.lp [.v 12 .int] [] [.o (.c (.s 0) 15) .bool,.m (.c (.s 0) 16) .int .int] 0 (.p .z (.p .z (.j0 [.o (.c (.s 0) 15) .bool,.m (.c (.s 0) 16) .int .int] (.p .z (.p .z (.j0 [.v 55 .bool] .z .z))) .z))))) (cond (Nat.beq k 108) (.p .z (.p (.j0 [.v 38 .bool,.m (.c (.s 0) 16) .int .int] .z .z) .z)) (cond (Nat.beq k 147) (.p .z (.p .z (.j0 [.m (.c (.s 0) 16) .int .int] (.p .z (.p (.p .z (.p .z (.j0 [.v 37 .bool] .z .z))) .z)) .z))) (cond (Nat.beq k 229) (.p .z (.p (.p .z (.lp [.r 6 .int 3,.r 7 aq_ 80,.v 13 .int] [.r 6 .int 3,.r 7 aq_ 80] [] 0 (.p .z (.p .z (.j0 [.r 6 .int 3,.r 7 aq_ 80] (.p .z (.j0 [.v 26 .bool] .z .z)) .z))))) .z)) (.z))))) (λk=>Nat.beq k 136||Nat.beq k 138||Nat.beq k 139||Nat.beq k 140||Nat.beq k 141||Nat.beq k 144||Nat.beq k 148||Nat.beq k 231||false) (cxC [cc9,c_138,cq5,c_144,c_148,c_231] [yx_,cb5]) 9) (.p .z (.p .z (.p .z (.p (.j0 [.v 23 .bool,.o (.c (.s 8) 15) .bool,.m (.c (.s 8) 16) .int .int,.b (.s 8) [.keep,.keep,.keep,.keep,.keep,.keep,.keep,.keep,.keep,.keep,.keep,.keep,.val (.list .int),.val (.list .int),.val (.list .int),.keep,.keep]] .z .z) .z)))) 72 [an_,ak_,ar_] [ak_,.int]=λx=>lj_ x.1 x.2.1 x.2.2.1:=by kernel_rfl
noncomputable def c_72:Con prog:=av_ _ _ 72 [an_,ak_,ar_] [ak_,.int] _ x_72
end
end Go.Proofs.YtgeehfnbhbibeaaGreatDoor.Rx
